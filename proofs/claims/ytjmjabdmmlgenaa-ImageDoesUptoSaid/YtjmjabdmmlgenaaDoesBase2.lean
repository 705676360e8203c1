/- Regions whose order Go leaves open: evaluated in the order of the text, where the edges allow it. -/
import Derived.Test.YtjmjabdmmlgenaaDoesBase1
import Derived.Laws.Runes
import Derived.Laws.BytesArg
import Derived.Lib.ConvBytes
set_option linter.all false
namespace Pam
open Go
theorem Env.get_put' (E : Env) (i j : Nat) (e : Ent) (h : i < 512) : (E.put i e).get j = if j = i then e else E.get j := by
  unfold Env.get Env.put
  simp only
  have hb : i / 64 < 8 := by omega
  rw [Tr.get_put _ _ _ _ hb]
  by_cases e1 : j / 64 = i / 64
  · rw [iP e1, Tr.get_put _ _ _ _ (Nat.mod_lt _ (by decide))]
    by_cases e2 : j / 8 % 8 = i / 8 % 8
    · rw [iP e2, Tr.get_put _ _ _ _ (Nat.mod_lt _ (by decide))]
      by_cases e3 : j % 8 = i % 8
      · have : j = i := by omega
        subst this
        simp [Tr.ent]
      · have : j ≠ i := by omega
        rw [iN e3, iN this, e1, e2]
    · have : j ≠ i := by omega
      rw [iN e2, iN this, e1]
  · have : j ≠ i := by omega
    rw [iN e1, iN this]
theorem Env.get_big (E : Env) (i : Nat) (h : 512 ≤ i) : (E.get i).cond = false := by
  unfold Env.get
  rw [Tr.get_big E.t (i / 64) (by omega)]
  simp [Tr.get, Tr.ent]
def eY (o : Oper) : Bool :=
  match o.op with
  | .move _ | .assign _ | .pick .. | .load .. | .nilCheck _ | .binOp .. | .unOp .. | .convert .. | .fieldAddr .. | .field .. | .indexAddr .. | .index .. | .extract .. | .slice .. | .build .. | .makeFunc .. => false
  | .call c => (match c.callee with | .builtin .len | .builtin .min | .builtin .max => false | _ => true)
  | _ => true
def fp (o : Oper) : List Nat := (o.after.toList.filter (Region.binds .any)).map (·.on)
def orM (masks : List Nat) : List Nat → Nat
  | [] => 0
  | j :: r => (2 ^ j ||| masks.getD j 0) ||| orM masks r
theorem kN (masks : List Nat) (k : Nat) : ∀ l, (orM masks l).testBit k = true → ∃ j ∈ l, j = k ∨ (masks.getD j 0).testBit k = true
  | [], h => by simp [orM] at h
  | j :: r, h => by
    simp only [orM, Nat.testBit_or, Bool.or_eq_true, Nat.testBit_two_pow] at h
    rcases h with (h | h) | h
    · exact ⟨j, by simp, .inl (by simpa using h)⟩
    · exact ⟨j, by simp, .inr h⟩
    · obtain ⟨j', h1, h2⟩ := kN masks k r h
      exact ⟨j', by simp [h1], h2⟩
def qu (ops : Array Oper) (x y : Oper) : Bool :=
  match x.dst with
  | none => false
  | some d => (y.looksAt ops).contains d || y.dst == some d
def ii (masks : List Nat) (i j : Nat) : Bool := i == j || (masks.getD i 0).testBit j || (masks.getD j 0).testBit i
def chk (ops : Array Oper) (l : List Oper) (masks : List Nat) (bar : List Bool) : Bool :=
  (l.zipIdx.all fun (o, i) => masks.getD i 0 == orM masks (fp o) && (fp o).all (· < i) &&
    (match o.dst with | some d => decide (d < 512) | none => true) && (o.looksAt ops).all (· < 512)) &&
  (l.zipIdx.all fun (x, i) => l.zipIdx.all fun (y, j) => (!(eY x && eY y) || ii masks i j) && (!(qu ops x y) || ii masks i j) && (!(bar.getD i false) || ii masks i j))
structure TS where
  γ : Bool
  e : Ent
  σ : List OB
def Ext (σ σ' : List OB) : Prop := ∃ ρ, σ' = σ ++ ρ
def jL (P : Program) (σ : List OB) (f : FuncId) (args : List PV) (p : PV) (σ2 : List OB) : Prop :=
  ∃ (args' : List PV) (σc : List OB) (post pp : PV → List OB → Prop) (ρ : List Nat), gv P f args' σc post pp ∧ ρ.Nodup ∧ (∀ b ∈ ρ, b < σ.length) ∧ args = args'.map (PV.ren (cA σ.length ρ)) ∧
    ρ.map (fun b => σ[b]?) = σc.map (fun ob => some (ob.ren (cA σ.length ρ))) ∧ aJ ρ.length args' ∧ ay ρ.length σc ∧
    (∀ q τ, post q τ → ρ.length ≤ τ.length → q.ren (cA σ.length ρ) = p ∧ b8 σ ρ (τ.map (OB.ren (cA σ.length ρ))) = σ2) ∧ (∀ q τ, pp q τ → False)
def rg (P : Program) (ops : Array Oper) (E : Env) (σ : List OB) (o : Oper) (bar : Bool) (ts : TS) : Prop :=
  cO ops E o.guard = some ts.γ ∧ dC E o.dst ∧
  ((∃ C v, a9 P ts.γ E σ o.op = .ok C v ∧ C ∧ ts.e = ⟨ts.γ, v⟩ ∧ ts.σ = σ) ∨
   (ts.γ = true ∧ ∃ C v, a9 P ts.γ E σ o.op = .upd C v ts.σ ∧ C ∧ ts.e = ⟨true, v⟩ ∧ (bar = true ∨ Ext σ ts.σ)) ∨
   (∃ C f args r, a9 P ts.γ E σ o.op = .call C f args ∧ (ts.γ = true → C ∧ cR P f args r) ∧ args.all PV.noOwn = true ∧ (∀ n, r.ren (cA n []) = r) ∧ ts.e = ⟨ts.γ, r⟩ ∧ ts.σ = σ) ∨
   (ts.γ = false ∧ ts.e = ⟨true, .t []⟩ ∧ ts.σ = σ) ∨
   (ts.γ = true ∧ ∃ C f args p, a9 P ts.γ E σ o.op = .call C f args ∧ C ∧ jL P σ f args p ts.σ ∧ ts.e = ⟨true, p⟩ ∧ (bar = true ∨ Ext σ ts.σ)) ∨
   (ts.γ = true ∧ eY o = true ∧ ∃ v, (∀ E', (∀ x ∈ o.op.operands, ev E' x = ev E x) → ∀ G a w, Sim G E' σ a w → nM P G (execOp a.eval o) w v ts.σ) ∧ ts.e = ⟨true, v⟩ ∧ (bar = true ∨ Ext σ ts.σ)))
def kO (P : Program) (ops : Array Oper) : List Oper → List Bool → Env → List OB → List TS → Prop
  | [], _, _, _, tr => tr = []
  | o :: l, bs, E, σ, tr => ∃ ts r, tr = ts :: r ∧ rg P ops E σ o (bs.headD false) ts ∧ kO P ops l bs.tail (E.putD o.dst ts.e) ts.σ r
def cd (E : Env) : List Oper → List TS → Nat → Env
  | o :: l, ts :: tr, k + 1 => cd (E.putD o.dst ts.e) l tr k
  | _, _, _ => E
def aG (σ : List OB) : List TS → Nat → List OB
  | ts :: tr, k + 1 => aG ts.σ tr k
  | _, _ => σ
def eM (t : Tmp) : List Oper → List TS → (Nat → Bool) → Ent → Ent
  | o :: l, ts :: tr, d, e => eM t l tr (fun j => d (j + 1)) (if d 0 = true ∧ o.dst = some t then ts.e else e)
  | _, _, _, e => e
section
variable {P : Program} {ops : Array Oper}
theorem kO.at : ∀ {l : List Oper} {bs : List Bool} {E : Env} {σ : List OB} {tr : List TS}, kO P ops l bs E σ tr → tr.length = l.length ∧
    ∀ (i : Nat) (o : Oper), l[i]? = some o → ∃ ts, tr[i]? = some ts ∧ rg P ops (cd E l tr i) (aG σ tr i) o (bs.getD i false) ts ∧ aG σ tr (i + 1) = ts.σ
  | [], bs, E, σ, tr, h => by simp only [kO] at h; subst h; exact ⟨rfl, fun i o h => by simp at h⟩
  | o :: l, bs, E, σ, tr, h => by
    obtain ⟨ts, r, rfl, h1, h2⟩ := h
    obtain ⟨h3, h4⟩ := kO.at h2
    refine ⟨by simp [h3], fun i o' ho => ?_⟩
    cases i with
    | zero =>
      simp only [List.getElem?_cons_zero, sJ] at ho
      subst ho
      refine ⟨ts, rfl, ?_, ?_⟩
      · cases bs <;> exact h1
      · cases r <;> rfl
    | succ i =>
      obtain ⟨ts', k1, k2, k3⟩ := h4 i o' (by simpa using ho)
      refine ⟨ts', by simpa using k1, ?_, ?_⟩
      · cases bs <;> simpa [cd, aG] using k2
      · simpa [aG] using k3
theorem gq (t : Tmp) : ∀ (l : List Oper) (tr : List TS) (d d' : Nat → Bool) (e : Ent), (∀ j o, l[j]? = some o → o.dst = some t → d j = d' j) → eM t l tr d e = eM t l tr d' e
  | [], tr, d, d', e, _ => by simp [eM]
  | o :: l, [], d, d', e, _ => by simp [eM]
  | o :: l, ts :: tr, d, d', e, h => by
    simp only [eM]
    have : (if d 0 = true ∧ o.dst = some t then ts.e else e) = (if d' 0 = true ∧ o.dst = some t then ts.e else e) := by
      by_cases ho : o.dst = some t
      · rw [h 0 o (by simp) ho]
      · simp [ho]
    rw [this]
    exact gq t l tr _ _ _ fun j o' hj hd => h (j + 1) o' (by simpa using hj) hd
theorem ky (t : Tmp) (l : List Oper) (tr : List TS) (d : Nat → Bool) (e : Ent) (h : ∀ j o, l[j]? = some o → o.dst = some t → d j = false) : eM t l tr d e = e := by
  rw [gq t l tr d (fun _ => false) e h]
  clear h
  induction l generalizing tr e with
  | nil => simp [eM]
  | cons o l ih =>
    cases tr with
    | nil => simp [eM]
    | cons ts tr => simp only [eM]; rw [ih]; simp
theorem nj (t : Tmp) : ∀ (l : List Oper) (tr : List TS) (d : Nat → Bool) (e : Ent) (i : Nat) (o : Oper) (ts : TS), l[i]? = some o → tr[i]? = some ts → o.dst = some t →
    (∀ j o', l[j]? = some o' → o'.dst = some t → i < j → d j = false) → eM t l tr (fun j => if j = i then true else d j) e = ts.e
  | [], tr, d, e, i, o, ts, h, _, _, _ => by simp at h
  | x :: l, [], d, e, i, o, ts, _, h, _, _ => by simp at h
  | x :: l, y :: tr, d, e, i, o, ts, h1, h2, h3, h4 => by
    simp only [eM]
    cases i with
    | zero =>
      simp only [List.getElem?_cons_zero, sJ] at h1 h2
      subst h1; subst h2
      rw [ky]
      · simp [h3]
      · intro j o' hj hd
        simp only [Nat.add_eq_zero_iff, Nat.one_ne_zero, and_false, if_false]
        exact h4 (j + 1) o' (by simpa using hj) hd (by omega)
    | succ i =>
      have := nj t l tr (fun j => d (j + 1)) (if (if 0 = i + 1 then true else d 0) = true ∧ x.dst = some t then y.e else e) i o ts (by simpa using h1) (by simpa using h2) h3
        (fun j o' hj hd hij => h4 (j + 1) o' (by simpa using hj) hd (by omega))
      rw [← this]
      apply gq
      intro j o' _ _
      simp
theorem oE (t : Tmp) (l : List Oper) (tr : List TS) (d : Nat → Bool) (e : Ent) (i : Nat) (o : Oper) (h : l[i]? = some o) (hd : o.dst ≠ some t) : eM t l tr (fun j => if j = i then true else d j) e = eM t l tr d e := by
  apply gq
  intro j o' hj hdj
  by_cases e : j = i
  · subst e; rw [h] at hj; simp only [sJ] at hj; subst hj; exact (hd hdj).elim
  · simp [e]
theorem rh (E : Env) (d : Option Tmp) (e : Ent) (t : Tmp) (h : ∀ x, d = some x → x < 512) : (E.putD d e).get t = if d = some t then e else E.get t := by
  cases d with
  | none => simp [Env.putD]
  | some x =>
    simp only [Env.putD]
    rw [Env.get_put' E x t e (h x rfl)]
    by_cases he : t = x
    · subst he; simp
    · have : x ≠ t := fun h => he h.symm
      simp [he, this]
theorem li (t : Tmp) : ∀ (l : List Oper) (tr : List TS) (E : Env) (k : Nat), (∀ (j : Nat) (o : Oper) (x : Nat), l[j]? = some o → o.dst = some x → x < 512) → tr.length = l.length → (cd E l tr k).get t = eM t l tr (fun j => decide (j < k)) (E.get t)
  | [], tr, E, k, _, _ => by cases k <;> simp [cd, eM]
  | o :: l, [], E, k, _, h => by simp at h
  | o :: l, ts :: tr, E, 0, _, _ => by
    simp only [cd]
    rw [ky]
    intro j o' _ _; simp
  | o :: l, ts :: tr, E, k + 1, hx, h => by
    simp only [cd, eM]
    rw [li t l tr _ k (fun j o' x hj hd => hx (j + 1) o' x (by simpa using hj) hd) (by simpa using h)]
    rw [rh _ _ _ _ (fun x hd => hx 0 o x (by simp) hd)]
    have e1 : (fun j => decide (j + 1 < k + 1)) = (fun j => decide (j < k)) := by funext j; simp
    simp [e1]
theorem kz {γ : Bool} {E : Env} {σ : List OB} {o : Oper} (h : eY o = false) : (∀ C v σ', a9 P γ E σ o.op ≠ .upd C v σ') ∧ ∀ C f args, a9 P γ E σ o.op ≠ .call C f args := by
  unfold eY at h
  constructor
  · intro C v σ' hr
    cases hop : o.op
    all_goals (rw [hop] at h hr; simp only [a9] at hr; try (simp at h; done))
    case move => cases hr
    case assign => cases hr
    case pick => unfold kh at hr; split at hr <;> cases hr
    case build => unfold je at hr; split at hr <;> first | cases hr | (split at hr <;> cases hr)
    case load => unfold iu at hr; split at hr <;> first | cases hr | (split at hr <;> cases hr)
    case nilCheck => unfold ep at hr; split at hr <;> cases hr
    case binOp => unfold gu at hr; split at hr <;> first | cases hr | (split at hr <;> first | cases hr | (split at hr <;> first | cases hr | (split at hr <;> cases hr)))
    case unOp => unfold unR at hr; split at hr <;> cases hr
    case convert => unfold ki at hr; split at hr <;> cases hr
    case fieldAddr => unfold cU at hr; split at hr <;> cases hr
    case field => unfold jc at hr; split at hr <;> cases hr
    case indexAddr => unfold cG at hr; split at hr <;> first | cases hr | (split at hr <;> cases hr)
    case index => unfold iS at hr; split at hr <;> cases hr
    case extract => unfold gy at hr; split at hr <;> cases hr
    case slice =>
      unfold hU at hr
      split at hr
      · split at hr
        · split at hr
          · split at hr <;> cases hr
          · cases hr
        · cases hr
      · split at hr <;> first | cases hr | (split at hr <;> first | cases hr | (split at hr <;> cases hr))
    case makeFunc => unfold fQ at hr; split at hr <;> cases hr
    case call c =>
      split at hr
      · simp_all
      · rename_i b hb
        simp only [hb] at h
        unfold dZ at hr
        split at hr
        · unfold ke at hr; split at hr <;> cases hr
        · simp at h
        · unfold dY at hr; split at hr <;> cases hr
        · unfold dY at hr; split at hr <;> cases hr
        · cases hr
      · cases hr
  · intro C f args hr
    cases hop : o.op
    all_goals (rw [hop] at h hr; simp only [a9] at hr; try (simp at h; done))
    case move => cases hr
    case assign => cases hr
    case pick => unfold kh at hr; split at hr <;> cases hr
    case build => unfold je at hr; split at hr <;> first | cases hr | (split at hr <;> cases hr)
    case load => unfold iu at hr; split at hr <;> first | cases hr | (split at hr <;> cases hr)
    case nilCheck => unfold ep at hr; split at hr <;> cases hr
    case binOp => unfold gu at hr; split at hr <;> first | cases hr | (split at hr <;> first | cases hr | (split at hr <;> first | cases hr | (split at hr <;> cases hr)))
    case unOp => unfold unR at hr; split at hr <;> cases hr
    case convert => unfold ki at hr; split at hr <;> cases hr
    case fieldAddr => unfold cU at hr; split at hr <;> cases hr
    case field => unfold jc at hr; split at hr <;> cases hr
    case indexAddr => unfold cG at hr; split at hr <;> first | cases hr | (split at hr <;> cases hr)
    case index => unfold iS at hr; split at hr <;> cases hr
    case extract => unfold gy at hr; split at hr <;> cases hr
    case slice =>
      unfold hU at hr
      split at hr
      · split at hr
        · split at hr
          · split at hr <;> cases hr
          · cases hr
        · cases hr
      · split at hr <;> first | cases hr | (split at hr <;> first | cases hr | (split at hr <;> cases hr))
    case makeFunc => unfold fQ at hr; split at hr <;> cases hr
    case call c =>
      split at hr
      · simp_all
      · rename_i b hb
        unfold dZ at hr
        split at hr
        · unfold ke at hr; split at hr <;> cases hr
        · split at hr
          · unfold gU at hr
            split at hr
            · cases hr
            · split at hr <;> first | cases hr | (split at hr <;> cases hr)
          · cases hr
        · unfold dY at hr; split at hr <;> cases hr
        · unfold dY at hr; split at hr <;> cases hr
        · cases hr
      · cases hr
end
end Pam
namespace Pam
open Go
section
variable {P : Program} {ops : Array Oper}
theorem ri {E E' : Env} {ts : List Tmp} (h : ∀ t ∈ ts, E.get t = E'.get t) (x : Operand) (hx : ∀ t, x = .tmp t → t ∈ ts) : ev E x = ev E' x := by
 cases x with
 | tmp t => exact h t (hx t rfl)
 | _ => rfl
theorem kP {E E' : Env} (l : List Operand) (h : ∀ x ∈ l, ev E x = ev E' x) : l.map (ev E) = l.map (ev E') := List.map_congr_left h
theorem jn {γ : Bool} {E E' : Env} {σ : List OB} (op : Op) (h : ∀ x ∈ op.operands, ev E x = ev E' x) : a9 P γ E σ op = a9 P γ E' σ op := by
 cases op
 case move x => simp only [a9]; rw [h x (by simp [Op.operands])]
 case assign x => simp only [a9]; rw [h x (by simp [Op.operands])]
 case pick c a b => simp only [a9]; rw [h c (by simp [Op.operands]), h a (by simp [Op.operands]), h b (by simp [Op.operands])]
 case box T x => simp only [a9]; rw [h x (by simp [Op.operands])]
 case build T parts =>
  simp only [a9, lC]
  rw [List.map_congr_left]
  intro p hp
  rw [h p.2 (by simp only [Op.operands, List.mem_toArray, List.mem_map]; exact ⟨p, hp, rfl⟩)]
 case buildSlice T len parts =>
  simp only [a9, lC]
  rw [List.map_congr_left]
  intro p hp
  rw [h p.2 (by simp only [Op.operands, List.mem_toArray, List.mem_map]; exact ⟨p, hp, rfl⟩)]
 case load T x => simp only [a9]; rw [h x (by simp [Op.operands])]
 case store T x y => simp only [a9]; rw [h x (by simp [Op.operands]), h y (by simp [Op.operands])]
 case nilCheck x => simp only [a9]; rw [h x (by simp [Op.operands])]
 case binOp op T x y T' => simp only [a9]; rw [h x (by simp [Op.operands]), h y (by simp [Op.operands])]
 case unOp op T x => simp only [a9]; rw [h x (by simp [Op.operands])]
 case convert s d x => simp only [a9]; rw [h x (by simp [Op.operands])]
 case fieldAddr T x i => simp only [a9]; rw [h x (by simp [Op.operands])]
 case field T x i => simp only [a9]; rw [h x (by simp [Op.operands])]
 case indexAddr T x i => simp only [a9]; rw [h x (by simp [Op.operands]), h i (by simp [Op.operands])]
 case index T x i => simp only [a9]; rw [h x (by simp [Op.operands]), h i (by simp [Op.operands])]
 case extract x i => simp only [a9]; rw [h x (by simp [Op.operands])]
 case slice T x lo hi mx =>
  simp only [a9]
  rw [h x (by simp [Op.operands])]
  have hl : ∀ o : Option Operand, (∀ y, o = some y → ev E y = ev E' y) → o.map (ev E) = o.map (ev E') := by
   intro o ho; cases o with
   | none => rfl
   | some y => simp [ho y rfl]
  rw [hl lo fun y hy => h y (by simp [Op.operands, hy]), hl hi fun y hy => h y (by simp [Op.operands, hy]), hl mx fun y hy => h y (by simp [Op.operands, hy])]
 case makeSlice T x y => simp only [a9]; rw [h x (by simp [Op.operands]), h y (by simp [Op.operands])]
 case makeFunc fn first caps =>
  simp only [a9]
  rw [kP]
  intro x hx
  exact h x (by simp only [Op.operands, Array.mem_append]; right; simpa using hx)
 case call c =>
  simp only [a9]
  have hargs : c.args.toList.map (ev E) = c.args.toList.map (ev E') := kP _ fun x hx => h x (by simp only [Op.operands, Call.operands, Array.mem_append]; right; simpa using hx)
  rw [hargs]
  split
  ·rename_i f hf
   rw [h f (by simp only [Op.operands, Call.operands, Array.mem_append]; left; simp [hf])]
  ·rfl
  ·rfl
 all_goals rfl
theorem m5 {E E' : Env} (o : Oper) (h : ∀ t ∈ o.looksAt ops, E.get t = E'.get t) : cO ops E o.guard = cO ops E' o.guard := by
 unfold cO
 cases hg : o.guard with
 | none => rfl
 | some jw =>
  obtain ⟨j, want⟩ := jw
  simp only
  cases ho : ops[j]? with
  | none => rfl
  | some o' =>
   simp only
   cases hd : o'.dst with
   | none => rfl
   | some d =>
    simp only
    rw [h d (by simp [Oper.looksAt, hg, ho, hd])]
def jo : PV → Option Nat
 | .c (.optr b _) => some b
 | .c (.osl b _ _ _) => some b
 | .c (.oel b _ _ _) => some b
 | _ => none
theorem po {σ σ' : List OB} {c : CV} (h : ∀ b ob, jo (.c c) = some b → σ[b]? = some ob → σ'[b]? = some ob) (ha : de σ c) : de σ' c := by
 cases c <;> simp only [de] at ha ⊢
 all_goals
  split at ha
  ·rename_i hb; rw [h _ _ rfl hb]; exact ha
  ·exact ha.elim
theorem qv {E : Env} {σ σ' : List OB} {op : Op} {C : Prop} {v : PV} (h : a9 P true E σ op = .ok C v) (hC : C)
  (hh : ∀ x, (ev E x).cond = true → ∀ b ob, jo (ev E x).v = some b → σ[b]? = some ob → σ'[b]? = some ob) : ∃ C', a9 P true E σ' op = .ok C' v ∧ C' := by
 have al : ∀ x c, (ev E x).v = .c c → ar true (ev E x) → de σ c → de σ' c := fun x c hv hn ha => po (fun b ob ht hb => hh x (hn rfl) b ob (by rw [hv]; exact ht) hb) ha
 have wd : ∀ x b ver lo len s, (ev E x).v = .c (.osl b ver lo len) → ar true (ev E x) → nc σ b s → nc σ' b s := by
  intro x b ver lo len s hv hn ha
  unfold nc at ha ⊢
  cases hb : σ[b]? with
  | none => rw [hb] at ha; exact ha.elim
  | some ob => rw [hh x (hn rfl) b ob (by rw [hv]; rfl) hb]; rw [hb] at ha; exact ha
 cases op
 case load T x =>
  simp only [a9, iu] at h ⊢
  split at h
  ·rename_i b off hv
   split at h
   ·rename_i cs hb
    simp only [R.ok.injEq] at h; obtain ⟨rfl, rfl⟩ := h
    have := hh x (hC.1 rfl) b _ (by rw [hv]; rfl) hb
    exact ⟨_, by first | rfl | (simp only [hv, this]; done) | (simp only [hv, this]; rfl) | (simp only [this]; done) | (simp only [this]; rfl), hC⟩
   ·cases h
  ·rename_i s es i j hv
   exact ⟨C, by first | exact h | (simp only [hv]; exact h), hC⟩
  ·rename_i b ver i j hv
   split at h
   ·rename_i s ver' T' es hb
    simp only [R.ok.injEq] at h; obtain ⟨rfl, rfl⟩ := h
    have := hh x (hC.1 rfl) b _ (by rw [hv]; rfl) hb
    exact ⟨_, by first | rfl | (simp only [hv, this]; done) | (simp only [hv, this]; rfl) | (simp only [this]; done) | (simp only [this]; rfl), hC⟩
   ·cases h
  ·cases h
 case nilCheck x =>
  simp only [a9, ep] at h ⊢
  split at h
  ·rename_i b off hv
   simp only [R.ok.injEq] at h; obtain ⟨rfl, rfl⟩ := h
   refine ⟨_, by first | rfl | (simp only [hv]; done) | (simp only [hv]; rfl), ?_⟩
   exact ⟨hC.1, al x _ hv hC.1 hC.2⟩
  ·rename_i hv; exact ⟨C, by first | exact h | (simp only [hv]; exact h), hC⟩
  ·rename_i b ver i j hv
   simp only [R.ok.injEq] at h; obtain ⟨rfl, rfl⟩ := h
   refine ⟨_, by first | rfl | (simp only [hv]; done) | (simp only [hv]; rfl), ?_⟩
   exact ⟨hC.1, al x _ hv hC.1 hC.2⟩
  ·cases h
 case fieldAddr T x i =>
  simp only [a9, cU] at h ⊢
  split at h
  ·rename_i b off hv
   simp only [R.ok.injEq] at h; obtain ⟨rfl, rfl⟩ := h
   refine ⟨_, by first | rfl | (simp only [hv]; done) | (simp only [hv]; rfl), ?_⟩
   exact ⟨hC.1, al x _ hv hC.1 hC.2.1, hC.2.2⟩
  ·rename_i hv; exact ⟨C, by first | exact h | (simp only [hv]; exact h), hC⟩
  ·rename_i b ver k j hv
   simp only [R.ok.injEq] at h; obtain ⟨rfl, rfl⟩ := h
   refine ⟨_, by first | rfl | (simp only [hv]; done) | (simp only [hv]; rfl), ?_⟩
   exact ⟨hC.1, al x _ hv hC.1 hC.2.1, hC.2.2⟩
  ·cases h
 case indexAddr T x i =>
  simp only [a9, cG] at h ⊢
  split at h
  ·rename_i hv hv2; exact ⟨C, by first | exact h | (simp only [hv, hv2]; exact h), hC⟩
  ·rename_i b ver lo len k n hv hv2
   split at h
   ·rename_i s ver' T' es hb
    simp only [R.ok.injEq] at h; obtain ⟨rfl, rfl⟩ := h
    have := hh x (hC.1 rfl) b _ (by rw [hv]; rfl) hb
    exact ⟨_, by first | rfl | (simp only [hv, hv2, this]; done) | (simp only [hv, hv2, this]; rfl) | (simp only [this]; done) | (simp only [this]; rfl), hC⟩
   ·cases h
  ·rename_i b off k n hv hv2
   simp only [R.ok.injEq] at h; obtain ⟨rfl, rfl⟩ := h
   refine ⟨_, by first | rfl | (simp only [hv, hv2]; done) | (simp only [hv, hv2]; rfl), ?_⟩
   exact ⟨hC.1, hC.2.1, al x _ hv hC.1 hC.2.2.1, hC.2.2.2⟩
  ·rename_i b ver k j k0 n hv hv2
   split at h
   ·rename_i s ver' T' es hb
    simp only [R.ok.injEq] at h; obtain ⟨rfl, rfl⟩ := h
    have := hh x (hC.1 rfl) b _ (by rw [hv]; rfl) hb
    exact ⟨_, by first | rfl | (simp only [hv, hv2, this]; done) | (simp only [hv, hv2, this]; rfl) | (simp only [this]; done) | (simp only [this]; rfl), hC⟩
   ·cases h
  ·cases h
 case slice T x lo hi mx =>
  simp only [a9, hU] at h ⊢
  split at h
  ·rename_i m hm
   exact ⟨C, by first | exact h | (simp only [hm]; exact h), hC⟩
  ·rename_i hm
   split at h
   ·rename_i s es hv
    split at h
    ·rename_i e1 e2; exact ⟨C, by first | exact h | (simp only [hm, hv, e1, e2]; exact h), hC⟩
    ·cases h
   ·rename_i b ver lo0 len hv
    split at h
    ·rename_i hlo
     split at h
     ·rename_i _ _ e2
      simp only [R.ok.injEq] at h; obtain ⟨rfl, rfl⟩ := h
      refine ⟨_, by first | rfl | (simp only [hm, hv, hlo, e2]; done) | (simp only [hm, hv, hlo, e2]; rfl), ?_⟩
      exact ⟨hC.1, hC.2.1, al x _ hv hC.1 hC.2.2.1, hC.2.2.2⟩
     ·cases h
    ·rename_i q hlo
     split at h
     ·rename_i _ _ _ _ e1 e2
      simp only [R.ok.injEq] at h; obtain ⟨rfl, rfl⟩ := h
      refine ⟨_, by first | rfl | (simp only [hm, hv, hlo, e1, e2]; done) | (simp only [hm, hv, hlo, e1, e2]; rfl), ?_⟩
      exact ⟨hC.1, hC.2.1, hC.2.2.1, al x _ hv hC.1 hC.2.2.2.1, hC.2.2.2.2.1, hC.2.2.2.2.2.1, wd x _ _ _ _ _ hv hC.1 hC.2.2.2.2.2.2.1, hC.2.2.2.2.2.2.2⟩
     ·cases h
   ·rename_i s hv
    split at h
    ·rename_i e1 e2; exact ⟨C, by first | exact h | (simp only [hm, hv, e1, e2]; exact h), hC⟩
    ·cases h
   ·cases h
 case call c =>
  simp only [a9] at h ⊢
  split at h
  ·unfold lZ at h; split at h <;> cases h
  ·rename_i b hcal
   try simp only [hcal]
   unfold dZ at h ⊢
   split at h
   ·rename_i T x hts hxs
    try simp only [hts, hxs]
    have hx : ∃ X, x = ev E X := by
     have : x ∈ c.args.toList.map (ev E) := by rw [hxs]; simp
     obtain ⟨X, _, hX⟩ := List.mem_map.1 this
     exact ⟨X, hX.symm⟩
    obtain ⟨X, rfl⟩ := hx
    unfold ke at h ⊢
    split at h
    ·rename_i hv; exact ⟨C, by first | exact h | (simp only [hv]; exact h), hC⟩
    ·rename_i b ver lo len hv
     simp only [R.ok.injEq] at h; obtain ⟨rfl, rfl⟩ := h
     refine ⟨_, by first | rfl | (simp only [hv]; done) | (simp only [hv]; rfl), ?_⟩
     exact ⟨hC.1, al X _ hv hC.1 hC.2.1, hC.2.2⟩
    ·rename_i hv; exact ⟨C, by first | exact h | (simp only [hv]; exact h), hC⟩
    ·rename_i hv; exact ⟨C, by first | exact h | (simp only [hv]; exact h), hC⟩
    ·rename_i hv; exact ⟨C, by first | exact h | (simp only [hv]; exact h), hC⟩
    ·rename_i hv; exact ⟨C, by first | exact h | (simp only [hv]; exact h), hC⟩
    ·cases h
   ·split at h
    ·unfold gU at h
     split at h
     ·cases h
     ·split at h <;> first | cases h | (split at h <;> cases h)
    ·cases h
   ·rename_i hxs; exact ⟨C, by first | exact h | (simp only [hxs]; exact h), hC⟩
   ·rename_i hxs; exact ⟨C, by first | exact h | (simp only [hxs]; exact h), hC⟩
   ·cases h
  ·cases h
 all_goals first
  | exact ⟨C, h, hC⟩
  | (simp only [a9] at h; unfold jd at h; split at h <;> cases h)
  | (simp only [a9] at h; unfold nI at h; cases h)
  | (simp only [a9] at h; unfold dX at h; split at h <;> first | cases h | (split at h <;> cases h))
  | (simp only [a9] at h; unfold iR at h; split at h <;> first | cases h | (split at h <;> cases h))
  | (simp only [a9] at h; unfold eO at h; split at h <;> cases h)
  | cases h
theorem mm {E : Env} {σ σ' : List OB} {γ : Bool} {op : Op} {C : Prop} {f : FuncId} {args : List PV} (h : a9 P γ E σ op = .call C f args) : a9 P γ E σ' op = .call C f args := by
 cases op
 case call c =>
  simp only [a9] at h ⊢
  split at h
  ·exact h
  ·unfold dZ at h
   split at h
   ·unfold ke at h; split at h <;> cases h
   ·split at h
    ·unfold gU at h
     split at h
     ·cases h
     ·split at h <;> first | cases h | (split at h <;> cases h)
    ·cases h
   ·unfold dY at h; split at h <;> cases h
   ·unfold dY at h; split at h <;> cases h
   ·cases h
  ·cases h
 case load => simp only [a9] at h; unfold iu at h; split at h <;> first | cases h | (split at h <;> cases h)
 case nilCheck => simp only [a9] at h; unfold ep at h; split at h <;> cases h
 case fieldAddr => simp only [a9] at h; unfold cU at h; split at h <;> cases h
 case indexAddr => simp only [a9] at h; unfold cG at h; split at h <;> first | cases h | (split at h <;> cases h)
 case slice =>
  simp only [a9] at h
  unfold hU at h
  split at h
  ·split at h
   ·split at h
    ·split at h <;> cases h
    ·cases h
   ·cases h
  ·split at h <;> first | cases h | (split at h <;> first | cases h | (split at h <;> cases h))
 case alloc => simp only [a9] at h; unfold jd at h; split at h <;> cases h
 case box => simp only [a9] at h; unfold nI at h; cases h
 case buildSlice => simp only [a9] at h; unfold dX at h; split at h <;> first | cases h | (split at h <;> cases h)
 case store => simp only [a9] at h; unfold iR at h; split at h <;> first | cases h | (split at h <;> cases h)
 case makeSlice => simp only [a9] at h; unfold eO at h; split at h <;> cases h
 all_goals exact h
end
end Pam
namespace Pam
open Go
section
variable {P : Program}
theorem qw {G : Gh} {E : Env} {σ : List OB} {a : Act} {w : World} {C : Prop} {f : FuncId} {args : List PV} {res : PV} {K : Act → World → Prop} {Q : Exit → Act → World → Prop} (hsim : Sim G E σ a w) (o : Oper)
  (hrun : a9 P true E σ o.op = .call C f args) (hC : C) (hs : cR P f args res) (hargs : args.all PV.noOwn = true) (hres : ∀ n, res.ren (cA n []) = res)
  (next : ∀ G' w' v, Gle G G' → aY G.own G'.own → Inv G' σ w' → aB G' res v → K (a.put o.dst v) w') : o.wp P a w K Q := by
 have ha : args.map (PV.ren (cA σ.length [])) = args ∧ aJ 0 args := by
  clear hs hrun
  induction args with
  | nil => exact ⟨rfl, trivial⟩
  | cons p l ih =>
   simp only [List.all_cons, Bool.and_eq_true] at hargs
   obtain ⟨h1, h2⟩ := PV.noOwn_ren hargs.1 (cA σ.length [])
   obtain ⟨h3, h4⟩ := ih hargs.2
   exact ⟨by simp [h1, h3], h2 0, h4⟩
 obtain ⟨hf, hcall⟩ := hs
 obtain ⟨vs, e1, e2⟩ := lh hsim rfl o hrun hC hf
 have hi := hsim.inv
 have hnd : ([] : List Nat).Nodup := List.nodup_nil
 have hlt : ∀ b ∈ ([] : List Nat), b < σ.length := by simp
 have hci : Inv (bJ G w []) [] w := kx (σc := []) hi hnd hlt rfl (fun k ob h => by simp at h) trivial
 have hown := iy (w := w) hi hlt
 rw [← ha.1] at e2
 have hcv := hcall (bJ G w []) w vs (by simp [bJ]) rfl hci (aF.unmapP (G := G) (G' := bJ G w []) rfl _ hown ha.2 e2)
 unfold Oper.wp
 rw [e1]
 refine hcv.mono fun e w' hr => ?_
 obtain ⟨G', σ', p, v, h1, h2, h3, h4⟩ := hr
 rcases h4 with ⟨rfl, rfl, rfl⟩ | ⟨_, h4⟩
 ·obtain ⟨G'', g1, g2, g3, g4⟩ := jK hi hnd hlt h1 h2 (by simp)
  have g5 := g4 _ v h3
  rw [hres] at g5
  exact next G'' w' v g1 g2 (by simpa [b8] using g3) g5
 ·exact h4.elim
theorem pq {G : Gh} {E : Env} {σ σ2 : List OB} {a : Act} {w : World} {C : Prop} {f : FuncId} {args : List PV} {res : PV} {K : Act → World → Prop} {Q : Exit → Act → World → Prop} (hsim : Sim G E σ a w) (o : Oper)
  (hrun : a9 P true E σ o.op = .call C f args) (hC : C) (hs : jL P σ f args res σ2)
  (next : ∀ G' w' v, Gle G G' → (∀ b o, G.H b = some o → G'.H b = some o) → aY G.own G'.own → Inv G' σ2 w' → aB G' res v → K (a.put o.dst v) w') : o.wp P a w K Q := by
 obtain ⟨args', σc, post, pp, ρ, ⟨hf, hcall⟩, hnd, hlt, hargs, hσ, hu, hub, hpost, hpp⟩ := hs
 obtain ⟨vs, e1, e2⟩ := lh hsim rfl o hrun hC hf
 have hi := hsim.inv
 have hlen : σc.length = ρ.length := by have := congrArg List.length hσ; simpa using this.symm
 have hσ' : ∀ (k : Nat) (ob : OB), σc[k]? = some ob → ∃ b, ρ[k]? = some b ∧ σ[b]? = some (ob.ren (cA σ.length ρ)) := by
  intro k ob h
  have hk : k < ρ.length := by rw [← hlen]; exact (List.getElem?_eq_some_iff.1 h).1
  have := congrArg (fun l => l[k]?) hσ
  simp only [List.getElem?_map, h, Option.map_some, List.getElem?_eq_getElem hk, sJ] at this
  exact ⟨ρ[k], List.getElem?_eq_getElem hk, this⟩
 have hci := kx hi hnd hlt hlen hσ' hub
 have hown := iy (w := w) hi hlt
 rw [hargs] at e2
 have hcv := hcall (bJ G w ρ) w vs (by simp [bJ, hlen]) rfl hci (aF.unmapP (G := G) (G' := bJ G w ρ) rfl _ hown hu e2)
 unfold Oper.wp
 rw [e1]
 refine hcv.mono fun e w' hres => ?_
 obtain ⟨G', σ', p, v, h1, h2, h3, h4⟩ := hres
 have hl : ρ.length ≤ σ'.length := by
  rw [← h2.len]
  rcases Nat.eq_zero_or_pos ρ.length with e0 | e0
  ·omega
  ·have hlast : (bJ G w ρ).own[ρ.length - 1]? = some ((bJ G w ρ).own[ρ.length - 1]'(by simp [bJ]; omega)) := List.getElem?_eq_getElem _
   obtain ⟨oo', q1, _⟩ := h1.own _ _ (by simp [bJ]; omega) hlast
   have := (List.getElem?_eq_some_iff.1 q1).1
   omega
 obtain ⟨G'', g1, g2, g3, g4⟩ := jK hi hnd hlt h1 h2 hl
 rcases h4 with ⟨rfl, h4⟩ | ⟨rfl, h4⟩
 ·obtain ⟨k1, k2⟩ := hpost p σ' h4 hl
  rw [k2] at g3
  have g5 := g4 p v h3
  rw [k1] at g5
  exact next G'' w' v g1 g1.le.H g2 g3 g5
 ·exact (hpp _ _ h4).elim
theorem qx {G : Gh} {σ : List OB} {w : World} {p : PV} {v : Value} (hi : Inv G σ w) (h : aB G p v) {b : Nat} (hb : jo p = some b) : b < σ.length := by
 have : ∀ oo : Option OG, G.own[b]? = some oo → b < σ.length := fun oo h => by rw [← hi.len]; exact (List.getElem?_eq_some_iff.1 h).1
 unfold jo at hb
 split at hb <;> simp only [sJ, reduceCtorEq] at hb
 ·subst hb; have h' : cP G (.optr _ _) v := h; obtain ⟨_, oo, h1, _⟩ := h'; exact this oo h1
 ·subst hb; have h' : cP G (.osl _ _ _ _) v := h; obtain ⟨_, oo, h1, _⟩ := h'; exact this oo h1
 ·subst hb; have h' : cP G (.oel _ _ _ _) v := h; obtain ⟨_, oo, h1, _⟩ := h'; exact this oo h1
def er (E : Env) : List Tmp → Env
 | [] => ⟨E.n, E.na, .nil⟩
 | t :: r => (er E r).put t (E.get t)
theorem kA (E : Env) : ∀ l, (er E l).n = E.n ∧ (er E l).na = E.na
 | [] => ⟨rfl, rfl⟩
 | _ :: r => kA E r
theorem kQ (E : Env) : ∀ (l : List Tmp) (t : Tmp), (∀ x ∈ l, x < 512) → (t ∈ l → (er E l).get t = E.get t) ∧ (t ∉ l → ((er E l).get t).cond = false)
 | [], t, _ => ⟨fun h => by simp at h, fun _ => by simp [er, Env.get, Tr.get, Tr.ent]⟩
 | x :: l, t, h => by
  obtain ⟨h1, h2⟩ := kQ E l t fun y hy => h y (by simp [hy])
  simp only [er]
  rw [Env.get_put' _ x t _ (h x (by simp))]
  constructor
  ·intro ht
   by_cases e : t = x
   ·subst e; simp
   ·rw [iN e]; exact h1 (by simpa [e] using ht)
  ·intro ht
   simp only [List.mem_cons, not_or] at ht
   rw [iN ht.1]; exact h2 ht.2
theorem nO : ∀ (l : List Oper) (tr : List TS) (E : Env) (k : Nat), (cd E l tr k).n = E.n ∧ (cd E l tr k).na = E.na
 | [], tr, E, k => by cases k <;> simp [cd]
 | o :: l, [], E, k => by cases k <;> simp [cd]
 | o :: l, ts :: tr, E, 0 => by simp [cd]
 | o :: l, ts :: tr, E, k + 1 => by
  simp only [cd]
  obtain ⟨h1, h2⟩ := nO l tr (E.putD o.dst ts.e) k
  rw [h1, h2]
  cases o.dst <;> exact ⟨rfl, rfl⟩
structure Chk (ops : Array Oper) (l : List Oper) (masks : List Nat) (bar : List Bool) : Prop where
 mask : ∀ (i : Nat) (o : Oper), l[i]? = some o → masks.getD i 0 = orM masks (fp o)
 lt : ∀ (i : Nat) (o : Oper), l[i]? = some o → ∀ j ∈ fp o, j < i
 dst : ∀ (i : Nat) (o : Oper), l[i]? = some o → ∀ d, o.dst = some d → d < 512
 look : ∀ (i : Nat) (o : Oper), l[i]? = some o → ∀ t ∈ o.looksAt ops, t < 512
 loud : ∀ (i j : Nat) (x y : Oper), l[i]? = some x → l[j]? = some y → eY x = true → eY y = true → ii masks i j = true
 hit : ∀ (i j : Nat) (x y : Oper), l[i]? = some x → l[j]? = some y → qu ops x y = true → ii masks i j = true
 bar : ∀ (i j : Nat) (x y : Oper), l[i]? = some x → l[j]? = some y → bar.getD i false = true → ii masks i j = true
def kB (l : List Oper) (d : Nat → Bool) : Prop := ∀ (i : Nat) (o : Oper), l[i]? = some o → d i = true → ∀ j ∈ fp o, d j = true
theorem Chk.bit {ops : Array Oper} {l : List Oper} {masks : List Nat} {bar : List Bool} (c : Chk ops l masks bar) {d : Nat → Bool} (hd : kB l d) : ∀ (i : Nat) (o : Oper), l[i]? = some o → ∀ j, (masks.getD i 0).testBit j = true → j < i ∧ (d i = true → d j = true) := by
 intro i
 induction i using Nat.strongRecOn with
 | _ i ih =>
  intro o ho j hj
  rw [c.mask i o ho] at hj
  obtain ⟨k, hk, h⟩ := kN masks j _ hj
  have hlt := c.lt i o ho k hk
  have hkl : k < l.length := by have := (List.getElem?_eq_some_iff.1 ho).1; omega
  rcases h with rfl | h
  ·exact ⟨hlt, fun hi => hd i o ho hi k hk⟩
  ·obtain ⟨h1, h2⟩ := ih k hlt l[k] (List.getElem?_eq_getElem hkl) j h
   exact ⟨by omega, fun hi => h2 (hd i o ho hi k hk)⟩
theorem Chk.done {ops : Array Oper} {l : List Oper} {masks : List Nat} {bar : List Bool} (c : Chk ops l masks bar) {d : Nat → Bool} (hd : kB l d) {i : Nat} {o : Oper} (ho : l[i]? = some o) (hi : d i = false)
  (hr : ∀ j ∈ fp o, d j = true) {j : Nat} {y : Oper} (hy : l[j]? = some y) (hord : ii masks i j = true ∨ ii masks j i = true) : d j = decide (j < i) := by
 by_cases e : j = i
 ·subst e; simp [hi]
 ·have hord' : (masks.getD i 0).testBit j = true ∨ (masks.getD j 0).testBit i = true := by
   rcases hord with h | h <;> simp only [ii, Bool.or_eq_true, beq_iff_eq] at h
   ·rcases h with (h | h) | h
    ·exact (e h.symm).elim
    ·exact .inl h
    ·exact .inr h
   ·rcases h with (h | h) | h
    ·exact (e h).elim
    ·exact .inr h
    ·exact .inl h
  rcases hord' with h | h
  ·have hlt := (c.bit hd i o ho j h).1
   rw [c.mask i o ho] at h
   obtain ⟨k, hk, h⟩ := kN masks j _ h
   have hkl : k < l.length := by have := (List.getElem?_eq_some_iff.1 ho).1; have := c.lt i o ho k hk; omega
   have hdj : d j = true := by
    rcases h with rfl | h
    ·exact hr k hk
    ·exact (c.bit hd k l[k] (List.getElem?_eq_getElem hkl) j h).2 (hr k hk)
   rw [hdj]; simp [hlt]
  ·obtain ⟨h1, h2⟩ := c.bit hd j y hy i h
   have hdj : d j = false := by
    cases hh : d j with
    | false => rfl
    | true => rw [h2 hh] at hi; cases hi
   rw [hdj]; simp; omega
def StJ (l : List Oper) (tr : List TS) (E : Env) (σ : List OB) (G0 : Gh) (listed : Array Bool) (a : Act) (w : World) : Prop :=
 listed.size = l.length ∧ kB l (fun i => listed.getD i false) ∧
 ∃ G p, Gle G0 G ∧ p ≤ l.length ∧ (∀ (j : Nat) (o : Oper), l[j]? = some o → eY o = true → listed.getD j false = decide (j < p)) ∧
  Inv G (aG σ tr p) w ∧ a.defers = G.w0.ds ∧ a.tmps.size = E.n ∧ G.na = E.na ∧
  ∀ t, t < 512 → (eM t l tr (fun i => listed.getD i false) (E.get t)).cond = true → aB G (eM t l tr (fun i => listed.getD i false) (E.get t)).v (a.tmps.getD t undef)
theorem si (listed : Array Bool) (i j : Nat) (hi : i < listed.size) : (listed.setIfInBounds i true).getD j false = if j = i then true else listed.getD j false := by
 simp only [Array.getD_eq_getD_getElem?, Array.getElem?_setIfInBounds]
 by_cases e : i = j
 ·subst e; simp [hi]
 ·simp [e, Ne.symm e]
end
end Pam
namespace Pam
open Go
def pQ (pv : List Nat) (p : PV) : Bool := match jo p with | some b => !pv.contains b | none => true
def f4 (pv : List Nat) (σ σ' : List OB) : Prop := σ.length ≤ σ'.length ∧ ∀ b, b ∉ pv → b < σ.length → σ'[b]? = σ[b]?
theorem f4.refl (pv : List Nat) (σ : List OB) : f4 pv σ σ := ⟨Nat.le_refl _, fun _ _ _ => rfl⟩
theorem f4.trans {pv : List Nat} {σ σ' σ'' : List OB} (h : f4 pv σ σ') (h' : f4 pv σ' σ'') : f4 pv σ σ'' :=
  ⟨Nat.le_trans h.1 h'.1, fun b hb hl => (h'.2 b hb (Nat.lt_of_lt_of_le hl h.1)).trans (h.2 b hb hl)⟩
theorem f4.of_ext {pv : List Nat} {σ σ' : List OB} (h : Ext σ σ') : f4 pv σ σ' := by
  obtain ⟨ρ, rfl⟩ := h
  exact ⟨by simp, fun b _ hb => List.getElem?_append_left hb⟩
def ld (lt : List Bool) (i : Nat) (o : Oper) : Bool := eY o && !(lt.getD i false)
def oF (ops : Array Oper) (l : List Oper) (masks : List Nat) (bar prv : List Bool) (rd : List (List Nat)) (lt : List Bool) : Bool :=
  (l.zipIdx.all fun (o, i) => masks.getD i 0 == orM masks (fp o) && (fp o).all (· < i) &&
    (match o.dst with | some d => decide (d < 512) | none => true) && (o.looksAt ops).all (· < 512)) &&
  (l.zipIdx.all fun (x, i) => l.zipIdx.all fun (y, j) => (!(ld lt i x && ld lt j y) || ii masks i j) && (!(qu ops x y) || ii masks i j) && (!(bar.getD i false) || ii masks i j)) &&
  (l.zipIdx.all fun (x, i) => eY x || (x.looksAt ops).all (fun t => (rd.getD i []).contains t) || l.zipIdx.all fun (_, j) => !(prv.getD j false) || ii masks i j)
structure nP (ops : Array Oper) (l : List Oper) (masks : List Nat) (bar prv : List Bool) (rd : List (List Nat)) (lt : List Bool) : Prop where
  mask : ∀ (i : Nat) (o : Oper), l[i]? = some o → masks.getD i 0 = orM masks (fp o)
  lts : ∀ (i : Nat) (o : Oper), l[i]? = some o → ∀ j ∈ fp o, j < i
  dst : ∀ (i : Nat) (o : Oper), l[i]? = some o → ∀ d, o.dst = some d → d < 512
  look : ∀ (i : Nat) (o : Oper), l[i]? = some o → ∀ t ∈ o.looksAt ops, t < 512
  loud : ∀ (i j : Nat) (x y : Oper), l[i]? = some x → l[j]? = some y → ld lt i x = true → ld lt j y = true → ii masks i j = true
  hit : ∀ (i j : Nat) (x y : Oper), l[i]? = some x → l[j]? = some y → qu ops x y = true → ii masks i j = true
  bar : ∀ (i j : Nat) (x y : Oper), l[i]? = some x → l[j]? = some y → bar.getD i false = true → ii masks i j = true
  see : ∀ (i : Nat) (o : Oper), l[i]? = some o → eY o = false → (∀ t ∈ o.looksAt ops, t ∈ rd.getD i []) ∨ ∀ j y, l[j]? = some y → prv.getD j false = true → ii masks i j = true
theorem sj {ops : Array Oper} {l : List Oper} {masks : List Nat} {bar prv : List Bool} {rd : List (List Nat)} {lt : List Bool} (h : oF ops l masks bar prv rd lt = true) : nP ops l masks bar prv rd lt := by
  unfold oF at h
  simp only [Bool.and_eq_true, List.all_eq_true] at h
  obtain ⟨⟨h1, h2⟩, h3⟩ := h
  have m : ∀ (i : Nat) (o : Oper), l[i]? = some o → (o, i) ∈ l.zipIdx := fun i o ho => by
    rw [List.mem_zipIdx_iff_getElem?]; simpa using ho
  constructor
  · intro i o ho; have := h1 _ (m i o ho); simp only [Bool.and_eq_true, beq_iff_eq] at this; exact this.1.1.1
  · intro i o ho j hj
    have := h1 _ (m i o ho)
    simp only [Bool.and_eq_true, List.all_eq_true, decide_eq_true_eq] at this
    exact this.1.1.2 j hj
  · intro i o ho d hd
    have := h1 _ (m i o ho)
    simp only [Bool.and_eq_true, hd, decide_eq_true_eq] at this
    exact this.1.2
  · intro i o ho t ht
    have := h1 _ (m i o ho)
    simp only [Bool.and_eq_true, List.all_eq_true, decide_eq_true_eq] at this
    exact this.2 t ht
  · intro i j x y hx hy lx ly
    have := h2 _ (m i x hx) _ (m j y hy)
    simp only [Bool.and_eq_true, Bool.or_eq_true, Bool.not_eq_true', lx, ly] at this
    simpa using this.1.1
  · intro i j x y hx hy hh
    have := h2 _ (m i x hx) _ (m j y hy)
    simp only [Bool.and_eq_true, Bool.or_eq_true, Bool.not_eq_true', hh] at this
    simpa using this.1.2
  · intro i j x y hx hy hh
    have := h2 _ (m i x hx) _ (m j y hy)
    simp only [Bool.and_eq_true, Bool.or_eq_true, Bool.not_eq_true', hh] at this
    simpa using this.2
  · intro i o ho hq
    have := h3 _ (m i o ho)
    simp only [Bool.or_eq_true, hq, Bool.false_eq_true, false_or, List.all_eq_true] at this
    rcases this with h | h
    · exact .inl fun t ht => by simpa using h t ht
    · right
      intro j y hy hp
      have := h _ (m j y hy)
      simpa only [hp, Bool.not_true, Bool.false_or, Bool.false_eq_true, false_or] using this
theorem nP.bit {ops : Array Oper} {l : List Oper} {masks : List Nat} {bar prv lt : List Bool} {rd : List (List Nat)} (c : nP ops l masks bar prv rd lt) {d : Nat → Bool} (hd : kB l d) : ∀ (i : Nat) (o : Oper), l[i]? = some o → ∀ j, (masks.getD i 0).testBit j = true → j < i ∧ (d i = true → d j = true) := by
  intro i
  induction i using Nat.strongRecOn with
  | _ i ih =>
    intro o ho j hj
    rw [c.mask i o ho] at hj
    obtain ⟨k, hk, h⟩ := kN masks j _ hj
    have hlt := c.lts i o ho k hk
    have hkl : k < l.length := by have := (List.getElem?_eq_some_iff.1 ho).1; omega
    rcases h with rfl | h
    · exact ⟨hlt, fun hi => hd i o ho hi k hk⟩
    · obtain ⟨h1, h2⟩ := ih k hlt l[k] (List.getElem?_eq_getElem hkl) j h
      exact ⟨by omega, fun hi => h2 (hd i o ho hi k hk)⟩
theorem nP.done {ops : Array Oper} {l : List Oper} {masks : List Nat} {bar prv lt : List Bool} {rd : List (List Nat)} (c : nP ops l masks bar prv rd lt) {d : Nat → Bool} (hd : kB l d) {i : Nat} {o : Oper} (ho : l[i]? = some o) (hi : d i = false)
    (hr : ∀ j ∈ fp o, d j = true) {j : Nat} {y : Oper} (hy : l[j]? = some y) (hord : ii masks i j = true ∨ ii masks j i = true) : d j = decide (j < i) := by
  by_cases e : j = i
  · subst e; simp [hi]
  · have hord' : (masks.getD i 0).testBit j = true ∨ (masks.getD j 0).testBit i = true := by
      rcases hord with h | h <;> simp only [ii, Bool.or_eq_true, beq_iff_eq] at h
      · rcases h with (h | h) | h
        · exact (e h.symm).elim
        · exact .inl h
        · exact .inr h
      · rcases h with (h | h) | h
        · exact (e h).elim
        · exact .inr h
        · exact .inl h
    rcases hord' with h | h
    · have hlt := (c.bit hd i o ho j h).1
      rw [c.mask i o ho] at h
      obtain ⟨k, hk, h⟩ := kN masks j _ h
      have hkl : k < l.length := by have := (List.getElem?_eq_some_iff.1 ho).1; have := c.lts i o ho k hk; omega
      have hdj : d j = true := by
        rcases h with rfl | h
        · exact hr k hk
        · exact (c.bit hd k l[k] (List.getElem?_eq_getElem hkl) j h).2 (hr k hk)
      rw [hdj]; simp [hlt]
    · obtain ⟨h1, h2⟩ := c.bit hd j y hy i h
      have hdj : d j = false := by
        cases hh : d j with
        | false => rfl
        | true => rw [h2 hh] at hi; cases hi
      rw [hdj]; simp; omega
def pr (P : Program) (ops : Array Oper) (pv : List Nat) (E : Env) (σ : List OB) (o : Oper) (bar prv : Bool) (rd : List Nat) (lt : Bool) (ts : TS) : Prop :=
  cO ops E o.guard = some ts.γ ∧ dC E o.dst ∧
  ((lt = false ∧ ((∃ C v, a9 P ts.γ E σ o.op = .ok C v ∧ C ∧ (rd.all fun t => pQ pv (E.get t).v) = true ∧ ts.e = ⟨ts.γ, v⟩ ∧ ts.σ = σ) ∨
   (ts.γ = true ∧ ∃ C v, a9 P ts.γ E σ o.op = .upd C v ts.σ ∧ C ∧ ts.e = ⟨true, v⟩ ∧ (bar = true ∨ Ext σ ts.σ ∨ (prv = true ∧ f4 pv σ ts.σ))) ∨
   (∃ C f args r, a9 P ts.γ E σ o.op = .call C f args ∧ (ts.γ = true → C ∧ cR P f args r) ∧ args.all PV.noOwn = true ∧ (∀ n, r.ren (cA n []) = r) ∧ ts.e = ⟨ts.γ, r⟩ ∧ ts.σ = σ) ∨
   (ts.γ = false ∧ ts.e = ⟨true, .t []⟩ ∧ ts.σ = σ) ∨
   (ts.γ = true ∧ ∃ C f args p, a9 P ts.γ E σ o.op = .call C f args ∧ C ∧ jL P σ f args p ts.σ ∧ ts.e = ⟨true, p⟩ ∧ (bar = true ∨ Ext σ ts.σ ∨ (prv = true ∧ f4 pv σ ts.σ))) ∨
   (ts.γ = true ∧ eY o = true ∧ ∃ v, (∀ E', (∀ x ∈ o.op.operands, ev E' x = ev E x) → ∀ G a w, Sim G E' σ a w → nM P G (execOp a.eval o) w v ts.σ) ∧ ts.e = ⟨true, v⟩ ∧ (bar = true ∨ Ext σ ts.σ ∨ (prv = true ∧ f4 pv σ ts.σ))))) ∨
   (ts.γ = true ∧ (∃ v, (∀ E', (∀ x ∈ o.op.operands, ev E' x = ev E x) → ∀ σ' G a w, Sim G E' σ' a w → nM P G (execOp a.eval o) w v σ') ∧ ts.e = ⟨true, v⟩) ∧ ts.σ = σ) ∨
   (ts.γ = false ∧ ts.e = ⟨true, .t []⟩ ∧ ts.σ = σ))
def d9 (P : Program) (ops : Array Oper) (pv : List Nat) : List Oper → List Bool → List Bool → List (List Nat) → List Bool → Env → List OB → List TS → Prop
  | [], _, _, _, _, _, _, tr => tr = []
  | o :: l, bs, ps, rd, lt, E, σ, tr => ∃ ts r, tr = ts :: r ∧ pr P ops pv E σ o (bs.headD false) (ps.headD false) (rd.headD []) (lt.headD false) ts ∧ d9 P ops pv l bs.tail ps.tail rd.tail lt.tail (E.putD o.dst ts.e) ts.σ r
section
variable {P : Program} {ops : Array Oper} {pv : List Nat}
theorem nk : ∀ (l : List Bool) (i : Nat), l[i]? = some false → (l.set i true).count false + 1 = l.count false
  | [], i, h => by simp at h
  | b :: l, 0, h => by
    simp only [List.getElem?_cons_zero, sJ] at h
    subst h
    simp
  | b :: l, i + 1, h => by
    have := nk l i (by simpa using h)
    simp only [List.set_cons_succ, List.count_cons]
    omega
theorem Inv.drawn {G : Gh} {σ : List OB} {w : World} (h : Inv G σ w) : Inv G σ { w with drawn := w.drawn + 1 } :=
  ⟨h.hH, h.hF, h.HF, h.len, fun b ob hb => (h.own b ob hb).keep (fun _ _ h => h) (aY.refl _) rfl (fun _ _ _ => rfl), h.inj, h.sep, h.os, h.tape, h.output, h.grow⟩
theorem jM {σ : List OB} {tr : List TS} (l : List Oper) (hlen : tr.length = l.length) (p : Nat) : ∀ (q : Nat), p ≤ q → q ≤ l.length → (∀ j, p ≤ j → j < q → f4 pv (aG σ tr j) (aG σ tr (j + 1))) → f4 pv (aG σ tr p) (aG σ tr q)
  | 0, h, _, _ => by have : p = 0 := by omega
                     subst this; exact f4.refl _ _
  | q + 1, h, hq, he => by
    by_cases e : p = q + 1
    · subst e; exact f4.refl _ _
    · exact (jM l hlen p q (by omega) (by omega) fun j h1 h2 => he j h1 (by omega)).trans (he q (by omega) (by omega))
theorem pt {v : Value} {c : CV} (h : gx v = some c) : jo (.c c) = none := by
  unfold gx at h
  split at h <;> first | (cases h; rfl) | cases h
theorem rj (v : Value) : jo (kd v).v = none := by
  unfold kd
  split
  · split <;> rfl
  · split
    · rename_i h; exact pt h
    · rfl
theorem pu {l : List Oper} {masks : List Nat} {bs ps lt : List Bool} {rd : List (List Nat)} (c : nP l.toArray l masks bs ps rd lt) {listed : Array Bool} (hs : listed.size = l.length) (h : Region.ready .any l.toArray listed = []) : ∀ i, i < l.length → listed.getD i false = true := by
  intro i
  induction i using Nat.strongRecOn with
  | _ i ih =>
    intro hi
    cases hd : listed.getD i false with
    | true => rfl
    | false =>
      exfalso
      have ho := List.getElem?_eq_getElem hi
      have : i ∈ Region.ready .any l.toArray listed := by
        refine mem_ready.2 ⟨?_, l[i], by simp, fun e he hb => ?_⟩
        · rw [Array.getD_eq_getD_getElem?] at hd ⊢
          rw [Array.getElem?_eq_getElem (by omega)] at hd ⊢
          simpa using hd
        · have hlt := c.lts i _ ho e.on (by simp only [fp, List.mem_map, List.mem_filter]; exact ⟨e, ⟨by simpa using he, hb⟩, rfl⟩)
          exact ih e.on hlt (by omega)
      rw [h] at this; simp at this
def kC (lt : List Bool) (l : List Oper) (tr : List TS) (E : Env) (σ : List OB) (G0 : Gh) (listed : Array Bool) (a : Act) (w : World) : Prop :=
  listed.size = l.length ∧ kB l (fun i => listed.getD i false) ∧
  ∃ G p, Gle G0 G ∧ p ≤ l.length ∧ (∀ (j : Nat) (o : Oper), l[j]? = some o → ld lt j o = true → listed.getD j false = decide (j < p)) ∧
    Inv G (aG σ tr p) w ∧ a.defers = G.w0.ds ∧ a.tmps.size = E.n ∧ G.na = E.na ∧
    ∀ t, t < 512 → (eM t l tr (fun i => listed.getD i false) (E.get t)).cond = true → aB G (eM t l tr (fun i => listed.getD i false) (E.get t)).v (a.tmps.getD t undef)
theorem d9.at : ∀ {l : List Oper} {bs ps : List Bool} {rd : List (List Nat)} {lt : List Bool} {E : Env} {σ : List OB} {tr : List TS}, d9 P ops pv l bs ps rd lt E σ tr → tr.length = l.length ∧
    ∀ (i : Nat) (o : Oper), l[i]? = some o → ∃ ts, tr[i]? = some ts ∧ pr P ops pv (cd E l tr i) (aG σ tr i) o (bs.getD i false) (ps.getD i false) (rd.getD i []) (lt.getD i false) ts ∧ aG σ tr (i + 1) = ts.σ
  | [], bs, ps, rd, lt, E, σ, tr, h => by simp only [d9] at h; subst h; exact ⟨rfl, fun i o h => by simp at h⟩
  | o :: l, bs, ps, rd, lt, E, σ, tr, h => by
    obtain ⟨ts, r, rfl, h1, h2⟩ := h
    obtain ⟨h3, h4⟩ := d9.at h2
    refine ⟨by simp [h3], fun i o' ho => ?_⟩
    cases i with
    | zero =>
      simp only [List.getElem?_cons_zero, sJ] at ho
      subst ho
      refine ⟨ts, rfl, ?_, ?_⟩
      · cases bs <;> cases ps <;> cases rd <;> cases lt <;> exact h1
      · cases r <;> rfl
    | succ i =>
      obtain ⟨ts', k1, k2, k3⟩ := h4 i o' (by simpa using ho)
      refine ⟨ts', by simpa using k1, ?_, ?_⟩
      · cases bs <;> cases ps <;> cases rd <;> cases lt <;> simpa [cd, aG] using k2
      · simpa [aG] using k3
theorem jN {l : List Oper} {bs ps : List Bool} {rd : List (List Nat)} {lt : List Bool} {E : Env} {σ : List OB} {tr : List TS} (ht : d9 P ops pv l bs ps rd lt E σ tr) {j : Nat} {o : Oper} (ho : l[j]? = some o) (hq : ld lt j o = false) : aG σ tr (j + 1) = aG σ tr j := by
  obtain ⟨_, h⟩ := ht.at
  obtain ⟨ts, _, h2, h3⟩ := h j o ho
  rw [h3]
  rcases h2.2.2 with ⟨hlt, h2⟩ | ⟨_, _, h⟩ | ⟨_, _, h⟩
  rotate_left
  · exact h
  · exact h
  have hq : eY o = false := by unfold ld at hq; rw [hlt] at hq; simpa using hq
  obtain ⟨q1, q2⟩ := kz (P := P) (γ := ts.γ) (E := cd E l tr j) (σ := aG σ tr j) hq
  rcases h2 with ⟨_, _, _, _, _, _, h⟩ | ⟨_, C, v, h, _⟩ | ⟨C, f, args, r, h, _⟩ | ⟨_, _, h⟩ | ⟨_, C, f, args, p, h, _⟩ | ⟨_, h, _⟩
  · exact h
  · exact (q1 _ _ _ h).elim
  · exact (q2 _ _ _ h).elim
  · exact h
  · exact (q2 _ _ _ h).elim
  · rw [hq] at h; cases h
theorem kD {l : List Oper} {bs ps : List Bool} {rd : List (List Nat)} {lt : List Bool} {E : Env} {σ : List OB} {tr : List TS} (ht : d9 P ops pv l bs ps rd lt E σ tr) {p q : Nat} (hpq : p ≤ q) (hq : q ≤ l.length)
    (h : ∀ (j : Nat) (o : Oper), l[j]? = some o → p ≤ j → j < q → ld lt j o = false) : aG σ tr q = aG σ tr p := by
  induction q with
  | zero => have : p = 0 := by omega
            subst this; rfl
  | succ q ih =>
    by_cases e : p = q + 1
    · subst e; rfl
    · have hl : q < l.length := by omega
      rw [jN ht (List.getElem?_eq_getElem hl) (h q _ (List.getElem?_eq_getElem hl) (by omega) (by omega))]
      exact ih (by omega) (by omega) fun j o ho h1 h2 => h j o ho h1 (by omega)
theorem mn {l : List Oper} {bs ps : List Bool} {rd : List (List Nat)} {lt : List Bool} {E : Env} {σ : List OB} {tr : List TS} (ht : d9 P ops pv l bs ps rd lt E σ tr) {j : Nat} {o : Oper} (ho : l[j]? = some o) (hb : bs.getD j false = false) :
    (ps.getD j false = false → Ext (aG σ tr j) (aG σ tr (j + 1))) ∧ f4 pv (aG σ tr j) (aG σ tr (j + 1)) := by
  obtain ⟨_, h⟩ := ht.at
  obtain ⟨ts, _, h2, h3⟩ := h j o ho
  rw [h3]
  have same : ∀ σ' : List OB, σ' = aG σ tr j → (ps.getD j false = false → Ext (aG σ tr j) σ') ∧ f4 pv (aG σ tr j) σ' := fun σ' e => by
    subst e; exact ⟨fun _ => ⟨[], by simp⟩, f4.refl _ _⟩
  have ext : Ext (aG σ tr j) ts.σ → (ps.getD j false = false → Ext (aG σ tr j) ts.σ) ∧ f4 pv (aG σ tr j) ts.σ := fun e => ⟨fun _ => e, .of_ext e⟩
  rcases h2.2.2 with ⟨_, h2⟩ | ⟨_, _, h⟩ | ⟨_, _, h⟩
  rotate_left
  · exact same _ h
  · exact same _ h
  rcases h2 with ⟨_, _, _, _, _, _, h⟩ | ⟨_, C, v, h, _, _, h'⟩ | ⟨C, f, args, r, h, _, _, _, _, h'⟩ | ⟨_, _, h'⟩ | ⟨_, C, f, args, p, h, _, _, _, h'⟩ | ⟨_, _, v, _, _, h'⟩
  · exact same _ h
  · rcases h' with h' | h' | ⟨h', h''⟩
    · rw [hb] at h'; cases h'
    · exact ext h'
    · exact ⟨fun hp => by (rw [hp] at h'; cases h'), h''⟩
  · exact same _ h'
  · exact same _ h'
  · rcases h' with h' | h' | ⟨h', h''⟩
    · rw [hb] at h'; cases h'
    · exact ext h'
    · exact ⟨fun hp => by (rw [hp] at h'; cases h'), h''⟩
  · rcases h' with h' | h' | ⟨h', h''⟩
    · rw [hb] at h'; cases h'
    · exact ext h'
    · exact ⟨fun hp => by (rw [hp] at h'; cases h'), h''⟩
theorem kC.stepQ {l : List Oper} {bs ps : List Bool} {rd : List (List Nat)} {lt : List Bool} {masks : List Nat} {E : Env} {σ : List OB} {tr : List TS} (c : nP l.toArray l masks bs ps rd lt) (ht : d9 P l.toArray pv l bs ps rd lt E σ tr) (G0 : Gh) {Q : Exit → Act → World → Prop} (listed : Array Bool) (a : Act) (w : World) (i : Nat)
    (hJ : kC lt l tr E σ G0 listed a w) (hready : i ∈ Region.ready .any l.toArray listed) : wpOp P l.toArray Q i (kC lt l tr E σ G0 (listed.setIfInBounds i true)) a w := by
  obtain ⟨hsz, hcl, G, p, hG, hp, hloud, hinv, hdef, htm, hna, hslot⟩ := hJ
  obtain ⟨hun, o, ho', hdeps⟩ := mem_ready.1 hready
  have ho : l[i]? = some o := by simpa using ho'
  have hil : i < l.length := (List.getElem?_eq_some_iff.1 ho).1
  have hi0 : listed.getD i false = false := by
    rw [Array.getD_eq_getD_getElem?] at hun ⊢
    rw [Array.getElem?_eq_getElem (by omega)] at hun ⊢
    simpa using hun
  have hr : ∀ j ∈ fp o, listed.getD j false = true := by
    intro j hj
    simp only [fp, List.mem_map, List.mem_filter] at hj
    obtain ⟨e, ⟨h1, h2⟩, rfl⟩ := hj
    exact hdeps e (by simpa using h1) h2
  have hdone := fun {j : Nat} {y : Oper} (hy : l[j]? = some y) (hord : ii masks i j = true ∨ ii masks j i = true) => c.done hcl ho hi0 hr hy hord
  obtain ⟨htl, hat⟩ := ht.at
  obtain ⟨ts, hts, ⟨hguard, hdst, hstep⟩, hnext⟩ := hat i o ho
  have hcl' : kB l (fun k => (listed.setIfInBounds i true).getD k false) := by
    intro k ok hk hd j hj
    simp only at hd ⊢
    rw [si _ _ _ (by omega)] at hd ⊢
    by_cases e : k = i
    · subst e; rw [ho] at hk; simp only [sJ] at hk; subst hk
      by_cases e' : j = k
      · rw [iP e']
      · rw [iN e']; exact hr j hj
    · rw [iN e] at hd
      by_cases e' : j = i
      · rw [iP e']
      · rw [iN e']; exact hcl k ok hk hd j hj
  have hsz' : (listed.setIfInBounds i true).size = l.length := by simpa using hsz
  have hEn := nO l tr E i
  have hlook := c.look i o ho
  have hreads : ∀ t ∈ o.looksAt l.toArray, (cd E l tr i).get t = eM t l tr (fun j => listed.getD j false) (E.get t) := by
    intro t htm'
    rw [li t l tr E i (fun j o x hj hd => c.dst j o hj x hd) htl]
    apply gq
    intro j y hy hd
    refine (hdone hy (.inr ?_)).symm
    refine c.hit j i y o hy ho ?_
    simp only [qu, hd, Bool.or_eq_true]
    left
    simpa using htm'
  have hres := kQ (cd E l tr i) (o.looksAt l.toArray)
  have hgetr : ∀ t ∈ o.looksAt l.toArray, (er (cd E l tr i) (o.looksAt l.toArray)).get t = (cd E l tr i).get t := fun t h => (hres t hlook).1 h
  have hsim : Sim G (er (cd E l tr i) (o.looksAt l.toArray)) (aG σ tr p) a w := by
    refine ⟨hinv, hdef, by rw [(kA _ _).1, hEn.1]; exact htm, by rw [(kA _ _).2, hEn.2]; exact hna, fun t hc => ?_⟩
    by_cases hmem : t ∈ o.looksAt l.toArray
    · rw [hgetr t hmem, hreads t hmem] at hc ⊢
      exact hslot t (hlook t hmem) hc
    · rw [(hres t hlook).2 hmem] at hc; cases hc
  have hops : ∀ x ∈ o.op.operands, ev (er (cd E l tr i) (o.looksAt l.toArray)) x = ev (cd E l tr i) x := by
    intro x hx
    refine ri (ts := o.looksAt l.toArray) (fun t h => hgetr t h) x fun t e => ?_
    subst e
    simp only [Oper.looksAt, List.mem_append, List.mem_filterMap]
    left
    exact ⟨.tmp t, by simpa using hx, rfl⟩
  have hguard' : cO l.toArray (er (cd E l tr i) (o.looksAt l.toArray)) o.guard = some ts.γ := by
    rw [m5 o hgetr]; exact hguard
  have hwant := ix (P := P) hsim hguard'
  have hdlt : ∀ d, o.dst = some d → d < a.tmps.size := by
    intro d hd
    rw [htm]
    rw [hd] at hdst
    have h' : d < (cd E l tr i).n := hdst
    rwa [hEn.1] at h'
  have hslot' : ∀ (G' : Gh) (val : Value), (∀ q v, aB G q v → aB G' q v) → (ts.e.cond = true → aB G' ts.e.v val) → ∀ t, t < 512 →
      (eM t l tr (fun k => (listed.setIfInBounds i true).getD k false) (E.get t)).cond = true →
      aB G' (eM t l tr (fun k => (listed.setIfInBounds i true).getD k false) (E.get t)).v ((a.put o.dst val).tmps.getD t undef) := by
    intro G' val hmono hval t ht512 hc
    have hfun : (fun k => (listed.setIfInBounds i true).getD k false) = (fun k => if k = i then true else listed.getD k false) := by
      funext k; exact si _ _ _ (by omega)
    rw [hfun] at hc ⊢
    by_cases hd : o.dst = some t
    · rw [nj t l tr _ _ i o ts ho hts hd (fun j y hy hdy hij => by
          have := hdone hy (.inr (c.hit j i y o hy ho (by simp [qu, hdy, hd])))
          rw [this]; simp; omega)] at hc ⊢
      have hlt := hdlt t hd
      have : (a.put o.dst val).tmps.getD t undef = val := by rw [hd]; simp [Act.put, Array.getD, hlt]
      rw [this]; exact hval hc
    · rw [oE t l tr _ _ i o ho hd] at hc ⊢
      have : (a.put o.dst val).tmps.getD t undef = a.tmps.getD t undef := by
        cases hod : o.dst with
        | none => rfl
        | some d =>
          have hne : d ≠ t := fun e => hd (by rw [hod, e])
          simp only [Act.put, Array.getD_eq_getD_getElem?]
          rw [Array.getElem?_setIfInBounds_ne hne]
      rw [this]
      exact hmono _ _ (hslot t ht512 hc)
  have hput : ∀ val, (a.put o.dst val).defers = G.w0.ds ∧ (a.put o.dst val).tmps.size = E.n := by
    intro val; cases o.dst <;> simp [Act.put, hdef, htm]
  have hheap : ld lt i o = true → aG σ tr p = aG σ tr i := by
    intro hl
    have key : ∀ (j : Nat) (y : Oper), l[j]? = some y → ld lt j y = true → (j < p ↔ j < i) := by
      intro j y hy hly
      have h1 := hloud j y hy hly
      have h2 := hdone hy (.inl (c.loud i j o y ho hy hl hly))
      rw [h2] at h1
      simpa using h1.symm
    rcases Nat.le_total p i with h | h
    · exact (kD ht h (by omega) fun j y hy h1 h2 => by
        cases hly : ld lt j y with
        | false => rfl
        | true => have := (key j y hy hly).2 h2; omega).symm
    · exact kD ht h hp fun j y hy h1 h2 => by
        cases hly : ld lt j y with
        | false => rfl
        | true => have := (key j y hy hly).1 h2; omega
  have hloud' : ld lt i o = true → ∀ (j : Nat) (y : Oper), l[j]? = some y → ld lt j y = true → (listed.setIfInBounds i true).getD j false = decide (j < i + 1) := by
    intro hl j y hy hly
    rw [si _ _ _ (by omega)]
    by_cases e : j = i
    · subst e; simp
    · rw [iN e, hdone hy (.inl (c.loud i j o y ho hy hl hly))]
      simp; omega
  have hquiet' : ld lt i o = false → ∀ (j : Nat) (y : Oper), l[j]? = some y → ld lt j y = true → (listed.setIfInBounds i true).getD j false = decide (j < p) := by
    intro hl j y hy hly
    rw [si _ _ _ (by omega)]
    by_cases e : j = i
    · subst e; rw [ho] at hy; simp only [sJ] at hy; subst hy; rw [hl] at hly; cases hly
    · rw [iN e]; exact hloud j y hy hly
  have stay : ∀ (G' : Gh) (w' : World) (val : Value), Gle G G' → aY G.own G'.own → Inv G' (aG σ tr p) w' → ts.σ = aG σ tr i → (ts.e.cond = true → aB G' ts.e.v val) → kC lt l tr E σ G0 (listed.setIfInBounds i true) (a.put o.dst val) w' := by
    intro G' w' val h1 h2 h3 h4 h5
    refine ⟨hsz', hcl', ?_⟩
    have hm : ∀ q v, aB G q v → aB G' q v := fun q v h => aB.mono h1.le.H h2 h
    cases hl : ld lt i o with
    | true =>
      refine ⟨G', i + 1, hG.trans h1, by omega, hloud' hl, ?_, (hput val).1.trans (by rw [h1.le.w0]), (hput val).2, h1.le.na.trans hna, hslot' G' val hm h5⟩
      rw [hnext, h4, ← hheap hl]; exact h3
    | false => exact ⟨G', p, hG.trans h1, hp, hquiet' hl, h3, (hput val).1.trans (by rw [h1.le.w0]), (hput val).2, h1.le.na.trans hna, hslot' G' val hm h5⟩
  unfold wpOp
  simp only [ho']
  have skip : ts.γ = false → (ts.e.cond = true → aB G ts.e.v undef) → ts.σ = aG σ tr i → (if Region.wanted o (yielded l.toArray a.tmps) = true then o.wp P a w (kC lt l tr E σ G0 (listed.setIfInBounds i true)) Q ∨ (o.asks P a w ∧ LetsOut Q) else kC lt l tr E σ G0 (listed.setIfInBounds i true) (a.put o.dst undef) w) := by
    intro hγ hc hσ
    rw [iN (by rw [hwant, hγ]; simp)]
    exact stay G w undef (Gle.refl G) (aY.refl _) hinv hσ hc
  rcases hstep with ⟨hlt, hstep⟩ | ⟨hγ, ⟨v, hx, he⟩, hσ⟩ | ⟨hγ, he, hσ⟩
  rotate_left
  · rw [iP (by rw [hwant, hγ])]
    left
    obtain ⟨nx, val, w', G', e1, e2, e3, e4, e5, e6⟩ := hx _ hops _ G a w hsim
    have hfin := stay G' w' val (Gle.mk' e3 e4) e4 e5 hσ (fun _ => by rw [he]; exact e6)
    unfold Oper.wp
    rw [e1]
    rcases e2 with rfl | ⟨rfl, rfl⟩
    · exact hfin
    · exact hfin
  · exact skip hγ (by rw [he]; exact fun _ => ⟨[], rfl, trivial⟩) hσ
  have hld : ld lt i o = eY o := by unfold ld; rw [hlt]; simp
  rcases hstep with ⟨C, v, hrun, hC, hrd, he, hσ⟩ | ⟨hγ, C, v, hrun, hC, he, _⟩ | ⟨C, f, args, r, hrun, hC, hargs, hres', he, hσ⟩ | ⟨hγ, he, hσ⟩ | ⟨hγ, C, f, args, r, hrun, hC, hto, he, _⟩ | ⟨hγ, hl, v, hx, he, _⟩
  · cases hγ : ts.γ with
    | false => exact skip hγ (by rw [he, hγ]; intro h; cases h) hσ
    | true =>
      rw [iP (by rw [hwant, hγ])]
      left
      rw [hγ] at hrun
      have hrun1 := (jn (P := P) (γ := true) (σ := aG σ tr i) o.op hops).trans hrun
      have hlo : eY o = false ∨ eY o = true := by cases eY o <;> simp
      have notbar : ∀ (j : Nat) (y : Oper), l[j]? = some y → ld lt j y = true → listed.getD j false ≠ decide (j < i) → bs.getD j false = false := by
        intro j y hy hly hne
        cases hb : bs.getD j false with
        | false => rfl
        | true => exact (hne (hdone hy (.inr (c.bar j i y o hy ho hb)))).elim
      have one : ∀ (j : Nat), j < l.length → (∀ y, l[j]? = some y → ld lt j y = true → listed.getD j false ≠ decide (j < i)) → f4 pv (aG σ tr j) (aG σ tr (j + 1)) := by
        intro j hj hne
        have hy := List.getElem?_eq_getElem hj
        cases hly : ld lt j l[j] with
        | false => rw [jN ht hy hly]; exact f4.refl _ _
        | true => exact (mn ht hy (notbar j _ hy hly (hne _ hy hly))).2
      have onePv : (∀ j y, l[j]? = some y → ps.getD j false = true → ii masks i j = true) → ∀ (j : Nat), j < l.length → (∀ y, l[j]? = some y → ld lt j y = true → listed.getD j false ≠ decide (j < i)) → f4 [] (aG σ tr j) (aG σ tr (j + 1)) := by
        intro hord j hj hne
        have hy := List.getElem?_eq_getElem hj
        cases hly : ld lt j l[j] with
        | false => rw [jN ht hy hly]; exact f4.refl _ _
        | true =>
          refine .of_ext ((mn ht hy (notbar j _ hy hly (hne _ hy hly))).1 ?_)
          cases hp : ps.getD j false with
          | false => rfl
          | true => exact (hne _ hy hly (hdone hy (.inl (hord j _ hy hp)))).elim
      have reach : ∀ (q : List Nat), (∀ (j : Nat), j < l.length → (∀ y, l[j]? = some y → ld lt j y = true → listed.getD j false ≠ decide (j < i)) → f4 q (aG σ tr j) (aG σ tr (j + 1))) → f4 q (aG σ tr p) (aG σ tr i) ∨ f4 q (aG σ tr i) (aG σ tr p) := by
        intro q hone
        rcases Nat.le_total p i with h | h
        · left
          refine jM l htl p i h (by omega) fun j h1 h2 => hone j (by omega) fun y hy hly => ?_
          rw [hloud j y hy hly]; simp; omega
        · right
          refine jM l htl i p h hp fun j h1 h2 => hone j (by omega) fun y hy hly => ?_
          rw [hloud j y hy hly]; simp; omega
      have fromNear : ∀ (q : List Nat) (b : Nat) (ob : OB), f4 q (aG σ tr p) (aG σ tr i) ∨ f4 q (aG σ tr i) (aG σ tr p) → b ∉ q → b < (aG σ tr p).length → (aG σ tr i)[b]? = some ob → (aG σ tr p)[b]? = some ob := by
        intro q b ob hn hb hlt hob
        rcases hn with h | h
        · rw [← h.2 b hb hlt]; exact hob
        · rw [h.2 b hb (List.getElem?_eq_some_iff.1 hob).1]; exact hob
      obtain ⟨C', hrun2, hC'⟩ := qv (σ' := aG σ tr p) hrun1 hC (fun x hc b ob htop hb => by
        have hlt := qx hinv (cj hsim x hc) htop
        rcases hlo with hl | hl
        · rcases c.see i o ho hl with hsee | hsee
          · refine fromNear pv b ob (reach pv one) ?_ hlt hb
            cases x with
            | tmp t =>
              by_cases hmem : t ∈ o.looksAt l.toArray
              · have h1 := List.all_eq_true.1 hrd t (hsee t hmem)
                have h2 : (er (cd E l tr i) (o.looksAt l.toArray)).get t = (cd E l tr i).get t := hgetr t hmem
                have htop' : jo ((cd E l tr i).get t).v = some b := by rw [← h2]; exact htop
                simp only [pQ, htop'] at h1
                simpa using h1
              · exfalso
                have : ((er (cd E l tr i) (o.looksAt l.toArray)).get t).cond = true := hc
                rw [(hres t hlook).2 hmem] at this; cases this
            | const v =>
              exfalso
              have h1 : jo (kd v).v = some b := htop
              rw [rj] at h1; cases h1
            | func f => cases htop
            | global g => cases htop
          · exact fromNear [] b ob (reach [] (onePv hsee)) (by simp) hlt hb
        · rw [hheap (hld.trans hl)]; exact hb)
      obtain ⟨val, e1, e2⟩ := pN hsim rfl o hrun2 hC'
      unfold Oper.wp
      rw [e1]
      exact stay G w val (Gle.refl G) (aY.refl _) hinv hσ fun _ => by rw [he]; exact e2
  · rw [iP (by rw [hwant, hγ])]
    left
    rw [hγ] at hrun
    have hl : ld lt i o = true := by
      rw [hld]
      cases hl : eY o with
      | true => rfl
      | false => exact ((kz hl).1 _ _ _ hrun).elim
    have hrun1 := (jn (P := P) (γ := true) (σ := aG σ tr i) o.op hops).trans hrun
    rw [← hheap hl] at hrun1
    obtain ⟨nx, val, w', G', e1, e2, e3, e4, e5, e6⟩ := oD hsim rfl o hrun1 hC
    have hfin : kC lt l tr E σ G0 (listed.setIfInBounds i true) (a.put o.dst val) w' :=
      ⟨hsz', hcl', G', i + 1, hG.trans (Gle.mk' e3 e4), by omega, hloud' hl, by rw [hnext]; exact e5, (hput val).1.trans (by rw [e3.w0]), (hput val).2, e3.na.trans hna,
        hslot' G' val (fun q v h => aB.mono e3.H e4 h) fun _ => by rw [he]; exact e6⟩
    unfold Oper.wp
    rw [e1]
    rcases e2 with rfl | ⟨rfl, rfl⟩
    · exact hfin
    · exact hfin
  · cases hγ : ts.γ with
    | false => exact skip hγ (by rw [he, hγ]; intro h; cases h) hσ
    | true =>
      rw [iP (by rw [hwant, hγ])]
      left
      rw [hγ] at hrun
      obtain ⟨hC1, hspec⟩ := hC hγ
      have hrun1 := (jn (P := P) (γ := true) (σ := aG σ tr i) o.op hops).trans hrun
      have hrun2 := mm (σ' := aG σ tr p) hrun1
      exact qw hsim o hrun2 hC1 hspec hargs hres' fun G' w' v h1 h2 h3 h4 => stay G' w' v h1 h2 h3 hσ fun _ => by rw [he]; exact h4
  · exact skip hγ (by rw [he]; exact fun _ => ⟨[], rfl, trivial⟩) hσ
  · rw [iP (by rw [hwant, hγ])]
    left
    rw [hγ] at hrun
    have hl : ld lt i o = true := by
      rw [hld]
      cases hl : eY o with
      | true => rfl
      | false => exact ((kz hl).2 _ _ _ hrun).elim
    have hrun1 := (jn (P := P) (γ := true) (σ := aG σ tr i) o.op hops).trans hrun
    rw [← hheap hl] at hrun1 hto
    exact pq hsim o hrun1 hC hto fun G' w' v h1 h2 h3 h4 h5 =>
      ⟨hsz', hcl', G', i + 1, hG.trans h1, by omega, hloud' hl, by rw [hnext]; exact h4, (hput v).1.trans (by rw [h1.le.w0]), (hput v).2, h1.le.na.trans hna,
        hslot' G' v (fun q v h => aB.mono h2 h3 h) fun _ => by rw [he]; exact h5⟩
  · rw [iP (by rw [hwant, hγ])]
    left
    have hl : ld lt i o = true := hld.trans hl
    rw [← hheap hl] at hx
    obtain ⟨nx, val, w', G', e1, e2, e3, e4, e5, e6⟩ := hx _ hops G a w hsim
    have hfin : kC lt l tr E σ G0 (listed.setIfInBounds i true) (a.put o.dst val) w' :=
      ⟨hsz', hcl', G', i + 1, hG.trans (Gle.mk' e3 e4), by omega, hloud' hl, by rw [hnext]; exact e5, (hput val).1.trans (by rw [e3.w0]), (hput val).2, e3.na.trans hna,
        hslot' G' val (fun q v h => aB.mono e3.H e4 h) fun _ => by rw [he]; exact e6⟩
    unfold Oper.wp
    rw [e1]
    rcases e2 with rfl | ⟨rfl, rfl⟩
    · exact hfin
    · exact hfin
theorem qy {l : List Oper} {masks : List Nat} {bs ps : List Bool} {rd : List (List Nat)} {lt : List Bool} {E : Env} {σ : List OB} {tr : List TS} (c : nP l.toArray l masks bs ps rd lt) (ht : d9 P l.toArray pv l bs ps rd lt E σ tr) (G0 : Gh) {Q : Exit → Act → World → Prop}
    (fin : ∀ G a w, Gle G0 G → Sim G (cd E l tr l.length) (aG σ tr l.length) a w → Q .normal a w) :
    ∀ (fuel : Nat) (listed : Array Bool) (a : Act) (w : World), listed.toList.count false ≤ fuel → kC lt l tr E σ G0 listed a w → wpAny P .any l.toArray Q fuel listed a w := by
  have done : ∀ (listed : Array Bool) (a : Act) (w : World), kC lt l tr E σ G0 listed a w → Region.ready .any l.toArray listed = [] → Q .normal a w := by
    intro listed a w hJ hr
    obtain ⟨hsz, hcl, G, p, hG, hp, hloud, hinv, hdef, htm, hna, hslot⟩ := hJ
    have hall := pu c hsz hr
    obtain ⟨htl, hat⟩ := ht.at
    have hE := nO l tr E l.length
    have hheap : aG σ tr l.length = aG σ tr p := kD ht hp (Nat.le_refl _) fun j y hy h1 h2 => by
      cases hly : ld lt j y with
      | false => rfl
      | true =>
        have := hloud j y hy hly
        rw [hall j h2] at this
        have : j < p := by simpa using this.symm
        omega
    refine fin G a w hG ⟨by rw [hheap]; exact hinv, hdef, by rw [hE.1]; exact htm, by rw [hE.2]; exact hna, fun t hc => ?_⟩
    by_cases h512 : t < 512
    · have hg : (cd E l tr l.length).get t = eM t l tr (fun i => listed.getD i false) (E.get t) := by
        rw [li t l tr E l.length (fun j o x hj hd => c.dst j o hj x hd) htl]
        apply gq
        intro j y hy _
        have hlt := (List.getElem?_eq_some_iff.1 hy).1
        simp [hlt, hall j hlt]
      rw [hg] at hc ⊢
      exact hslot t h512 hc
    · rw [Env.get_big _ t (by omega)] at hc; cases hc
  intro fuel
  induction fuel with
  | zero =>
    intro listed a w hf hJ
    have hr : Region.ready .any l.toArray listed = [] := by
      rw [List.eq_nil_iff_forall_not_mem]
      intro i hi
      obtain ⟨h1, o, ho, _⟩ := mem_ready.1 hi
      have hlt : i < listed.size := by rw [hJ.1]; have := (Array.getElem?_eq_some_iff.1 ho).1; simpa using this
      have : listed.toList[i]? = some false := by
        rw [Array.getD_eq_getD_getElem?, Array.getElem?_eq_getElem hlt] at h1
        rw [Array.getElem?_toList, Array.getElem?_eq_getElem hlt]
        simpa using h1
      have hpos := List.count_pos_iff.2 (List.mem_of_getElem? this)
      omega
    exact ⟨hr, done listed a w hJ hr⟩
  | succ fuel ih =>
    intro listed a w hf hJ
    refine ⟨fun hr => done listed a w hJ hr, fun i hi => ?_⟩
    have hstep := kC.stepQ (Q := Q) c ht G0 listed a w i hJ hi
    refine wpOp_mono (fun a' w' hJ' => ih _ a' w' ?_ hJ') hstep
    obtain ⟨h1, o, ho, _⟩ := mem_ready.1 hi
    have hlt : i < listed.size := by rw [hJ.1]; have := (Array.getElem?_eq_some_iff.1 ho).1; simpa using this
    have : listed.toList[i]? = some false := by
      rw [Array.getD_eq_getD_getElem?, Array.getElem?_eq_getElem hlt] at h1
      rw [Array.getElem?_toList, Array.getElem?_eq_getElem hlt]
      simpa using h1
    have hc := nk _ _ this
    simp only [Array.toList_setIfInBounds]
    omega
def TRQ (P : Program) (ops : Array Oper) (pv : List Nat) (l : List Oper) (bs ps : List Bool) (rd : List (List Nat)) (lt : List Bool) (E : Env) (σ : List OB) (k : Env → List OB → Prop) : Prop :=
  ∃ tr, d9 P ops pv l bs ps rd lt E σ tr ∧ k (cd E l tr l.length) (aG σ tr l.length)
theorem nQ {id : Nat} {l : List Oper} {K : Kt} {E : Env} {σ : List OB} (hm : P.follows .mixedOrders = true) (pv masks : List Nat) (bs ps : List Bool) (rd : List (List Nat)) (lt : List Bool) (hc : oF l.toArray l masks bs ps rd lt = true)
    (h : TRQ P l.toArray pv l bs ps rd lt E σ (K .normal)) : W P (.region id l.toArray true) K E σ := fun G a w hs => by
  obtain ⟨tr, ht, hk⟩ := h
  refine wp_region_any hm ?_
  refine qy (sj hc) ht G (fun G' a' w' hG hs' => ⟨G', _, _, .normal, hG, hs', rfl, hk⟩) _ _ a _ ?_ ?_
  · simp
  · have hfalse : ∀ i, (Array.replicate l.length false).getD i false = false := by
      intro i
      rw [Array.getD_eq_getD_getElem?, Array.getElem?_replicate]
      split <;> rfl
    refine ⟨by simp, fun i o ho hd => by simp [hfalse] at hd, G, 0, Gle.refl G, by omega, fun j o ho hl => by simp [hfalse], ?_, hs.defers, hs.size, hs.na, fun t ht hc => ?_⟩
    · have : aG σ tr 0 = σ := by cases tr <;> rfl
      rw [this]; exact hs.inv.drawn
    · have : eM t l tr (fun i => (Array.replicate l.length false).getD i false) (E.get t) = E.get t := ky t l tr _ _ fun j o _ _ => hfalse j
      simp only [List.size_toArray] at hc ⊢
      rw [this] at hc ⊢
      exact hs.slot t hc
theorem d9.of {ops : Array Oper} : ∀ {l : List Oper} {bs : List Bool} {E : Env} {σ : List OB} {tr : List TS}, kO P ops l bs E σ tr → d9 P ops [] l bs [] [] [] E σ tr
  | [], _, _, _, _, h => h
  | o :: l, bs, E, σ, tr, ⟨ts, r, h1, ⟨h2, h3, h4⟩, h5⟩ => by
    refine ⟨ts, r, h1, ⟨h2, h3, .inl ⟨rfl, ?_⟩⟩, d9.of h5⟩
    rcases h4 with ⟨C, v, a, b, c, d⟩ | ⟨a, C, v, b, c, d, e⟩ | h | h | h | h
    · exact .inl ⟨C, v, a, b, rfl, c, d⟩
    · exact .inr (.inl ⟨a, C, v, b, c, d, e.imp id .inl⟩)
    · exact .inr (.inr (.inl h))
    · exact .inr (.inr (.inr (.inl h)))
    · obtain ⟨a, C, f, args, p, b, c, d, e, g⟩ := h
      exact .inr (.inr (.inr (.inr (.inl ⟨a, C, f, args, p, b, c, d, e, g.imp id .inl⟩))))
    · obtain ⟨a, b, v, c, d, e⟩ := h
      exact .inr (.inr (.inr (.inr (.inr ⟨a, b, v, c, d, e.imp id .inl⟩))))
theorem mo (i : Nat) (o : Oper) : ld [] i o = eY o := by simp [ld]
theorem sm {ops : Array Oper} {l : List Oper} {masks : List Nat} {bs : List Bool} (h : chk ops l masks bs = true) : oF ops l masks bs [] [] [] = true := by
  unfold chk at h
  unfold oF
  rw [show ld ([] : List Bool) = fun _ o => eY o from by funext i o; exact mo i o]
  refine Bool.and_eq_true_iff.2 ⟨h, ?_⟩
  rw [List.all_eq_true]
  intro x _
  simp only [Bool.or_eq_true, List.all_eq_true]
  right
  intro y _
  simp
end
end Pam
namespace Pam
open Go
section
variable {P : Program}
theorem Chk.q {ops : Array Oper} {l : List Oper} {masks : List Nat} {bs : List Bool} (c : Chk ops l masks bs) : nP ops l masks bs [] [] [] :=
 ⟨c.mask, c.lt, c.dst, c.look, fun i j x y h1 h2 h3 h4 => c.loud i j x y h1 h2 (by rwa [mo] at h3) (by rwa [mo] at h4), c.hit, c.bar, fun _ _ _ _ => .inr fun j y _ h => by simp at h⟩
theorem oG (l : List Oper) (tr : List TS) (E : Env) (σ : List OB) (G0 : Gh) (listed : Array Bool) (a : Act) (w : World) : kC [] l tr E σ G0 listed a w = StJ l tr E σ G0 listed a w := by
 unfold kC StJ
 rw [show ld ([] : List Bool) = fun _ o => eY o from by funext i o; exact mo i o]
theorem StJ.step {l : List Oper} {bs : List Bool} {masks : List Nat} {E : Env} {σ : List OB} {tr : List TS} (c : Chk l.toArray l masks bs) (ht : kO P l.toArray l bs E σ tr) (G0 : Gh) {Q : Exit → Act → World → Prop} (listed : Array Bool) (a : Act) (w : World) (i : Nat)
  (hJ : StJ l tr E σ G0 listed a w) (hready : i ∈ Region.ready .any l.toArray listed) : wpOp P l.toArray Q i (StJ l tr E σ G0 (listed.setIfInBounds i true)) a w := by
 have h := kC.stepQ (Q := Q) c.q (d9.of ht) G0 listed a w i (by rw [oG]; exact hJ) hready
 rwa [show (kC [] l tr E σ G0 (listed.setIfInBounds i true)) = StJ l tr E σ G0 (listed.setIfInBounds i true) from by funext a w; exact oG _ _ _ _ _ _ _ _] at h
def TR (P : Program) (ops : Array Oper) (l : List Oper) (bs : List Bool) (E : Env) (σ : List OB) (k : Env → List OB → Prop) : Prop :=
 ∃ tr, kO P ops l bs E σ tr ∧ k (cd E l tr l.length) (aG σ tr l.length)
def lJ : List OB → List OB → Prop
 | [], _ => True
 | a :: az, b :: bs => a = b ∧ lJ az bs
 | _ :: _, [] => False
theorem lQ : ∀ {σ σ' : List OB}, lJ σ σ' → Ext σ σ'
 | [], σ', _ => ⟨σ', rfl⟩
 | a :: az, b :: bs, ⟨h1, h2⟩ => by obtain ⟨ρ, h⟩ := lQ h2; exact ⟨ρ, by rw [h1, h]; rfl⟩
def nR (P : Program) (ops : Array Oper) (γ : Bool) (C : Prop) (f : FuncId) (args : List PV) (o : Oper) (r : List Oper) (bs : List Bool) (E : Env) (σ : List OB) (k : Env → List OB → Prop) : Prop :=
 a9 P γ E σ o.op = .call C f args → cO ops E o.guard = some γ → TR P ops (o :: r) bs E σ k
def nl (P : Program) (ops : Array Oper) (γ : Bool) (o : Oper) (r : List Oper) (bs : List Bool) (E : Env) (σ : List OB) (k : Env → List OB → Prop) (run : Env → List OB → Prop) : R → Prop
 | .ok C v => dC E o.dst ∧ C ∧ run (E.putD o.dst ⟨γ, v⟩) σ
 | .upd C v σ' => dC E o.dst ∧ γ = true ∧ C ∧ (bs.headD false = true ∨ lJ σ σ') ∧ run (E.putD o.dst ⟨true, v⟩) σ'
 | .call C f args => nR P ops γ C f args o r bs E σ k
 | .bad => False
def gF (P : Program) (ops : Array Oper) : List Oper → List Bool → Env → List OB → (Env → List OB → Prop) → Prop
 | [], _, E, σ, k => k E σ
 | o :: r, bs, E, σ, k =>
  match cO ops E o.guard with
  | none => False
  | some false => dC E o.dst ∧ gF P ops r bs.tail (E.putD o.dst ⟨true, .t []⟩) σ k
  | some true => nl P ops true o r bs E σ k (fun E' σ' => gF P ops r bs.tail E' σ' k) (a9 P true E σ o.op)
theorem TR.cons {ops : Array Oper} {o : Oper} {r : List Oper} {bs : List Bool} {E : Env} {σ : List OB} {k : Env → List OB → Prop} {ts : TS} (h : rg P ops E σ o (bs.headD false) ts) (ht : TR P ops r bs.tail (E.putD o.dst ts.e) ts.σ k) : TR P ops (o :: r) bs E σ k := by
 obtain ⟨tr, h1, h2⟩ := ht
 refine ⟨ts :: tr, ⟨ts, tr, rfl, h, h1⟩, ?_⟩
 simpa [cd, aG] using h2
theorem gN {ops : Array Oper} : ∀ (l : List Oper) (bs : List Bool) (E : Env) (σ : List OB) (k : Env → List OB → Prop), gF P ops l bs E σ k → TR P ops l bs E σ k
 | [], bs, E, σ, k, h => ⟨[], rfl, by unfold gF at h; simpa [cd, aG] using h⟩
 | o :: r, bs, E, σ, k, h => by
  unfold gF at h
  split at h
  ·exact h.elim
  ·rename_i hγ
   exact TR.cons (ts := ⟨false, ⟨true, .t []⟩, σ⟩) ⟨hγ, h.1, .inr (.inr (.inr (.inl ⟨rfl, rfl, rfl⟩)))⟩ (gN r _ _ _ _ h.2)
  ·rename_i hγ
   unfold nl at h
   split at h
   ·rename_i C v hrun
    obtain ⟨hd, hC, hr⟩ := h
    exact TR.cons (ts := ⟨true, ⟨true, v⟩, σ⟩) ⟨hγ, hd, .inl ⟨C, v, hrun, hC, rfl, rfl⟩⟩ (gN r _ _ _ _ hr)
   ·rename_i C v σ' hrun
    obtain ⟨hd, hg, hC, hb, hr⟩ := h
    exact TR.cons (ts := ⟨true, ⟨true, v⟩, σ'⟩) ⟨hγ, hd, .inr (.inl ⟨rfl, C, v, hrun, hC, rfl, hb.imp id lQ⟩)⟩ (gN r _ _ _ _ hr)
   ·rename_i C f args hrun
    exact h hrun hγ
   ·exact h.elim
theorem nS {ops : Array Oper} {γ : Bool} {C : Prop} {f : FuncId} {args : List PV} {o : Oper} {r : List Oper} {bs : List Bool} {E : Env} {σ : List OB} {k : Env → List OB → Prop} {res : PV}
  (hs : γ = true → cR P f args res) (hd : dC E o.dst) (hC : γ = true → C) (hargs : args.all PV.noOwn = true) (hres : ∀ n, res.ren (cA n []) = res)
  (next : gF P ops r bs.tail (E.putD o.dst ⟨γ, res⟩) σ k) : nR P ops γ C f args o r bs E σ k := fun hrun hγ =>
 TR.cons (ts := ⟨γ, ⟨γ, res⟩, σ⟩) ⟨hγ, hd, .inr (.inr (.inl ⟨C, f, args, res, hrun, fun h => ⟨hC h, hs h⟩, hargs, hres, rfl, rfl⟩))⟩ (gN r _ _ _ _ next)
theorem rk {id : Nat} {l : List Oper} {K : Kt} {E : Env} {σ : List OB} (hm : P.follows .mixedOrders = true) (masks : List Nat) (bs : List Bool) (hc : chk l.toArray l masks bs = true)
  (h : TR P l.toArray l bs E σ (K .normal)) : W P (.region id l.toArray true) K E σ := by
 obtain ⟨tr, ht, hk⟩ := h
 exact nQ hm [] masks bs [] [] [] (sm hc) ⟨tr, d9.of ht, hk⟩
end
end Pam
namespace Pam
open Go
theorem pR (γ : Bool) (v : PV) : ar γ ⟨true, v⟩ = True := by simp [ar]
theorem nm (γ : Bool) (v : PV) : ar γ ⟨γ, v⟩ = True := by simp [ar]
section
variable (n na : Nat) (t x a0 a1 a2 a3 a4 a5 a6 a7 : Tr) (e : Ent) (i : Nat)
theorem rl :
    ((∀ (n na : Nat) (t : Tr) (i : Nat), Env.get ⟨n, na, t⟩ i = (((t.get (i / 64)).get (i / 8 % 8)).get (i % 8)).ent) ∧
     (∀ (n na : Nat) (t : Tr) (i : Nat) (e : Ent), Env.put ⟨n, na, t⟩ i e = ⟨n, na, t.put (i / 64) ((t.get (i / 64)).put (i / 8 % 8) (((t.get (i / 64)).get (i / 8 % 8)).put (i % 8) (.leaf e)))⟩) ∧
     (∀ (E : Env) (i : Nat) (e : Ent), Env.putD E (some i) e = E.put i e) ∧ (∀ (E : Env) (e : Ent), Env.putD E none e = E) ∧
     (∀ (n na : Nat) (t : Tr) (d : Tmp), dC ⟨n, na, t⟩ (some d) = (d < n)) ∧ (∀ E : Env, dC E none = True)) ∧
    ((∀ i, Tr.get .nil i = .nil) ∧ (∀ e, Tr.ent (.leaf e) = e) ∧ Tr.ent .nil = ⟨false, .x⟩) :=
  ⟨⟨fun _ _ _ _ => rfl, fun _ _ _ _ _ => rfl, fun _ _ _ => rfl, fun _ _ => rfl, fun _ _ _ _ => rfl, fun _ => rfl⟩, fun _ => rfl, fun _ => rfl, rfl⟩
theorem rm :
    ((∀ a0 a1 a2 a3 a4 a5 a6 a7, Tr.get (.node a0 a1 a2 a3 a4 a5 a6 a7) 0 = a0) ∧ (∀ a0 a1 a2 a3 a4 a5 a6 a7, Tr.get (.node a0 a1 a2 a3 a4 a5 a6 a7) 1 = a1) ∧
     (∀ a0 a1 a2 a3 a4 a5 a6 a7, Tr.get (.node a0 a1 a2 a3 a4 a5 a6 a7) 2 = a2) ∧ (∀ a0 a1 a2 a3 a4 a5 a6 a7, Tr.get (.node a0 a1 a2 a3 a4 a5 a6 a7) 3 = a3)) ∧
    ((∀ a0 a1 a2 a3 a4 a5 a6 a7, Tr.get (.node a0 a1 a2 a3 a4 a5 a6 a7) 4 = a4) ∧ (∀ a0 a1 a2 a3 a4 a5 a6 a7, Tr.get (.node a0 a1 a2 a3 a4 a5 a6 a7) 5 = a5) ∧
     (∀ a0 a1 a2 a3 a4 a5 a6 a7, Tr.get (.node a0 a1 a2 a3 a4 a5 a6 a7) 6 = a6) ∧ (∀ a0 a1 a2 a3 a4 a5 a6 a7, Tr.get (.node a0 a1 a2 a3 a4 a5 a6 a7) 7 = a7)) := by
  refine ⟨⟨?_, ?_, ?_, ?_⟩, ?_, ?_, ?_, ?_⟩ <;> (intros; rfl)
theorem rn :
    (((∀ a0 a1 a2 a3 a4 a5 a6 a7 x, Tr.put (.node a0 a1 a2 a3 a4 a5 a6 a7) 0 x = .node x a1 a2 a3 a4 a5 a6 a7) ∧ (∀ a0 a1 a2 a3 a4 a5 a6 a7 x, Tr.put (.node a0 a1 a2 a3 a4 a5 a6 a7) 1 x = .node a0 x a2 a3 a4 a5 a6 a7) ∧
      (∀ a0 a1 a2 a3 a4 a5 a6 a7 x, Tr.put (.node a0 a1 a2 a3 a4 a5 a6 a7) 2 x = .node a0 a1 x a3 a4 a5 a6 a7) ∧ (∀ a0 a1 a2 a3 a4 a5 a6 a7 x, Tr.put (.node a0 a1 a2 a3 a4 a5 a6 a7) 3 x = .node a0 a1 a2 x a4 a5 a6 a7)) ∧
     ((∀ a0 a1 a2 a3 a4 a5 a6 a7 x, Tr.put (.node a0 a1 a2 a3 a4 a5 a6 a7) 4 x = .node a0 a1 a2 a3 x a5 a6 a7) ∧ (∀ a0 a1 a2 a3 a4 a5 a6 a7 x, Tr.put (.node a0 a1 a2 a3 a4 a5 a6 a7) 5 x = .node a0 a1 a2 a3 a4 x a6 a7) ∧
      (∀ a0 a1 a2 a3 a4 a5 a6 a7 x, Tr.put (.node a0 a1 a2 a3 a4 a5 a6 a7) 6 x = .node a0 a1 a2 a3 a4 a5 x a7) ∧ (∀ a0 a1 a2 a3 a4 a5 a6 a7 x, Tr.put (.node a0 a1 a2 a3 a4 a5 a6 a7) 7 x = .node a0 a1 a2 a3 a4 a5 a6 x))) ∧
    (((∀ x, Tr.put .nil 0 x = .node x .nil .nil .nil .nil .nil .nil .nil) ∧ (∀ x, Tr.put .nil 1 x = .node .nil x .nil .nil .nil .nil .nil .nil) ∧
      (∀ x, Tr.put .nil 2 x = .node .nil .nil x .nil .nil .nil .nil .nil) ∧ (∀ x, Tr.put .nil 3 x = .node .nil .nil .nil x .nil .nil .nil .nil)) ∧
     ((∀ x, Tr.put .nil 4 x = .node .nil .nil .nil .nil x .nil .nil .nil) ∧ (∀ x, Tr.put .nil 5 x = .node .nil .nil .nil .nil .nil x .nil .nil) ∧
      (∀ x, Tr.put .nil 6 x = .node .nil .nil .nil .nil .nil .nil x .nil) ∧ (∀ x, Tr.put .nil 7 x = .node .nil .nil .nil .nil .nil .nil .nil x))) ∧
    (((∀ e x, Tr.put (.leaf e) 0 x = .node x .nil .nil .nil .nil .nil .nil .nil))) := by
  refine ⟨⟨⟨?_, ?_, ?_, ?_⟩, ?_, ?_, ?_, ?_⟩, ⟨⟨?_, ?_, ?_, ?_⟩, ?_, ?_, ?_, ?_⟩, ?_⟩ <;> (intros; rfl)
end
theorem uw :
    ((∀ E t, ev E (.tmp t) = E.get t) ∧ (∀ E v, ev E (.const v) = kd v) ∧ (∀ E f, ev E (.func f) = ⟨true, .c (.fn f [])⟩)) ∧
    ((∀ k n, kd (.int k n) = ⟨true, .c (.int k n)⟩) ∧ (∀ b, kd (.bool b) = ⟨true, .c (.bool b)⟩) ∧ (∀ s, kd (.string s) = ⟨true, .c (.str s.data.toList)⟩) ∧
     (kd (.pointer none) = ⟨true, .c .nilp⟩) ∧ (kd (.slice none 0 0) = ⟨true, .c .nils⟩) ∧ (kd .nilFunc = ⟨true, .c .nilf⟩) ∧ (kd .nilIface = ⟨true, .c .nili⟩)) ∧
    ((∀ cs, kd (.agg cs) = (match f7 cs.toList with | some l => ⟨true, .a l⟩ | none => ⟨false, .x⟩)) ∧ (f7 [] = some []) ∧
     (∀ v r, f7 (v :: r) = (match gx v, f7 r with | some c, some cs => some (c :: cs) | _, _ => none)) ∧
     (∀ k n, gx (.int k n) = some (.int k n)) ∧ (∀ b, gx (.bool b) = some (.bool b)) ∧ (∀ s, gx (.string s) = some (.str s.data.toList)) ∧
     (gx (.pointer none) = some .nilp) ∧ (gx (.slice none 0 0) = some .nils) ∧ (gx .nilFunc = some .nilf) ∧ (gx .nilIface = some .nili)) := by
  refine ⟨⟨?_, ?_, ?_⟩, ⟨?_, ?_, ?_, ?_, ?_, ?_, ?_⟩, ?_, ?_, ?_, ?_, ?_, ?_, ?_, ?_, ?_, ?_⟩ <;> (intros; rfl)
theorem ud :
    ((∀ P γ E σ x, a9 P γ E σ (.move x) = .ok (ar γ (ev E x)) (ev E x).v) ∧ (∀ P γ E σ x, a9 P γ E σ (.assign x) = .ok (ar γ (ev E x)) (ev E x).v) ∧
     (∀ P γ E σ c a b, a9 P γ E σ (.pick c a b) = kh γ (ev E c) (ev E a) (ev E b)) ∧ (∀ P γ E σ T, a9 P γ E σ (.alloc T) = jd P σ T) ∧
     (∀ P γ E σ T x, a9 P γ E σ (.box T x) = nI P σ T (ev E x)) ∧ (∀ P γ E σ T p, a9 P γ E σ (.load T p) = iu P γ σ T (ev E p)) ∧
     (∀ P γ E σ T p x, a9 P γ E σ (.store T p x) = iR P σ T (ev E p) (ev E x)) ∧ (∀ P γ E σ x, a9 P γ E σ (.nilCheck x) = ep γ σ (ev E x))) ∧
    ((∀ P γ E σ op T x y T', a9 P γ E σ (.binOp op T x y T') = gu P γ op T (ev E x) (ev E y)) ∧ (∀ P γ E σ op T x, a9 P γ E σ (.unOp op T x) = unR γ op (ev E x)) ∧
     (∀ P γ E σ s d x, a9 P γ E σ (.convert s d x) = ki P γ s d (ev E x)) ∧ (∀ P γ E σ T x i, a9 P γ E σ (.fieldAddr T x i) = cU P γ σ T (ev E x) i) ∧
     (∀ P γ E σ T x i, a9 P γ E σ (.field T x i) = jc P γ T (ev E x) i) ∧ (∀ P γ E σ T x i, a9 P γ E σ (.indexAddr T x i) = cG P γ σ T (ev E x) (ev E i)) ∧
     (∀ P γ E σ T x i, a9 P γ E σ (.index T x i) = iS P γ T (ev E x) (ev E i)) ∧ (∀ P γ E σ x i, a9 P γ E σ (.extract x i) = gy γ (ev E x) i)) ∧
    ((∀ P γ E σ T x lo hi mx, a9 P γ E σ (.slice T x lo hi mx) = hU P γ σ T (ev E x) (lo.map (ev E)) (hi.map (ev E)) (mx.map (ev E))) ∧
     (∀ P γ E σ T x y, a9 P γ E σ (.makeSlice T x y) = eO P σ T (ev E x) (ev E y)) ∧
     (∀ P γ E σ T (l : List (Nat × Operand)), a9 P γ E σ (.build T l.toArray) = je P γ T (lC E l)) ∧
     (∀ P γ E σ T n (l : List (Nat × Operand)), a9 P γ E σ (.buildSlice T n l.toArray) = dX P σ T n (lC E l)) ∧
     (∀ P γ E σ fn (first caps : List Operand), a9 P γ E σ (.makeFunc fn first.toArray caps.toArray) = fQ γ fn first (caps.map (ev E))) ∧
     (∀ P γ E σ f (args : List Operand) ts, a9 P γ E σ (.call ⟨.value f, args.toArray, ts⟩) = lZ γ (ev E f) (args.map (ev E))) ∧
     (∀ P γ E σ b (args : List Operand) (ts : List TypeId), a9 P γ E σ (.call ⟨.builtin b, args.toArray, ts.toArray⟩) = dZ P γ σ b ts (args.map (ev E)))) := by
  refine ⟨⟨?_, ?_, ?_, ?_, ?_, ?_, ?_, ?_⟩, ⟨?_, ?_, ?_, ?_, ?_, ?_, ?_, ?_⟩, ?_, ?_, ?_, ?_, ?_, ?_, ?_⟩ <;> (intros; rfl)
theorem sP :
    ((∀ P γ σ T c b off, iu P γ σ T ⟨c, .c (.optr b off)⟩ = (match σ[b]? with
        | some (.box cs) => .ok (ar γ ⟨c, .c (.optr b off)⟩ ∧ bh P T = true ∧ 0 < P.cellsOf T ∧ off + P.cellsOf T ≤ cs.length ∧ (gw P T = true ∨ P.cellsOf T = 1)) (mkV P T ((cs.drop off).take (P.cellsOf T)))
        | _ => .bad)) ∧
     (∀ P γ σ T c s es i j, iu P γ σ T ⟨c, .c (.tptr s es i j)⟩ = .ok (ar γ ⟨c, .c (.tptr s es i j)⟩ ∧ bh P T = true ∧ 0 < P.cellsOf T ∧ (γ = true → i < es.length) ∧ j + P.cellsOf T ≤ s ∧ (gw P T = true ∨ P.cellsOf T = 1)) (mkV P T (((elt es i).drop j).take (P.cellsOf T)))) ∧
     (∀ P γ σ T c b ver i j, iu P γ σ T ⟨c, .c (.oel b ver i j)⟩ = (match σ[b]? with
        | some (.arr s ver' _ es) => .ok (ar γ ⟨c, .c (.oel b ver i j)⟩ ∧ ver = ver' ∧ bh P T = true ∧ 0 < P.cellsOf T ∧ (γ = true → i < es.length) ∧ j + P.cellsOf T ≤ s ∧ (gw P T = true ∨ P.cellsOf T = 1)) (mkV P T (((elt es i).drop j).take (P.cellsOf T)))
        | _ => .bad))) ∧
    ((∀ P σ T c b off x, iR P σ T ⟨c, .c (.optr b off)⟩ x = (match σ[b]? with
        | some (.box cs) => .upd (c = true ∧ x.cond = true ∧ bh P T = true ∧ 0 < P.cellsOf T ∧ x.v.cells.length = P.cellsOf T ∧ off + P.cellsOf T ≤ cs.length) .x (σ.set b (.box (dW cs off x.v.cells)))
        | _ => .bad)) ∧
     (∀ P σ T c b ver i j x, iR P σ T ⟨c, .c (.oel b ver i j)⟩ x = (match σ[b]? with
        | some (.arr s ver' T' es) => .upd (c = true ∧ x.cond = true ∧ ver = ver' ∧ bh P T = true ∧ 0 < P.cellsOf T ∧ x.v.cells.length = P.cellsOf T ∧ (x.v.cells.all CV.flat) = true ∧ i < es.length ∧ j + P.cellsOf T ≤ s) .x
            (σ.set b (.arr s ver' T' (es.set i (dW (elt es i) j x.v.cells))))
        | _ => .bad))) ∧
    ((∀ y, PV.cells (.c y) = [y]) ∧ (∀ ys, PV.cells (.a ys) = ys) ∧ (∀ P σ T x, nI P σ T x = .upd (x.cond = true ∧ bh P T = true ∧ 0 < x.v.cells.length) (.c (.optr σ.length 0)) (σ ++ [.box x.v.cells])) ∧
     (∀ P σ T, jd P σ T = (match iI P T with | some z => .upd (0 < z.length) (.c (.optr σ.length 0)) (σ ++ [.box z]) | none => .bad))) ∧
    ((∀ (σ : List OB) b off, de σ (.optr b off) = (match σ[b]? with | some (.box _) => True | _ => False)) ∧ (∀ (σ : List OB) b ver lo len, de σ (.osl b ver lo len) = (match σ[b]? with | some (.arr _ ver' _ _) => ver = ver' | _ => False)) ∧
     (∀ (σ : List OB) b ver i j, de σ (.oel b ver i j) = (match σ[b]? with | some (.arr _ ver' _ _) => ver = ver' | _ => False)) ∧ (∀ P T cs, mkV P T cs = (match gw P T with | true => .a cs | false => .c (cs.headD .junk)))) := by
  refine ⟨⟨?_, ?_, ?_⟩, ⟨?_, ?_⟩, ⟨?_, ?_, ?_, ?_⟩, ?_, ?_, ?_, ?_⟩ <;> (intros; rfl)
theorem ue :
    ((∀ P γ T c c' k a k' b, gu P γ .add T ⟨c, .c (.int k a)⟩ ⟨c', .c (.int k' b)⟩ = if k = k' then .ok (ar γ ⟨c, .c (.int k a)⟩ ∧ ar γ ⟨c', .c (.int k' b)⟩ ∧ (γ = true → True)) (.c (.int k (k.wrap (a + b)))) else .bad) ∧
     (∀ P γ T c c' k a k' b, gu P γ .sub T ⟨c, .c (.int k a)⟩ ⟨c', .c (.int k' b)⟩ = if k = k' then .ok (ar γ ⟨c, .c (.int k a)⟩ ∧ ar γ ⟨c', .c (.int k' b)⟩ ∧ (γ = true → True)) (.c (.int k (k.wrap (a - b)))) else .bad) ∧
     (∀ P γ T c c' k a k' b, gu P γ .mul T ⟨c, .c (.int k a)⟩ ⟨c', .c (.int k' b)⟩ = if k = k' then .ok (ar γ ⟨c, .c (.int k a)⟩ ∧ ar γ ⟨c', .c (.int k' b)⟩ ∧ (γ = true → True)) (.c (.int k (k.wrap (a * b)))) else .bad) ∧
     (∀ P γ T c c' k a k' b, gu P γ .quo T ⟨c, .c (.int k a)⟩ ⟨c', .c (.int k' b)⟩ = if k = k' then .ok (ar γ ⟨c, .c (.int k a)⟩ ∧ ar γ ⟨c', .c (.int k' b)⟩ ∧ (γ = true → b ≠ 0)) (.c (.int k (k.wrap (a.tdiv b)))) else .bad) ∧
     (∀ P γ T c c' k a k' b, gu P γ .rem T ⟨c, .c (.int k a)⟩ ⟨c', .c (.int k' b)⟩ = if k = k' then .ok (ar γ ⟨c, .c (.int k a)⟩ ∧ ar γ ⟨c', .c (.int k' b)⟩ ∧ (γ = true → b ≠ 0)) (.c (.int k (a.tmod b))) else .bad)) ∧
    ((∀ P γ T c c' k a k' b, gu P γ .and T ⟨c, .c (.int k a)⟩ ⟨c', .c (.int k' b)⟩ = if k = k' then .ok (ar γ ⟨c, .c (.int k a)⟩ ∧ ar γ ⟨c', .c (.int k' b)⟩ ∧ (γ = true → True)) (.c (.int k (bits .and k a b))) else .bad) ∧
     (∀ P γ T c c' k a k' b, gu P γ .or T ⟨c, .c (.int k a)⟩ ⟨c', .c (.int k' b)⟩ = if k = k' then .ok (ar γ ⟨c, .c (.int k a)⟩ ∧ ar γ ⟨c', .c (.int k' b)⟩ ∧ (γ = true → True)) (.c (.int k (bits .or k a b))) else .bad) ∧
     (∀ P γ T c c' k a k' b, gu P γ .xor T ⟨c, .c (.int k a)⟩ ⟨c', .c (.int k' b)⟩ = if k = k' then .ok (ar γ ⟨c, .c (.int k a)⟩ ∧ ar γ ⟨c', .c (.int k' b)⟩ ∧ (γ = true → True)) (.c (.int k (bits .xor k a b))) else .bad) ∧
     (∀ P γ T c c' k a k' b, gu P γ .shl T ⟨c, .c (.int k a)⟩ ⟨c', .c (.int k' b)⟩ = .ok (ar γ ⟨c, .c (.int k a)⟩ ∧ ar γ ⟨c', .c (.int k' b)⟩ ∧ (γ = true → 0 ≤ b)) (.c (.int k (k.wrap (a * 2 ^ (min b.toNat k.bits)))))) ∧
     (∀ P γ T c c' k a k' b, gu P γ .shr T ⟨c, .c (.int k a)⟩ ⟨c', .c (.int k' b)⟩ = .ok (ar γ ⟨c, .c (.int k a)⟩ ∧ ar γ ⟨c', .c (.int k' b)⟩ ∧ (γ = true → 0 ≤ b)) (.c (.int k (a.fdiv (2 ^ (min b.toNat k.bits))))))) ∧
    ((∀ P γ T c c' k a k' b, gu P γ .eql T ⟨c, .c (.int k a)⟩ ⟨c', .c (.int k' b)⟩ = if k = k' then .ok (ar γ ⟨c, .c (.int k a)⟩ ∧ ar γ ⟨c', .c (.int k' b)⟩ ∧ (γ = true → True)) (.c (.bool (a == b))) else .bad) ∧
     (∀ P γ T c c' k a k' b, gu P γ .neq T ⟨c, .c (.int k a)⟩ ⟨c', .c (.int k' b)⟩ = if k = k' then .ok (ar γ ⟨c, .c (.int k a)⟩ ∧ ar γ ⟨c', .c (.int k' b)⟩ ∧ (γ = true → True)) (.c (.bool (a != b))) else .bad) ∧
     (∀ P γ T c c' k a k' b, gu P γ .lss T ⟨c, .c (.int k a)⟩ ⟨c', .c (.int k' b)⟩ = if k = k' then .ok (ar γ ⟨c, .c (.int k a)⟩ ∧ ar γ ⟨c', .c (.int k' b)⟩ ∧ (γ = true → True)) (.c (.bool (decide (a < b)))) else .bad) ∧
     (∀ P γ T c c' k a k' b, gu P γ .leq T ⟨c, .c (.int k a)⟩ ⟨c', .c (.int k' b)⟩ = if k = k' then .ok (ar γ ⟨c, .c (.int k a)⟩ ∧ ar γ ⟨c', .c (.int k' b)⟩ ∧ (γ = true → True)) (.c (.bool (decide (a ≤ b)))) else .bad) ∧
     (∀ P γ T c c' k a k' b, gu P γ .gtr T ⟨c, .c (.int k a)⟩ ⟨c', .c (.int k' b)⟩ = if k = k' then .ok (ar γ ⟨c, .c (.int k a)⟩ ∧ ar γ ⟨c', .c (.int k' b)⟩ ∧ (γ = true → True)) (.c (.bool (decide (a > b)))) else .bad) ∧
     (∀ P γ T c c' k a k' b, gu P γ .geq T ⟨c, .c (.int k a)⟩ ⟨c', .c (.int k' b)⟩ = if k = k' then .ok (ar γ ⟨c, .c (.int k a)⟩ ∧ ar γ ⟨c', .c (.int k' b)⟩ ∧ (γ = true → True)) (.c (.bool (decide (a ≥ b)))) else .bad)) := by
  refine ⟨⟨?_, ?_, ?_, ?_, ?_⟩, ⟨?_, ?_, ?_, ?_, ?_⟩, ?_, ?_, ?_, ?_, ?_, ?_⟩ <;> (intros; rfl)
theorem uf :
    ((∀ P γ op T c c' a b, gu P γ op T ⟨c, .c (.str a)⟩ ⟨c', .c (.str b)⟩ = (match lY op a b with | some (C, v) => .ok (ar γ ⟨c, .c (.str a)⟩ ∧ ar γ ⟨c', .c (.str b)⟩ ∧ (γ = true → C)) v | none => .bad)) ∧
     (∀ P γ op T c c' a b, gu P γ op T ⟨c, .c (.bool a)⟩ ⟨c', .c (.bool b)⟩ = (match op, eqV P T (.c (.bool a)) (.c (.bool b)) with
        | .eql, some (C, r) => .ok (ar γ ⟨c, .c (.bool a)⟩ ∧ ar γ ⟨c', .c (.bool b)⟩ ∧ C) (.c (.bool r)) | .neq, some (C, r) => .ok (ar γ ⟨c, .c (.bool a)⟩ ∧ ar γ ⟨c', .c (.bool b)⟩ ∧ C) (.c (.bool (!r))) | _, _ => .bad)) ∧
     (∀ P γ op T c c' a b, gu P γ op T ⟨c, .a a⟩ ⟨c', .a b⟩ = (match op, eqV P T (.a a) (.a b) with
        | .eql, some (C, r) => .ok (ar γ ⟨c, .a a⟩ ∧ ar γ ⟨c', .a b⟩ ∧ C) (.c (.bool r)) | .neq, some (C, r) => .ok (ar γ ⟨c, .a a⟩ ∧ ar γ ⟨c', .a b⟩ ∧ C) (.c (.bool (!r))) | _, _ => .bad)) ∧
     (∀ P T a b, eqV P T (.c (.bool a)) (.c (.bool b)) = some (lW P T = true, a == b)) ∧ (∀ P T s es, eqV P T (.c (.tree s es)) (.c .nils) = some (ei P T = true ∧ es ≠ [], false)) ∧ (∀ P T, eqV P T (.c .nils) (.c .nils) = some (ei P T = true, true)) ∧ (∀ P T, eqV P T (.c .emn) (.c .nils) = some (ei P T = true, false)) ∧
     (∀ P γ op T c c' s es, gu P γ op T ⟨c, .c (.tree s es)⟩ ⟨c', .c .nils⟩ = (match op, eqV P T (.c (.tree s es)) (.c .nils) with
        | .eql, some (C, r) => .ok (ar γ ⟨c, .c (.tree s es)⟩ ∧ ar γ ⟨c', .c .nils⟩ ∧ C) (.c (.bool r)) | .neq, some (C, r) => .ok (ar γ ⟨c, .c (.tree s es)⟩ ∧ ar γ ⟨c', .c .nils⟩ ∧ C) (.c (.bool (!r))) | _, _ => .bad)) ∧
     (∀ P γ op T c c', gu P γ op T ⟨c, .c .nils⟩ ⟨c', .c .nils⟩ = (match op, eqV P T (.c .nils) (.c .nils) with
        | .eql, some (C, r) => .ok (ar γ ⟨c, .c .nils⟩ ∧ ar γ ⟨c', .c .nils⟩ ∧ C) (.c (.bool r)) | .neq, some (C, r) => .ok (ar γ ⟨c, .c .nils⟩ ∧ ar γ ⟨c', .c .nils⟩ ∧ C) (.c (.bool (!r))) | _, _ => .bad)) ∧
     (∀ P γ op T c c', gu P γ op T ⟨c, .c .emn⟩ ⟨c', .c .nils⟩ = (match op, eqV P T (.c .emn) (.c .nils) with
        | .eql, some (C, r) => .ok (ar γ ⟨c, .c .emn⟩ ∧ ar γ ⟨c', .c .nils⟩ ∧ C) (.c (.bool r)) | .neq, some (C, r) => .ok (ar γ ⟨c, .c .emn⟩ ∧ ar γ ⟨c', .c .nils⟩ ∧ C) (.c (.bool (!r))) | _, _ => .bad)) ∧ (∀ P T xs ys, eqV P T (.a xs) (.a ys) = (match mV xs ys with | some b => some (oq P T = some (xs.map lX), b) | none => none))) ∧
    ((∀ γ c b, unR γ .not ⟨c, .c (.bool b)⟩ = .ok (ar γ ⟨c, .c (.bool b)⟩) (.c (.bool (!b)))) ∧ (∀ γ c k n, unR γ .neg ⟨c, .c (.int k n)⟩ = .ok (ar γ ⟨c, .c (.int k n)⟩) (.c (.int k (k.wrap (0 - n))))) ∧
     (∀ γ c k n, unR γ .xor ⟨c, .c (.int k n)⟩ = .ok (ar γ ⟨c, .c (.int k n)⟩) (.c (.int k (bits .xor k (if k.signed then -1 else k.max) n)))) ∧
     (∀ γ c a b, kh γ ⟨c, .c (.bool true)⟩ a b = .ok (ar γ ⟨c, .c (.bool true)⟩ ∧ ar γ a) a.v) ∧ (∀ γ c a b, kh γ ⟨c, .c (.bool false)⟩ a b = .ok (ar γ ⟨c, .c (.bool false)⟩ ∧ ar γ b) b.v) ∧
     (∀ P γ s d c k n, ki P γ s d ⟨c, .c (.int k n)⟩ = .ok (ar γ ⟨c, .c (.int k n)⟩ ∧ (P.underlying s).isSome = true ∧ nb P d = true) (.c (.int (P.intKind d) ((P.intKind d).wrap n)))) ∧
     (∀ P γ s d c n, ki P γ s d ⟨c, .c (.str n)⟩ = .ok (ar γ ⟨c, .c (.str n)⟩ ∧ (P.underlying s).isSome = true ∧ gY P d = true) (.c (.str n)))) ∧
    ((∀ P γ σ T c b off i, cU P γ σ T ⟨c, .c (.optr b off)⟩ i = .ok (ar γ ⟨c, .c (.optr b off)⟩ ∧ de σ (.optr b off) ∧ iH P T i = true) (.c (.optr b (off + fZ P T i)))) ∧
     (∀ P γ σ T c s es k j i, cU P γ σ T ⟨c, .c (.tptr s es k j)⟩ i = .ok (ar γ ⟨c, .c (.tptr s es k j)⟩ ∧ iH P T i = true) (.c (.tptr s es k (j + fZ P T i)))) ∧
     (∀ P γ σ T c b ver k j i, cU P γ σ T ⟨c, .c (.oel b ver k j)⟩ i = .ok (ar γ ⟨c, .c (.oel b ver k j)⟩ ∧ de σ (.oel b ver k j) ∧ iH P T i = true) (.c (.oel b ver k (j + fZ P T i)))) ∧
     (∀ P γ T c ys i, jc P γ T ⟨c, .a ys⟩ i = .ok (ar γ ⟨c, .a ys⟩ ∧ iH P T i = true ∧ bh P (jF P T i) = true ∧ fZ P T i + P.cellsOf (jF P T i) ≤ ys.length ∧ (gw P (jF P T i) = true ∨ P.cellsOf (jF P T i) = 1))
      (mkV P (jF P T i) ((ys.drop (fZ P T i)).take (P.cellsOf (jF P T i)))))) := by
  refine ⟨⟨?_, ?_, ?_, ?_, ?_, ?_, ?_, ?_, ?_, ?_, ?_⟩, ⟨?_, ?_, ?_, ?_, ?_, ?_, ?_⟩, ?_, ?_, ?_, ?_⟩ <;> (intros; rfl)
theorem ux :
    ((∀ P γ σ T c c' s es k n, cG P γ σ T ⟨c, .c (.tree s es)⟩ ⟨c', .c (.int k n)⟩ = .ok (ar γ ⟨c, .c (.tree s es)⟩ ∧ ar γ ⟨c', .c (.int k n)⟩ ∧ ei P T = true ∧ bh P (P.elem T) = true ∧ P.cellsOf (P.elem T) = s ∧ (γ = true → 0 ≤ n ∧ n < es.length)) (.c (.tptr s es n.toNat 0))) ∧
     (∀ P γ σ T c c' b ver lo len k n, cG P γ σ T ⟨c, .c (.osl b ver lo len)⟩ ⟨c', .c (.int k n)⟩ = (match σ[b]? with
        | some (.arr s ver' _ _) => .ok (ar γ ⟨c, .c (.osl b ver lo len)⟩ ∧ ar γ ⟨c', .c (.int k n)⟩ ∧ ver = ver' ∧ ei P T = true ∧ bh P (P.elem T) = true ∧ P.cellsOf (P.elem T) = s ∧ (γ = true → 0 ≤ n ∧ n < len)) (.c (.oel b ver (lo + n.toNat) 0))
        | _ => .bad)) ∧
     (∀ P γ σ T c c' b off k n, cG P γ σ T ⟨c, .c (.optr b off)⟩ ⟨c', .c (.int k n)⟩ = .ok (ar γ ⟨c, .c (.optr b off)⟩ ∧ ar γ ⟨c', .c (.int k n)⟩ ∧ de σ (.optr b off) ∧ jG P T = true ∧ bh P (P.elem T) = true ∧ (γ = true → 0 ≤ n ∧ n < P.arrayLen T)) (.c (.optr b (off + n.toNat * P.cellsOf (P.elem T))))) ∧
     (∀ P γ σ T c c' b ver i j k n, cG P γ σ T ⟨c, .c (.oel b ver i j)⟩ ⟨c', .c (.int k n)⟩ = (match σ[b]? with
        | some (.arr s ver' _ _) => .ok (ar γ ⟨c, .c (.oel b ver i j)⟩ ∧ ar γ ⟨c', .c (.int k n)⟩ ∧ ver = ver' ∧ jG P T = true ∧ bh P (P.elem T) = true ∧ P.cellsOf (P.elem T) = s ∧ j = 0 ∧ (γ = true → 0 ≤ n ∧ n < P.arrayLen T)) (.c (.oel b ver (i + n.toNat) 0))
        | _ => .bad)) ∧
     (∀ P γ T c c' s k n, iS P γ T ⟨c, .c (.str s)⟩ ⟨c', .c (.int k n)⟩ = .ok (ar γ ⟨c, .c (.str s)⟩ ∧ ar γ ⟨c', .c (.int k n)⟩ ∧ gY P T = true ∧ (γ = true → 0 ≤ n ∧ n < s.length)) (.c (.int .u8 ((s.getD n.toNat 0).toNat)))) ∧
     (∀ P γ T c c' ys k n, iS P γ T ⟨c, .a ys⟩ ⟨c', .c (.int k n)⟩ = .ok (ar γ ⟨c, .a ys⟩ ∧ ar γ ⟨c', .c (.int k n)⟩ ∧ jG P T = true ∧ bh P (P.elem T) = true ∧ P.arrayLen T * P.cellsOf (P.elem T) ≤ ys.length ∧ gw P (P.elem T) = false ∧ P.cellsOf (P.elem T) = 1 ∧ (γ = true → 0 ≤ n ∧ n < P.arrayLen T)) (.c (ys.getD n.toNat .junk)))) ∧
    ((∀ γ c ps i, gy γ ⟨c, .t ps⟩ i = .ok (ar γ ⟨c, .t ps⟩ ∧ i < ps.length) (ps.getD i .x)) ∧
     (∀ P γ σ T c s es, ke P γ σ T ⟨c, .c (.tree s es)⟩ = .ok (ar γ ⟨c, .c (.tree s es)⟩ ∧ ei P T = true) (.c (.int .i64 es.length))) ∧
     (∀ P γ σ T c b ver lo len, ke P γ σ T ⟨c, .c (.osl b ver lo len)⟩ = .ok (ar γ ⟨c, .c (.osl b ver lo len)⟩ ∧ de σ (.osl b ver lo len) ∧ ei P T = true) (.c (.int .i64 len))) ∧
     (∀ P γ σ T c, ke P γ σ T ⟨c, .c .nils⟩ = .ok (ar γ ⟨c, .c .nils⟩ ∧ ei P T = true) (.c (.int .i64 0))) ∧ (∀ P γ σ T c, ke P γ σ T ⟨c, .c .emn⟩ = .ok (ar γ ⟨c, .c .emn⟩ ∧ ei P T = true) (.c (.int .i64 0))) ∧ (∀ P γ σ T c, ke P γ σ T ⟨c, .c .emp⟩ = .ok (ar γ ⟨c, .c .emp⟩ ∧ ei P T = true) (.c (.int .i64 0))) ∧
     (∀ P γ σ T c s, ke P γ σ T ⟨c, .c (.str s)⟩ = .ok (ar γ ⟨c, .c (.str s)⟩ ∧ gY P T = true) (.c (.int .i64 s.length)))) ∧
    ((∀ P γ σ T x, dZ P γ σ .len [T] [x] = ke P γ σ T x) ∧ (∀ P γ σ T T' x y, dZ P γ σ .append [T, T'] [x, y] = if T = T' ∨ gY P T' then gU P σ T x y else .bad) ∧
     (∀ P γ σ l x y, dZ P γ σ .min l [x, y] = dY γ false x y) ∧ (∀ P γ σ l x y, dZ P γ σ .max l [x, y] = dY γ true x y) ∧
     (∀ γ mx c c' k a k' b, dY γ mx ⟨c, .c (.int k a)⟩ ⟨c', .c (.int k' b)⟩ = .ok (ar γ ⟨c, .c (.int k a)⟩ ∧ ar γ ⟨c', .c (.int k' b)⟩ ∧ k = k') (.c (.int k (if mx then (if b > a then b else a) else (if b < a then b else a))))) ∧
     (∀ γ c g caps args, lZ γ ⟨c, .c (.fn g caps)⟩ args = .call (c = true ∧ ∀ e ∈ args, ar γ e) g (args.map (·.v) ++ caps.map .c)) ∧
     (∀ γ σ c b off, ep γ σ ⟨c, .c (.optr b off)⟩ = .ok (ar γ ⟨c, .c (.optr b off)⟩ ∧ de σ (.optr b off)) (.c (.optr b off)))) := by
  refine ⟨⟨?_, ?_, ?_, ?_, ?_, ?_⟩, ⟨?_, ?_, ?_, ?_, ?_, ?_, ?_⟩, ?_, ?_, ?_, ?_, ?_, ?_, ?_⟩ <;> (intros; rfl)
theorem sn :
    (∀ ops E, cO ops E none = some true) ∧ (∀ (l : List Oper) E j w, cO l.toArray E (some (j, w)) = (match l[j]? with
      | none => none
      | some o => (match o.dst with | none => none | some d => (match (E.get d).cond, (E.get d).v with | true, .c (.bool X) => some (X == w) | true, .t [] => some false | _, _ => none)))) := by
  refine ⟨?_, ?_⟩
  · intros; rfl
  · intro l E j w; rw [← List.getElem?_toArray]; rfl
end Pam
namespace Pam
open Go
theorem so {α : Type} [Inhabited α] (f : α → List CV) (xs : List α) (i : Nat) (h : i < xs.length) : elt (xs.map f) i = f (xs.getD i default) := by
 simp [elt, List.getD, h]
theorem lj {α : Type} [Inhabited α] (l : List α) (k : Nat) (h : k < l.length) : l.drop k = l.getD k default :: l.drop (k + 1) := by
 rw [List.drop_eq_getElem_cons h]; simp [List.getD, h]
end Pam
namespace Pam
open Go
def Tr.le : Tr → Tr → Prop
  | _, .nil => True
  | t, .leaf e' => e'.cond = false ∨ t = .leaf e'
  | .node a0 a1 a2 a3 a4 a5 a6 a7, .node b0 b1 b2 b3 b4 b5 b6 b7 => Tr.le a0 b0 ∧ Tr.le a1 b1 ∧ Tr.le a2 b2 ∧ Tr.le a3 b3 ∧ Tr.le a4 b4 ∧ Tr.le a5 b5 ∧ Tr.le a6 b6 ∧ Tr.le a7 b7
  | .nil, .node b0 b1 b2 b3 b4 b5 b6 b7 => Tr.le .nil b0 ∧ Tr.le .nil b1 ∧ Tr.le .nil b2 ∧ Tr.le .nil b3 ∧ Tr.le .nil b4 ∧ Tr.le .nil b5 ∧ Tr.le .nil b6 ∧ Tr.le .nil b7
  | _, .node _ _ _ _ _ _ _ _ => False
def Tr.under (n : Nat) : Tr → Prop
  | .nil => True
  | .leaf e => e.cond = false ∨ e.v.under n
  | .node a0 a1 a2 a3 a4 a5 a6 a7 => Tr.under n a0 ∧ Tr.under n a1 ∧ Tr.under n a2 ∧ Tr.under n a3 ∧ Tr.under n a4 ∧ Tr.under n a5 ∧ Tr.under n a6 ∧ Tr.under n a7
theorem Tr.le_get {t t' : Tr} (h : Tr.le t t') (j : Nat) : Tr.le (t.get j) (t'.get j) := by
  rcases Nat.lt_or_ge j 8 with hj | hj
  · have hj' : j = 0 ∨ j = 1 ∨ j = 2 ∨ j = 3 ∨ j = 4 ∨ j = 5 ∨ j = 6 ∨ j = 7 := by omega
    cases t' with
    | nil => show Tr.le _ .nil; cases t.get j <;> trivial
    | leaf e => show Tr.le _ .nil; cases t.get j <;> trivial
    | node b0 b1 b2 b3 b4 b5 b6 b7 =>
      cases t with
      | nil =>
        obtain ⟨h0, h1, h2, h3, h4, h5, h6, h7⟩ := h
        rcases hj' with rfl | rfl | rfl | rfl | rfl | rfl | rfl | rfl <;> assumption
      | leaf e => exact h.elim
      | node a0 a1 a2 a3 a4 a5 a6 a7 =>
        obtain ⟨h0, h1, h2, h3, h4, h5, h6, h7⟩ := h
        rcases hj' with rfl | rfl | rfl | rfl | rfl | rfl | rfl | rfl <;> assumption
  · rw [Tr.get_big t' j hj]; cases t.get j <;> trivial
theorem Tr.le_ent {t t' : Tr} (h : Tr.le t t') (hc : t'.ent.cond = true) : t.ent = t'.ent := by
  cases t' with
  | nil => cases hc
  | node => cases hc
  | leaf e =>
    have h' : e.cond = false ∨ t = .leaf e := by cases t <;> exact h
    rcases h' with h' | h'
    · simp only [Tr.ent] at hc; rw [h'] at hc; cases hc
    · rw [h']
theorem Tr.under_get {n : Nat} {t : Tr} (h : Tr.under n t) (j : Nat) : Tr.under n (t.get j) := by
  rcases Nat.lt_or_ge j 8 with hj | hj
  · have hj' : j = 0 ∨ j = 1 ∨ j = 2 ∨ j = 3 ∨ j = 4 ∨ j = 5 ∨ j = 6 ∨ j = 7 := by omega
    cases t with
    | nil => trivial
    | leaf e => trivial
    | node a0 a1 a2 a3 a4 a5 a6 a7 =>
      obtain ⟨h0, h1, h2, h3, h4, h5, h6, h7⟩ := h
      rcases hj' with rfl | rfl | rfl | rfl | rfl | rfl | rfl | rfl <;> assumption
  · rw [Tr.get_big t j hj]; trivial
theorem Tr.under_ent {n : Nat} {t : Tr} (h : Tr.under n t) (hc : t.ent.cond = true) : t.ent.v.under n := by
  cases t with
  | nil => cases hc
  | node => cases hc
  | leaf e => rcases h with h | h
              · simp only [Tr.ent] at hc; rw [h] at hc; cases hc
              · exact h
def jy (E : Env) (σ : List OB) (E' : Env) (τ : List OB) : Prop :=
  (E.n = E'.n ∧ E.na = E'.na) ∧ Tr.le E.t E'.t ∧ (∃ ρ, σ = τ ++ ρ) ∧ E.na ≤ τ.length ∧ ay τ.length τ ∧ Tr.under τ.length E'.t
theorem jy.sim {G : Gh} {E E' : Env} {σ τ : List OB} {a : Act} {w : World} (h : jy E σ E' τ) (hs : Sim G E σ a w) :
    ∃ G', Gle G G' ∧ Sim G' E' τ a w := by
  obtain ⟨⟨hn, hna'⟩, hk, ⟨ρ, rfl⟩, hna, hob, hsl⟩ := h
  refine ⟨{ G with own := G.own.take τ.length }, ⟨⟨fun _ _ h => h, rfl, rfl, rfl⟩, ?_⟩, hs.inv.drop hob, hs.defers, by rw [← hn]; exact hs.size, by rw [← hna']; exact hs.na, fun i hc => ?_⟩
  · intro b oo hb hoo
    refine ⟨oo, ?_, fun o' e => ⟨o', e, .inl rfl⟩⟩
    rw [hs.na] at hb
    simp only
    rw [List.getElem?_take_of_lt (by omega)]; exact hoo
  · have hE : E.get i = E'.get i := Tr.le_ent (Tr.le_get (Tr.le_get (Tr.le_get hk _) _) _) hc
    have hu : (E'.get i).v.under τ.length := Tr.under_ent (Tr.under_get (Tr.under_get (Tr.under_get hsl _) _) _) hc
    have hr := hs.slot i (by rw [hE]; exact hc)
    rw [hE] at hr
    exact aB.drop (G := G) (G' := { G with own := G.own.take τ.length }) rfl rfl hu hr
def Env.erase (E : Env) (i : Nat) : Env := ⟨E.n, E.na, E.t.put (i / 64) ((E.t.get (i / 64)).put (i / 8 % 8) (((E.t.get (i / 64)).get (i / 8 % 8)).put (i % 8) .nil))⟩
def Env.forget (E : Env) : List Nat → Env
  | [] => E
  | i :: r => Env.forget (E.erase i) r
def Env.puts (E : Env) : List (Nat × PV) → Env
  | [] => E
  | (i, p) :: r => Env.puts (E.put i ⟨true, p⟩) r
def Env.over (E : Env) (ms : List Nat) (l : List (Nat × PV)) : Env := (E.forget ms).puts l
section
variable {P : Program} {K : Kt} {E E0 : Env} {σ : List OB}
theorem sq {c : Code} {E' : Env} {τ : List OB} (h : jy E σ E' τ) (hw : W P c K E' τ) : W P c K E σ := fun G a w hs => by
  obtain ⟨G', h1, h2⟩ := h.sim hs
  exact Code.wp_mono (fun _ _ _ hq => d6.back h1 hq) (hw G' a w h2)
theorem Tr.get_erase (t : Tr) (i j : Nat) (x : Tr) : (t.put i x).get j = .nil ∨ (t.put i x).get j = t.get j ∨ (j = i ∧ (t.put i x).get j = x) := by
  rcases Nat.lt_or_ge i 8 with hi | hi
  · rw [Tr.get_put t i j x hi]
    by_cases e : j = i
    · subst e; simp
    · simp [e]
  · rcases Tr.put_big t i j x hi with h | h
    · exact .inr (.inl h)
    · exact .inl h
theorem Env.erase_get (E : Env) (i j : Nat) (h : ((E.erase i).get j).cond = true) : (E.erase i).get j = E.get j := by
  unfold Env.erase Env.get at *
  simp only at *
  have nil1 : ∀ k, (Tr.nil.get k) = .nil := fun _ => rfl
  rcases Tr.get_erase E.t (i / 64) (j / 64) ((E.t.get (i / 64)).put (i / 8 % 8) (((E.t.get (i / 64)).get (i / 8 % 8)).put (i % 8) .nil)) with e | e | ⟨e0, e⟩
  · rw [e] at h; simp [nil1, Tr.ent] at h
  · rw [e]
  · rw [e] at h ⊢
    rcases Tr.get_erase (E.t.get (i / 64)) (i / 8 % 8) (j / 8 % 8) (((E.t.get (i / 64)).get (i / 8 % 8)).put (i % 8) .nil) with f | f | ⟨f0, f⟩
    · rw [f] at h; simp [nil1, Tr.ent] at h
    · rw [f, e0]
    · rw [f] at h ⊢
      rcases Tr.get_erase ((E.t.get (i / 64)).get (i / 8 % 8)) (i % 8) (j % 8) .nil with g | g | ⟨g0, g⟩
      · rw [g] at h; simp [Tr.ent] at h
      · rw [g, e0, f0]
      · rw [g] at h; simp [Tr.ent] at h
theorem Env.erase_sim {G : Gh} {E : Env} {σ : List OB} {a : Act} {w : World} (h : Sim G E σ a w) (i : Nat) : Sim G (E.erase i) σ a w :=
  ⟨h.inv, h.defers, h.size, h.na, fun j hc => by have e := Env.erase_get E i j hc; rw [e] at hc ⊢; exact h.slot j hc⟩
theorem Env.forget_sim {G : Gh} {σ : List OB} {a : Act} {w : World} : ∀ (ms : List Nat) {E : Env}, Sim G E σ a w → Sim G (E.forget ms) σ a w
  | [], _, h => h
  | i :: r, _, h => Env.forget_sim r (Env.erase_sim h i)
theorem i6 {c : Code} (ms : List Nat) (h : W P c K (E.forget ms) σ) : W P c K E σ := fun G a w hs => h G a w (Env.forget_sim ms hs)
theorem av {id : Nat} {l : List Oper} {y : Code} (ms : List Nat)
    (h : ∀ (k : Env → List OB → Prop) (kp : PV → Env → List OB → Prop), (∀ E σ, W P y K E σ → k E σ) → (∀ p E σ, K (.panic p) E σ → kp p E σ) → gD P l.toArray l E σ (fun E σ => k (E.forget ms) σ) kp) :
    W P (.seq (.region id l.toArray false) y) K E σ := lF fun G a w hs =>
  wp_region_lit (dh (fun _ _ _ hp => d6.mono (fun x E σ hk => by
      cases x with
      | normal => exact i6 ms hk
      | exit id => exact hk.elim
      | ret => exact hk.elim
      | panic p => exact hk) hp)
    l a w (gm l E σ _ _ (h (W P y K) (fun p => K (.panic p)) (fun _ _ h => h) (fun _ _ _ h => h)) G a w hs))
theorem pw {id : Nat} {l : List Oper} {y : Code} (ms : List Nat) (hm : P.follows .mixedOrders = true) (masks : List Nat) (bs : List Bool) (hc : chk l.toArray l masks bs = true)
    (h : ∀ (k : Env → List OB → Prop), (∀ E σ, W P y K E σ → k E σ) → gF P l.toArray l bs E σ (fun E σ => k (E.forget ms) σ)) : W P (.seq (.region id l.toArray true) y) K E σ :=
  lF (rk hm masks bs hc (by
    obtain ⟨tr, h1, h2⟩ := gN l bs E σ _ (h (W P y K) fun _ _ h => h)
    exact ⟨tr, h1, i6 ms h2⟩))
theorem ak {k : Env → List OB → Prop} (h : k E σ) : mj k K .normal E σ := h
theorem aX {k : Env → List OB → Prop} {i : Nat} (h : K (.exit i) E σ) : mj k K (.exit i) E σ := h
theorem ah {k : Env → List OB → Prop} (h : K .ret E σ) : mj k K .ret E σ := h
theorem fq {k : Env → List OB → Prop} {p : PV} (h : K (.panic p) E σ) : mj k K (.panic p) E σ := h
theorem aH {i : Nat} (h : K .normal E σ) : ji i K .normal E σ := h
theorem az {i : Nat} (h : K .normal E σ) : ji i K (.exit i) E σ := by simp only [ji, if_true]; exact h
theorem oH {i j : Nat} (hj : j ≠ i) (h : K (.exit j) E σ) : ji i K (.exit j) E σ := by simp only [ji, iN hj]; exact h
theorem ag {i : Nat} (h : K .ret E σ) : ji i K .ret E σ := h
theorem b9 {i : Nat} {p : PV} (h : K (.panic p) E σ) : ji i K (.panic p) E σ := h
section
variable {α : Type} {ms : List Nat} {slots : α → List (Nat × PV)} {heap : α → List OB} {inv : α → Prop} {μ : α → Nat} {x : α}
end
theorem ab {c : Operand} {x y : Code} {X : Bool} (hc : ev E c = ⟨true, .c (.bool X)⟩) (hX : X = true) (h : W P x K E σ) : W P (.cond c x y) K E σ :=
  rf hc (fun _ => h) (fun h' => by rw [hX] at h'; cases h')
theorem ae {c : Operand} {x y : Code} {X : Bool} (hc : ev E c = ⟨true, .c (.bool X)⟩) (hX : X = false) (h : W P y K E σ) : W P (.cond c x y) K E σ :=
  rf hc (fun h' => by rw [hX] at h'; cases h') (fun _ => h)
end
def i7 : List OB → List OB → Prop
  | [], _ => True
  | a :: az, b :: bs => a = b ∧ i7 az bs
  | _ :: _, [] => False
theorem mq : ∀ {τ σ : List OB}, i7 τ σ → ∃ ρ, σ = τ ++ ρ
  | [], σ, _ => ⟨σ, rfl⟩
  | a :: az, b :: bs, h => by obtain ⟨ρ, hr⟩ := mq h.2; exact ⟨ρ, by rw [h.1, hr]; rfl⟩
theorem qz (τ ρ : List OB) : i7 τ (τ ++ ρ) := by
  induction τ with
  | nil => trivial
  | cons a az ih => exact ⟨rfl, ih⟩
theorem ro :
    ((∀ E σ E' τ, jy E σ E' τ = ((E.n = E'.n ∧ E.na = E'.na) ∧ Tr.le E.t E'.t ∧ i7 τ σ ∧ E.na ≤ τ.length ∧ ay τ.length τ ∧ Tr.under τ.length E'.t)) ∧
     (∀ τ, i7 [] τ = True) ∧ (∀ a az b bs, i7 (a :: az) (b :: bs) = (a = b ∧ i7 az bs)) ∧ (∀ a az, i7 (a :: az) [] = False) ∧
     (∀ t, Tr.le t .nil = True) ∧ (∀ e t, Tr.le t (.leaf ⟨false, e⟩) = True) ∧ (∀ c v v', Tr.le (.leaf ⟨c, v⟩) (.leaf ⟨true, v'⟩) = (c = true ∧ v = v')) ∧
     (∀ b0 b1 b2 b3 b4 b5 b6 b7, Tr.le .nil (.node b0 b1 b2 b3 b4 b5 b6 b7) = (Tr.le .nil b0 ∧ Tr.le .nil b1 ∧ Tr.le .nil b2 ∧ Tr.le .nil b3 ∧ Tr.le .nil b4 ∧ Tr.le .nil b5 ∧ Tr.le .nil b6 ∧ Tr.le .nil b7)) ∧
     (∀ a0 a1 a2 a3 a4 a5 a6 a7 b0 b1 b2 b3 b4 b5 b6 b7, Tr.le (.node a0 a1 a2 a3 a4 a5 a6 a7) (.node b0 b1 b2 b3 b4 b5 b6 b7) = (Tr.le a0 b0 ∧ Tr.le a1 b1 ∧ Tr.le a2 b2 ∧ Tr.le a3 b3 ∧ Tr.le a4 b4 ∧ Tr.le a5 b5 ∧ Tr.le a6 b6 ∧ Tr.le a7 b7))) ∧
    ((∀ n, Tr.under n .nil = True) ∧ (∀ n v, Tr.under n (.leaf ⟨false, v⟩) = True) ∧ (∀ n v, Tr.under n (.leaf ⟨true, v⟩) = v.under n) ∧
     (∀ n a0 a1 a2 a3 a4 a5 a6 a7, Tr.under n (.node a0 a1 a2 a3 a4 a5 a6 a7) = (Tr.under n a0 ∧ Tr.under n a1 ∧ Tr.under n a2 ∧ Tr.under n a3 ∧ Tr.under n a4 ∧ Tr.under n a5 ∧ Tr.under n a6 ∧ Tr.under n a7))) ∧
    ((∀ E ms l, Env.over E ms l = (E.forget ms).puts l) ∧      (∀ E, Env.puts E [] = E) ∧ (∀ E i p r, Env.puts E ((i, p) :: r) = Env.puts (E.put i ⟨true, p⟩) r)) ∧
    ((∀ n, ay n [] = True) ∧ (∀ n o r, ay n (o :: r) = (o.under n ∧ ay n r)) ∧ (∀ n cs, OB.under n (.box cs) = aA n cs) ∧ (∀ n, OB.under n .dead = True) ∧ (∀ n s v T es, OB.under n (.arr s v T es) = True) ∧
     (∀ n, aA n [] = True) ∧ (∀ n c r, aA n (c :: r) = (c.under n ∧ aA n r)) ∧ (∀ n y, PV.under n (.c y) = y.under n) ∧ (∀ n ys, PV.under n (.a ys) = aA n ys) ∧ (∀ n, PV.under n .x = True)) ∧
    ((∀ n b, CV.under n (.bool b) = True) ∧ (∀ n k m, CV.under n (.int k m) = True) ∧ (∀ n s, CV.under n (.str s) = True) ∧ (∀ n s es, CV.under n (.tree s es) = True) ∧ (∀ n s es i j, CV.under n (.tptr s es i j) = True) ∧
     (∀ n, CV.under n .nilp = True) ∧ (∀ n, CV.under n .nils = True) ∧ (∀ n, CV.under n .nilf = True) ∧ (∀ n, CV.under n .nili = True) ∧ (∀ n, CV.under n .emp = True) ∧ (∀ n, CV.under n .emn = True) ∧ (∀ n, CV.under n .junk = True) ∧
     (∀ n b off, CV.under n (.optr b off) = (b < n)) ∧ (∀ n b v l k, CV.under n (.osl b v l k) = (b < n)) ∧ (∀ n b v i j, CV.under n (.oel b v i j) = (b < n)) ∧ (∀ n f, CV.under n (.fn f []) = True) ∧ (∀ n t g cs, CV.under n (.ifc t g cs) = True)) := by
  refine ⟨⟨?_, ?_, ?_, ?_, ?_, ?_, ?_, ?_, ?_⟩, ⟨?_, ?_, ?_, ?_⟩, ⟨?_, ?_, ?_⟩, ⟨?_, ?_, ?_, ?_, ?_, ?_, ?_, ?_, ?_, ?_⟩, ?_, ?_, ?_, ?_, ?_, ?_, ?_, ?_, ?_, ?_, ?_, ?_, ?_, ?_, ?_, ?_, ?_⟩
  all_goals first
    | (intros; rfl)
    | (intro E σ E' τ; unfold jy; exact propext ⟨fun ⟨h1, h2, ⟨ρ, h3⟩, h4⟩ => ⟨h1, h2, by rw [h3]; exact qz τ ρ, h4⟩, fun ⟨h1, h2, h3, h4⟩ => ⟨h1, h2, mq h3, h4⟩⟩)
    | (intro t; cases t <;> rfl)
    | (intro e t; cases t <;> simp [Tr.le]; done)
    | (intros; simp [Tr.le]; done)
    | (intros; simp [Tr.under]; done)
    | (intros; simp [CV.under]; done)
theorem gr {P : Program} {c : Code} {K : Kt} {E E' : Env} {σ σ' : List OB} (hE : E = E') (hσ : σ = σ') (h : W P c K E' σ') : W P c K E σ := by subst hE hσ; exact h
theorem sQ :
    ((∀ x y, (PV.c x = PV.c y) = (x = y)) ∧ (∀ x y, (PV.a x = PV.a y) = (x = y)) ∧ (∀ x y, (PV.t x = PV.t y) = (x = y)) ∧ (∀ k n k' n', (CV.int k n = CV.int k' n') = (k = k' ∧ n = n')) ∧ (∀ b b', (CV.bool b = CV.bool b') = (b = b')) ∧ (∀ b b', (CV.str b = CV.str b') = (b = b'))) ∧
    ((∀ s es s' es', (CV.tree s es = CV.tree s' es') = (s = s' ∧ es = es')) ∧ (∀ s es i j s' es' i' j', (CV.tptr s es i j = CV.tptr s' es' i' j') = (s = s' ∧ es = es' ∧ i = i' ∧ j = j')) ∧
     (∀ b o b' o', (CV.optr b o = CV.optr b' o') = (b = b' ∧ o = o')) ∧ (∀ b v l n b' v' l' n', (CV.osl b v l n = CV.osl b' v' l' n') = (b = b' ∧ v = v' ∧ l = l' ∧ n = n')) ∧ (∀ b v l n b' v' l' n', (CV.oel b v l n = CV.oel b' v' l' n') = (b = b' ∧ v = v' ∧ l = l' ∧ n = n'))) ∧
    ((∀ cs cs', (OB.box cs = OB.box cs') = (cs = cs')) ∧ (∀ s v T es s' v' T' es', (OB.arr s v T es = OB.arr s' v' T' es') = (s = s' ∧ v = v' ∧ T = T' ∧ es = es')) ∧
     (∀ {α : Type} (a : α) az b bs, (a :: az = b :: bs) = (a = b ∧ az = bs)) ∧ (∀ {α β : Type} (a : α) (b : β) a' b', ((a, b) = (a', b')) = (a = a' ∧ b = b'))) := by
  refine ⟨⟨?_, ?_, ?_, ?_, ?_, ?_⟩, ⟨?_, ?_, ?_, ?_, ?_⟩, ?_, ?_, ?_, ?_⟩ <;> (intros; simp)
theorem ug :
    ((∀ P rs post pp E σ, i5 P rs post pp .ret E σ = (match dH P E σ rs with | some (C, ps) => C ∧ ps.all PV.isV = true ∧ post (di ps) σ | none => False)) ∧
     (∀ P rs post pp E σ, i5 P rs post pp .normal E σ = (match dH P E σ rs with | some (C, ps) => C ∧ ps.all PV.isV = true ∧ post (di ps) σ | none => False)) ∧
     (∀ P rs post pp p E σ, i5 P rs post pp (.panic p) E σ = pp p σ)) ∧
    ((∀ P E σ, dH P E σ [] = some (True, [])) ∧ (∀ P E σ r rs, dH P E σ (r :: rs) = (match qt P E σ r, dH P E σ rs with | some (C, p), some (C', ps) => some (C ∧ C', p :: ps) | _, _ => none)) ∧
     (∀ P E σ t, qt P E σ (.tmp t) = some ((E.get t).cond = true, (E.get t).v)) ∧ (∀ P E σ t T, qt P E σ (.cell t T) = (match iu P true σ T (E.get t) with | .ok C v => some (C, v) | _ => none))) ∧
    ((∀ p, di [p] = p) ∧ (di [] = .t []) ∧ (∀ p q r, di (p :: q :: r) = .t (p :: q :: r)) ∧ (∀ y, PV.isV (.c y) = true) ∧ (∀ y, PV.isV (.a y) = true) ∧ (PV.isV .x = true)) := by
  refine ⟨⟨?_, ?_, ?_⟩, ⟨?_, ?_, ?_, ?_⟩, ?_, ?_, ?_, ?_, ?_, ?_⟩ <;> (intros; rfl)
theorem uh : (∀ E, Env.forget E [] = E) ∧ (∀ E i r, Env.forget E (i :: r) = Env.forget (E.erase i) r) ∧ (∀ n na t i, Env.erase ⟨n, na, t⟩ i = ⟨n, na, t.put (i / 64) ((t.get (i / 64)).put (i / 8 % 8) (((t.get (i / 64)).get (i / 8 % 8)).put (i % 8) .nil))⟩) :=
  ⟨fun _ => rfl, fun _ _ _ => rfl, fun _ _ _ _ => rfl⟩
end Pam
namespace Pam
open Go
def iz (n : Nat) : List PV → Prop
 | [] => True
 | p :: r => p.under n ∧ iz n r
def PV.underP (n : Nat) : PV → Prop
 | .t ps => iz n ps
 | p => p.under n
theorem jC.drop {G G' : Gh} {n : Nat} (hH : G'.H = G.H) (ho : G'.own = G.own.take n) {p : PV} {v : Value} (hb : p.under n) (h : jC G p v) : jC G' p v := by
 cases p with
 | x => trivial
 | c y => exact Rep.drop hH ho hb h
 | a ys => obtain ⟨vs, rfl, h2⟩ := h; exact ⟨vs, rfl, aF.under hH ho hb h2⟩
 | t ps => exact hb.elim
theorem aB.dropP {G G' : Gh} {n : Nat} (hH : G'.H = G.H) (ho : G'.own = G.own.take n) {p : PV} {v : Value} (hb : p.underP n) (h : aB G p v) : aB G' p v := by
 cases p with
 | x => trivial
 | c y => exact aB.drop (p := .c y) hH ho hb h
 | a ys => exact aB.drop (p := .a ys) hH ho hb h
 | t ps =>
  obtain ⟨vs, rfl, h2⟩ := h
  refine ⟨vs, rfl, ?_⟩
  have hb' : iz n ps := hb
  clear hb
  induction ps generalizing vs with
  | nil => cases vs <;> simp_all [aF]
  | cons p ps ih =>
   cases vs with
   | nil => simp [aF] at h2
   | cons v vs => exact ⟨jC.drop hH ho hb'.1 h2.1, ih vs h2.2 hb'.2⟩
def qA (n : Nat) (post : PV → List OB → Prop) (p : PV) (σ : List OB) : Prop :=
 ∃ τ, i7 τ σ ∧ n ≤ τ.length ∧ ay τ.length τ ∧ p.underP τ.length ∧ post p τ
theorem gv.drop {P : Program} {f : FuncId} {args : List PV} {σ : List OB} {post pp : PV → List OB → Prop} (h : gv P f args σ (qA σ.length post) pp) : gv P f args σ post pp := by
 refine ⟨h.1, fun G w vs hna hds hi ha => (h.2 G w vs hna hds hi ha).mono fun e w' hr => ?_⟩
 obtain ⟨G', σ', p, v, h1, h2, h3, h4⟩ := hr
 rcases h4 with ⟨rfl, τ, k1, k2, k3, k4, k5⟩ | h4
 ·obtain ⟨ρ, rfl⟩ := mq k1
  refine ⟨{ G' with own := G'.own.take τ.length }, τ, p, v, ⟨⟨h1.le.H, h1.le.F, h1.le.w0, h1.le.na⟩, ?_⟩, h2.drop k3, aB.dropP (G := G') (G' := { G' with own := G'.own.take τ.length }) rfl rfl k4 h3, .inl ⟨rfl, k5⟩⟩
  intro b oo hb hoo
  obtain ⟨oo', q1, q2⟩ := h1.own b oo hb hoo
  refine ⟨oo', ?_, q2⟩
  simp only
  rw [List.getElem?_take_of_lt (by omega)]; exact q1
 ·exact ⟨G', σ', p, v, h1, h2, h3, .inr h4⟩
theorem aR {P : Program} {σ : List OB} {f : FuncId} {fn : Func} {c : Code} {args : List PV} {post pp : PV → List OB → Prop} (n : Nat) (rs : List ResultVar) (hf : P.funcs[f]? = some fn) (hb : fn.body = some c) (hn : fn.ntmps = n) (hr : fn.results.toList = rs)
  (hname : (fn.name == "runtime.NumGoroutine") = false) (hlen : args.length ≤ n)
  (h : W P c (i5 P rs (qA σ.length post) pp) (Env.ofList n σ.length (gb 0 args)) σ) : gv P f args σ post pp :=
 gv.drop (sf n rs hf hb hn hr hname hlen h)
theorem sr : ((∀ n ps, PV.underP n (.t ps) = iz n ps) ∧ (∀ n y, PV.underP n (.c y) = y.under n) ∧ (∀ n ys, PV.underP n (.a ys) = aA n ys) ∧ (∀ n, PV.underP n .x = True)) ∧
  ((∀ n, iz n [] = True) ∧ (∀ n p r, iz n (p :: r) = (p.under n ∧ iz n r))) := by
 refine ⟨⟨?_, ?_, ?_, ?_⟩, ?_, ?_⟩ <;> (intros; rfl)
theorem qB {P : Program} {rs : List ResultVar} {n : Nat} {post pp : PV → List OB → Prop} {E : Env} {σ : List OB} (τ : List OB)
  (h : match dH P E σ rs with | some (C, ps) => C ∧ ps.all PV.isV = true ∧ (i7 τ σ ∧ n ≤ τ.length ∧ ay τ.length τ ∧ (di ps).underP τ.length ∧ post (di ps) τ) | none => False) : i5 P rs (qA n post) pp .ret E σ := by
 simp only [i5]
 split at h
 ·rename_i C ps e
  rw [e]
  exact ⟨h.1, h.2.1, τ, h.2.2⟩
 ·exact h.elim
theorem nn {P : Program} {rs : List ResultVar} {n : Nat} {post pp : PV → List OB → Prop} {E : Env} {σ : List OB} (τ : List OB)
  (h : match dH P E σ rs with | some (C, ps) => C ∧ ps.all PV.isV = true ∧ (i7 τ σ ∧ n ≤ τ.length ∧ ay τ.length τ ∧ (di ps).underP τ.length ∧ post (di ps) τ) | none => False) : i5 P rs (qA n post) pp .normal E σ := by
 simp only [i5]
 split at h
 ·rename_i C ps e
  rw [e]
  exact ⟨h.1, h.2.1, τ, h.2.2⟩
 ·exact h.elim
end Pam
namespace Pam
open Go
def fY (E : Env) (σ : List OB) (E' : Env) (σ' : List OB) : Prop :=
  ∀ (G : Gh) (a : Act) (w : World), Sim G E σ a w → ∃ G', Gle G G' ∧ Sim G' E' σ' a w
theorem dI {P : Program} {c : Code} {K : Kt} {E E' : Env} {σ σ' : List OB} (hg : fY E σ E' σ') (h : W P c K E' σ') : W P c K E σ := fun G a w hs => by
  obtain ⟨G', h1, h2⟩ := hg G a w hs
  exact Code.wp_mono (fun _ _ _ hq => d6.back h1 hq) (h G' a w h2)
theorem aK {P : Program} {ops : Array Oper} {γ : Bool} {C : Prop} {f : FuncId} {args : List PV} {o : Oper} {r : List Oper} {E E' : Env} {σ σ' : List OB} {k : Env → List OB → Prop} {kp : PV → Env → List OB → Prop}
    (hg : fY E σ E' σ') (h : gD P ops (o :: r) E' σ' k kp) : iL P ops γ C f args o r E σ k kp := by
  intro _ _ G a w hs
  obtain ⟨G', h1, h2⟩ := hg G a w hs
  exact dh (fun _ _ _ hq => d6.back h1 hq) _ _ _ (gm _ _ _ _ _ h G' a w h2)
def CV.frO (b ver s : Nat) (es : List (List CV)) : CV → CV
  | .osl b' v lo len => if b' = b then (if v = ver ∧ lo + len ≤ es.length then .tree s ((es.drop lo).take len) else .junk) else .osl b' v lo len
  | .oel b' v i j => if b' = b then .junk else .oel b' v i j
  | .optr b' off => if b' = b then .junk else .optr b' off
  | .fn f caps => .fn f caps
  | .junk => .junk
  | .bool x => .bool x
  | .int k n => .int k n
  | .str x => .str x
  | .nilp => .nilp
  | .nils => .nils
  | .nilf => .nilf
  | .nili => .nili
  | .emp => .emp
  | .emn => .emn
  | .tree s' es' => .tree s' es'
  | .tptr s' es' i j => .tptr s' es' i j
  | .ifc T g cs => .ifc T g cs
def CV.fr (b ver s : Nat) (es : List (List CV)) : CV → CV
  | .fn f caps => .fn f (caps.map (CV.frO b ver s es))
  | c => c.frO b ver s es
def PV.fr (b ver s : Nat) (es : List (List CV)) : PV → PV
  | .x => .x
  | .c y => .c (y.fr b ver s es)
  | .a ys => .a (ys.map (CV.fr b ver s es))
  | .t _ => .x
def OB.fr (b ver s : Nat) (es : List (List CV)) : OB → OB
  | .box cs => .box (cs.map (CV.fr b ver s es))
  | .arr s' v T e => .arr s' v T e
  | .dead => .dead
def Tr.fr (b ver s : Nat) (es : List (List CV)) : Tr → Tr
  | .nil => .nil
  | .leaf e => .leaf ⟨e.cond && (match e.v with | .t _ => false | _ => true), e.v.fr b ver s es⟩
  | .node a0 a1 a2 a3 a4 a5 a6 a7 => .node (a0.fr b ver s es) (a1.fr b ver s es) (a2.fr b ver s es) (a3.fr b ver s es) (a4.fr b ver s es) (a5.fr b ver s es) (a6.fr b ver s es) (a7.fr b ver s es)
def Env.fr (b ver s : Nat) (es : List (List CV)) (E : Env) : Env := ⟨E.n, E.na, E.t.fr b ver s es⟩
theorem Tr.fr_get (b ver s : Nat) (es : List (List CV)) (t : Tr) (j : Nat) : (t.fr b ver s es).get j = (t.get j).fr b ver s es := by
  rcases Nat.lt_or_ge j 8 with hj | hj
  · have hj' : j = 0 ∨ j = 1 ∨ j = 2 ∨ j = 3 ∨ j = 4 ∨ j = 5 ∨ j = 6 ∨ j = 7 := by omega
    cases t <;> rcases hj' with rfl | rfl | rfl | rfl | rfl | rfl | rfl | rfl <;> rfl
  · rw [Tr.get_big _ _ hj, Tr.get_big _ _ hj]; rfl
theorem Tr.fr_ent (b ver s : Nat) (es : List (List CV)) (t : Tr) : (t.fr b ver s es).ent = ⟨t.ent.cond && (match t.ent.v with | .t _ => false | _ => true), t.ent.v.fr b ver s es⟩ := by
  cases t <;> rfl
def frG (G : Gh) (w : World) (b : Nat) (o : OG) : Gh :=
  { G with H := fun x => if o.has = true ∧ x = o.blk then w.heap[x]? else G.H x, own := G.own.set b none }
section
variable {G : Gh} {σ : List OB} {w : World} {b s ver : Nat} {T : TypeId} {es : List (List CV)} {o : OG}
theorem pS (hi : Inv G σ w) (ho : G.own[b]? = some (some o)) : ∀ x y, G.H x = some y → (frG G w b o).H x = some y := by
  intro x y h
  simp only [frG]
  split
  · rename_i hc
    have := (hi.sep b o ho hc.1).1
    rw [hc.2] at h; rw [this] at h; cases h
  · exact h
theorem pT (ho : G.own[b]? = some (some o)) : aY G.own (G.own.set b none) := by
  intro x oo h
  by_cases e : x = b
  · subst e
    have hlt : x < G.own.length := (List.getElem?_eq_some_iff.1 h).1
    exact ⟨none, by simp [hlt], fun o' ho' => by cases ho'⟩
  · exact ⟨oo, by rw [List.getElem?_set_ne (Ne.symm e)]; exact h, fun o' ho' => ⟨o', ho', .inl rfl⟩⟩
theorem fw (hi : Inv G σ w) (hσ : σ[b]? = some (.arr s ver T es)) (ho : G.own[b]? = some (some o)) {c : CV} {v : Value} (h : cP G c v) : cP (frG G w b o) (c.frO b ver s es) v := by
  have h1 : v.oneCell' = true := cP.one h
  have hm : ∀ {c}, cP G c v → cP (frG G w b o) c v := fun h => cP.mono (pS hi ho) (pT ho) h
  have junk : cP (frG G w b o) .junk v := .junk v h1
  cases c <;> simp only [CV.frO] <;> try exact hm h
  case optr b' off =>
    split
    · exact junk
    · exact hm h
  case oel b' v' i j =>
    split
    · exact junk
    · exact hm h
  case osl b' v' lo len =>
    split
    · rename_i e
      subst e
      split
      · rename_i hc
        obtain ⟨rfl, hle⟩ := hc
        obtain ⟨_, oo, k1, k2⟩ := h
        rw [ho] at k1
        simp only [sJ] at k1
        obtain ⟨o', g1, g2, g3, g4, g5, g6, g7, g8, g9⟩ := hi.own b' _ hσ
        rw [ho] at g1
        simp only [sJ] at g1
        subst g1
        obtain ⟨q1, q2⟩ := k2 o k1.symm
        obtain ⟨q3, a, rfl, q4⟩ := q2 g2.symm
        have hlen : ((es.drop lo).take len).length = len := by simp; omega
        show aM _ _ _
        rcases Nat.eq_zero_or_pos len with e0 | e0
        · subst e0
          simp only [List.take_zero]
          exact .tree0 s a _ (fun h => by
            cases hh : o.has with
            | true => obtain ⟨a', e, _⟩ := q4 hh; rw [h] at e; cases e
            | false => have := g8 hh; omega)
        · have hh : o.has = true := by
            cases hh : o.has with
            | true => rfl
            | false => have := g8 hh; omega
          obtain ⟨a', rfl, q5⟩ := q4 hh
          have := q5 (by omega)
          subst this
          obtain ⟨c, fz, r1, r2, r3, r4⟩ := g9 hh
          have hget : ∀ (i : Nat) (e : List CV), ((es.drop lo).take len)[i]? = some e → es[lo + i]? = some e := by
            intro i e h
            rw [List.getElem?_take] at h
            split at h
            · rwa [List.getElem?_drop] at h
            · cases h
          have hr := aM.tree (H := (frG G w b' o).H) s ((es.drop lo).take len) o.blk (lo * o.sz) (o.cap - lo) c T fz (fun i j => (c[lo * o.sz + i * s + j]?).getD undef) (by simp [frG, hh, r1]) (by omega)
            (fun i e h => g7 e (List.mem_of_getElem? (hget i e h)))
            (fun i j e x h1 h2 => by
              obtain ⟨v, r5, _⟩ := r4 (lo + i) j e x (hget i e h1) h2
              have : lo * o.sz + i * s + j = (lo + i) * s + j := by rw [g3, Nat.add_mul]
              rw [this, r5]; rfl)
            (fun i j e x h1 h2 => by
              obtain ⟨v, r5, r6⟩ := r4 (lo + i) j e x (hget i e h1) h2
              have : lo * o.sz + i * s + j = (lo + i) * s + j := by rw [g3, Nat.add_mul]
              rw [this, r5]
              exact aM.mono (pS hi ho) r6)
          rw [hlen] at hr
          exact hr
      · exact junk
    · exact hm h
theorem sR (hi : Inv G σ w) (hσ : σ[b]? = some (.arr s ver T es)) (ho : G.own[b]? = some (some o)) {c : CV} {v : Value} (h : Rep G c v) : Rep (frG G w b o) (c.fr b ver s es) v := by
  cases c
  case fn f caps =>
    obtain ⟨vs, rfl, h2⟩ := h
    refine ⟨vs, rfl, ?_⟩
    induction caps generalizing vs with
    | nil => cases vs <;> simp_all [aF]
    | cons c cs ih =>
      cases vs with
      | nil => simp [aF] at h2
      | cons v vs => exact ⟨fw hi hσ ho h2.1, ih vs h2.2⟩
  all_goals first
    | exact fw hi hσ ho (c := .junk) h
    | exact fw hi hσ ho (c := .bool _) h
    | exact fw hi hσ ho (c := .int _ _) h
    | exact fw hi hσ ho (c := .str _) h
    | exact fw hi hσ ho (c := .nilp) h
    | exact fw hi hσ ho (c := .nils) h
    | exact fw hi hσ ho (c := .nilf) h
    | exact fw hi hσ ho (c := .nili) h
    | exact fw hi hσ ho (c := .emp) h
    | exact fw hi hσ ho (c := .emn) h
    | exact fw hi hσ ho (c := .tree _ _) h
    | exact fw hi hσ ho (c := .tptr _ _ _ _) h
    | exact fw hi hσ ho (c := .ifc _ _ _) h
    | skip
  case optr b' off =>
    have := fw hi hσ ho (c := .optr b' off) h
    simp only [CV.fr]
    by_cases e : b' = b <;> simp only [CV.frO, e, if_true, if_false] at this ⊢ <;> exact this
  case osl b' v' lo len =>
    have := fw hi hσ ho (c := .osl b' v' lo len) h
    simp only [CV.fr]
    by_cases e : b' = b
    · by_cases e2 : v' = ver ∧ lo + len ≤ es.length <;> simp only [CV.frO, e, e2, if_true, if_false] at this ⊢ <;> exact this
    · simp only [CV.frO, e, if_false] at this ⊢; exact this
  case oel b' v' i j =>
    have := fw hi hσ ho (c := .oel b' v' i j) h
    simp only [CV.fr]
    by_cases e : b' = b <;> simp only [CV.frO, e, if_true, if_false] at this ⊢ <;> exact this
theorem rq (hi : Inv G σ w) (hσ : σ[b]? = some (.arr s ver T es)) (ho : G.own[b]? = some (some o)) : ∀ {cs : List CV} {vs : List Value}, aF (Rep G) cs vs → aF (Rep (frG G w b o)) (cs.map (CV.fr b ver s es)) vs
  | [], [], _ => trivial
  | _ :: _, _ :: _, h => ⟨sR hi hσ ho h.1, rq hi hσ ho h.2⟩
theorem ui (hi : Inv G σ w) (hσ : σ[b]? = some (.arr s ver T es)) (ho : G.own[b]? = some (some o)) : Inv (frG G w b o) ((σ.set b .dead).map (OB.fr b ver s es)) w := by
  have hH := pS (b := b) hi ho
  have hblt : b < G.own.length := (List.getElem?_eq_some_iff.1 ho).1
  have hne : ∀ (x : Nat) (o' : OG), (G.own.set b none)[x]? = some (some o') → x ≠ b ∧ G.own[x]? = some (some o') := by
    intro x o' h
    by_cases e : x = b
    · subst e; simp [hblt] at h
    · rw [List.getElem?_set_ne (Ne.symm e)] at h; exact ⟨e, h⟩
  refine ⟨?_, hi.hF, ?_, by simp [frG, hi.len], ?_, fun x x' o1 o2 h1 h2 => hi.inj x x' o1 o2 (hne _ _ h1).2 (hne _ _ h2).2, ?_, hi.os, hi.tape, hi.output, hi.grow⟩
  · intro x y h
    simp only [frG] at h
    split at h
    · exact h
    · exact hi.hH x y h
  · intro x y h
    simp only [frG]
    split
    · rename_i hc
      have := (hi.sep b o ho hc.1).2
      have h : G.F x = some y := h
      rw [hc.2] at h; rw [this] at h; cases h
    · exact hi.HF x y h
  · intro x ob h
    rw [List.getElem?_map, Option.map_eq_some_iff] at h
    obtain ⟨ob', h1, rfl⟩ := h
    by_cases e : x = b
    · subst e
      have hlt : x < σ.length := (List.getElem?_eq_some_iff.1 hσ).1
      simp only [List.getElem?_set_self hlt, sJ] at h1
      subst h1
      simp [OB.fr, it, frG, hblt]
    · rw [List.getElem?_set_ne (Ne.symm e)] at h1
      have hx : (frG G w b o).own[x]? = G.own[x]? := by simp only [frG]; exact List.getElem?_set_ne (Ne.symm e)
      have hok := hi.own x ob' h1
      cases ob' with
      | dead => simpa [OB.fr, it, hx] using hok
      | box cs =>
        obtain ⟨o', c, T', g1, g2, g3, g4, g5⟩ := hok
        exact ⟨o', c, T', hx.trans g1, g2, g3, g4, rq hi hσ ho g5⟩
      | arr s' v' T' e' =>
        obtain ⟨o', g1, g2, g3, g4, g5, g6, g7, g8, g9⟩ := hok
        refine ⟨o', hx.trans g1, g2, g3, g4, g5, g6, g7, g8, fun hh => ?_⟩
        obtain ⟨c, fz, r1, r2, r3, r4⟩ := g9 hh
        exact ⟨c, fz, r1, r2, r3, fun i j e y p1 p2 => by obtain ⟨v, p3, p4⟩ := r4 i j e y p1 p2; exact ⟨v, p3, aM.mono hH p4⟩⟩
  · intro x o' h hh
    obtain ⟨e, h'⟩ := hne _ _ h
    obtain ⟨s1, s2⟩ := hi.sep x o' h' hh
    refine ⟨?_, s2⟩
    simp only [frG]
    split
    · rename_i hc
      exact (e (hi.inj x b o' o h' ho hh hc.1 hc.2)).elim
    · exact s1
end
theorem aZ {E : Env} {σ : List OB} (b : Nat) {s ver : Nat} {T : TypeId} {es : List (List CV)} (hσ : σ[b]? = some (.arr s ver T es)) : fY E σ (E.fr b ver s es) ((σ.set b .dead).map (OB.fr b ver s es)) := by
  intro G a w hs
  have hi := hs.inv
  obtain ⟨o, ho, _⟩ := hi.own b _ hσ
  refine ⟨frG G w b o, .mk' ⟨pS hi ho, rfl, rfl, rfl⟩ (pT ho), ui hi hσ ho, hs.defers, hs.size, hs.na, fun i hc => ?_⟩
  have hget : (E.fr b ver s es).get i = ⟨(E.get i).cond && (match (E.get i).v with | .t _ => false | _ => true), (E.get i).v.fr b ver s es⟩ := by
    unfold Env.get Env.fr
    simp only
    rw [Tr.fr_get, Tr.fr_get, Tr.fr_get, Tr.fr_ent]
  rw [hget] at hc ⊢
  simp only [Bool.and_eq_true] at hc
  have hr := hs.slot i hc.1
  cases hv : (E.get i).v with
  | x => trivial
  | c y => rw [hv] at hr; exact sR hi hσ ho hr
  | a ys => rw [hv] at hr; obtain ⟨vs, e, h2⟩ := hr; exact ⟨vs, e, rq hi hσ ho h2⟩
  | t ps => rw [hv] at hc; simp at hc
theorem uy :
    ((∀ b v s es n na t, Env.fr b v s es ⟨n, na, t⟩ = ⟨n, na, t.fr b v s es⟩) ∧ (∀ b v s es, Tr.fr b v s es .nil = .nil) ∧ (∀ b v s es c y, Tr.fr b v s es (.leaf ⟨c, .c y⟩) = .leaf ⟨c, .c (y.fr b v s es)⟩) ∧ (∀ b v s es c ys, Tr.fr b v s es (.leaf ⟨c, .a ys⟩) = .leaf ⟨c, .a (ys.map (CV.fr b v s es))⟩) ∧
     (∀ b v s es c ps, Tr.fr b v s es (.leaf ⟨c, .t ps⟩) = .leaf ⟨false, .x⟩) ∧ (∀ b v s es c, Tr.fr b v s es (.leaf ⟨c, .x⟩) = .leaf ⟨c, .x⟩) ∧
     (∀ b v s es a0 a1 a2 a3 a4 a5 a6 a7, Tr.fr b v s es (.node a0 a1 a2 a3 a4 a5 a6 a7) = .node (a0.fr b v s es) (a1.fr b v s es) (a2.fr b v s es) (a3.fr b v s es) (a4.fr b v s es) (a5.fr b v s es) (a6.fr b v s es) (a7.fr b v s es))) ∧
    ((∀ b v s es, OB.fr b v s es .dead = .dead) ∧ (∀ b v s es cs, OB.fr b v s es (.box cs) = .box (cs.map (CV.fr b v s es))) ∧ (∀ b v s es s' v' T e, OB.fr b v s es (.arr s' v' T e) = .arr s' v' T e)) ∧
    ((∀ b v s es x, CV.fr b v s es (.bool x) = .bool x) ∧ (∀ b v s es k n, CV.fr b v s es (.int k n) = .int k n) ∧ (∀ b v s es x, CV.fr b v s es (.str x) = .str x) ∧ (∀ b v s es, CV.fr b v s es .nilp = .nilp) ∧ (∀ b v s es, CV.fr b v s es .nils = .nils) ∧
     (∀ b v s es, CV.fr b v s es .nilf = .nilf) ∧ (∀ b v s es, CV.fr b v s es .nili = .nili) ∧ (∀ b v s es, CV.fr b v s es .emp = .emp) ∧ (∀ b v s es, CV.fr b v s es .emn = .emn) ∧ (∀ b v s es, CV.fr b v s es .junk = .junk) ∧ (∀ b v s es s' e', CV.fr b v s es (.tree s' e') = .tree s' e') ∧
     (∀ b v s es s' e' i j, CV.fr b v s es (.tptr s' e' i j) = .tptr s' e' i j) ∧ (∀ b v s es T g cs, CV.fr b v s es (.ifc T g cs) = .ifc T g cs)) ∧
    ((∀ b v s es b' v' lo len, CV.fr b v s es (.osl b' v' lo len) = if b' = b then (if v' = v ∧ lo + len ≤ es.length then .tree s ((es.drop lo).take len) else .junk) else .osl b' v' lo len) ∧
     (∀ b v s es b' v' i j, CV.fr b v s es (.oel b' v' i j) = if b' = b then .junk else .oel b' v' i j) ∧ (∀ b v s es b' off, CV.fr b v s es (.optr b' off) = if b' = b then .junk else .optr b' off) ∧
     (∀ b v s es f caps, CV.fr b v s es (.fn f caps) = .fn f (caps.map (CV.frO b v s es)))) := by
  refine ⟨⟨?_, ?_, ?_, ?_, ?_, ?_, ?_⟩, ⟨?_, ?_, ?_⟩, ⟨?_, ?_, ?_, ?_, ?_, ?_, ?_, ?_, ?_, ?_, ?_, ?_, ?_⟩, ?_, ?_, ?_, ?_⟩
  all_goals intros
  all_goals first | rfl | (simp [Tr.fr, PV.fr]; done)
theorem ce : (∀ n f, CV.under n (.fn f []) = True) ∧ (∀ n f b off r, CV.under n (.fn f (.optr b off :: r)) = (b < n ∧ CV.under n (.fn f r))) ∧ (∀ n f b v lo k r, CV.under n (.fn f (.osl b v lo k :: r)) = (b < n ∧ CV.under n (.fn f r))) ∧
    (∀ n f k i r, CV.under n (.fn f (.int k i :: r)) = CV.under n (.fn f r)) ∧ (∀ n f k i r, CV.under n (.fn f (.tree k i :: r)) = CV.under n (.fn f r)) ∧ (∀ n f s r, CV.under n (.fn f (.str s :: r)) = CV.under n (.fn f r)) ∧ (∀ n f s r, CV.under n (.fn f (.bool s :: r)) = CV.under n (.fn f r)) := by
  refine ⟨?_, ?_, ?_, ?_, ?_, ?_, ?_⟩ <;> intros <;> simp [CV.under]
theorem cz {E : Env} {d : Nat} (h : Nat.ble (d + 1) E.n = true) : dC E (some d) := Nat.le_of_ble_eq_true h
def PV.ren1 (r : Nat → Nat) : PV → PV
  | .c y => .c (y.ren r)
  | .a ys => .a (ys.map (CV.ren r))
  | q => q
theorem uj :
    ((∀ r y, PV.ren r (.c y) = .c (y.ren r)) ∧ (∀ r ys, PV.ren r (.a ys) = .a (ys.map (CV.ren r))) ∧ (∀ r, PV.ren r .x = .x) ∧ (∀ r ps, PV.ren r (.t ps) = .t (ps.map (PV.ren1 r))) ∧ (∀ r y, PV.ren1 r (.c y) = .c (y.ren r)) ∧ (∀ r ys, PV.ren1 r (.a ys) = .a (ys.map (CV.ren r)))) ∧
    ((∀ r cs, OB.ren r (.box cs) = .box (cs.map (CV.ren r))) ∧ (∀ r, OB.ren r .dead = .dead) ∧ (∀ r s v T es, OB.ren r (.arr s v T es) = .arr s v T es)) ∧
    ((∀ r x, CV.ren r (.bool x) = .bool x) ∧ (∀ r k n, CV.ren r (.int k n) = .int k n) ∧ (∀ r x, CV.ren r (.str x) = .str x) ∧ (∀ r, CV.ren r .nilp = .nilp) ∧ (∀ r, CV.ren r .nils = .nils) ∧ (∀ r, CV.ren r .nilf = .nilf) ∧ (∀ r, CV.ren r .nili = .nili) ∧ (∀ r, CV.ren r .emp = .emp) ∧ (∀ r, CV.ren r .emn = .emn) ∧ (∀ r, CV.ren r .junk = .junk) ∧
     (∀ r s es, CV.ren r (.tree s es) = .tree s es) ∧ (∀ r s es i j, CV.ren r (.tptr s es i j) = .tptr s es i j) ∧ (∀ r T g cs, CV.ren r (.ifc T g cs) = .ifc T g cs)) ∧
    ((∀ r b off, CV.ren r (.optr b off) = .optr (r b) off) ∧ (∀ r b v lo n, CV.ren r (.osl b v lo n) = .osl (r b) v lo n) ∧ (∀ r b v i j, CV.ren r (.oel b v i j) = .oel (r b) v i j) ∧ (∀ r f caps, CV.ren r (.fn f caps) = .fn f (caps.map (CV.ren0 r))) ∧
     (∀ r b off, CV.ren0 r (.optr b off) = .optr (r b) off) ∧ (∀ r b v lo n, CV.ren0 r (.osl b v lo n) = .osl (r b) v lo n) ∧ (∀ r k n, CV.ren0 r (.int k n) = .int k n) ∧ (∀ r s es, CV.ren0 r (.tree s es) = .tree s es) ∧ (∀ r x, CV.ren0 r (.str x) = .str x) ∧ (∀ r x, CV.ren0 r (.bool x) = .bool x)) ∧
    ((∀ n ρ k, cA n ρ k = if k < ρ.length then ρ.getD k 0 else n + (k - ρ.length)) ∧ (∀ {α : Type} (σ xs : List α), b8 σ [] xs = σ ++ xs) ∧ (∀ {α : Type} (σ xs : List α) b ρ x, b8 σ (b :: ρ) (x :: xs) = b8 (σ.set b x) ρ xs)) := by
  refine ⟨⟨?_, ?_, ?_, ?_, ?_, ?_⟩, ⟨?_, ?_, ?_⟩, ⟨?_, ?_, ?_, ?_, ?_, ?_, ?_, ?_, ?_, ?_, ?_, ?_, ?_⟩, ⟨?_, ?_, ?_, ?_, ?_, ?_, ?_, ?_, ?_, ?_⟩, ?_, ?_, ?_⟩ <;> intros <;> first | rfl | simp [b8]
end Pam
namespace Pam
open Go
def kf {S O : Type} (body : S → Option (S ⊕ O)) : Nat → S → Option O
  | 0, _ => none
  | n + 1, s => match body s with
    | none => none
    | some (.inl s') => kf body n s'
    | some (.inr o) => some o
theorem no {S O : Type} {body : S → Option (S ⊕ O)} : ∀ {n : Nat} {s : S} {o : O}, kf body n s = some o → kf body (n + 1) s = some o
  | 0, _, _, h => by cases h
  | n + 1, s, o, h => by
    unfold kf at h ⊢
    cases hb : body s with
    | none => rw [hb] at h; cases h
    | some r => cases r with
      | inl s' => rw [hb] at h; exact no h
      | inr o' => rw [hb] at h; exact h
theorem pU {S O : Type} {body : S → Option (S ⊕ O)} {n m : Nat} {s : S} {o : O} (h : kf body n s = some o) (hm : n ≤ m) : kf body m s = some o := by
  induction hm with
  | refl => exact h
  | step _ ih => exact no ih
open Classical in
noncomputable def aU {S O : Type} (body : S → Option (S ⊕ O)) (s : S) : Option O :=
  if h : ∃ n o, kf body n s = some o then some (Classical.choose (Classical.choose_spec h)) else none
theorem i8 {S O : Type} {body : S → Option (S ⊕ O)} {s : S} {o : O} (h : aU body s = some o) : ∃ n, kf body n s = some o := by
  unfold aU at h
  split at h
  · rename_i hx
    simp only [sJ] at h
    exact ⟨_, h ▸ Classical.choose_spec (Classical.choose_spec hx)⟩
  · cases h
theorem jp {S O : Type} {body : S → Option (S ⊕ O)} {s : S} {o : O} {n : Nat} (h : kf body n s = some o) : aU body s = some o := by
  have hx : ∃ n o, kf body n s = some o := ⟨n, o, h⟩
  cases hl : aU body s with
  | none => unfold aU at hl; rw [dif_pos hx] at hl; cases hl
  | some o' =>
    obtain ⟨m, hm⟩ := i8 hl
    have h1 := pU h (Nat.le_max_left n m)
    have h2 := pU hm (Nat.le_max_right n m)
    rw [h1] at h2; exact h2.symm
theorem pV {S O : Type} (body : S → Option (S ⊕ O)) (s : S) : aU body s = match body s with
    | none => none
    | some (.inl s') => aU body s'
    | some (.inr o) => some o := by
  cases hb : body s with
  | none =>
    cases hl : aU body s with
    | none => rfl
    | some o =>
      obtain ⟨n, hn⟩ := i8 hl
      cases n with
      | zero => cases hn
      | succ n => simp [kf, hb] at hn
  | some r =>
    cases r with
    | inr o => exact jp (n := 1) (by simp [kf, hb])
    | inl s' =>
      show aU body s = aU body s'
      cases hl : aU body s with
      | some o =>
        obtain ⟨n, hn⟩ := i8 hl
        cases n with
        | zero => cases hn
        | succ n => exact (jp (n := n) (by simpa [kf, hb] using hn)).symm
      | none =>
        cases hl' : aU body s' with
        | none => rfl
        | some o =>
          obtain ⟨n, hn⟩ := i8 hl'
          have := jp (body := body) (s := s) (n := n + 1) (o := o) (by simpa [kf, hb] using hn)
          rw [this] at hl; cases hl
theorem cL {S O : Type} {body : S → Option (S ⊕ O)} {s s' : S} (h : body s = some (.inl s')) : aU body s = aU body s' := by rw [pV, h]
theorem aN {S O : Type} {body : S → Option (S ⊕ O)} {s : S} {o : O} (h : body s = some (.inr o)) : aU body s = some o := by rw [pV, h]
theorem gd {α : Type} {p : Prop} [Decidable p] {m : Option α} {r : α} (h : (if p then m else none) = some r) : p ∧ m = some r := by
  split at h
  · exact ⟨by assumption, h⟩
  · cases h
theorem bd {α β : Type} {o : Option α} {f : α → Option β} {r : β} (h : o.bind f = some r) : ∃ y, o = some y ∧ f y = some r := by
  cases o with
  | none => cases h
  | some y => exact ⟨y, rfl, h⟩
def fo (n b : Nat) : Prop := n * b ≤ 140737488355328 ∧ n ≤ maxLen
instance (n b : Nat) : Decidable (fo n b) := inferInstanceAs (Decidable (_ ∧ _))
def eK (k : IntKind) (n : Int) : List CV := [.int k n]
def eB (b : Bool) : List CV := [.bool b]
def eS (s : List UInt8) : List CV := [.str s]
def eL {α : Type} (s : Nat) (f : α → List CV) (l : List α) : List CV := [.tree s (l.map f)]
section
variable {P : Program} {K : Kt} {E E0 : Env} {σ : List OB}
theorem fY.refl (E : Env) (σ : List OB) : fY E σ E σ := fun G _ _ hs => ⟨G, Gle.refl G, hs⟩
theorem fY.trans {E E' E'' : Env} {σ σ' σ'' : List OB} (h : fY E σ E' σ') (h' : fY E' σ' E'' σ'') : fY E σ E'' σ'' := fun G a w hs => by
  obtain ⟨G', g1, hs'⟩ := h G a w hs
  obtain ⟨G'', g2, hs''⟩ := h' G' a w hs'
  exact ⟨G'', g1.trans g2, hs''⟩
def ss {α : Type} (E0 : Env) (ms : List Nat) (slots : α → List (Nat × PV)) (heap : α → List OB) (inv : α → Prop) (μ : α → Nat) (x : α) (K : Kt) : Kt
  | .normal, E, σ => ∃ y E' σ', fY E σ E' σ' ∧ inv y ∧ μ y < μ x ∧ jy E' σ' (E0.over ms (slots y)) (heap y)
  | e, E, σ => K e E σ
theorem st {α : Type} {c : Code} (ms : List Nat) (slots : α → List (Nat × PV)) (heap : α → List OB) (inv : α → Prop) (μ : α → Nat) (x0 : α) (h0 : inv x0) (hl : jy E σ (E.over ms (slots x0)) (heap x0))
    (round : ∀ x, inv x → W P c (ss E ms slots heap inv μ x K) (E.over ms (slots x)) (heap x)) : W P (.loop c) K E σ := fun G a w hs => by
  obtain ⟨G0, hg0, hs0⟩ := hl.sim hs
  refine Code.wp_mono (fun _ _ _ hq => d6.back hg0 hq) ?_
  intro b k cs
  have key : ∀ (m : Nat) (x : α) (G : Gh) (a : Act) (w : World), μ x = m → inv x → Gle G0 G → Sim G (E.over ms (slots x)) (heap x) a w →
      ∃ e a' w', d6 G0 K e a' w' ∧ Arrives P (lone (b.at a (.code c :: .inLoop c :: k)) cs w) b k cs e a' w' := by
    intro m
    induction m using Nat.strongRecOn with
    | _ m ih =>
      intro x G a w hm hinv hG hs
      have hr := round x hinv G a w hs
      obtain ⟨e, a₁, w₁, hq, harr⟩ := hr b (.inLoop c :: k) cs
      obtain ⟨G', E', σ', px, g1, g2, g3, g4⟩ := hq
      cases px with
      | normal =>
        cases g3
        obtain ⟨y, E2, σ2, hgh, hy, hlt, hless⟩ := g4
        obtain ⟨G1, p1, p2⟩ := hgh G' a₁ w₁ g2
        obtain ⟨G'', q1, q2⟩ := hless.sim p2
        obtain ⟨e₂, a₂, w₂, hq₂, harr₂⟩ := ih (μ y) (hm ▸ hlt) y G'' a₁ w₁ rfl hy (hG.trans (g1.trans (p1.trans q1))) q2
        exact ⟨e₂, a₂, w₂, hq₂, .of_steps (Steps.trans harr (.one step_inLoop)) harr₂⟩
      | exit id => exact ⟨e, a₁, w₁, d6.back hG ⟨G', E', σ', .exit id, g1, g2, g3, g4⟩, by cases g3; exact .pass (x := .inLoop c) rfl (fun _ _ => .inl (by simp)) harr⟩
      | ret => exact ⟨e, a₁, w₁, d6.back hG ⟨G', E', σ', .ret, g1, g2, g3, g4⟩, by cases g3; exact .pass (x := .inLoop c) rfl (fun _ _ => .inl (by simp)) harr⟩
      | panic p => exact ⟨e, a₁, w₁, d6.back hG ⟨G', E', σ', .panic p, g1, g2, g3, g4⟩, by obtain ⟨v, rfl, hv⟩ := g3; exact .pass (x := .inLoop c) rfl (fun _ _ => .inl (by simp)) harr⟩
  obtain ⟨e, a', w', hq, harr⟩ := key _ x0 G0 a w rfl h0 (Gle.refl _) hs0
  exact ⟨e, a', w', hq, .of_steps (.one step_loop) harr⟩
def mr {S V O : Type} (E0 : Env) (ms : List Nat) (slots : S → V → List (Nat × PV)) (heap : S → V → List OB) (r : S ⊕ O) (K : Kt) : Kt
  | .normal, E, σ => ∃ s v E' σ', fY E σ E' σ' ∧ r = .inl s ∧ jy E' σ' (E0.over ms (slots s v)) (heap s v)
  | e, E, σ => K e E σ
theorem bl {S V O : Type} {c : Code} (ms : List Nat) (slots : S → V → List (Nat × PV)) (heap : S → V → List OB) (body : S → Option (S ⊕ O)) (s0 : S) (v0 : V) {o : O} (ho : aU body s0 = some o)
    (hl : jy E σ (E.over ms (slots s0 v0)) (heap s0 v0))
    (round : ∀ s v r, body s = some r → (∀ o', r = .inr o' → o' = o) → W P c (mr E ms slots heap r K) (E.over ms (slots s v)) (heap s v)) : W P (.loop c) K E σ := by
  obtain ⟨n, hn⟩ := i8 ho
  refine st (α := S × V × Nat) ms (fun x => slots x.1 x.2.1) (fun x => heap x.1 x.2.1) (fun x => kf body x.2.2 x.1 = some o) (fun x => x.2.2) (s0, v0, n) hn hl ?_
  rintro ⟨s, v, n⟩ hs
  cases n with
  | zero => cases hs
  | succ n =>
    simp only [kf] at hs
    cases hb : body s with
    | none => rw [hb] at hs; cases hs
    | some r =>
      rw [hb] at hs
      refine W.mono (fun x E' σ' h => ?_) (round s v r hb ?_)
      · cases x with
        | normal => obtain ⟨s', v', E2, σ2, hgh, e, hl'⟩ := h; subst e; exact ⟨(s', v', n), E2, σ2, hgh, hs, Nat.lt_succ_self _, hl'⟩
        | exit i => exact h
        | ret => exact h
        | panic p => exact h
      · rintro o' rfl; simpa using hs
def nT {S V : Type} (E0 : Env) (ms : List Nat) (slots : S → V → List (Nat × PV)) (heap : S → V → List OB) (J : S → Prop) (K : Kt) : Kt
  | .normal, E, σ => ∃ s v E' σ', fY E σ E' σ' ∧ J s ∧ jy E' σ' (E0.over ms (slots s v)) (heap s v)
  | e, E, σ => K e E σ
theorem aT {S V : Type} {c d : Code} (ms : List Nat) (slots : S → V → List (Nat × PV)) (heap : S → V → List OB) (J : S → Prop)
    (first : W P c (nT E ms slots heap J K) E σ) (rest : ∀ s v, J s → W P d K (E.over ms (slots s v)) (heap s v)) : W P (.seq c d) K E σ :=
  lF (W.mono (fun x E' σ' h => by
    cases x with
    | normal => obtain ⟨s, v, E2, σ2, hg, h1, h2⟩ := h; exact dI hg (sq h2 (rest s v h1))
    | exit id => exact h
    | ret => exact h
    | panic p => exact h) first)
section
variable {S V O : Type} {ms : List Nat} {slots : S → V → List (Nat × PV)} {heap : S → V → List OB} {r : S ⊕ O} {J : S → Prop}
theorem aO (s : S) (v : V) (hr : some (Sum.inl s) = some r) (hl : jy E σ (E0.over ms (slots s v)) (heap s v)) : mr E0 ms slots heap r K .normal E σ := ⟨s, v, E, σ, fY.refl E σ, (sI hr).symm, hl⟩
theorem aL {i : Nat} (h : K (.exit i) E σ) : mr E0 ms slots heap r K (.exit i) E σ := h
theorem bi (h : K .ret E σ) : mr E0 ms slots heap r K .ret E σ := h
theorem fA {p : PV} (h : K (.panic p) E σ) : mr E0 ms slots heap r K (.panic p) E σ := h
theorem au (s : S) (v : V) (hj : J s) (hl : jy E σ (E0.over ms (slots s v)) (heap s v)) : nT E0 ms slots heap J K .normal E σ := ⟨s, v, E, σ, fY.refl E σ, hj, hl⟩
theorem aS (h : K .ret E σ) : nT E0 ms slots heap J K .ret E σ := h
theorem dD {p : PV} (h : K (.panic p) E σ) : nT E0 ms slots heap J K (.panic p) E σ := h
theorem aC {o o' : O} (h : some (Sum.inr o') = some r) (hr : ∀ o', r = .inr o' → o' = o) : o' = o := hr _ (sI h).symm
end
theorem Inv.nil {G : Gh} {σ : List OB} {w : World} (hi : Inv G σ w) (s : Nat) (T : TypeId) (hs : 0 < s) :
    Inv { G with own := G.own ++ [some ⟨0, s, 0, 0, false⟩] } (σ ++ [.arr s 0 T []]) w := by
  refine hi.push (.arr s 0 T []) ⟨0, s, 0, 0, false⟩ (Nat.le_refl _) (fun _ _ => rfl) (fun h => by cases h) rfl rfl rfl ?_
  have hlast : (G.own ++ [some (⟨0, s, 0, 0, false⟩ : OG)])[σ.length]? = some (some ⟨0, s, 0, 0, false⟩) := by rw [← hi.len]; simp
  exact ⟨_, hlast, rfl, rfl, hs, Nat.le_refl _, Nat.zero_le _, (fun e he => nomatch he), fun _ => rfl, fun h => absurd h (by simp)⟩
theorem pW {G : Gh} {σ : List OB} {w : World} (hi : Inv G σ w) (s : Nat) {v : Value} (hv : aM G.H .nils v) :
    cP { G with own := G.own ++ [some ⟨0, s, 0, 0, false⟩] } (.osl σ.length 0 0 0) v := by
  have hlast : (G.own ++ [some (⟨0, s, 0, 0, false⟩ : OG)])[σ.length]? = some (some ⟨0, s, 0, 0, false⟩) := by rw [← hi.len]; simp
  cases hv
  exact ⟨rfl, _, hlast, fun o e => by
    simp only [sJ] at e; subst e
    exact ⟨Nat.le_refl _, fun _ => ⟨Nat.le_refl _, none, rfl, fun h => by cases h⟩⟩⟩
theorem rr {H : Nat → Option Obj} (s : Nat) {v : Value} (h : aM H .nils v) : aM H (.tree s []) v := by
  cases h
  exact .tree0 s none 0 (fun _ => rfl)
theorem lk (i s : Nat) (T : TypeId) (hs : 0 < s) (hE : E.get i = ⟨true, .c .nils⟩) (hin : i < E.n) : fY E σ (E.put i ⟨true, .c (.osl σ.length 0 0 0)⟩) (σ ++ [.arr s 0 T []]) := by
  intro G a w hs'
  refine ⟨{ G with own := G.own ++ [some ⟨0, s, 0, 0, false⟩] }, .mk' ⟨fun _ _ h => h, rfl, rfl, rfl⟩ (aY.append _ _), hs'.inv.nil s T hs, hs'.defers, hs'.size, hs'.na, fun j hc => ?_⟩
  have hg := Env.get_put E i j _ hc
  rw [hg] at hc ⊢
  by_cases hj : j = i
  · subst hj
    rw [iP rfl]
    have := hs'.slot j (by rw [hE])
    rw [hE] at this
    exact pW hs'.inv s this
  · rw [iN hj] at hc ⊢
    exact aB.mono (G := G) (G' := { G with own := G.own ++ [some ⟨0, s, 0, 0, false⟩] }) (fun _ _ h => h) (aY.append _ _) (hs'.slot j hc)
end
theorem uk : ((true == true) = true ∧ (true == false) = false ∧ (false == true) = false ∧ (false == false) = true) ∧ ((!true) = false ∧ (!false) = true) := by decide
theorem nU :
    ((∀ {α β : Type} (f : α → β) (l : List α) (n : Nat), (l.map f).take n = (l.take n).map f) ∧ (∀ {α β : Type} (f : α → β) (l : List α) (n : Nat), (l.map f).drop n = (l.drop n).map f) ∧
     (∀ {α β : Type} (f : α → β) (l l' : List α), l.map f ++ l'.map f = (l ++ l').map f) ∧ (∀ {α : Type} (l : List α), l.take l.length = l)) := by
  refine ⟨?_, ?_, ?_, ?_⟩ <;> intros <;> simp
theorem sS : (∀ {α : Type} (l : List α) (n : Nat), l.length ≤ n → l.take n = l) ∧ (∀ {α : Type} (l l' : List α), (l ++ l').length = l.length + l'.length) ∧
    (∀ {α : Type} (l : List α) (i : Nat) (x : α), (l.set i x).length = l.length) ∧ (∀ {α : Type} (n : Nat) (x : α), (List.replicate n x).length = n) := by
  refine ⟨fun l n h => List.take_of_length_le h, ?_, ?_, ?_⟩ <;> intros <;> simp
def lit {α : Type} (l : List α) : List α := l
theorem kR {α : Type} (l : List α) : (lit l).length = l.length := rfl
def NT : CV → CV → Prop
  | .nils, .tree _ [] => True
  | .emp, .tree _ [] => True
  | .emn, .tree _ [] => True
  | c, c' => c = c'
def NTs : List CV → List CV → Prop
  | [], [] => True
  | a :: az, b :: bs => NT a b ∧ NTs az bs
  | _, _ => False
theorem NT.rep {G : Gh} {c c' : CV} {v : Value} (h : NT c c') (hr : Rep G c v) : Rep G c' v := by
  unfold NT at h
  split at h
  · exact rr _ (show aM G.H .nils v from hr)
  · have h' : aM G.H .emp v := hr
    show aM G.H (.tree _ []) v
    cases h'
    exact .tree0 _ _ 0 (fun _ => rfl)
  · have h' : aM G.H .emn v := hr
    show aM G.H (.tree _ []) v
    cases h'
    exact .tree0 _ _ _ (fun h => by cases h)
  · subst h; exact hr
theorem NTs.rep {G : Gh} : ∀ {cs cs' : List CV} {vs : List Value}, NTs cs cs' → aF (Rep G) cs vs → aF (Rep G) cs' vs
  | [], [], _, _, h => h
  | _ :: _, _ :: _, _ :: _, ⟨h1, h2⟩, ⟨k1, k2⟩ => ⟨NT.rep h1 k1, NTs.rep h2 k2⟩
def NTp : PV → PV → Prop
  | .c y, .c y' => NT y y'
  | .a ys, .a ys' => NTs ys ys'
  | _, _ => False
theorem np {E : Env} {σ : List OB} (i : Nat) {p : PV} (p' : PV) (hE : E.get i = ⟨true, p⟩) (h : NTp p p') : fY E σ (E.put i ⟨true, p'⟩) σ := by
  intro G a w hs'
  refine ⟨G, Gle.refl G, hs'.inv, hs'.defers, hs'.size, hs'.na, fun j hc => ?_⟩
  have hg := Env.get_put E i j _ hc
  rw [hg] at hc ⊢
  by_cases hj : j = i
  · subst hj
    rw [iP rfl]
    have := hs'.slot j (by rw [hE])
    rw [hE] at this
    cases p <;> cases p' <;> try exact h.elim
    · exact NT.rep (G := G) h this
    · obtain ⟨vs, e, h2⟩ := this; exact ⟨vs, e, NTs.rep h h2⟩
  · rw [iN hj] at hc ⊢
    exact hs'.slot j hc
theorem dm {E : Env} {σ : List OB} (b : Nat) {cs : List CV} (cs' : List CV) (hσ : σ[b]? = some (.box cs)) (h : NTs cs cs') : fY E σ E (σ.set b (.box cs')) := by
  intro G a w hs'
  refine ⟨G, Gle.refl G, ?_, hs'.defers, hs'.size, hs'.na, hs'.slot⟩
  have hi := hs'.inv
  have hlt : b < σ.length := (List.getElem?_eq_some_iff.1 hσ).1
  refine ⟨hi.hH, hi.hF, hi.HF, by simpa using hi.len, fun k ob hk => ?_, hi.inj, hi.sep, hi.os, hi.tape, hi.output, hi.grow⟩
  by_cases hkb : k = b
  · subst hkb
    rw [List.getElem?_set_self hlt] at hk
    simp only [sJ] at hk; subst hk
    obtain ⟨o, c, T, h1, h2, h3, h4, h5⟩ := hi.own k _ hσ
    exact ⟨o, c, T, h1, h2, h3, h4, NTs.rep h h5⟩
  · rw [List.getElem?_set_ne (Ne.symm hkb)] at hk
    exact hi.own k ob hk
def okI (k : IntKind) (n : Int) : Prop := k.min ≤ n ∧ n ≤ k.max
def okL {α : Type} (p : α → Prop) (l : List α) : Prop := ∀ y ∈ l, p y
def szI {α : Type} (_ : α) : Nat := 1
def szL {α : Type} (f : α → Nat) (l : List α) : Nat := (l.map f).sum + 1
def ft (P : Program) (ops : Array Oper) (l : List Oper) (E : Env) (σ : List OB) (k : Env → List OB → Prop) (kp : PV → Env → List OB → Prop) : Prop := WL P ops l E σ (KR k kp)
section
variable {P : Program} {ops : Array Oper} {E E' : Env} {σ σ' : List OB} {k : Env → List OB → Prop} {kp : PV → Env → List OB → Prop} {l : List Oper}
theorem aa (h : gD P ops l E σ k kp) : ft P ops l E σ k kp := gm l E σ k kp h
theorem kE {Q Q1 : Exit → Act → World → Prop} {l2 : List Oper} (h1 : ∀ a w, Q1 .normal a w → wpList P ops Q l2 a w) (h2 : ∀ e a w, e ≠ .normal → Q1 e a w → Q e a w) :
    ∀ (l : List Oper) (a : Act) (w : World), wpList P ops Q1 l a w → wpList P ops Q (l ++ l2) a w
  | [], a, w, h => h1 a w h
  | o :: r, a, w, h => by
    rw [List.cons_append]
    unfold wpList at h ⊢
    have hl : LetsOut Q1 → LetsOut Q := fun ⟨a, w, h⟩ => ⟨a, w, h2 _ _ _ (by simp) h⟩
    split at h
    · rename_i hw
      rw [iP hw]
      rcases h with h | ⟨h3, h4⟩
      · left
        unfold Oper.wp at h ⊢
        generalize (execOp a.eval o).run P w = res at h
        have ih := fun a w h => kE h1 h2 r a w h
        cases res with
        | ok nx w' =>
          cases nx <;> first
            | exact h.elim
            | exact ih _ _ h
            | (refine Calls.mono h fun e w'' hh => ?_
               cases e with
               | returned v => exact ih _ _ hh
               | panicked ch => exact h2 _ _ _ (by simp) hh
               | outgrown => exact hl hh)
            | exact Rows.mono h fun v w'' hh => ih _ _ hh
        | halt hh w' => cases hh <;> first | exact h.elim | exact h2 _ _ _ (by simp) h
      · exact .inr ⟨h3, hl h4⟩
    · rename_i hw
      rw [iN hw]
      exact kE h1 h2 r _ _ h
theorem am (n : Nat) (h : gD P ops (l.take n) E σ (fun E' σ' => ft P ops (l.drop n) E' σ' k kp) kp) : ft P ops l E σ k kp := fun G a w hs => by
  have h1 := gm _ _ _ _ _ h G a w hs
  have h2 := kE (Q := d6 G (KR k kp)) (l2 := l.drop n) (fun a w hq => ?_) (fun e a w he hq => ?_) _ _ _ h1
  · rwa [List.take_append_drop] at h2
  · obtain ⟨G', E1, σ1, x, q1, q2, q3, q4⟩ := hq
    cases x <;> simp only [tC] at q3
    · exact dh (fun _ _ _ hq => d6.back q1 hq) _ _ _ (q4 G' a w q2)
    · cases q3
    · cases q3
    · obtain ⟨v, hv, _⟩ := q3; cases hv
  · obtain ⟨G', E1, σ1, x, q1, q2, q3, q4⟩ := hq
    cases x
    · exact (he q3).elim
    · exact q4.elim
    · exact q4.elim
    · exact ⟨G', E1, σ1, _, q1, q2, q3, q4⟩
theorem dj {K : Kt} {id : Nat} {y : Code} (ms : List Nat)
    (h : ∀ (k : Env → List OB → Prop) (kp : PV → Env → List OB → Prop), (∀ E σ, W P y K E σ → k E σ) → (∀ p E σ, K (.panic p) E σ → kp p E σ) → ft P l.toArray l E σ (fun E σ => k (E.forget ms) σ) kp) :
    W P (.seq (.region id l.toArray false) y) K E σ := lF fun G a w hs =>
  wp_region_lit (dh (fun _ _ _ hp => d6.mono (fun x E σ hk => by
      cases x with
      | normal => exact i6 ms hk
      | exit id => exact hk.elim
      | ret => exact hk.elim
      | panic p => exact hk) hp)
    l a w (h (W P y K) (fun p => K (.panic p)) (fun _ _ h => h) (fun _ _ _ h => h) G a w hs))
theorem im {K : Kt} {id : Nat} (h : ∀ (k : Env → List OB → Prop) (kp : PV → Env → List OB → Prop), (∀ E σ, K .normal E σ → k E σ) → (∀ p E σ, K (.panic p) E σ → kp p E σ) → ft P l.toArray l E σ k kp) :
    W P (.region id l.toArray false) K E σ := fun G a w hs =>
  wp_region_lit (dh (fun _ _ _ hp => d6.mono (fun x E σ hk => by cases x <;> first | exact hk | exact hk.elim) hp)
    l a w (h (K .normal) (fun p => K (.panic p)) (fun _ _ h => h) (fun _ _ _ h => h) G a w hs))
end
end Pam
namespace Pam
open Go
def jz (P : Program) (E : Env) (σ : List OB) (o : Oper) (v : PV) (σ' : List OB) : Prop := ∀ G a w, Sim G E σ a w → nM P G (execOp a.eval o) w v σ'
section
variable {P : Program} {ops : Array Oper} {E E' : Env} {σ σ' : List OB} {k : Env → List OB → Prop} {kp : PV → Env → List OB → Prop} {l : List Oper}
theorem nV {o : Oper} {r : List Oper} {v : PV} (hx : jz P E σ o v σ') (hg : cO ops E o.guard = some true) (hd : dC E o.dst)
    (h : ft P ops r (E.putD o.dst ⟨true, v⟩) σ' k kp) : ft P ops (o :: r) E σ k kp := fun G a w hs => by
  have hw := ix (P := P) hs hg
  unfold wpList
  rw [iP hw]
  obtain ⟨nx, val, w', G', e1, e2, e3, e4, e5, e6⟩ := hx G a w hs
  left
  unfold Oper.wp
  have hs' : Sim G' (E.putD o.dst ⟨true, v⟩) σ' (a.put o.dst val) w' := (hs.ghost e5 e3.H e3.w0 e3.na e4).putD o.dst hd _ val fun _ => e6
  have := dh (fun e a w h => d6.back (Gle.mk' e3 e4) h) r _ _ (h G' _ w' hs')
  rw [e1]
  rcases e2 with rfl | ⟨rfl, rfl⟩
  · exact this
  · exact this
theorem bz {C : Prop} {f : FuncId} {args : List PV} {o : Oper} {r : List Oper}
    {args' : List PV} {σc : List OB} {post pp : PV → List OB → Prop} (hs : gv P f args' σc post pp) (ρ : List Nat) (hd : dC E o.dst) (hC : C) (hnd : ρ.Nodup) (hlt : ∀ b ∈ ρ, b < σ.length)
    (hargs : args = args'.map (PV.ren (cA σ.length ρ))) (hσ : ρ.map (fun b => σ[b]?) = σc.map fun ob => some (ob.ren (cA σ.length ρ))) (hu : aJ ρ.length args') (hub : ay ρ.length σc)
    (next : ∀ p σ', post p σ' → ρ.length ≤ σ'.length → ft P ops r (E.putD o.dst ⟨true, p.ren (cA σ.length ρ)⟩) (b8 σ ρ (σ'.map (OB.ren (cA σ.length ρ)))) k kp)
    (npanic : ∀ p σ', pp p σ' → ρ.length ≤ σ'.length → kp (p.ren (cA σ.length ρ)) E (b8 σ ρ (σ'.map (OB.ren (cA σ.length ρ))))) :
    iL P ops true C f args o r E σ k kp := lG hs ρ hd hC hnd hlt hargs hσ hu hub next npanic
theorem m6 {γ : Bool} {C : Prop} {f : FuncId} {args : List PV} {o : Oper} {r : List Oper} {res : PV} (hs : γ = true → cR P f args res) (hd : dC E o.dst) (hC : γ = true → C) (hargs : args.all PV.noOwn = true) (hres : res.ren (cA σ.length []) = res)
    (next : ft P ops r (E.putD o.dst ⟨γ, res⟩) σ k kp) : iL P ops γ C f args o r E σ k kp := m4 hs hd hC hargs hres next
theorem jz.quiet {o : Oper} {v : PV} (h : ∀ G a w, Sim G E σ a w → ∃ val, (execOp a.eval o).run P w = .ok (.value val) w ∧ aB G v val) : jz P E σ o v σ := fun G a w hs => by
  obtain ⟨val, h1, h2⟩ := h G a w hs
  exact ⟨_, val, w, G, h1, .inl rfl, iU.refl G, aY.refl _, hs.inv, h2⟩
theorem mt {G : Gh} {a : Act} {w : World} (hs : Sim G E σ a w) {x : Operand} {p : PV} (h : ev E x = ⟨true, p⟩) : aB G p (a.eval x) := by
  have := cj hs x
  rw [h] at this
  exact this rfl
theorem rt {b ver lo len s : Nat} {T0 : TypeId} {es : List (List CV)} (hσ : σ[b]? = some (.arr s ver T0 es)) : de σ (.osl b ver lo len) := by simp [de, hσ]
end
def CV.mvO (b k vk w : Nat) : CV → CV
  | .osl b' v lo len => if b' = k then (if v = vk then .osl b w lo len else .junk) else .osl b' v lo len
  | .oel b' v i j => if b' = k then (if v = vk then .oel b w i j else .junk) else .oel b' v i j
  | .optr b' off => if b' = k then .junk else .optr b' off
  | .fn f caps => .fn f caps
  | .junk => .junk
  | .bool x => .bool x
  | .int k n => .int k n
  | .str x => .str x
  | .nilp => .nilp
  | .nils => .nils
  | .nilf => .nilf
  | .nili => .nili
  | .emp => .emp
  | .emn => .emn
  | .tree s' es' => .tree s' es'
  | .tptr s' es' i j => .tptr s' es' i j
  | .ifc T g cs => .ifc T g cs
def CV.mv (b k vk w : Nat) : CV → CV
  | .fn f caps => .fn f (caps.map (CV.mvO b k vk w))
  | c => c.mvO b k vk w
def PV.mv (b k vk w : Nat) : PV → PV
  | .x => .x
  | .c y => .c (y.mv b k vk w)
  | .a ys => .a (ys.map (CV.mv b k vk w))
  | .t _ => .x
def OB.mv (b k vk w : Nat) : OB → OB
  | .box cs => .box (cs.map (CV.mv b k vk w))
  | .arr s' v T e => .arr s' v T e
  | .dead => .dead
def Tr.mv (b k vk w : Nat) : Tr → Tr
  | .nil => .nil
  | .leaf e => .leaf ⟨e.cond && (match e.v with | .t _ => false | _ => true), e.v.mv b k vk w⟩
  | .node a0 a1 a2 a3 a4 a5 a6 a7 => .node (a0.mv b k vk w) (a1.mv b k vk w) (a2.mv b k vk w) (a3.mv b k vk w) (a4.mv b k vk w) (a5.mv b k vk w) (a6.mv b k vk w) (a7.mv b k vk w)
def Env.mv (b k vk w : Nat) (E : Env) : Env := ⟨E.n, E.na, E.t.mv b k vk w⟩
section
variable {G : Gh} {σ : List OB} {w : World} {b k sb vb sk vk : Nat} {Tb Tk : TypeId} {eb ek : List (List CV)} {ob ok : OG}
end
theorem uz :
    ((∀ b k v w n na t, Env.mv b k v w ⟨n, na, t⟩ = ⟨n, na, t.mv b k v w⟩) ∧ (∀ b k v w, Tr.mv b k v w .nil = .nil) ∧ (∀ b k v w c y, Tr.mv b k v w (.leaf ⟨c, .c y⟩) = .leaf ⟨c, .c (y.mv b k v w)⟩) ∧ (∀ b k v w c ys, Tr.mv b k v w (.leaf ⟨c, .a ys⟩) = .leaf ⟨c, .a (ys.map (CV.mv b k v w))⟩) ∧
     (∀ b k v w c ps, Tr.mv b k v w (.leaf ⟨c, .t ps⟩) = .leaf ⟨false, .x⟩) ∧ (∀ b k v w c, Tr.mv b k v w (.leaf ⟨c, .x⟩) = .leaf ⟨c, .x⟩) ∧
     (∀ b k v w a0 a1 a2 a3 a4 a5 a6 a7, Tr.mv b k v w (.node a0 a1 a2 a3 a4 a5 a6 a7) = .node (a0.mv b k v w) (a1.mv b k v w) (a2.mv b k v w) (a3.mv b k v w) (a4.mv b k v w) (a5.mv b k v w) (a6.mv b k v w) (a7.mv b k v w))) ∧
    ((∀ b k v w, OB.mv b k v w .dead = .dead) ∧ (∀ b k v w cs, OB.mv b k v w (.box cs) = .box (cs.map (CV.mv b k v w))) ∧ (∀ b k v w s' v' T e, OB.mv b k v w (.arr s' v' T e) = .arr s' v' T e)) ∧
    ((∀ b k v w x, CV.mv b k v w (.bool x) = .bool x) ∧ (∀ b k v w q n, CV.mv b k v w (.int q n) = .int q n) ∧ (∀ b k v w x, CV.mv b k v w (.str x) = .str x) ∧ (∀ b k v w, CV.mv b k v w .nilp = .nilp) ∧ (∀ b k v w, CV.mv b k v w .nils = .nils) ∧
     (∀ b k v w, CV.mv b k v w .nilf = .nilf) ∧ (∀ b k v w, CV.mv b k v w .nili = .nili) ∧ (∀ b k v w, CV.mv b k v w .emp = .emp) ∧ (∀ b k v w, CV.mv b k v w .emn = .emn) ∧ (∀ b k v w, CV.mv b k v w .junk = .junk) ∧ (∀ b k v w s' e', CV.mv b k v w (.tree s' e') = .tree s' e') ∧
     (∀ b k v w s' e' i j, CV.mv b k v w (.tptr s' e' i j) = .tptr s' e' i j) ∧ (∀ b k v w T g cs, CV.mv b k v w (.ifc T g cs) = .ifc T g cs)) ∧
    ((∀ b k v w b' v' lo len, CV.mv b k v w (.osl b' v' lo len) = if b' = k then (if v' = v then .osl b w lo len else .junk) else .osl b' v' lo len) ∧
     (∀ b k v w b' v' i j, CV.mv b k v w (.oel b' v' i j) = if b' = k then (if v' = v then .oel b w i j else .junk) else .oel b' v' i j) ∧ (∀ b k v w b' off, CV.mv b k v w (.optr b' off) = if b' = k then .junk else .optr b' off) ∧
     (∀ b k v w f caps, CV.mv b k v w (.fn f caps) = .fn f (caps.map (CV.mvO b k v w)))) := by
  refine ⟨⟨?_, ?_, ?_, ?_, ?_, ?_, ?_⟩, ⟨?_, ?_, ?_⟩, ⟨?_, ?_, ?_, ?_, ?_, ?_, ?_, ?_, ?_, ?_, ?_, ?_, ?_⟩, ?_, ?_, ?_, ?_⟩
  all_goals intros
  all_goals first | rfl | (simp [Tr.mv, PV.mv]; done)
theorem mu {E : Env} {σ : List OB} (b j s : Nat) (T : TypeId) {cs : List CV} (hs : 0 < s) (hσ : σ[b]? = some (.box cs)) (hj : cs[j]? = some .nils) :
    fY E σ E (σ.set b (.box (cs.set j (.osl σ.length 0 0 0))) ++ [.arr s 0 T []]) := by
  intro G a w hs'
  have hi := hs'.inv
  have hi2 := hi.nil s T hs
  have hle : aY G.own (G.own ++ [some ⟨0, s, 0, 0, false⟩]) := aY.append _ _
  have hlt : b < σ.length := (List.getElem?_eq_some_iff.1 hσ).1
  refine ⟨{ G with own := G.own ++ [some ⟨0, s, 0, 0, false⟩] }, .mk' ⟨fun _ _ h => h, rfl, rfl, rfl⟩ hle, ?_, hs'.defers, hs'.size, hs'.na, fun i hc => aB.mono (G := G) (G' := { G with own := G.own ++ [some ⟨0, s, 0, 0, false⟩] }) (fun _ _ h => h) hle (hs'.slot i hc)⟩
  have hset : σ.set b (.box (cs.set j (.osl σ.length 0 0 0))) ++ [.arr s 0 T []] = (σ ++ [OB.arr s 0 T []]).set b (.box (cs.set j (.osl σ.length 0 0 0))) := by
    rw [List.set_append_left _ _ hlt]
  rw [hset]
  refine ⟨hi2.hH, hi2.hF, hi2.HF, by simpa using hi2.len, fun x ob hx => ?_, hi2.inj, hi2.sep, hi2.os, hi2.tape, hi2.output, hi2.grow⟩
  by_cases hxb : x = b
  · subst hxb
    rw [List.getElem?_set_self (by simp; omega)] at hx
    simp only [sJ] at hx; subst hx
    obtain ⟨o, c, T', h1, h2, h3, h4, h5⟩ := hi2.own x (.box cs) (by rw [List.getElem?_append_left hlt]; exact hσ)
    refine ⟨o, c, T', h1, h2, h3, h4, ?_⟩
    have hlen := h5.length
    refine aF.of_get (by simpa using hlen) fun i y v hy hv => ?_
    by_cases e : i = j
    · subst e
      have hl : i < cs.length := (List.getElem?_eq_some_iff.1 hj).1
      rw [List.getElem?_set_self hl] at hy
      simp only [sJ] at hy; subst hy
      obtain ⟨v', hv', hr⟩ := h5.get i _ hj
      rw [hv] at hv'
      simp only [sJ] at hv'; subst hv'
      exact pW hi s (v := v) hr
    · rw [List.getElem?_set_ne (Ne.symm e)] at hy
      obtain ⟨v', hv', hr⟩ := h5.get i _ hy
      rw [hv] at hv'
      simp only [sJ] at hv'; subst hv'
      exact hr
  · rw [List.getElem?_set_ne (Ne.symm hxb)] at hx
    exact hi2.own x ob hx
def CV.dnO (b k : Nat) : CV → CV
  | .osl b' v lo len => if b' = k then .osl b v lo len else if b' = b then .junk else .osl b' v lo len
  | .oel b' v i j => if b' = k then .oel b v i j else if b' = b then .junk else .oel b' v i j
  | .optr b' off => if b' = k then .optr b off else if b' = b then .junk else .optr b' off
  | .fn f caps => .fn f caps
  | .junk => .junk
  | .bool x => .bool x
  | .int k n => .int k n
  | .str x => .str x
  | .nilp => .nilp
  | .nils => .nils
  | .nilf => .nilf
  | .nili => .nili
  | .emp => .emp
  | .emn => .emn
  | .tree s' es' => .tree s' es'
  | .tptr s' es' i j => .tptr s' es' i j
  | .ifc T g cs => .ifc T g cs
def CV.dn (b k : Nat) : CV → CV
  | .fn f caps => .fn f (caps.map (CV.dnO b k))
  | c => c.dnO b k
def PV.dn (b k : Nat) : PV → PV
  | .x => .x
  | .c y => .c (y.dn b k)
  | .a ys => .a (ys.map (CV.dn b k))
  | .t _ => .x
def OB.dn (b k : Nat) : OB → OB
  | .box cs => .box (cs.map (CV.dn b k))
  | .arr s' v T e => .arr s' v T e
  | .dead => .dead
def Tr.dn (b k : Nat) : Tr → Tr
  | .nil => .nil
  | .leaf e => .leaf ⟨e.cond && (match e.v with | .t _ => false | _ => true), e.v.dn b k⟩
  | .node a0 a1 a2 a3 a4 a5 a6 a7 => .node (a0.dn b k) (a1.dn b k) (a2.dn b k) (a3.dn b k) (a4.dn b k) (a5.dn b k) (a6.dn b k) (a7.dn b k)
def Env.dn (b k : Nat) (E : Env) : Env := ⟨E.n, E.na, E.t.dn b k⟩
section
variable {G : Gh} {σ : List OB} {w : World} {b k : Nat} {oo : Option OG}
end
theorem uA :
    ((∀ b k n na t, Env.dn b k ⟨n, na, t⟩ = ⟨n, na, t.dn b k⟩) ∧ (∀ b k, Tr.dn b k .nil = .nil) ∧ (∀ b k c y, Tr.dn b k (.leaf ⟨c, .c y⟩) = .leaf ⟨c, .c (y.dn b k)⟩) ∧ (∀ b k c ys, Tr.dn b k (.leaf ⟨c, .a ys⟩) = .leaf ⟨c, .a (ys.map (CV.dn b k))⟩) ∧
     (∀ b k c ps, Tr.dn b k (.leaf ⟨c, .t ps⟩) = .leaf ⟨false, .x⟩) ∧ (∀ b k c, Tr.dn b k (.leaf ⟨c, .x⟩) = .leaf ⟨c, .x⟩) ∧
     (∀ b k a0 a1 a2 a3 a4 a5 a6 a7, Tr.dn b k (.node a0 a1 a2 a3 a4 a5 a6 a7) = .node (a0.dn b k) (a1.dn b k) (a2.dn b k) (a3.dn b k) (a4.dn b k) (a5.dn b k) (a6.dn b k) (a7.dn b k))) ∧
    ((∀ b k, OB.dn b k .dead = .dead) ∧ (∀ b k cs, OB.dn b k (.box cs) = .box (cs.map (CV.dn b k))) ∧ (∀ b k s' v' T e, OB.dn b k (.arr s' v' T e) = .arr s' v' T e)) ∧
    ((∀ b k x, CV.dn b k (.bool x) = .bool x) ∧ (∀ b k q n, CV.dn b k (.int q n) = .int q n) ∧ (∀ b k x, CV.dn b k (.str x) = .str x) ∧ (∀ b k, CV.dn b k .nilp = .nilp) ∧ (∀ b k, CV.dn b k .nils = .nils) ∧
     (∀ b k, CV.dn b k .nilf = .nilf) ∧ (∀ b k, CV.dn b k .nili = .nili) ∧ (∀ b k, CV.dn b k .emp = .emp) ∧ (∀ b k, CV.dn b k .emn = .emn) ∧ (∀ b k, CV.dn b k .junk = .junk) ∧ (∀ b k s' e', CV.dn b k (.tree s' e') = .tree s' e') ∧
     (∀ b k s' e' i j, CV.dn b k (.tptr s' e' i j) = .tptr s' e' i j) ∧ (∀ b k T g cs, CV.dn b k (.ifc T g cs) = .ifc T g cs)) ∧
    ((∀ b k b' v' lo len, CV.dn b k (.osl b' v' lo len) = if b' = k then .osl b v' lo len else if b' = b then .junk else .osl b' v' lo len) ∧
     (∀ b k b' v' i j, CV.dn b k (.oel b' v' i j) = if b' = k then .oel b v' i j else if b' = b then .junk else .oel b' v' i j) ∧ (∀ b k b' off, CV.dn b k (.optr b' off) = if b' = k then .optr b off else if b' = b then .junk else .optr b' off) ∧
     (∀ b k f caps, CV.dn b k (.fn f caps) = .fn f (caps.map (CV.dnO b k)))) := by
  refine ⟨⟨?_, ?_, ?_, ?_, ?_, ?_, ?_⟩, ⟨?_, ?_, ?_⟩, ⟨?_, ?_, ?_, ?_, ?_, ?_, ?_, ?_, ?_, ?_, ?_, ?_, ?_⟩, ?_, ?_, ?_, ?_⟩
  all_goals intros
  all_goals first | rfl | (simp [Tr.dn, PV.dn]; done)
theorem ru {α : Type} (l : List α) (n : Nat) (h : l.length ≤ n) : (lit l).take n = lit l := List.take_of_length_le h
theorem nW {α β : Type} (f : α → β) (l : List α) (n : Nat) (h : l.length ≤ n) : ((lit l).map f).take n = (lit l).map f := List.take_of_length_le (by simpa [lit] using h)
end Pam
namespace Pam
open Go
theorem lR {α : Type} {f : α → List CV} {l : List α} {n : Nat} (h : ∀ x, (f x).length = n) : ∀ e ∈ l.map f, e.length = n := by
 intro e he
 obtain ⟨x, _, rfl⟩ := List.mem_map.1 he
 exact h x
theorem ul : (∀ y, PV.capOk (.c y) = (match y with | .fn _ _ => false | _ => true)) ∧ (∀ b o, CV.flat (.optr b o) = false) ∧ (∀ b, CV.flat (.bool b) = true) ∧ (∀ k n, CV.flat (.int k n) = true) ∧ (∀ s, CV.flat (.str s) = true) ∧ (∀ s e, CV.flat (.tree s e) = true) ∧ CV.flat .nils = true ∧ CV.flat .nilp = true ∧ CV.flat .nilf = true ∧ CV.flat .nili = true ∧ CV.flat .emp = true ∧ (∀ b v l n, CV.flat (.osl b v l n) = false) ∧ (∀ b v l n, CV.flat (.oel b v l n) = false) := by
 refine ⟨?_, ?_, ?_, ?_, ?_, ?_, ?_, ?_, ?_, ?_, ?_, ?_, ?_⟩ <;> intros <;> first | rfl | skip
 rename_i y; cases y <;> rfl
def bL := (And.intro (And.intro (And.intro (And.intro (And.intro @List.mem_cons.{0} (And.intro @List.not_mem_nil.{0} @forall_eq_or_imp.{1})) (And.intro (And.intro @List.getElem?_cons_zero.{0} @List.getElem?_cons_succ.{0}) (And.intro @List.getElem?_nil.{0} @List.length_cons.{0}))) (And.intro (And.intro (And.intro @List.length_nil.{0} @List.length_map.{0, 0}) (And.intro @List.set_cons_zero.{0} @List.set_cons_succ.{0})) (And.intro (And.intro @List.drop_zero.{0} @List.drop_succ_cons.{0}) (And.intro @List.take_succ_cons.{0} @List.take_zero.{0})))) (And.intro (And.intro (And.intro (And.intro @List.headD_cons.{0} @List.cons_append.{0}) (And.intro @List.nil_append.{0} @List.map_cons.{0, 0})) (And.intro (And.intro @List.map_nil.{0, 0} @List.tail_cons.{0}) (And.intro @List.getD_cons_zero.{0} @List.getD_cons_succ.{0}))) (And.intro (And.intro (And.intro @true_and @and_true) (And.intro @eq_self.{1} @forall_const.{1})) (And.intro (And.intro @if_true.{0} @forall_eq.{1}) (And.intro @imp_self @implies_true.{1}))))) (And.intro (And.intro (And.intro (And.intro (And.intro @true_or @or_true) (And.intro @false_or @or_false)) (And.intro (And.intro @Nat.zero_add @Nat.add_zero) (And.intro @tN @Option.map_some.{0, 0}))) (And.intro (And.intro (And.intro @Option.map_none.{0, 0} @beq_self_eq_true.{0}) (And.intro @Bool.true_eq_false @Bool.false_eq_true)) (And.intro (And.intro @false_implies @not_false_eq_true) (And.intro @Nat.le_refl @List.all_cons.{0})))) (And.intro (And.intro (And.intro (And.intro @List.all_nil.{0} @List.replicate_succ.{0}) (And.intro @List.replicate_zero.{0} @List.flatten_cons.{0})) (And.intro (And.intro @List.flatten_nil.{0} @List.append_nil.{0}) (And.intro @Bool.and_true @List.foldr_cons.{0, 0}))) (And.intro (And.intro (And.intro @List.foldr_nil.{0, 0} @Option.isSome_some.{0}) (And.intro @Option.isSome_none.{0} @eK.eq_1)) (And.intro (And.intro @eB.eq_1 @eS.eq_1) (And.intro @eL.eq_1 ul))))))
def bM := (And.intro (And.intro (And.intro (And.intro (And.intro sn (And.intro uh rl)) (And.intro rm (And.intro rn uw))) (And.intro (And.intro ud (And.intro sP ue)) (And.intro uf (And.intro ux @pR)))) (And.intro (And.intro (And.intro @nm (And.intro @kR sS)) (And.intro nU (And.intro uk uj))) (And.intro (And.intro @fQ.eq_1 (And.intro @gU.eq_1 @lB.eq_1)) (And.intro (And.intro @lB.eq_2 @lB.eq_3) (And.intro @lB.eq_4 @lB.eq_5))))) (And.intro (And.intro (And.intro (And.intro @eO.eq_1 (And.intro @hU.eq_1 @hU.eq_3)) (And.intro @nc.eq_1 (And.intro @bnd.eq_1 @bnd.eq_2))) (And.intro (And.intro @lY.eq_1 (And.intro @lY.eq_2 @lY.eq_3)) (And.intro (And.intro @lY.eq_4 @lY.eq_5) (And.intro @lY.eq_6 @lY.eq_7)))) (And.intro (And.intro (And.intro @mV.eq_1 (And.intro @mV.eq_2 @eqC.eq_1)) (And.intro @eqC.eq_2 (And.intro @eqC.eq_3 @dW.eq_1))) (And.intro (And.intro @je.eq_1 (And.intro @dX.eq_1 @jv.eq_1)) (And.intro (And.intro @jv.eq_2 @lC.eq_1) (And.intro @cut.eq_1 @cut.eq_2))))))
def bR := And.intro (And.intro (And.intro @gD.eq_1 @gD.eq_2) bL) (And.intro bM (And.intro (And.intro @nh.eq_1 @nh.eq_2) (And.intro @nh.eq_3 @nh.eq_4)))
def bA := And.intro (And.intro (And.intro (And.intro @gF.eq_1 @gF.eq_2) (And.intro @lJ.eq_1 (And.intro @lJ.eq_2 @lJ.eq_3))) bL) (And.intro bM (And.intro (And.intro @nl.eq_1 @nl.eq_2) (And.intro @nl.eq_3 @nl.eq_4)))
def bE := And.intro (And.intro ro uh) (And.intro rl (And.intro rm rn))
def bS := And.intro (And.intro ce (And.intro sQ @kR)) (And.intro bE (And.intro bL nU))
def bF := And.intro (And.intro ug sr) (And.intro (And.intro ro sQ) (And.intro (And.intro sP rl) (And.intro (And.intro rm rn) (And.intro (And.intro @pR @nm) (And.intro bL nU)))))
def bZ := And.intro (And.intro (And.intro uy uz) (And.intro uA sS)) (And.intro nU (And.intro (And.intro @kR (And.intro @ru @nW)) bE))
end Pam
namespace Pam
open Go
section
variable {P : Program} {ops : Array Oper} {E E' E1 E2 : Env} {σ σ' σ1 σ2 : List OB} {k : Env → List OB → Prop} {kp : PV → Env → List OB → Prop} {l : List Oper} {K : Kt} {c y : Code}
theorem em {α : Type} [Inhabited α] (f : α → List CV) (xs : List α) (i : Nat) (h : i < xs.length := by first | omega | (simp only [kR, List.length_cons, List.length_nil, List.length_append, List.length_set, List.length_replicate, List.length_map, List.length_take, List.length_drop]; omega)) : elt (xs.map f) i = f (xs.getD i default) := so f xs i h
structure Bx (p : Prop) : Prop where
 h : p
theorem sd {p q : Prop} (hq : q) (hp : p := by first | omega | assumption | decide | exact lR fun _ => rfl | (intro _; omega) | rfl | exact fun e => absurd (List.map_eq_nil_iff.1 e) (by assumption) | (and_intros <;> first | omega | assumption | decide | exact lR fun _ => rfl)) : p ∧ q := ⟨hp, hq⟩
theorem a2 {p q : Prop} (h : p) (i : q) : p ∧ q := ⟨h, i⟩
theorem go {p q : Prop} (hq : q) (h : Bx q → p := by
  intro hq
  simp only [bR, bT, tab, bX, reduceIte, ↓reduceIte, reduceCtorEq, Int.reduceToNat, Nat.reduceDiv, Nat.reduceMod, Nat.reduceLT, Nat.reduceLeDiff, Nat.reduceAdd, Nat.reduceSub, Nat.reduceMul, Nat.reduceEqDiff, Nat.reduceBEq, Nat.reduceBNe, Nat.reduceGT]
  repeat refine sd ?_
  exact hq.1) : p := h ⟨hq⟩
theorem gox {p q F : Prop} (fx : F) (hq : q) (h : F → Bx q → p := by
  intro fx hq
  simp only [bR, bT, tab, bX, reduceIte, ↓reduceIte, reduceCtorEq, Int.reduceToNat, Nat.reduceDiv, Nat.reduceMod, Nat.reduceLT, Nat.reduceLeDiff, Nat.reduceAdd, Nat.reduceSub, Nat.reduceMul, Nat.reduceEqDiff, Nat.reduceBEq, Nat.reduceBNe, Nat.reduceGT, fx]
  repeat refine sd ?_
  exact hq.1) : p := h fx ⟨hq⟩
theorem ga {p q : Prop} (hq : q) (h : Bx q → p := by
  intro hq
  simp only [bA, bT, tab, bX, reduceIte, ↓reduceIte, reduceCtorEq, Int.reduceToNat, Nat.reduceDiv, Nat.reduceMod, Nat.reduceLT, Nat.reduceLeDiff, Nat.reduceAdd, Nat.reduceSub, Nat.reduceMul, Nat.reduceEqDiff, Nat.reduceBEq, Nat.reduceBNe, Nat.reduceGT]
  repeat refine sd ?_
  exact hq.1) : p := h ⟨hq⟩
theorem gax {p q F : Prop} (fx : F) (hq : q) (h : F → Bx q → p := by
  intro fx hq
  simp only [bA, bT, tab, bX, reduceIte, ↓reduceIte, reduceCtorEq, Int.reduceToNat, Nat.reduceDiv, Nat.reduceMod, Nat.reduceLT, Nat.reduceLeDiff, Nat.reduceAdd, Nat.reduceSub, Nat.reduceMul, Nat.reduceEqDiff, Nat.reduceBEq, Nat.reduceBNe, Nat.reduceGT, fx]
  repeat refine sd ?_
  exact hq.1) : p := h fx ⟨hq⟩
theorem gz {p q : Prop} (hq : q) (h : Bx q → p := by
  intro hq
  simp only [bZ, bL, reduceIte, ↓reduceIte, reduceCtorEq, Int.reduceToNat, Nat.reduceDiv, Nat.reduceMod, Nat.reduceLT, Nat.reduceLeDiff, Nat.reduceAdd, Nat.reduceSub, Nat.reduceMul, Nat.reduceEqDiff, Nat.reduceBEq, Nat.reduceBNe, Nat.reduceGT]
  exact hq.1) : p := h ⟨hq⟩
theorem en {p : Prop} (h : p := by simp only [bF, bT, tab, bX, Sum.elim_inl, Sum.elim_inr, reduceIte, ↓reduceIte, reduceCtorEq, Int.reduceToNat, Nat.reduceDiv, Nat.reduceMod, Nat.reduceLT, Nat.reduceLeDiff, Nat.reduceAdd, Nat.reduceSub, Nat.reduceMul, Nat.reduceEqDiff, Nat.reduceBEq, Nat.reduceBNe, Nat.reduceGT] <;> first | done | rfl | (and_intros <;> first | rfl | omega | (simp; done) | (simp [eK, eB, eS, eL]; done))) : p := h
theorem ls {p : Prop} (h : p := by simp only [bS, bX, reduceIte, ↓reduceIte, reduceCtorEq, Int.reduceToNat, Nat.reduceDiv, Nat.reduceMod, Nat.reduceLT, Nat.reduceLeDiff, Nat.reduceAdd, Nat.reduceSub, Nat.reduceMul, Nat.reduceEqDiff, Nat.reduceBEq, Nat.reduceBNe, Nat.reduceGT] <;> first | done | (and_intros <;> first | rfl | (simp; done) | omega | (simp [lit, bX, eK, eB, eS, eL]; done) | (simp only [kR, List.length_cons, List.length_nil, List.length_append, List.length_set, List.length_replicate, List.length_map, List.length_take, List.length_drop]; omega))) : p := h
theorem ai {id : Nat} (ms : List Nat) (next : W P y K E' σ') (h : ∀ (k : Env → List OB → Prop) (kp : PV → Env → List OB → Prop), k E' σ' → gD P l.toArray l E σ (fun E σ => k (E.forget ms) σ) kp := by
  intro k kp hk
  refine go ?_
  exact hk) : W P (.seq (.region id l.toArray false) y) K E σ := av ms fun k kp hk _ => h k kp (hk _ _ next)
theorem cE {id : Nat} (next : K .normal E' σ') (h : ∀ (k : Env → List OB → Prop) (kp : PV → Env → List OB → Prop), k E' σ' → gD P l.toArray l E σ k kp := by
  intro k kp hk
  refine go ?_
  exact hk) : W P (.region id l.toArray false) K E σ := f9 fun k kp hk _ => h k kp (hk _ _ next)
theorem rz {id : Nat} (ms : List Nat) (masks : List Nat) (bs : List Bool) (next : W P y K E' σ') (hm : P.follows .mixedOrders = true := by kernel_rfl) (hc : chk l.toArray l masks bs = true := by kernel_rfl)
  (h : ∀ (k : Env → List OB → Prop), k E' σ' → gF P l.toArray l bs E σ (fun E σ => k (E.forget ms) σ) := by
  intro k hk
  refine ga ?_
  exact hk) : W P (.seq (.region id l.toArray true) y) K E σ := pw ms hm masks bs hc fun k hk => h k (hk _ _ next)
theorem cS {F : Prop} (fx : F) {id : Nat} (ms : List Nat) (next : W P y K E' σ') (h : F → ∀ (k : Env → List OB → Prop) (kp : PV → Env → List OB → Prop), k E' σ' → gD P l.toArray l E σ (fun E σ => k (E.forget ms) σ) kp := by
  intro fx k kp hk
  refine gox fx ?_
  exact hk) : W P (.seq (.region id l.toArray false) y) K E σ := av ms fun k kp hk _ => h fx k kp (hk _ _ next)
theorem oI {F : Prop} (fx : F) {id : Nat} (ms : List Nat) (masks : List Nat) (bs : List Bool) (next : W P y K E' σ') (hm : P.follows .mixedOrders = true := by kernel_rfl) (hc : chk l.toArray l masks bs = true := by kernel_rfl)
  (h : F → ∀ (k : Env → List OB → Prop), k E' σ' → gF P l.toArray l bs E σ (fun E σ => k (E.forget ms) σ) := by
  intro fx k hk
  refine gax fx ?_
  exact hk) : W P (.seq (.region id l.toArray true) y) K E σ := pw ms hm masks bs hc fun k hk => h fx k (hk _ _ next)
theorem lK (hg : fY E σ E1 σ1) (next : W P c K E2 σ2) (h : W P c K E2 σ2 → W P c K E1 σ1 := by
  intro hq
  simp only [bZ, bL, reduceIte, ↓reduceIte, reduceCtorEq, Int.reduceToNat, Nat.reduceDiv, Nat.reduceMod, Nat.reduceLT, Nat.reduceLeDiff, Nat.reduceAdd, Nat.reduceSub, Nat.reduceMul, Nat.reduceEqDiff, Nat.reduceBEq, Nat.reduceBNe, Nat.reduceGT]
  exact hq) : W P c K E σ := dI hg (h next)
theorem sT (next : W P c K E' σ) (h : E = E' := by simp only [bE, Nat.reduceDiv, Nat.reduceMod, Nat.reduceLT, Nat.reduceLeDiff, Nat.reduceAdd, Nat.reduceSub, Nat.reduceMul, Nat.reduceEqDiff, Nat.reduceBEq, Nat.reduceBNe, Nat.reduceGT, Int.reduceToNat]; rfl) : W P c K E σ := gr h rfl next
theorem aP (next : W P c K E' σ') (h : E = E' := by simp only [bE, Nat.reduceDiv, Nat.reduceMod, Nat.reduceLT, Nat.reduceLeDiff, Nat.reduceAdd, Nat.reduceSub, Nat.reduceMul, Nat.reduceEqDiff, Nat.reduceBEq, Nat.reduceBNe, Nat.reduceGT, Int.reduceToNat]; rfl) (h2 : σ = σ' := by first | (dsimp only; rfl) | rfl) : W P c K E σ := gr h h2 next
theorem cB (next : W P c K E' σ') (h : E = E' := by simp only [gb, Env.ofList, List.length_nil, List.length_cons, bE, Nat.reduceDiv, Nat.reduceMod, Nat.reduceLT, Nat.reduceLeDiff, Nat.reduceAdd, Nat.reduceSub, Nat.reduceMul, Nat.reduceEqDiff, Nat.reduceBEq, Nat.reduceBNe, Nat.reduceGT, Int.reduceToNat]; rfl) (h2 : σ = σ' := by rfl) : W P c K E σ := gr h h2 next
theorem rA (next : W P c K E' σ') (h : E = E' := by simp only [bE, Nat.reduceDiv, Nat.reduceMod, Nat.reduceLT, Nat.reduceLeDiff, Nat.reduceAdd, Nat.reduceSub, Nat.reduceMul, Nat.reduceEqDiff, Nat.reduceBEq, Nat.reduceBNe, Nat.reduceGT, Int.reduceToNat, List.length_cons, List.length_nil, List.length_append, List.cons_append, List.nil_append]; rfl) (h2 : σ = σ' := by simp only [List.length_cons, List.length_nil, List.length_append, List.cons_append, List.nil_append]; rfl) : W P c K E σ := gr h h2 next
theorem ib (σ' : List OB) (next : W P c K E σ') (h : σ = σ' := by first | rfl | (simp only [List.take_of_length_le, List.length_map, List.length_append, List.length_cons, List.length_nil, List.length_replicate, List.length_set, List.map_append, List.map_cons, List.map_nil, List.map_replicate, List.map_set, Nat.le_refl, Nat.zero_add, List.nil_append, List.set_cons_zero, List.set_cons_succ, bX, eK, eB, eS, eL]; done) | (simp only [List.take_of_length_le, List.length_map, List.length_append, List.length_cons, List.length_nil, List.length_replicate, List.length_set, List.map_append, List.map_cons, List.map_nil, List.map_replicate, List.map_set, Nat.le_refl, Nat.zero_add, List.nil_append, List.set_cons_zero, List.set_cons_succ, bX, eK, eB, eS, eL]; rfl) | (simp; done)) : W P c K E σ := gr rfl h next
theorem RP {γ : Bool} {C : Prop} {f : FuncId} {args : List PV} {o : Oper} {r : List Oper} {res : PV} (hs : γ = true → cR P f args res) (next : ft P ops r (E.putD o.dst ⟨γ, res⟩) σ k kp)
  (hd : dC E o.dst := by first | trivial | exact cz rfl) (hC : γ = true → C := by first | trivial | (intro _; first | trivial | simp [ar]) | simp [ar]) (hargs : args.all PV.noOwn = true := by exact rfl) (hres : res.ren (cA σ.length []) = res := by exact rfl) : iL P ops γ C f args o r E σ k kp := m6 hs hd hC hargs hres next
theorem AP {γ : Bool} {C : Prop} {f : FuncId} {args : List PV} {o : Oper} {r : List Oper} {bs : List Bool} {res : PV} (hs : γ = true → cR P f args res) (next : gF P ops r bs.tail (E.putD o.dst ⟨γ, res⟩) σ k)
  (hd : dC E o.dst := by first | trivial | exact cz rfl) (hC : γ = true → C := by first | trivial | (intro _; first | trivial | simp [ar]) | simp [ar]) (hargs : args.all PV.noOwn = true := by exact rfl) (hres : ∀ n, res.ren (cA n []) = res := by exact fun _ => rfl) : nR P ops γ C f args o r bs E σ k := nS hs hd hC hargs hres next
theorem RA {C : Prop} {f : FuncId} {args : List PV} {o : Oper} {r : List Oper} {args' : List PV} {σc : List OB} {post : PV → List OB → Prop} (hs : gv P f args' σc post (fun _ _ => False)) (ρ : List Nat)
  (next : ∀ p σ', post p σ' → ρ.length ≤ σ'.length → ft P ops r (E.putD o.dst ⟨true, p.ren (cA σ.length ρ)⟩) (b8 σ ρ (σ'.map (OB.ren (cA σ.length ρ)))) k kp)
  (hd : dC E o.dst := by first | trivial | exact cz rfl) (hC : C := by first | trivial | (intro _; first | trivial | simp [ar]) | simp [ar]) (hnd : ρ.Nodup := by simp) (hlt : ∀ b ∈ ρ, b < σ.length := by simp)
  (hargs : args = args'.map (PV.ren (cA σ.length ρ)) := by exact rfl) (hσ : ρ.map (fun b => σ[b]?) = σc.map (fun ob => some (ob.ren (cA σ.length ρ))) := by exact rfl) (hu : aJ ρ.length args' := by first | trivial | (simp [bX, eK, eB, eS, eL, ce, aJ, PV.under, CV.under, ay, OB.under, aA]; done)) (hub : ay ρ.length σc := by first | trivial | (simp [bX, eK, eB, eS, eL, ce, aJ, PV.under, CV.under, ay, OB.under, aA]; done)) :
  iL P ops true C f args o r E σ k kp := bz hs ρ hd hC hnd hlt hargs hσ hu hub next (fun _ _ h _ => h.elim)
theorem RS {o : Oper} {r : List Oper} {v : PV} (hx : jz P E σ o v σ') (next : ft P ops r (E.putD o.dst ⟨true, v⟩) σ' k kp) (hg : cO ops E o.guard = some true := by first | rfl | (simp only [bR, bT, tab, bX, reduceIte, ↓reduceIte, reduceCtorEq, Int.reduceToNat, Nat.reduceDiv, Nat.reduceMod, Nat.reduceLT, Nat.reduceLeDiff, Nat.reduceAdd, Nat.reduceSub, Nat.reduceMul, Nat.reduceEqDiff, Nat.reduceBEq, Nat.reduceBNe, Nat.reduceGT]; done)) (hd : dC E o.dst := by first | trivial | exact cz rfl) :
  ft P ops (o :: r) E σ k kp := nV hx hg hd next
end
end Pam
namespace Pam
open Go
def rC (ops : Array Oper) (l : List Oper) (masks : List Nat) (bar prv : List Bool) (rd : List (List Nat)) : Bool :=
  chk ops l masks bar &&
  (l.zipIdx.all fun (x, i) => eY x || (x.looksAt ops).all (fun t => (rd.getD i []).contains t) || l.zipIdx.all fun (_, j) => !(prv.getD j false) || ii masks i j)
def rD (P : Program) (ops : Array Oper) (pv : List Nat) (E : Env) (σ : List OB) (o : Oper) (bar prv : Bool) (rd : List Nat) (ts : TS) : Prop :=
  cO ops E o.guard = some ts.γ ∧ dC E o.dst ∧
  ((∃ C v, a9 P ts.γ E σ o.op = .ok C v ∧ C ∧ (rd.all fun t => pQ pv (E.get t).v) = true ∧ ts.e = ⟨ts.γ, v⟩ ∧ ts.σ = σ) ∨
   (ts.γ = true ∧ ∃ C v, a9 P ts.γ E σ o.op = .upd C v ts.σ ∧ C ∧ ts.e = ⟨true, v⟩ ∧ (bar = true ∨ Ext σ ts.σ ∨ (prv = true ∧ f4 pv σ ts.σ))) ∨
   (∃ C f args r, a9 P ts.γ E σ o.op = .call C f args ∧ (ts.γ = true → C ∧ cR P f args r) ∧ args.all PV.noOwn = true ∧ (∀ n, r.ren (cA n []) = r) ∧ ts.e = ⟨ts.γ, r⟩ ∧ ts.σ = σ) ∨
   (ts.γ = false ∧ ts.e = ⟨true, .t []⟩ ∧ ts.σ = σ) ∨
   (ts.γ = true ∧ ∃ C f args p, a9 P ts.γ E σ o.op = .call C f args ∧ C ∧ jL P σ f args p ts.σ ∧ ts.e = ⟨true, p⟩ ∧ (bar = true ∨ Ext σ ts.σ ∨ (prv = true ∧ f4 pv σ ts.σ))) ∨
   (ts.γ = true ∧ eY o = true ∧ ∃ v, (∀ E', (∀ x ∈ o.op.operands, ev E' x = ev E x) → ∀ G a w, Sim G E' σ a w → nM P G (execOp a.eval o) w v ts.σ) ∧ ts.e = ⟨true, v⟩ ∧ (bar = true ∨ Ext σ ts.σ ∨ (prv = true ∧ f4 pv σ ts.σ))))
def nX (P : Program) (ops : Array Oper) (pv : List Nat) : List Oper → List Bool → List Bool → List (List Nat) → Env → List OB → List TS → Prop
  | [], _, _, _, _, _, tr => tr = []
  | o :: l, bs, ps, rd, E, σ, tr => ∃ ts r, tr = ts :: r ∧ rD P ops pv E σ o (bs.headD false) (ps.headD false) (rd.headD []) ts ∧ nX P ops pv l bs.tail ps.tail rd.tail (E.putD o.dst ts.e) ts.σ r
section
variable {P : Program} {ops : Array Oper} {pv : List Nat}
theorem d9.ofP : ∀ {l : List Oper} {bs ps : List Bool} {rd : List (List Nat)} {E : Env} {σ : List OB} {tr : List TS}, nX P ops pv l bs ps rd E σ tr → d9 P ops pv l bs ps rd [] E σ tr
  | [], _, _, _, _, _, _, h => h
  | o :: l, _, _, _, _, _, _, ⟨ts, r, h1, ⟨h2, h3, h4⟩, h5⟩ => ⟨ts, r, h1, ⟨h2, h3, .inl ⟨rfl, h4⟩⟩, d9.ofP h5⟩
theorem rE {ops : Array Oper} {l : List Oper} {masks : List Nat} {bs ps : List Bool} {rd : List (List Nat)} (h : rC ops l masks bs ps rd = true) : oF ops l masks bs ps rd [] = true := by
  unfold rC chk at h
  unfold oF
  rw [show ld ([] : List Bool) = fun _ o => eY o from by funext i o; exact mo i o]
  exact h
def TRP (P : Program) (ops : Array Oper) (pv : List Nat) (l : List Oper) (bs ps : List Bool) (rd : List (List Nat)) (E : Env) (σ : List OB) (k : Env → List OB → Prop) : Prop :=
  ∃ tr, nX P ops pv l bs ps rd E σ tr ∧ k (cd E l tr l.length) (aG σ tr l.length)
def lH (pv : List Nat) : Nat → List OB → List OB → Prop
  | _, [], _ => True
  | i, a :: as_, b :: bs => (pv.contains i = true ∨ a = b) ∧ lH pv (i + 1) as_ bs
  | _, _ :: _, [] => False
theorem mA : ∀ {i : Nat} {σ σ' : List OB}, lH pv i σ σ' → σ.length ≤ σ'.length ∧ ∀ b, b + i ∉ pv → b < σ.length → σ'[b]? = σ[b]?
  | _, [], _, _ => ⟨by simp, fun b _ h => by simp at h⟩
  | i, a :: as_, b :: bs, ⟨h1, h2⟩ => by
    obtain ⟨k1, k2⟩ := mA h2
    refine ⟨by simpa using k1, fun c hc hl => ?_⟩
    cases c with
    | zero =>
      rcases h1 with h | h
      · simp at hc; simp at h; exact (hc h).elim
      · simp [h]
    | succ c => simpa using k2 c (by simpa [Nat.add_assoc, Nat.add_comm 1] using hc) (by simpa using hl)
def i9 (P : Program) (ops : Array Oper) (pv : List Nat) (γ : Bool) (C : Prop) (f : FuncId) (args : List PV) (o : Oper) (r : List Oper) (bs ps : List Bool) (rd : List (List Nat)) (E : Env) (σ : List OB) (k : Env → List OB → Prop) : Prop :=
  a9 P γ E σ o.op = .call C f args → cO ops E o.guard = some γ → TRP P ops pv (o :: r) bs ps rd E σ k
def ll (P : Program) (ops : Array Oper) (pv : List Nat) (γ : Bool) (o : Oper) (r : List Oper) (bs ps : List Bool) (rd : List (List Nat)) (E : Env) (σ : List OB) (k : Env → List OB → Prop) (run : Env → List OB → Prop) : R → Prop
  | .ok C v => dC E o.dst ∧ C ∧ ((rd.headD []).all fun t => pQ pv (E.get t).v) = true ∧ run (E.putD o.dst ⟨γ, v⟩) σ
  | .upd C v σ' => dC E o.dst ∧ γ = true ∧ C ∧ (bs.headD false = true ∨ lJ σ σ' ∨ (ps.headD false = true ∧ lH pv 0 σ σ')) ∧ run (E.putD o.dst ⟨true, v⟩) σ'
  | .call C f args => i9 P ops pv γ C f args o r bs ps rd E σ k
  | .bad => False
def ej (P : Program) (ops : Array Oper) (pv : List Nat) : List Oper → List Bool → List Bool → List (List Nat) → Env → List OB → (Env → List OB → Prop) → Prop
  | [], _, _, _, E, σ, k => k E σ
  | o :: r, bs, ps, rd, E, σ, k =>
    match cO ops E o.guard with
    | none => False
    | some false => dC E o.dst ∧ ej P ops pv r bs.tail ps.tail rd.tail (E.putD o.dst ⟨true, .t []⟩) σ k
    | some true => ll P ops pv true o r bs ps rd E σ k (fun E' σ' => ej P ops pv r bs.tail ps.tail rd.tail E' σ' k) (a9 P true E σ o.op)
theorem TRP.cons {o : Oper} {r : List Oper} {bs ps : List Bool} {rd : List (List Nat)} {E : Env} {σ : List OB} {k : Env → List OB → Prop} {ts : TS} (h : rD P ops pv E σ o (bs.headD false) (ps.headD false) (rd.headD []) ts) (ht : TRP P ops pv r bs.tail ps.tail rd.tail (E.putD o.dst ts.e) ts.σ k) : TRP P ops pv (o :: r) bs ps rd E σ k := by
  obtain ⟨tr, h1, h2⟩ := ht
  refine ⟨ts :: tr, ⟨ts, tr, rfl, h, h1⟩, ?_⟩
  simpa [cd, aG] using h2
theorem eP : ∀ (l : List Oper) (bs ps : List Bool) (rd : List (List Nat)) (E : Env) (σ : List OB) (k : Env → List OB → Prop), ej P ops pv l bs ps rd E σ k → TRP P ops pv l bs ps rd E σ k
  | [], bs, ps, rd, E, σ, k, h => ⟨[], rfl, by unfold ej at h; simpa [cd, aG] using h⟩
  | o :: r, bs, ps, rd, E, σ, k, h => by
    unfold ej at h
    split at h
    · exact h.elim
    · rename_i hγ
      exact TRP.cons (ts := ⟨false, ⟨true, .t []⟩, σ⟩) ⟨hγ, h.1, .inr (.inr (.inr (.inl ⟨rfl, rfl, rfl⟩)))⟩ (eP r _ _ _ _ _ _ h.2)
    · rename_i hγ
      unfold ll at h
      split at h
      · rename_i C v hrun
        obtain ⟨hd, hC, hrd, hr⟩ := h
        exact TRP.cons (ts := ⟨true, ⟨true, v⟩, σ⟩) ⟨hγ, hd, .inl ⟨C, v, hrun, hC, hrd, rfl, rfl⟩⟩ (eP r _ _ _ _ _ _ hr)
      · rename_i C v σ' hrun
        obtain ⟨hd, hg, hC, hb, hr⟩ := h
        refine TRP.cons (ts := ⟨true, ⟨true, v⟩, σ'⟩) ⟨hγ, hd, .inr (.inl ⟨rfl, C, v, hrun, hC, rfl, ?_⟩)⟩ (eP r _ _ _ _ _ _ hr)
        rcases hb with h | h | ⟨h, h'⟩
        · exact .inl h
        · exact .inr (.inl (lQ h))
        · exact .inr (.inr ⟨h, by have := mA h'; exact ⟨this.1, fun b hb hl => this.2 b hb hl⟩⟩)
      · rename_i C f args hrun
        exact h hrun hγ
      · exact h.elim
theorem m7 {γ : Bool} {C : Prop} {f : FuncId} {args : List PV} {o : Oper} {r : List Oper} {bs ps : List Bool} {rd : List (List Nat)} {E : Env} {σ : List OB} {k : Env → List OB → Prop} {res : PV}
    (hs : γ = true → cR P f args res) (hd : dC E o.dst) (hC : γ = true → C) (hargs : args.all PV.noOwn = true) (hres : ∀ n, res.ren (cA n []) = res)
    (next : ej P ops pv r bs.tail ps.tail rd.tail (E.putD o.dst ⟨γ, res⟩) σ k) : i9 P ops pv γ C f args o r bs ps rd E σ k := fun hrun hγ =>
  TRP.cons (ts := ⟨γ, ⟨γ, res⟩, σ⟩) ⟨hγ, hd, .inr (.inr (.inl ⟨C, f, args, res, hrun, fun h => ⟨hC h, hs h⟩, hargs, hres, rfl, rfl⟩))⟩ (eP r _ _ _ _ _ _ next)
theorem oL {C : Prop} {f : FuncId} {args : List PV} {o : Oper} {r : List Oper} {bs ps : List Bool} {rd : List (List Nat)} {E : Env} {σ σ2 : List OB} {k : Env → List OB → Prop} {res : PV}
    (hs : jL P σ f args res σ2) (hd : dC E o.dst) (hC : C) (hb : bs.headD false = true ∨ lJ σ σ2)
    (next : ej P ops pv r bs.tail ps.tail rd.tail (E.putD o.dst ⟨true, res⟩) σ2 k) : i9 P ops pv true C f args o r bs ps rd E σ k := fun hrun hγ =>
  TRP.cons (ts := ⟨true, ⟨true, res⟩, σ2⟩) ⟨hγ, hd, .inr (.inr (.inr (.inr (.inl ⟨rfl, C, f, args, res, hrun, hC, hs, rfl, hb.imp id fun h => .inl (lQ h)⟩))))⟩ (eP r _ _ _ _ _ _ next)
theorem kT {C : Prop} {f : FuncId} {args : List PV} {o : Oper} {r : List Oper} {bs ps : List Bool} {rd : List (List Nat)} {E : Env} {σ σ2 : List OB} {k : Env → List OB → Prop} {res : PV}
    (hs : jL P σ f args res σ2) (hd : dC E o.dst) (hC : C) (hb : ps.headD false = true ∧ lH pv 0 σ σ2)
    (next : ej P ops pv r bs.tail ps.tail rd.tail (E.putD o.dst ⟨true, res⟩) σ2 k) : i9 P ops pv true C f args o r bs ps rd E σ k := fun hrun hγ =>
  TRP.cons (ts := ⟨true, ⟨true, res⟩, σ2⟩) ⟨hγ, hd, .inr (.inr (.inr (.inr (.inl ⟨rfl, C, f, args, res, hrun, hC, hs, rfl, .inr (.inr ⟨hb.1, by have := mA hb.2; exact ⟨this.1, fun b h hl => this.2 b h hl⟩⟩)⟩))))⟩ (eP r _ _ _ _ _ _ next)
theorem pY {id : Nat} {l : List Oper} {K : Kt} {E : Env} {σ : List OB} (hm : P.follows .mixedOrders = true) (pv masks : List Nat) (bs ps : List Bool) (rd : List (List Nat)) (hc : rC l.toArray l masks bs ps rd = true)
    (h : TRP P l.toArray pv l bs ps rd E σ (K .normal)) : W P (.region id l.toArray true) K E σ := by
  obtain ⟨tr, ht, hk⟩ := h
  exact nQ hm pv masks bs ps rd [] (rE hc) ⟨tr, d9.ofP ht, hk⟩
theorem tn {id : Nat} {l : List Oper} {K : Kt} {E : Env} {σ : List OB} (hm : P.follows .mixedOrders = true) (pv masks : List Nat) (bs ps : List Bool) (rd : List (List Nat)) (hc : rC l.toArray l masks bs ps rd = true)
    (h : ∀ (k : Env → List OB → Prop), (∀ E σ, K .normal E σ → k E σ) → ej P l.toArray pv l bs ps rd E σ k) : W P (.region id l.toArray true) K E σ :=
  pY hm pv masks bs ps rd hc (eP l bs ps rd E σ _ (h (K .normal) fun _ _ h => h))
theorem nY {id : Nat} {l : List Oper} {y : Code} {K : Kt} {E : Env} {σ : List OB} (ms : List Nat) (hm : P.follows .mixedOrders = true) (pv masks : List Nat) (bs ps : List Bool) (rd : List (List Nat)) (hc : rC l.toArray l masks bs ps rd = true)
    (h : ∀ (k : Env → List OB → Prop), (∀ E σ, W P y K E σ → k E σ) → ej P l.toArray pv l bs ps rd E σ (fun E σ => k (E.forget ms) σ)) : W P (.seq (.region id l.toArray true) y) K E σ :=
  lF (pY hm pv masks bs ps rd hc (by
    obtain ⟨tr, h1, h2⟩ := eP l bs ps rd E σ _ (h (W P y K) fun _ _ h => h)
    exact ⟨tr, h1, i6 ms h2⟩))
end
def bAP := And.intro (And.intro (And.intro @ej.eq_1 @ej.eq_2) bL) (And.intro bM (And.intro (And.intro @ll.eq_1 @ll.eq_2) (And.intro @ll.eq_3 @ll.eq_4)))
end Pam
namespace Pam
open Go
section
variable {P : Program} {ops : Array Oper}
theorem jr {l : List Oper} {bs : List Bool} {E : Env} {σ : List OB} {k : Env → List OB → Prop} (h : gF P ops l bs E σ k) : TR P ops l bs E σ k := gN l bs E σ k h
theorem pX : ∀ {l l' : List Oper} {bs bs' : List Bool} {E : Env} {σ : List OB} {k : Env → List OB → Prop}, bs.length = l.length → TR P ops l bs E σ (fun E' σ' => TR P ops l' bs' E' σ' k) → TR P ops (l ++ l') (bs ++ bs') E σ k
 | [], l', bs, bs', E, σ, k, hl, ⟨tr, h1, h2⟩ => by
  have : bs = [] := List.eq_nil_of_length_eq_zero (by simpa using hl)
  subst this
  simp only [kO] at h1
  subst h1
  simpa [cd, aG] using h2
 | o :: l, l', bs, bs', E, σ, k, hl, ⟨tr, h1, h2⟩ => by
  obtain ⟨ts, r, rfl, h3, h4⟩ := h1
  match bs, hl with
  | b :: bs, hl =>
   refine TR.cons (bs := b :: bs ++ bs') (ts := ts) ?_ ?_
   ·simpa using h3
   ·exact pX (by simpa using hl) ⟨r, h4, by simpa [cd, aG] using h2⟩
theorem pB (n : Nat) {l : List Oper} {bs : List Bool} {E : Env} {σ : List OB} {k : Env → List OB → Prop} (hn : bs.length = l.length) (h : gF P ops (l.take n) (bs.take n) E σ (fun E' σ' => TR P ops (l.drop n) (bs.drop n) E' σ' k)) : TR P ops l bs E σ k := by
 have := pX (by simp [hn]) (gN _ _ _ _ _ h)
 rwa [List.take_append_drop, List.take_append_drop] at this
theorem kS {id : Nat} {l : List Oper} {y : Code} {K : Kt} {E : Env} {σ : List OB} (ms : List Nat) (hm : P.follows .mixedOrders = true) (masks : List Nat) (bs : List Bool) (hc : chk l.toArray l masks bs = true)
  (h : ∀ (k : Env → List OB → Prop), (∀ E σ, W P y K E σ → k E σ) → TR P l.toArray l bs E σ (fun E σ => k (E.forget ms) σ)) : W P (.seq (.region id l.toArray true) y) K E σ :=
 lF (rk hm masks bs hc (by
  obtain ⟨tr, h1, h2⟩ := h (W P y K) fun _ _ h => h
  exact ⟨tr, h1, i6 ms h2⟩))
end
end Pam
namespace Pam
open Go
section
variable {P : Program} {ops : Array Oper}
variable {pv : List Nat}
end
end Pam
namespace Pam
open Go
section
variable {P : Program} {ops : Array Oper} {pv : List Nat}
theorem TRQ.cons {o : Oper} {r : List Oper} {bs ps : List Bool} {rd : List (List Nat)} {lt : List Bool} {E : Env} {σ : List OB} {k : Env → List OB → Prop} {ts : TS} (h : pr P ops pv E σ o (bs.headD false) (ps.headD false) (rd.headD []) (lt.headD false) ts) (ht : TRQ P ops pv r bs.tail ps.tail rd.tail lt.tail (E.putD o.dst ts.e) ts.σ k) : TRQ P ops pv (o :: r) bs ps rd lt E σ k := by
 obtain ⟨tr, h1, h2⟩ := ht
 refine ⟨ts :: tr, ⟨ts, tr, rfl, h, h1⟩, ?_⟩
 simpa [cd, aG] using h2
theorem rF : ∀ {l : List Oper} {bs ps : List Bool} {rd : List (List Nat)} {lt : List Bool} {E : Env} {σ : List OB} {k : Env → List OB → Prop}, lt.any id = false → TRP P ops pv l bs ps rd E σ k → TRQ P ops pv l bs ps rd lt E σ k
 | [], _, _, _, _, _, _, _, _, ⟨tr, h1, h2⟩ => by
  simp only [nX] at h1
  subst h1
  exact ⟨[], rfl, h2⟩
 | o :: l, bs, ps, rd, lt, E, σ, k, hl, ⟨tr, h1, h2⟩ => by
  obtain ⟨ts, r, rfl, h3, h4⟩ := h1
  have hh : lt.headD false = false ∧ lt.tail.any id = false := by
   cases lt with
   | nil => exact ⟨rfl, rfl⟩
   | cons a lt => simpa using hl
  exact TRQ.cons (ts := ts) ⟨h3.1, h3.2.1, .inl ⟨hh.1, h3.2.2⟩⟩ (rF hh.2 ⟨r, h4, by simpa [cd, aG] using h2⟩)
theorem lT {l : List Oper} {bs ps : List Bool} {rd : List (List Nat)} {lt : List Bool} {E : Env} {σ : List OB} {k : Env → List OB → Prop} (hl : lt.any id = false) (h : ej P ops pv l bs ps rd E σ k) : TRQ P ops pv l bs ps rd lt E σ k := rF hl (eP l bs ps rd E σ k h)
theorem oM : ∀ {l l' : List Oper} {bs bs' ps ps' lt lt' : List Bool} {rd rd' : List (List Nat)} {E : Env} {σ : List OB} {k : Env → List OB → Prop}, bs.length = l.length → ps.length = l.length → rd.length = l.length → lt.length = l.length →
  TRQ P ops pv l bs ps rd lt E σ (fun E' σ' => TRQ P ops pv l' bs' ps' rd' lt' E' σ' k) → TRQ P ops pv (l ++ l') (bs ++ bs') (ps ++ ps') (rd ++ rd') (lt ++ lt') E σ k
 | [], l', bs, bs', ps, ps', lt, lt', rd, rd', E, σ, k, hl, hl2, hl3, hl4, ⟨tr, h1, h2⟩ => by
  have e1 : bs = [] := List.eq_nil_of_length_eq_zero (by simpa using hl)
  have e2 : ps = [] := List.eq_nil_of_length_eq_zero (by simpa using hl2)
  have e3 : rd = [] := List.eq_nil_of_length_eq_zero (by simpa using hl3)
  have e4 : lt = [] := List.eq_nil_of_length_eq_zero (by simpa using hl4)
  subst e1; subst e2; subst e3; subst e4
  simp only [d9] at h1
  subst h1
  simpa [cd, aG] using h2
 | o :: l, l', bs, bs', ps, ps', lt, lt', rd, rd', E, σ, k, hl, hl2, hl3, hl4, ⟨tr, h1, h2⟩ => by
  obtain ⟨ts, r, rfl, h3, h4⟩ := h1
  match bs, hl, ps, hl2, rd, hl3, lt, hl4 with
  | b :: bs, hl, p :: ps, hl2, q :: rd, hl3, t :: lt, hl4 =>
   refine TRQ.cons (bs := b :: bs ++ bs') (ps := p :: ps ++ ps') (rd := q :: rd ++ rd') (lt := t :: lt ++ lt') (ts := ts) ?_ ?_
   ·simpa using h3
   ·exact oM (by simpa using hl) (by simpa using hl2) (by simpa using hl3) (by simpa using hl4) ⟨r, h4, by simpa [cd, aG] using h2⟩
theorem j7 (n : Nat) {l : List Oper} {bs ps lt : List Bool} {rd : List (List Nat)} {E : Env} {σ : List OB} {k : Env → List OB → Prop} (hn : bs.length = l.length) (hn2 : ps.length = l.length) (hn3 : rd.length = l.length) (hn4 : lt.length = l.length) (hl : (lt.take n).any id = false)
  (h : ej P ops pv (l.take n) (bs.take n) (ps.take n) (rd.take n) E σ (fun E' σ' => TRQ P ops pv (l.drop n) (bs.drop n) (ps.drop n) (rd.drop n) (lt.drop n) E' σ' k)) : TRQ P ops pv l bs ps rd lt E σ k := by
 have := oM (by simp [hn]) (by simp [hn2]) (by simp [hn3]) (by simp [hn4]) (lT hl h)
 rwa [List.take_append_drop, List.take_append_drop, List.take_append_drop, List.take_append_drop, List.take_append_drop] at this
theorem pZ {o : Oper} {l : List Oper} {bs ps lt : List Bool} {rd : List (List Nat)} {E : Env} {σ : List OB} {k : Env → List OB → Prop} {v : PV}
  (hx : ∀ E', (∀ x ∈ o.op.operands, ev E' x = ev E x) → ∀ σ', jz P E' σ' o v σ') (hg : cO ops E o.guard = some true) (hd : dC E o.dst)
  (next : TRQ P ops pv l bs.tail ps.tail rd.tail lt.tail (E.putD o.dst ⟨true, v⟩) σ k) : TRQ P ops pv (o :: l) bs ps rd lt E σ k :=
 TRQ.cons (ts := ⟨true, ⟨true, v⟩, σ⟩) ⟨hg, hd, .inr (.inl ⟨rfl, ⟨v, fun E' h σ' G a w hs => hx E' h σ' G a w hs, rfl⟩, rfl⟩)⟩ next
theorem f4.set {pv : List Nat} {σ : List OB} {b : Nat} {ob : OB} (h : pv.contains b = true) : f4 pv σ (σ.set b ob) :=
 ⟨by simp, fun c hc _ => by
  have : b ≠ c := fun e => by subst e; exact hc (by simpa using h)
  rw [List.getElem?_set_ne this]⟩
theorem nZ {id : Nat} {l : List Oper} {y : Code} {K : Kt} {E : Env} {σ : List OB} (ms : List Nat) (hm : P.follows .mixedOrders = true) (pv masks : List Nat) (bs ps : List Bool) (rd : List (List Nat)) (lt : List Bool) (hc : oF l.toArray l masks bs ps rd lt = true)
  (h : ∀ (k : Env → List OB → Prop), (∀ E σ, W P y K E σ → k E σ) → TRQ P l.toArray pv l bs ps rd lt E σ (fun E σ => k (E.forget ms) σ)) : W P (.seq (.region id l.toArray true) y) K E σ :=
 lF (nQ hm pv masks bs ps rd lt hc (by
  obtain ⟨tr, h1, h2⟩ := h (W P y K) fun _ _ h => h
  exact ⟨tr, h1, i6 ms h2⟩))
end
end Pam
namespace Pam
open Go
section
variable {P : Program} {ops : Array Oper}
end
end Pam
namespace Pam
open Go
section
variable {P : Program} {ops : Array Oper} {pv : List Nat} {E E' : Env} {σ σ' σ2 : List OB} {k : Env → List OB → Prop} {kp : PV → Env → List OB → Prop}
theorem kr {rs : List ResultVar} {n : Nat} {post pp : PV → List OB → Prop} (N : Nat)
  (h : match dH P E σ rs with | some (C, ps) => C ∧ ps.all PV.isV = true ∧ (i7 (σ.take N) σ ∧ n ≤ (σ.take N).length ∧ ay (σ.take N).length (σ.take N) ∧ (di ps).underP (σ.take N).length ∧ post (di ps) (σ.take N)) | none => False := by
   simp only [List.take_succ_cons, List.take_zero, List.take_nil, bF, bT, tab, bX, Sum.elim_inl, Sum.elim_inr, reduceIte, ↓reduceIte, reduceCtorEq, Int.reduceToNat, Nat.reduceDiv, Nat.reduceMod, Nat.reduceLT, Nat.reduceLeDiff, Nat.reduceAdd, Nat.reduceSub, Nat.reduceMul, Nat.reduceEqDiff, Nat.reduceBEq, Nat.reduceBNe, Nat.reduceGT] <;> first | done | rfl | (and_intros <;> first | rfl | omega | (simp; done) | (simp [eK, eB, eS, eL]; done) | (simp [lit, bX, eK, eB, eS, eL]; done) | (simp [CV.under, aA]; done))) : i5 P rs (qA n post) pp .ret E σ := qB (σ.take N) h
theorem kn {rs : List ResultVar} {n : Nat} {post pp : PV → List OB → Prop} (N : Nat)
  (h : match dH P E σ rs with | some (C, ps) => C ∧ ps.all PV.isV = true ∧ (i7 (σ.take N) σ ∧ n ≤ (σ.take N).length ∧ ay (σ.take N).length (σ.take N) ∧ (di ps).underP (σ.take N).length ∧ post (di ps) (σ.take N)) | none => False := by
   simp only [List.take_succ_cons, List.take_zero, List.take_nil, bF, bT, tab, bX, Sum.elim_inl, Sum.elim_inr, reduceIte, ↓reduceIte, reduceCtorEq, Int.reduceToNat, Nat.reduceDiv, Nat.reduceMod, Nat.reduceLT, Nat.reduceLeDiff, Nat.reduceAdd, Nat.reduceSub, Nat.reduceMul, Nat.reduceEqDiff, Nat.reduceBEq, Nat.reduceBNe, Nat.reduceGT] <;> first | done | rfl | (and_intros <;> first | rfl | omega | (simp; done) | (simp [eK, eB, eS, eL]; done) | (simp [lit, bX, eK, eB, eS, eL]; done) | (simp [CV.under, aA]; done))) : i5 P rs (qA n post) pp .normal E σ := nn (σ.take N) h
theorem sp {p q : Prop} (hq : q) (hp : p := by first | omega | assumption | decide | exact lR fun _ => rfl | (intro _; omega) | rfl | exact fun e => absurd (List.map_eq_nil_iff.1 e) (by assumption) | (and_intros <;> first | omega | assumption | decide | exact lR fun _ => rfl) | (refine .inl ?_; simp only [lJ]; and_intros <;> first | rfl | trivial) | (refine .inr (.inl ?_); simp only [lJ]; and_intros <;> first | rfl | trivial) | (refine .inr ?_; simp only [lH]; and_intros <;> first | exact .inl rfl | exact .inr rfl | trivial) | (refine .inr (.inr ⟨rfl, ?_⟩); simp only [lH]; and_intros <;> first | exact .inl rfl | exact .inr rfl | trivial) | exact .inl rfl) : p ∧ q := ⟨hp, hq⟩
theorem gp {p q : Prop} (hq : q) (h : Bx q → p := by
  intro hq
  simp only [bAP, bT, tab, bX, reduceIte, ↓reduceIte, reduceCtorEq, Int.reduceToNat, Nat.reduceDiv, Nat.reduceMod, Nat.reduceLT, Nat.reduceLeDiff, Nat.reduceAdd, Nat.reduceSub, Nat.reduceMul, Nat.reduceEqDiff, Nat.reduceBEq, Nat.reduceBNe, Nat.reduceGT, List.replicate, List.foldr]
  repeat refine sp ?_
  exact hq.1) : p := h ⟨hq⟩
theorem gpx {p q F : Prop} (fx : F) (hq : q) (h : F → Bx q → p := by
  intro fx hq
  simp only [bAP, bT, tab, bX, reduceIte, ↓reduceIte, reduceCtorEq, Int.reduceToNat, Nat.reduceDiv, Nat.reduceMod, Nat.reduceLT, Nat.reduceLeDiff, Nat.reduceAdd, Nat.reduceSub, Nat.reduceMul, Nat.reduceEqDiff, Nat.reduceBEq, Nat.reduceBNe, Nat.reduceGT, List.replicate, List.foldr, fx]
  repeat refine sp ?_
  exact hq.1) : p := h fx ⟨hq⟩
theorem gt {p q : Prop} (hq : q) (h : Bx q → p := by
  intro hq
  simp only [bR, bT, tab, bX, reduceIte, ↓reduceIte, reduceCtorEq, Int.reduceToNat, Nat.reduceDiv, Nat.reduceMod, Nat.reduceLT, Nat.reduceLeDiff, Nat.reduceAdd, Nat.reduceSub, Nat.reduceMul, Nat.reduceEqDiff, Nat.reduceBEq, Nat.reduceBNe, Nat.reduceGT, bZ]
  repeat refine sd ?_
  exact hq.1) : p := h ⟨hq⟩
theorem gtx {p q F : Prop} (fx : F) (hq : q) (h : F → Bx q → p := by
  intro fx hq
  simp only [bR, bT, tab, bX, reduceIte, ↓reduceIte, reduceCtorEq, Int.reduceToNat, Nat.reduceDiv, Nat.reduceMod, Nat.reduceLT, Nat.reduceLeDiff, Nat.reduceAdd, Nat.reduceSub, Nat.reduceMul, Nat.reduceEqDiff, Nat.reduceBEq, Nat.reduceBNe, Nat.reduceGT, bZ, fx]
  repeat refine sd ?_
  exact hq.1) : p := h fx ⟨hq⟩
theorem gl {p q : Prop} (hq : q) (h : Bx q → p := by
  intro hq
  simp only [bAP, bT, tab, bX, reduceIte, ↓reduceIte, reduceCtorEq, Int.reduceToNat, Nat.reduceDiv, Nat.reduceMod, Nat.reduceLT, Nat.reduceLeDiff, Nat.reduceAdd, Nat.reduceSub, Nat.reduceMul, Nat.reduceEqDiff, Nat.reduceBEq, Nat.reduceBNe, Nat.reduceGT, List.tail_cons]
  exact hq.1) : p := h ⟨hq⟩
theorem ct {f : FuncId} {args : List PV} {p : PV} (ρ : List Nat) {args' : List PV} {σc : List OB} {post pp : PV → List OB → Prop} (hs : gv P f args' σc post pp)
  (h1 : ρ.Nodup := by simp) (h2 : ∀ b ∈ ρ, b < σ.length := by simp) (h3 : args = args'.map (PV.ren (cA σ.length ρ)) := by exact rfl) (h4 : ρ.map (fun b => σ[b]?) = σc.map (fun ob => some (ob.ren (cA σ.length ρ))) := by exact rfl)
  (h5 : aJ ρ.length args' := by first | trivial | (simp [bX, eK, eB, eS, eL, ce, aJ, PV.under, CV.under, ay, OB.under, aA]; done)) (h6 : ay ρ.length σc := by first | trivial | (simp [bX, eK, eB, eS, eL, ce, aJ, PV.under, CV.under, ay, OB.under, aA]; done))
  (h7 : ∀ q τ, post q τ → ρ.length ≤ τ.length → q.ren (cA σ.length ρ) = p ∧ b8 σ ρ (τ.map (OB.ren (cA σ.length ρ))) = σ2 := by intro q τ hq _; obtain ⟨rfl, rfl⟩ := hq; exact ⟨rfl, rfl⟩) (h8 : ∀ q τ, pp q τ → False := by exact fun _ _ h => h.elim) : jL P σ f args p σ2 := ⟨args', σc, post, pp, ρ, hs, h1, h2, h3, h4, h5, h6, h7, h8⟩
theorem cap {C : Prop} {f : FuncId} {args : List PV} {o : Oper} {r : List Oper} {bs ps : List Bool} {rd : List (List Nat)} {res : PV} {ops : Array Oper} (hs : jL P σ f args res σ2) (next : ej P ops pv r bs.tail ps.tail rd.tail (E.putD o.dst ⟨true, res⟩) σ2 k)
  (hd : dC E o.dst := by first | trivial | exact cz rfl) (hC : C := by first | trivial | (intro _; first | trivial | simp [ar]) | simp [ar]) (hb : bs.headD false = true ∨ lJ σ σ2 := by first | exact .inl rfl | exact .inr (by simp only [lJ]; and_intros <;> first | rfl | trivial)) : i9 P ops pv true C f args o r bs ps rd E σ k := oL hs hd hC hb next
theorem pap {γ : Bool} {C : Prop} {f : FuncId} {args : List PV} {o : Oper} {r : List Oper} {bs ps : List Bool} {rd : List (List Nat)} {res : PV} (hs : γ = true → cR P f args res) (next : ej P ops pv r bs.tail ps.tail rd.tail (E.putD o.dst ⟨γ, res⟩) σ k)
  (hd : dC E o.dst := by first | trivial | exact cz rfl) (hC : γ = true → C := by first | trivial | (intro _; first | trivial | simp [ar]) | simp [ar]) (hargs : args.all PV.noOwn = true := by exact rfl) (hres : ∀ n, res.ren (cA n []) = res := by exact fun _ => rfl) : i9 P ops pv γ C f args o r bs ps rd E σ k := m7 hs hd hC hargs hres next
end
end Pam
namespace Pam
open Go
section
variable {P : Program} {E : Env} {σ : List OB}
def sV (P : Program) (T : TypeId) : Bool := match P.underlying T with | some (.interface _) => true | _ => false
theorem sx {o : Oper} {op : BinOp} {T T' : TypeId} {x : Operand} (ho : o.op = .binOp op T x (.const .nilIface) T') (hop : op = .eql ∨ op = .neq)
  (hx : ev E x = ⟨true, .c .nili⟩) (hT : sV P T = true) : jz P E σ o (.c (.bool (match op with | .eql => true | _ => false))) σ := .quiet fun G a w hs => by
 have hr : aM G.H .nili (a.eval x) := mt hs hx
 have hu : ∃ ms, P.underlying T = some (.interface ms) := by
  unfold sV at hT
  cases hu : P.underlying T with
  | none => simp [hu] at hT
  | some d => cases d <;> simp [hu] at hT; simp
 obtain ⟨ms, hu⟩ := hu
 generalize hv : a.eval x = u at hr
 cases hr
 have hc : a.eval (.const .nilIface) = .nilIface := rfl
 have q0 : ∀ op, (eqGuard op T x (.const .nilIface) .nilIface .nilIface).run P w = .ok () w := fun op => by
  cases op <;> simp [eqGuard]
 have q1 : ∀ d : Nat, (Op.equalIn (d + 1) T .nilIface .nilIface).run P w = .ok true w := fun d => by
  simp [Op.equalIn, run_underlying hu]
 rcases hop with rfl | rfl
 ·refine ⟨.bool true, ?_, ig _⟩
  simp only [execOp, ho, hv, hc, Sem.run_bind, q0, Result.andThen_ok]
  simp [binOp, Op.equal, Op.maxDepth, q1 9999]
 ·refine ⟨.bool false, ?_, ig _⟩
  simp only [execOp, ho, hv, hc, Sem.run_bind, q0, Result.andThen_ok]
  simp [binOp, Op.equal, Op.maxDepth, q1 9999]
end
end Pam
namespace Pam
open Go
section
variable {P : Program} {E : Env} {σ : List OB}
def rB (P : Program) (T : TypeId) : Bool := match P.underlying T with | some (.int .u8) => true | _ => false
theorem oJ {T : TypeId} (h : rB P T = true) : P.underlying T = some (.int .u8) := by
 unfold rB at h
 split at h
 ·assumption
 ·cases h
def sw (P : Program) (E : Env) (σ : List OB) (k : IntKind) (y : Operand) (m : List Int) : Prop := ∀ G a w, Sim G E σ a w →
 ∃ base cap, a.eval y = .slice base m.length cap ∧ (m ≠ [] → ∃ ad, base = some ad ∧ ∀ (j : Nat) (v : Int), m[j]? = some v → w.cell? (ad.add j) = some (.int k v))
theorem qE (g o j : Nat) : (⟨g, o, none⟩ : Addr).add j = ⟨g, o + j, none⟩ := by unfold Addr.add; split <;> simp_all
theorem j6 {k : IntKind} {y : Operand} {m : List Int} (hy : ev E y = ⟨true, .c (.tree 1 (m.map (eK k)))⟩) : sw P E σ k y m := fun G a w hs => by
 have hr : aM G.H (.tree 1 (m.map (eK k))) (a.eval y) := mt hs hy
 generalize hv : a.eval y = u at hr
 generalize hes : m.map (eK k) = es at hr
 cases hr with
 | tree0 _ ad cap _ =>
  have : m = [] := by simpa using hes
  subst this
  exact ⟨ad, cap, rfl, fun h => absurd rfl h⟩
 | tree _ _ blk off cap c T fz g hb hcap hlen hc hrep =>
  subst hes
  refine ⟨some ⟨blk, off, none⟩, cap, by simp, fun _ => ⟨_, rfl, fun j v hj => ?_⟩⟩
  have he : (m.map (eK k))[j]? = some [CV.int k v] := by simp [eK, hj]
  have h1 := hc j 0 _ (.int k v) he rfl
  have h2 := hrep j 0 _ (.int k v) he rfl
  generalize hgv : g j 0 = val at h1 h2
  cases h2
  rw [qE]
  have hh := hs.inv.hH _ _ hb
  simp only [World.cell?, hh]
  simpa using h1
def iA (m : List Int) : List UInt8 := m.map fun n => UInt8.ofNat n.toNat
theorem lS {o : Oper} {T D : TypeId} {x : Operand} {m : List Int} (ho : o.op = .convert T D x) (hT : ei P T = true) (he : rB P (P.elem T) = true) (hD : gY P D = true) (hx : sw P E σ .u8 x m) :
  jz P E σ o (.c (.str (iA m))) σ := .quiet fun G a w hs => by
 have hu := cQ hT
 have hu8 := oJ he
 have hd : P.underlying D = some .string := by unfold gY at hD; split at hD <;> simp_all
 obtain ⟨base, cap, hv, hc⟩ := hx G a w hs
 refine ⟨_, ?_, nJ _⟩
 have hrun : (convert T D (.slice base m.length cap)).run P w = .ok (.string ⟨(iA m).toArray⟩) w := by
  by_cases hm : m = []
  ·subst hm
   rw [run_convert_bytes_string w T D _ base _ cap hu hu8 hd]
   cases base with
   | none => simp [Conv.bytesToString, iA]; rfl
   | some ad =>
    have := run_bytesToString (P := P) w ad 0 cap [] (by simpa using run_loadCells_list (P := P) w ad [] (fun j v h => by simp at h))
    exact this
  ·obtain ⟨ad, rfl, hcell⟩ := hc hm
   rw [run_convert_bytes_string w T D _ (some ad) _ cap hu hu8 hd]
   have hl : (loadCells ad m.length).run P w = .ok (m.map (Value.int .u8)).toArray w := by
    have := run_loadCells_list (P := P) w ad (m.map (Value.int .u8)) (fun j v hj => by
     rw [List.getElem?_map] at hj
     cases hjj : m[j]? with
     | none => rw [hjj] at hj; cases hj
     | some x =>
      rw [hjj] at hj
      simp only [Option.map_some, sJ] at hj
      subst hj
      exact hcell j x hjj)
    simpa using this
   rw [run_bytesToString w ad _ cap m hl, foldl_push_bytes]
   simp [iA, ByteArray.empty, ByteArray.emptyWithCapacity]
   rfl
 simp only [execOp, ho, hv, Sem.run_bind]
 rw [hrun]
 rfl
theorem oK {o : Oper} {T : TypeId} {x : Operand} {b ver lo n s : Nat} {Ty : TypeId} {es : List (List CV)} (ho : o.op = .convert T T x) (hx : ev E x = ⟨true, .c (.osl b ver lo n)⟩) (hσ : σ[b]? = some (.arr s ver Ty es))
  (hT : ei P T = true) (he : rB P (P.elem T) = true) (hn : 0 < n) :
  jz P E σ o (.c (.osl b ver lo n)) (σ.set b (.arr s ver Ty es)) := fun G a w hs => by
 have hi := hs.inv
 have hu := cQ hT
 have hu8 := oJ he
 have hat := mt hs hx
 obtain ⟨og, s', T'', es', hb', hown, hov, hosz, ⟨hcap, ad, hval, hha⟩, hok⟩ := gM hs.inv (rt hσ) hat
 rw [hσ] at hb'
 simp only [sJ, OB.arr.injEq] at hb'
 obtain ⟨rfl, _, rfl, rfl⟩ := hb'
 obtain ⟨o2, g1, g2, g3, g4, g5, g6, g7, g8, g9⟩ := hok
 rw [hown] at g1
 simp only [sJ] at g1
 subst g1
 have hh : og.has = true := by
  cases hh : og.has with
  | true => rfl
  | false => have := g8 hh; omega
 obtain ⟨a', rfl, ha'⟩ := hha hh
 obtain ⟨cur, fz, hblk, hfz, hcsz, hcells⟩ := g9 hh
 have hG : ({ G with own := G.own.set b (some og) } : Gh) = G := by
  have : G.own.set b (some og) = G.own := by
   apply List.ext_getElem?
   intro k
   by_cases e : b = k
   ·subst e; rw [hown]; simp [(List.getElem?_eq_some_iff.1 hown).1]
   ·rw [List.getElem?_set_ne e]
  cases G; simp_all
 have ea := ha' (by omega)
 have hrun : (convert T T (.slice (some a') n (og.cap - lo))).run P w = .ok (.slice (some a') n (og.cap - lo)) (w.freeze ⟨og.blk, cur.size, none⟩ 1) := by
  have hsh : w.shape? og.blk = some (Ty, cur.size) := by simp [World.shape?, hblk]
  subst ea
  simp [convert, run_underlying hu, run_underlying hu8, markStringish, hsh, Result.andThen]
 have hnew : (w.freeze ⟨og.blk, cur.size, none⟩ 1).heap[og.blk]? = some (.cells cur Ty (if fz.1 == fz.2 then (cur.size, cur.size + 1) else (min fz.1 cur.size, max fz.2 (cur.size + 1)))) := by
  obtain ⟨f1, f2⟩ := fz
  simp only [World.freeze, Nat.one_ne_zero, if_false]
  rw [Array.getElem?_modify, iP rfl, hblk]
  rfl
 have hold : ∀ k, k ≠ og.blk → (w.freeze ⟨og.blk, cur.size, none⟩ 1).heap[k]? = w.heap[k]? := fun k hk => by
  simp only [World.freeze, Nat.one_ne_zero, if_false]
  rw [Array.getElem?_modify, iN (Ne.symm hk)]
 have hhs : (w.freeze ⟨og.blk, cur.size, none⟩ 1).heap.size = w.heap.size := by simp [World.freeze]
 refine ⟨.value (a.eval x), a.eval x, w.freeze ⟨og.blk, cur.size, none⟩ 1, G, ?_, .inl rfl, iU.refl G, aY.refl _, ?_, hat⟩
 ·simp only [execOp, ho, hval, Sem.run_bind]
  rw [hrun]
  rfl
 ·have key := hi.change (w' := w.freeze ⟨og.blk, cur.size, none⟩ 1) b (.arr s ver Ty es) og og hown (.inl rfl) (by omega) (fun k _ hk => hold k (hk hh)) (fun hh' => .inl ⟨rfl, hh'⟩) rfl rfl rfl (by
   rw [hG]
   refine ⟨og, hown, g2, g3, g4, g5, g6, g7, g8, fun _ => ⟨cur, _, hnew, ?_, hcsz, hcells⟩⟩
   right
   rcases hfz with h | h
   ·subst h; simp
   ·split
    ·exact Nat.le_refl _
    ·simp only; omega)
  rw [hG] at key
  exact key
end
end Pam
namespace Pam
open Go
section
variable {P : Program} {E : Env} {σ : List OB}
theorem mB {k : IntKind} {y : Operand} {m : List Int} (hy : ev E y = ⟨true, .c (.tree 1 (m.map (eK k)))⟩) : ∀ E', ev E' y = ev E y → ∀ σ, sw P E' σ k y m := fun _ h _ => j6 (h.trans hy)
theorem oN {o : Oper} {T D : TypeId} {x : Operand} {m : List Int} (ho : o.op = .convert T D x) (hT : ei P T = true) (he : rB P (P.elem T) = true) (hD : gY P D = true) (hx : ∀ E', ev E' x = ev E x → ∀ σ, sw P E' σ .u8 x m) :
  ∀ E', (∀ y ∈ o.op.operands, ev E' y = ev E y) → ∀ σ, jz P E' σ o (.c (.str (iA m))) σ := fun E' h σ => lS ho hT he hD (hx E' (h x (by rw [ho]; simp [Op.operands])) σ)
end
section
variable {P : Program} {ops : Array Oper} {pv : List Nat}
theorem kU {o : Oper} {l : List Oper} {bs ps lt : List Bool} {rd : List (List Nat)} {E : Env} {σ : List OB} {k : Env → List OB → Prop}
  (hg : cO ops E o.guard = some false) (hd : dC E o.dst)
  (next : TRQ P ops pv l bs.tail ps.tail rd.tail lt.tail (E.putD o.dst ⟨true, .t []⟩) σ k) : TRQ P ops pv (o :: l) bs ps rd lt E σ k :=
 TRQ.cons (ts := ⟨false, ⟨true, .t []⟩, σ⟩) ⟨hg, hd, .inr (.inr ⟨rfl, rfl, rfl⟩)⟩ next
end
end Pam
namespace Pam
open Go
section
variable {P : Program} {E : Env} {σ : List OB} {ops : Array Oper} {k : Env → List OB → Prop} {kp : PV → Env → List OB → Prop}
def nsC (ns : List (IntKind × Int)) : List CV := ns.map fun p => .int p.1 p.2
def n4 (P : Program) (T : TypeId) : Bool := match P.underlying T with | some (.interface _) => false | some _ => true | none => false
def rG (P : Program) (T : TypeId) : Bool := match P.underlying T with | some (.interface _) => true | _ => false
theorem p9 {G : Gh} : ∀ {ns : List (IntKind × Int)} {vs : List Value}, aF (Rep G) (nsC ns) vs → vs = ns.map fun p => Value.int p.1 p.2
 | [], [], _ => rfl
 | p :: ns, v :: vs, h => by
  have h1 := da (G := G) (k := p.1) (n := p.2) h.1
  rw [p9 (ns := ns) h.2, h1]
  rfl
theorem j9 {o : Oper} {T : TypeId} {x : Operand} {ns : List (IntKind × Int)} (ho : o.op = .makeInterface T x) (hx : ev E x = ⟨true, .a (nsC ns)⟩) (hT : n4 P T = true) :
  jz P E σ o (.c (.ifc T true (nsC ns))) σ := .quiet fun G a w hs => by
 obtain ⟨vs, hv, h2⟩ := mt hs hx
 have hvs := p9 h2
 have hu : ∃ d, P.underlying T = some d ∧ ∀ ms, d ≠ .interface ms := by
  unfold n4 at hT
  cases hd : P.underlying T with
  | none => simp [hd] at hT
  | some d => exact ⟨d, rfl, fun ms e => by subst e; simp [hd] at hT⟩
 obtain ⟨d, hd, hne⟩ := hu
 refine ⟨.iface T (a.eval x), ?_, ?_⟩
 ·simp only [execOp, ho, Instr.makeInterface, Sem.run_bind, run_underlying hd, Result.andThen_ok]
  cases d <;> first | (exact absurd rfl (hne _)) | rfl
 ·rw [hv, hvs]
  exact aM.rep (.ifc T ns)
theorem n6 {G : Gh} {T : TypeId} {ns : List (IntKind × Int)} {v : Value} (h : aB G (.c (.ifc T true (nsC ns))) v) : v = .iface T (.agg (ns.map fun p => Value.int p.1 p.2).toArray) := by
 have h' : aM G.H (.ifc T true (nsC ns)) v := h
 generalize hc : nsC ns = cs at h'
 cases h' with
 | ifc _ ns' =>
  have : ns = ns' := by
   unfold nsC at hc
   clear h
   induction ns generalizing ns' with
   | nil => cases ns' <;> simp_all
   | cons p ns ih =>
    cases ns' with
    | nil => simp at hc
    | cons q ns' =>
     simp only [List.map_cons, List.cons.injEq, CV.int.injEq] at hc
     obtain ⟨⟨h1, h2⟩, h3⟩ := hc
     rw [ih _ h3]
     congr 1
     exact Prod.ext h1 h2
  rw [this]
theorem fm {o : Oper} {l : List Oper} {x : Operand} {T : TypeId} {ns : List (IntKind × Int)} (ho : o.op = .panic x) (hx : ev E x = ⟨true, .c (.ifc T true (nsC ns))⟩) (hg : cO ops E o.guard = some true)
  (h : kp (.c (.ifc T true (nsC ns))) E σ) : ft P ops (o :: l) E σ k kp := fun G a w hs => by
 have hw := ix (P := P) hs hg
 have hr := mt hs hx
 have hv := n6 hr
 unfold wpList
 rw [iP hw]
 left
 unfold Oper.wp
 have e1 : (execOp a.eval o).run P w = .halt (.panic (.iface T (.agg (ns.map fun p => Value.int p.1 p.2).toArray))) w := by
  simp only [execOp, ho, hv, Instr.panic, goPanic]
  rfl
 rw [e1]
 exact ⟨G, E, σ, .panic (.c (.ifc T true (nsC ns))), Gle.refl G, hs, ⟨_, rfl, by rw [hv] at hr; exact hr⟩, h⟩
theorem pC {o : Oper} {x : Operand} {X T : TypeId} {ns : List (IntKind × Int)} (cs : List CV) (hcs : nsC ns = cs) (ho : o.op = .typeAssert x X T true) (hx : ev E x = ⟨true, .c (.ifc T true (nsC ns))⟩) (hT : n4 P T = true) :
  jz P E σ o (.t [.a cs, .c (.bool true)]) σ := .quiet fun G a w hs => by
 subst hcs
 have hv := n6 (mt hs hx)
 have hu : ∃ d, P.underlying T = some d ∧ ∀ ms, d ≠ .interface ms := by
  unfold n4 at hT
  cases hd : P.underlying T with
  | none => simp [hd] at hT
  | some d => exact ⟨d, rfl, fun ms e => by subst e; simp [hd] at hT⟩
 obtain ⟨d, hd, hne⟩ := hu
 refine ⟨.tuple #[.agg (ns.map fun p => Value.int p.1 p.2).toArray, .bool true], ?_, ?_⟩
 ·simp only [execOp, ho, hv, Instr.typeAssert, Sem.run_bind, run_underlying hd, Result.andThen_ok]
  cases d <;> first | (exact absurd rfl (hne _)) | (simp; done) | (simp; rfl)
 ·refine ⟨[_, _], rfl, ⟨_, rfl, ?_⟩, aM.rep (.bool true), trivial⟩
  clear hx hv
  unfold nsC
  induction ns with
  | nil => trivial
  | cons p ns ih => exact ⟨aM.rep (.int p.1 p.2), ih⟩
theorem qF {o : Oper} {op : BinOp} {T T' S : TypeId} {x : Operand} {ns : List (IntKind × Int)} (ho : o.op = .binOp op T x (.const .nilIface) T') (hop : op = .eql ∨ op = .neq)
  (hx : ev E x = ⟨true, .c (.ifc S true (nsC ns))⟩) (hT : rG P T = true) : jz P E σ o (.c (.bool (match op with | .eql => false | _ => true))) σ := .quiet fun G a w hs => by
 have hu : ∃ ms, P.underlying T = some (.interface ms) := by
  unfold rG at hT
  cases hu : P.underlying T with
  | none => simp [hu] at hT
  | some d => cases d <;> simp [hu] at hT; simp
 obtain ⟨ms, hu⟩ := hu
 have hv := n6 (mt hs hx)
 have hc : a.eval (.const .nilIface) = .nilIface := rfl
 have q0 : ∀ op S v, (eqGuard op T x (.const .nilIface) (.iface S v) .nilIface).run P w = .ok () w := fun op S v => by
  cases op <;> simp [eqGuard]
 have q1 : ∀ (d : Nat) (t : TypeId) (v : Value), (Op.equalIn (d + 1) T (.iface t v) .nilIface).run P w = .ok false w := fun d t v => by
  simp [Op.equalIn, run_underlying hu]
 rcases hop with rfl | rfl
 ·refine ⟨.bool false, ?_, ig _⟩
  simp only [execOp, ho, hv, hc, Sem.run_bind, q0, Result.andThen_ok]
  simp [binOp, Op.equal, Op.maxDepth, q1 9999]
 ·refine ⟨.bool true, ?_, ig _⟩
  simp only [execOp, ho, hv, hc, Sem.run_bind, q0, Result.andThen_ok]
  simp [binOp, Op.equal, Op.maxDepth, q1 9999]
end
end Pam
