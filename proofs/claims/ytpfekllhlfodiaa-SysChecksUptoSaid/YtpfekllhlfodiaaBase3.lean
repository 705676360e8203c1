/- Single operations beside those of run1: each by a rule of its own. -/
import Derived.Test.YtpfekllhlfodiaaBase2
import Derived.Shelf.Sort.Plain
import Derived.Shelf.Slices.In.SortNone
import Derived.Shelf.Slices.In.CompactI
set_option linter.all false
namespace Pam
open Go

/-- what one operation does, at each world that this is known of -/
def ExtTo (P : Program) (E : Env) (σ : List OB) (o : Oper) (v : PV) (σ' : List OB) : Prop := ∀ G a w, Sim G E σ a w → Loud P G (execOp a.eval o) w v σ'

section
variable {P : Program} {ops : Array Oper} {E E' : Env} {σ σ' : List OB} {k : Env → List OB → Prop} {kp : PV → Env → List OB → Prop} {l : List Oper}

theorem RunRest_step {o : Oper} {r : List Oper} {v : PV} (hx : ExtTo P E σ o v σ') (hg : guardOf ops E o.guard = some true) (hd : dstOk E o.dst)
    (h : RunRest P ops r (E.putD o.dst ⟨true, v⟩) σ' k kp) : RunRest P ops (o :: r) E σ k kp := fun G a w hs => by
  have hw := guard_ok (P := P) hs hg
  unfold wpList
  rw [if_pos hw]
  obtain ⟨nx, val, w', G', e1, e2, e3, e4, e5, e6⟩ := hx G a w hs
  left
  unfold Oper.wp
  have hs' : Sim G' (E.putD o.dst ⟨true, v⟩) σ' (a.put o.dst val) w' := (hs.ghost e5 e3.H e3.na e4).putD o.dst hd _ val fun _ => e6
  have := wpList_mono (fun e a w h => PostX.back (Gle.mk' e3 e4) h) r _ _ (h G' _ w' hs')
  rw [e1]
  rcases e2 with rfl | ⟨rfl, rfl⟩
  · exact this
  · exact this
theorem RunCall_atR {C : Prop} {f : FuncId} {args : List PV} {o : Oper} {r : List Oper}
    {args' : List PV} {σc : List OB} {post pp : PV → List OB → Prop} (hs : Spec P f args' σc post pp) (ρ : List Nat) (hd : dstOk E o.dst) (hC : C) (hnd : ρ.Nodup) (hlt : ∀ b ∈ ρ, b < σ.length)
    (hargs : args = args'.map (PV.ren (back σ.length ρ))) (hσ : ρ.map (fun b => σ[b]?) = σc.map fun ob => some (ob.ren (back σ.length ρ))) (hu : psUnder ρ.length args') (hub : obsBelow ρ.length σc)
    (next : ∀ p σ', post p σ' → ρ.length ≤ σ'.length → RunRest P ops r (E.putD o.dst ⟨true, p.ren (back σ.length ρ)⟩) (place σ ρ (σ'.map (OB.ren (back σ.length ρ)))) k kp)
    (npanic : ∀ p σ', pp p σ' → ρ.length ≤ σ'.length → kp (p.ren (back σ.length ρ)) E (place σ ρ (σ'.map (OB.ren (back σ.length ρ))))) :
    RunCall P ops true C f args o r E σ k kp := RunCall_atW hs ρ hd hC hnd hlt hargs hσ hu hub next npanic
theorem RunCall_pureR {γ : Bool} {C : Prop} {f : FuncId} {args : List PV} {o : Oper} {r : List Oper} {res : PV} (hs : γ = true → SpecF P f args res) (hd : dstOk E o.dst) (hC : γ = true → C) (hargs : args.all PV.noOwn = true) (hres : res.ren (back σ.length []) = res)
    (next : RunRest P ops r (E.putD o.dst ⟨γ, res⟩) σ k kp) : RunCall P ops γ C f args o r E σ k kp := RunCall_pureW hs hd hC hargs hres next
/-- nothing is left -/
theorem RunRest_nil (h : k E σ) : RunRest P ops [] E σ k kp := fun G a w hs => ⟨G, E, σ, .normal, Gle.refl G, hs, rfl, h⟩

/-- a quiet value -/
theorem ExtTo.quiet {o : Oper} {v : PV} (h : ∀ G a w, Sim G E σ a w → ∃ val, (execOp a.eval o).run P w = .ok (.value val) w ∧ RepP G v val) : ExtTo P E σ o v σ := fun G a w hs => by
  obtain ⟨val, h1, h2⟩ := h G a w hs
  exact ⟨_, val, w, G, h1, .inl rfl, Ghle.refl G, OwnLe.refl _, hs.inv, h2⟩

theorem at_ev {G : Gh} {a : Act} {w : World} (hs : Sim G E σ a w) {x : Operand} {p : PV} (h : ev E x = ⟨true, p⟩) : RepP G p (a.eval x) := by
  have := ev_rep hs x
  rw [h] at this
  exact this rfl

theorem bnd_at {G : Gh} {a : Act} {w : World} (hs : Sim G E σ a w) {d : Nat} {o : Option Operand} {e : Ent} {n : Int} (h : bnd d (o.map (ev E)) = some (e, n)) (hc : e.cond = true) :
    (o.map a.eval = none ∧ n = d) ∨ ∃ k, o.map a.eval = some (.int k n) := by
  cases o with
  | none => simp only [Option.map_none, bnd, Option.some.injEq, Prod.mk.injEq] at h; exact .inl ⟨rfl, h.2.symm⟩
  | some x =>
    simp only [Option.map_some, bnd] at h
    split at h
    · rename_i k m hv
      simp only [Option.some.injEq, Prod.mk.injEq] at h
      obtain ⟨rfl, rfl⟩ := h
      have := ev_rep hs x hc
      rw [hv] at this
      exact .inr ⟨k, by rw [Option.map_some, rep_int this]⟩
    · cases h

theorem alive_of {b ver lo len s : Nat} {T0 : TypeId} {es : List (List CV)} (hσ : σ[b]? = some (.arr s ver T0 es)) : alive σ (.osl b ver lo len) := by simp [alive, hσ]

/-- an own array's part -/
theorem Ext_slO {o : Oper} {T : TypeId} {x : Operand} {lo hi : Option Operand} {b ver lo0 len : Nat} {e1 e2 : Ent} {l h : Int} (ho : o.op = .slice T x lo hi none)
    {s : Nat} {T0 : TypeId} {es : List (List CV)} (hx : ev E x = ⟨true, .c (.osl b ver lo0 len)⟩) (hσ : σ[b]? = some (.arr s ver T0 es)) (hT : isSl P T = true) (hk : knownT P (P.elem T) = true)
    (hsz : P.cellsOf (P.elem T) = s)
    (h1 : bnd 0 (lo.map (ev E)) = some (e1, l)) (h2 : bnd len (hi.map (ev E)) = some (e2, h)) (c1 : e1.cond = true) (c2 : e2.cond = true) (hb : 0 ≤ l ∧ l ≤ h ∧ h ≤ len) :
    ExtTo P E σ o (.c (.osl b ver (lo0 + l.toNat) (h.toNat - l.toNat))) σ := .quiet fun G a w hs => by
  obtain ⟨g0, g1, g2⟩ := hb
  have hu' := isSl_und hT
  obtain ⟨og, s', T'', es', hb', hown, hov, hosz, ⟨hcap, ad, hval, hha⟩, hok⟩ := alive_osl hs.inv (alive_of hσ) (at_ev hs hx)
  rw [hb'] at hσ
  simp only [Option.some.injEq, OB.arr.injEq] at hσ
  rw [← hσ.1] at hsz
  have k1 : (lo.map a.eval = none ∧ l = 0) ∨ ∃ k, lo.map a.eval = some (.int k l) := by simpa using bnd_at hs h1 c1
  have k2 := bnd_at hs h2 c2
  have hbds := sliceBounds_ok (P := P) (w := w) true len (og.cap - lo0) (lo.map a.eval) (hi.map a.eval) l h k1 k2 (by omega) (by omega) (by omega)
  refine ⟨sliced ad l.toNat h.toNat (og.cap - lo0) s', ?_, ⟨rfl, _, hown, fun o' e => ?_⟩⟩
  · simp only [execOp, ho, hval]
    refine run_v ?_
    rw [Option.map_none, run_sliceAt_slice w T _ _ _ _ hu', run_slice_any w T _ _ _ hu', hbds]
    simp only [Result.andThen_ok, run_sizeOf hk, hsz]
  · simp only [Option.some.injEq] at e; subst e
    refine ⟨by omega, fun _ => ⟨by omega, if og.cap - lo0 = l.toNat then ad else ad.map (·.add (l.toNat * s')), ?_, fun hh => ?_⟩⟩
    · simp only [sliced]; congr 1; omega
    · obtain ⟨a', rfl, ha'⟩ := hha hh
      split
      · exact ⟨a', rfl, fun hlt => by omega⟩
      · have := ha' (by omega)
        subst this
        refine ⟨_, rfl, fun _ => ?_⟩
        show (⟨og.blk, lo0 * og.sz, none⟩ : Addr).add (l.toNat * s') = _
        rw [add_at, hosz, Nat.add_mul]

/-- nothing of an own array: s[:0:0] -/
theorem Ext_slO3 {o : Oper} {T : TypeId} {x h m : Operand} {b ver lo0 len : Nat} {k1 k2 : IntKind} (ho : o.op = .slice T x none (some h) (some m))
    {s : Nat} {T0 : TypeId} {es : List (List CV)} (hx : ev E x = ⟨true, .c (.osl b ver lo0 len)⟩) (hσ : σ[b]? = some (.arr s ver T0 es)) (hT : isSl P T = true) (hk : knownT P (P.elem T) = true)
    (hh : ev E h = ⟨true, .c (.int k1 0)⟩) (hm : ev E m = ⟨true, .c (.int k2 0)⟩) : ExtTo P E σ o (.c .emp) σ := .quiet fun G a w hs => by
  have hu' := isSl_und hT
  obtain ⟨og, s', T'', es', hb', hown, hov, hosz, ⟨hcap, ad, hval, hha⟩, hok⟩ := alive_osl hs.inv (alive_of hσ) (at_ev hs hx)
  have e1 := rep_int (at_ev hs hh)
  have e2 := rep_int (at_ev hs hm)
  refine ⟨.slice ad 0 0, ?_, RepT.rep (G := G) (.emp ad)⟩
  simp only [execOp, ho, hval]
  refine run_v ?_
  simp only [Option.map_none, Option.map_some, e1, e2]
  rw [run_sliceAt_slice w T _ _ _ _ hu', run_slice_hm w T ad _ _ hu' _ _ 0 0 (by omega) (by omega) (by omega), run_sizeOf hk]
  simp [sliced]

/-- nil's part -/
theorem Ext_slN {o : Oper} {T : TypeId} {x : Operand} {lo hi : Option Operand} {e1 e2 : Ent} (ho : o.op = .slice T x lo hi none)
    (hx : ev E x = ⟨true, .c .nils⟩) (hT : isSl P T = true) (hk : knownT P (P.elem T) = true)
    (h1 : bnd 0 (lo.map (ev E)) = some (e1, 0)) (h2 : bnd 0 (hi.map (ev E)) = some (e2, 0)) (c1 : e1.cond = true) (c2 : e2.cond = true) :
    ExtTo P E σ o (.c .nils) σ := .quiet fun G a w hs => by
  have hu' := isSl_und hT
  have hr : RepT G.H .nils (a.eval x) := at_ev hs hx
  have k1 : (lo.map a.eval = none ∧ (0 : Int) = 0) ∨ ∃ k, lo.map a.eval = some (.int k 0) := by simpa using bnd_at hs h1 c1
  have k2 : (hi.map a.eval = none ∧ (0 : Int) = (0 : Nat)) ∨ ∃ k, hi.map a.eval = some (.int k 0) := by simpa using bnd_at hs h2 c2
  have hbds := sliceBounds_ok (P := P) (w := w) true 0 0 (lo.map a.eval) (hi.map a.eval) 0 0 k1 k2 (by omega) (by omega) (by omega)
  refine ⟨.slice none 0 0, ?_, RepT.rep (G := G) .nils⟩
  simp only [execOp, ho]
  generalize a.eval x = u at hr
  cases hr
  refine run_v ?_
  rw [Option.map_none, run_sliceAt_slice w T _ _ _ _ hu', run_slice_any w T _ _ _ hu', hbds]
  simp [run_sizeOf hk, sliced]

/-- how much room nil has -/
theorem Ext_capN {o : Oper} {c : Call} {T : TypeId} {x : Operand} (ho : o.op = .call c) (hc : c.callee = .builtin .cap) (hts : c.argTypes = #[T]) (has : c.args = #[x])
    (hx : ev E x = ⟨true, .c .nils⟩) (hT : isSl P T = true) : ExtTo P E σ o (.c (.int .i64 0)) σ := .quiet fun G a w hs => by
  have hu' := isSl_und hT
  have hr : RepT G.H .nils (a.eval x) := at_ev hs hx
  refine ⟨.int .i64 0, ?_, mk_int _ _⟩
  generalize hv : a.eval x = u at hr
  cases hr
  have e1 : (Builtin.cap_ #[T] o.type #[Value.slice none 0 0]).run P w = .ok (.int .i64 0) w := by
    unfold Builtin.cap_
    simp only [List.getElem?_toArray, List.getElem?_cons_zero, Sem.run_bind, run_underlying hu', Result.andThen_ok]
    rfl
  have harr : c.args.map a.eval = #[Value.slice none 0 0] := by rw [has]; simp [hv]
  simp only [execOp, ho, Sem.run_bind, resolve, hc, Sem.run_pure, Result.andThen_ok, invoke, harr, hts, builtin]
  rw [e1]
  rfl

/-- zeros behind nil -/
theorem Ext_zerosN {o : Oper} {c : Call} {T T' : TypeId} {x y : Operand} {n : Int} {z : List CV} (ho : o.op = .call c) (hc : c.callee = .builtin .append) (hts : c.argTypes = #[T, T']) (has : c.args = #[x, y])
    (hx : ev E x = ⟨true, .c .nils⟩) (hy : ev E y = ⟨true, .c (.int .i64 n)⟩) (hT : isSl P T = true) (hT' : isInt P T' = true) (hk : knownT P (P.elem T) = true) (hz : zeroC P (P.elem T) = some z)
    (hpos : 0 < P.cellsOf (P.elem T)) (hn : 0 ≤ n ∧ n ≤ maxLen) (hr : n.toNat * P.bytesOf (P.elem T) ≤ 140737488355328) :
    ExtTo P E σ o (.c (.osl σ.length 0 0 n.toNat)) (σ ++ [.arr (P.cellsOf (P.elem T)) 0 (P.elem T) (List.replicate n.toNat z)]) := fun G a w hs => by
  have hi := hs.inv
  have hu' := isSl_und hT
  have hui := isInt_und hT'
  have hrx : RepT G.H .nils (a.eval x) := at_ev hs hx
  have ey := rep_int (at_ev hs hy)
  obtain ⟨i, zu, h1, h2, h3, h4, h5, h6⟩ := zeroC_all G hz
  obtain ⟨m, rfl⟩ : ∃ m : Nat, n = (m : Int) := ⟨n.toNat, by omega⟩
  simp only [Int.toNat_natCast] at hr ⊢
  have hm : m ≤ maxLen := by omega
  have hzl : z.length = i.size := by have := h6.length; simp at this; omega
  have hwr : IntKind.i64.wrap (m : Int) = m := by rw [IntKind.wrap_i64]; simp only [maxLen] at hm; omega
  generalize hv : a.eval x = u at hrx
  cases hrx
  have hb0 : ¬ (281474976710656 < (m : Int) * (i.bytes : Int)) := by
    rw [← h5]
    rw [← Int.natCast_mul]
    generalize m * P.bytesOf (P.elem T) = q at hr
    omega
  by_cases h0 : m = 0
  · subst h0
    have hrun : (Builtin.append_ #[T, T'] o.type #[.slice none 0 0, .int .i64 (0 : Nat)]).run P w = .ok (.slice none 0 0) w := by
      simp [Builtin.append_, run_underlying hu', run_underlying hui, Go.sizeOf, typeInfo, h1, asInt, asIntOf, IntKind.wrap_i64]
    have hle : OwnLe G.own (G.own ++ [some ⟨0, P.cellsOf (P.elem T), 0, 0, false⟩]) := OwnLe.append _ _
    have hlast : (G.own ++ [some (⟨0, P.cellsOf (P.elem T), 0, 0, false⟩ : OG)])[σ.length]? = some (some ⟨0, P.cellsOf (P.elem T), 0, 0, false⟩) := by rw [← hi.len]; simp
    refine ⟨.value (.slice none 0 0), .slice none 0 0, w, { G with own := G.own ++ [some ⟨0, P.cellsOf (P.elem T), 0, 0, false⟩] }, ?_, .inl rfl, ⟨fun _ _ h => h, rfl, rfl, rfl⟩, hle, ?_, ?_⟩
    · simp only [execOp, ho, Sem.run_bind, resolve, hc, Sem.run_pure, Result.andThen_ok, invoke, hts, has, List.map_toArray, List.map_cons, List.map_nil, hv, ey, builtin, hrun]
    · refine hi.push _ _ (Nat.le_refl _) (fun _ _ => rfl) (fun h => by simp at h) rfl rfl rfl ?_
      exact ⟨_, hlast, rfl, rfl, hpos, by simp, by simp [maxLen], by simp, fun _ => rfl, fun h => by simp at h⟩
    · refine ⟨rfl, _, hlast, fun o e => ?_⟩
      simp only [Option.some.injEq] at e; subst e
      exact ⟨Nat.le_refl _, fun _ => ⟨by simp, none, by simp, fun h => by simp at h⟩⟩
  · have hfit := growslice_fits (need := m) (old := 0) (bytes := i.bytes) (by omega) (by rw [← h5]; simpa using hr)
    have h48' : ¬ (281474976710656 < Builtin.nextslicecap m 0 * i.bytes) := by omega
    have hms : m * i.size ≠ 0 := Nat.mul_ne_zero h0 (by omega)
    have h63' : ¬ (9223372036854775807 < (m : Int)) := by simp only [maxLen] at hm; omega
    have hrun : (Builtin.append_ #[T, T'] o.type #[.slice none 0 0, .int .i64 (m : Nat)]).run P w =
        .ok (.slice (some ⟨w.heap.size, 0, none⟩) m (grownCap w m 0 (P.elem T))) (w.drew.alloc (.cells ((Builtin.zeroCells zu.cells m).toList ++ (Builtin.zeroCells zu.cells (grownCap w m 0 (P.elem T) - m)).toList).toArray (P.elem T))) := by
      have hms2 : ¬ (m * i.size = 0) := hms
      have hneg : ¬ ((m : Int) < 0) := by omega
      simp [Builtin.append_, run_underlying hu', run_underlying hui, Go.sizeOf, typeInfo, zeroValue, h1, h2, asInt, asIntOf, hwr, hb0, h0, h63', h48', Question.forced, newRow, grownCap, hms2, hneg, run_firstCells_none]
      congr 2
      apply Array.ext'
      simp
    obtain ⟨q1, q2⟩ := cap_ok (w := w) (c := 0) (e := P.elem T) hm
    have hrows := rows_rep (H := G.H) (s := i.size) (n := m) (m := grownCap w m 0 (P.elem T)) h6 hzl q1
    have hzc : ∀ k j : Nat, (Builtin.zeroCells zu.cells k)[j]? = (madeCells zu.cells (k * i.size))[j]? := by
      intro k j
      simp only [Builtin.zeroCells, madeCells, h3]
    have hcells : ∀ j, j < m * i.size → ((Builtin.zeroCells zu.cells m).toList ++ (Builtin.zeroCells zu.cells (grownCap w m 0 (P.elem T) - m)).toList).toArray[j]? = (madeCells zu.cells (grownCap w m 0 (P.elem T) * i.size))[j]? := by
      intro j hj
      have hjm : j < grownCap w m 0 (P.elem T) * i.size := Nat.lt_of_lt_of_le hj (Nat.mul_le_mul_right _ q1)
      rw [List.getElem?_toArray, List.getElem?_append_left (by simp [size_zc, h3]; exact hj), Array.getElem?_toList, hzc]
      simp [madeCells, hj, hjm]
    obtain ⟨G', g1, g2, g3, g4⟩ := push_arr (s := P.cellsOf (P.elem T)) (T := P.elem T) (es := List.replicate m z) (c := ((Builtin.zeroCells zu.cells m).toList ++ (Builtin.zeroCells zu.cells (grownCap w m 0 (P.elem T) - m)).toList).toArray) (cap := grownCap w m 0 (P.elem T)) hi (.inl rfl) hpos (by simpa using q1) q2
      (by intro e he; rw [(List.mem_replicate.1 he).2]; omega)
      (by simp [size_zc, h3, ← h4]; rw [← Nat.add_mul]; congr 1; omega)
      (by
        rw [h4]
        exact hrows.congr (fun i e he => by
          have := List.mem_of_getElem? he
          rw [(List.mem_replicate.1 this).2]; exact hzl) fun k hk => hcells k (by simpa using hk)) m q1
    exact ⟨_, _, _, G', by simp only [execOp, ho, Sem.run_bind, resolve, hc, Sem.run_pure, Result.andThen_ok, invoke, hts, has, List.map_toArray, List.map_cons, List.map_nil, hv, ey, builtin, hrun], .inl rfl, g1, g2, g3, g4⟩

/-- an own slice with elements is not nil -/
theorem Ext_eqO {o : Oper} {op : BinOp} {T T' : TypeId} {x y : Operand} {b ver lo len : Nat} (ho : o.op = .binOp op T x y T') (hop : op = .eql ∨ op = .neq)
    {s : Nat} {T0 : TypeId} {es : List (List CV)} (hx : ev E x = ⟨true, .c (.osl b ver lo len)⟩) (hσ : σ[b]? = some (.arr s ver T0 es)) (hy : ev E y = ⟨true, .c .nils⟩) (hT : isSl P T = true) (hl : 0 < len) :
    ExtTo P E σ o (.c (.bool (match op with | .eql => false | _ => true))) σ := .quiet fun G a w hs => by
  have hr : RepT G.H .nils (a.eval y) := at_ev hs hy
  obtain ⟨og, s', T'', es', hb', hown, hov, hosz, ⟨hcap, ad, hval, hha⟩, hok⟩ := alive_osl hs.inv (alive_of hσ) (at_ev hs hx)
  obtain ⟨o2, g1, g2, g3, g4, g5, g6, g7, g8, g9⟩ := hok
  rw [hown] at g1
  simp only [Option.some.injEq] at g1
  subst g1
  have hh : og.has = true := by
    cases hh : og.has with
    | true => rfl
    | false => have := g8 hh; omega
  obtain ⟨a', rfl, _⟩ := hha hh
  generalize hv : a.eval y = u at hr
  cases hr
  obtain ⟨q1, q2, q3⟩ := eq_some (P := P) (w := w) hT a' len (og.cap - lo)
  rcases hop with rfl | rfl
  · exact ⟨_, by simp only [execOp, ho, hval, hv, Sem.run_bind, q1, Result.andThen_ok, q2, Sem.run_pure], mk_bool _⟩
  · exact ⟨_, by simp only [execOp, ho, hval, hv, Sem.run_bind, q1, Result.andThen_ok, q3, Sem.run_pure]; rfl, mk_bool _⟩
end

/-! an own array takes another one's place -/
def CV.mvO (b k vk w : Nat) : CV → CV
  | .osl b' v lo len => if b' = k then (if v = vk then .osl b w lo len else .junk) else .osl b' v lo len
  | .oel b' v i j => if b' = k then (if v = vk then .oel b w i j else .junk) else .oel b' v i j
  | .optr b' off => if b' = k then .junk else .optr b' off
  | .fn f caps => .fn f caps
  | .junk => .junk
  | .bool x => .bool x
  | .int k n => .int k n
  | .str x => .str x
  | .nilp => .nilp
  | .nils => .nils
  | .nilf => .nilf
  | .nili => .nili
  | .emp => .emp
  | .emn => .emn
  | .tree s' es' => .tree s' es'
  | .tptr s' es' i j => .tptr s' es' i j
  | .ifc T g cs => .ifc T g cs
def CV.mv (b k vk w : Nat) : CV → CV
  | .fn f caps => .fn f (caps.map (CV.mvO b k vk w))
  | c => c.mvO b k vk w
def PV.mv (b k vk w : Nat) : PV → PV
  | .x => .x
  | .c y => .c (y.mv b k vk w)
  | .a ys => .a (ys.map (CV.mv b k vk w))
  | .t _ => .x
def OB.mv (b k vk w : Nat) : OB → OB
  | .box cs => .box (cs.map (CV.mv b k vk w))
  | .arr s' v T e => .arr s' v T e
  | .dead => .dead
def Tr.mv (b k vk w : Nat) : Tr → Tr
  | .nil => .nil
  | .leaf e => .leaf ⟨e.cond && (match e.v with | .t _ => false | _ => true), e.v.mv b k vk w⟩
  | .node a0 a1 a2 a3 a4 a5 a6 a7 => .node (a0.mv b k vk w) (a1.mv b k vk w) (a2.mv b k vk w) (a3.mv b k vk w) (a4.mv b k vk w) (a5.mv b k vk w) (a6.mv b k vk w) (a7.mv b k vk w)
def Env.mv (b k vk w : Nat) (E : Env) : Env := ⟨E.n, E.na, E.t.mv b k vk w⟩
theorem Tr.mv_get (b k vk w : Nat) (t : Tr) (j : Nat) : (t.mv b k vk w).get j = (t.get j).mv b k vk w := by
  rcases Nat.lt_or_ge j 8 with hj | hj
  · have hj' : j = 0 ∨ j = 1 ∨ j = 2 ∨ j = 3 ∨ j = 4 ∨ j = 5 ∨ j = 6 ∨ j = 7 := by omega
    cases t <;> rcases hj' with rfl | rfl | rfl | rfl | rfl | rfl | rfl | rfl <;> rfl
  · rw [Tr.get_big _ _ hj, Tr.get_big _ _ hj]; rfl
theorem Tr.mv_ent (b k vk w : Nat) (t : Tr) : (t.mv b k vk w).ent = ⟨t.ent.cond && (match t.ent.v with | .t _ => false | _ => true), t.ent.v.mv b k vk w⟩ := by
  cases t <;> rfl
section
variable {G : Gh} {σ : List OB} {w : World} {b k sb vb sk vk : Nat} {Tb Tk : TypeId} {eb ek : List (List CV)} {ob ok : OG}

def mvG (G : Gh) (b k : Nat) (ob ok : OG) : Gh := { G with own := (G.own.set k none).set b (some { ok with ver := ob.ver + 1 }) }

theorem mv_at (hbk : b ≠ k) (hk : G.own[k]? = some (some ok)) (hb : G.own[b]? = some (some ob)) (x : Nat) :
    (mvG G b k ob ok).own[x]? = if x = b then some (some { ok with ver := ob.ver + 1 }) else if x = k then some none else G.own[x]? := by
  have h1 := (List.getElem?_eq_some_iff.1 hb).1
  have h2 := (List.getElem?_eq_some_iff.1 hk).1
  simp only [mvG]
  by_cases e : x = b
  · subst e; rw [if_pos rfl]; simp [h1]
  · rw [if_neg e, List.getElem?_set_ne (Ne.symm e)]
    by_cases e2 : x = k
    · subst e2; rw [if_pos rfl]; simp [h2]
    · rw [if_neg e2, List.getElem?_set_ne (Ne.symm e2)]

theorem mv_le (hbk : b ≠ k) (hk : G.own[k]? = some (some ok)) (hb : G.own[b]? = some (some ob)) : OwnLe G.own (mvG G b k ob ok).own := by
  intro x oo h
  rw [mv_at hbk hk hb]
  by_cases e : x = b
  · subst e
    rw [hb] at h
    simp only [Option.some.injEq] at h
    exact ⟨_, by rw [if_pos rfl], fun o' e => ⟨ob, h.symm, by simp only [Option.some.injEq] at e; subst e; right; show _ < _ + 1; omega⟩⟩
  · rw [if_neg e]
    by_cases e2 : x = k
    · exact ⟨none, by rw [if_pos e2], fun o' e => by cases e⟩
    · exact ⟨oo, by rw [if_neg e2]; exact h, fun o' ho' => ⟨o', ho', .inl rfl⟩⟩

theorem mvRepO (hbk : b ≠ k) (hk : G.own[k]? = some (some ok)) (hb : G.own[b]? = some (some ob)) (hvk : ok.ver = vk) {c : CV} {v : Value} (h : RepO G c v) :
    RepO (mvG G b k ob ok) (c.mvO b k vk (ob.ver + 1)) v := by
  have h1 : v.oneCell' = true := RepO.one h
  have hm : ∀ {c}, RepO G c v → RepO (mvG G b k ob ok) c v := fun h => RepO.mono (G := G) (G' := mvG G b k ob ok) (fun _ _ h => h) (mv_le hbk hk hb) h
  have junk : RepO (mvG G b k ob ok) .junk v := .junk v h1
  have hat : (mvG G b k ob ok).own[b]? = some (some { ok with ver := ob.ver + 1 }) := by rw [mv_at hbk hk hb, if_pos rfl]
  cases c <;> simp only [CV.mvO] <;> try exact hm h
  case optr b' off =>
    split
    · exact junk
    · exact hm h
  case oel b' v' i j =>
    split
    · rename_i e
      subst e
      split
      · rename_i e2
        subst e2
        obtain ⟨_, oo, k1, k2⟩ := h
        rw [hk] at k1
        simp only [Option.some.injEq] at k1
        obtain ⟨q1, q2⟩ := k2 ok k1.symm
        refine ⟨h1, _, hat, fun o e => ?_⟩
        simp only [Option.some.injEq] at e; subst e
        exact ⟨Nat.le_refl _, fun _ => q2 hvk.symm⟩
      · exact junk
    · exact hm h
  case osl b' v' lo len =>
    split
    · rename_i e
      subst e
      split
      · rename_i e2
        subst e2
        obtain ⟨_, oo, k1, k2⟩ := h
        rw [hk] at k1
        simp only [Option.some.injEq] at k1
        obtain ⟨q1, q2⟩ := k2 ok k1.symm
        refine ⟨h1, _, hat, fun o e => ?_⟩
        simp only [Option.some.injEq] at e; subst e
        exact ⟨Nat.le_refl _, fun _ => q2 hvk.symm⟩
      · exact junk
    · exact hm h

theorem mvRep (hbk : b ≠ k) (hk : G.own[k]? = some (some ok)) (hb : G.own[b]? = some (some ob)) (hvk : ok.ver = vk) {c : CV} {v : Value} (h : Rep G c v) :
    Rep (mvG G b k ob ok) (c.mv b k vk (ob.ver + 1)) v := by
  cases c
  case fn f caps =>
    obtain ⟨vs, rfl, h2⟩ := h
    refine ⟨vs, rfl, ?_⟩
    induction caps generalizing vs with
    | nil => cases vs <;> simp_all [All2]
    | cons c cs ih =>
      cases vs with
      | nil => simp [All2] at h2
      | cons v vs => exact ⟨mvRepO hbk hk hb hvk h2.1, ih vs h2.2⟩
  all_goals first
    | exact mvRepO hbk hk hb hvk (c := .junk) h
    | exact mvRepO hbk hk hb hvk (c := .bool _) h
    | exact mvRepO hbk hk hb hvk (c := .int _ _) h
    | exact mvRepO hbk hk hb hvk (c := .str _) h
    | exact mvRepO hbk hk hb hvk (c := .nilp) h
    | exact mvRepO hbk hk hb hvk (c := .nils) h
    | exact mvRepO hbk hk hb hvk (c := .nilf) h
    | exact mvRepO hbk hk hb hvk (c := .nili) h
    | exact mvRepO hbk hk hb hvk (c := .emp) h
    | exact mvRepO hbk hk hb hvk (c := .emn) h
    | exact mvRepO hbk hk hb hvk (c := .tree _ _) h
    | exact mvRepO hbk hk hb hvk (c := .tptr _ _ _ _) h
    | exact mvRepO hbk hk hb hvk (c := .ifc _ _ _) h
    | skip
  case optr b' off =>
    have := mvRepO hbk hk hb hvk (c := .optr b' off) h
    simp only [CV.mv]
    by_cases e : b' = k <;> simp only [CV.mvO, e, if_true, if_false] at this ⊢ <;> exact this
  case osl b' v' lo len =>
    have := mvRepO hbk hk hb hvk (c := .osl b' v' lo len) h
    simp only [CV.mv]
    by_cases e : b' = k
    · by_cases e2 : v' = vk <;> simp only [CV.mvO, e, e2, if_true, if_false] at this ⊢ <;> exact this
    · simp only [CV.mvO, e, if_false] at this ⊢; exact this
  case oel b' v' i j =>
    have := mvRepO hbk hk hb hvk (c := .oel b' v' i j) h
    simp only [CV.mv]
    by_cases e : b' = k
    · by_cases e2 : v' = vk <;> simp only [CV.mvO, e, e2, if_true, if_false] at this ⊢ <;> exact this
    · simp only [CV.mvO, e, if_false] at this ⊢; exact this

theorem mvAll (hbk : b ≠ k) (hk : G.own[k]? = some (some ok)) (hb : G.own[b]? = some (some ob)) (hvk : ok.ver = vk) : ∀ {cs : List CV} {vs : List Value}, All2 (Rep G) cs vs → All2 (Rep (mvG G b k ob ok)) (cs.map (CV.mv b k vk (ob.ver + 1))) vs
  | [], [], _ => trivial
  | _ :: _, _ :: _, h => ⟨mvRep hbk hk hb hvk h.1, mvAll hbk hk hb hvk h.2⟩
end

theorem Ghost_mv {E : Env} {σ : List OB} (b k : Nat) {sb vb sk vk : Nat} {Tb Tk : TypeId} {eb ek : List (List CV)} (hbk : b ≠ k) (hσb : σ[b]? = some (.arr sb vb Tb eb)) (hσk : σ[k]? = some (.arr sk vk Tk ek)) :
    Ghost E σ (E.mv b k vk (vb + 1)) (((σ.set k .dead).set b (.arr sk (vb + 1) Tk ek)).map (OB.mv b k vk (vb + 1))) := by
  intro G a w hs
  have hi := hs.inv
  obtain ⟨ob, hob, hvb, _⟩ := hi.own b _ hσb
  obtain ⟨ok, hok, hvk, r3, r4, r5, r6, r7, r8, r9⟩ := hi.own k _ hσk
  subst hvb
  have hat := mv_at (G := G) hbk hok hob
  have hle := mv_le (G := G) hbk hok hob
  have hne : ∀ (x : Nat) (o' : OG), (mvG G b k ob ok).own[x]? = some (some o') → (x = b ∧ o' = { ok with ver := ob.ver + 1 }) ∨ (x ≠ b ∧ x ≠ k ∧ G.own[x]? = some (some o')) := by
    intro x o' h
    rw [hat] at h
    split at h
    · rename_i e; simp only [Option.some.injEq] at h; exact .inl ⟨e, h.symm⟩
    · rename_i e
      split at h
      · simp at h
      · rename_i e2; exact .inr ⟨e, e2, h⟩
  refine ⟨mvG G b k ob ok, .mk' ⟨fun _ _ h => h, rfl, rfl, rfl⟩ hle, ⟨hi.hH, hi.hF, hi.HF, by simp [mvG, hi.len], ?_, ?_, ?_, hi.os, hi.tape, hi.output, hi.grow⟩, hs.defers, hs.size, hs.na, fun i hc => ?_⟩
  · intro x obx h
    rw [List.getElem?_map, Option.map_eq_some_iff] at h
    obtain ⟨ob', h1, rfl⟩ := h
    have hlb : b < σ.length := (List.getElem?_eq_some_iff.1 hσb).1
    have hlk : k < σ.length := (List.getElem?_eq_some_iff.1 hσk).1
    by_cases e : x = b
    · subst e
      rw [List.getElem?_set_self (by simpa using hlb)] at h1
      simp only [Option.some.injEq] at h1
      subst h1
      exact ⟨{ ok with ver := ob.ver + 1 }, by rw [hat, if_pos rfl], rfl, r3, r4, r5, r6, r7, r8, r9⟩
    · rw [List.getElem?_set_ne (Ne.symm e)] at h1
      by_cases e2 : x = k
      · subst e2
        rw [List.getElem?_set_self hlk] at h1
        simp only [Option.some.injEq] at h1
        subst h1
        show (mvG G b x ob ok).own[x]? = some none
        rw [hat, if_neg e, if_pos rfl]
      · rw [List.getElem?_set_ne (Ne.symm e2)] at h1
        have hx : (mvG G b k ob ok).own[x]? = G.own[x]? := by rw [hat, if_neg e, if_neg e2]
        have hokx := hi.own x ob' h1
        cases ob' with
        | dead => simpa [OB.mv, OwnOk, hx] using hokx
        | box cs =>
          obtain ⟨o', c, T', g1, g2, g3, g4, g5⟩ := hokx
          exact ⟨o', c, T', hx.trans g1, g2, g3, g4, mvAll hbk hok hob hvk g5⟩
        | arr s' v' T' e' =>
          obtain ⟨o', g1, g2, g3, g4, g5, g6, g7, g8, g9⟩ := hokx
          exact ⟨o', hx.trans g1, g2, g3, g4, g5, g6, g7, g8, g9⟩
  · intro x x' o1 o2 h1 h2 hh1 hh2 he
    rcases hne x o1 h1 with ⟨e1, f1⟩ | ⟨e1, e1', f1⟩ <;> rcases hne x' o2 h2 with ⟨e2, f2⟩ | ⟨e2, e2', f2⟩
    · omega
    · subst f1
      have := hi.inj k x' ok o2 hok f2 hh1 hh2 he
      omega
    · subst f2
      have := hi.inj x k o1 ok f1 hok hh1 hh2 he
      omega
    · exact hi.inj x x' o1 o2 f1 f2 hh1 hh2 he
  · intro x o' h hh
    rcases hne x o' h with ⟨e1, f1⟩ | ⟨e1, e1', f1⟩
    · subst f1; exact hi.sep k ok hok hh
    · exact hi.sep x o' f1 hh
  · have hget : (E.mv b k vk (ob.ver + 1)).get i = ⟨(E.get i).cond && (match (E.get i).v with | .t _ => false | _ => true), (E.get i).v.mv b k vk (ob.ver + 1)⟩ := by
      unfold Env.get Env.mv
      simp only
      rw [Tr.mv_get, Tr.mv_get, Tr.mv_get, Tr.mv_ent]
    rw [hget] at hc ⊢
    simp only [Bool.and_eq_true] at hc
    have hr := hs.slot i hc.1
    cases hv : (E.get i).v with
    | x => trivial
    | c y => rw [hv] at hr; exact mvRep hbk hok hob hvk hr
    | a ys => rw [hv] at hr; obtain ⟨vs, e, h2⟩ := hr; exact ⟨vs, e, mvAll hbk hok hob hvk h2⟩
    | t ps => rw [hv] at hc; simp at hc

/-- rules for that -/
theorem s_mv :
    ((∀ b k v w n na t, Env.mv b k v w ⟨n, na, t⟩ = ⟨n, na, t.mv b k v w⟩) ∧ (∀ b k v w, Tr.mv b k v w .nil = .nil) ∧ (∀ b k v w c y, Tr.mv b k v w (.leaf ⟨c, .c y⟩) = .leaf ⟨c, .c (y.mv b k v w)⟩) ∧ (∀ b k v w c ys, Tr.mv b k v w (.leaf ⟨c, .a ys⟩) = .leaf ⟨c, .a (ys.map (CV.mv b k v w))⟩) ∧
     (∀ b k v w c ps, Tr.mv b k v w (.leaf ⟨c, .t ps⟩) = .leaf ⟨false, .x⟩) ∧ (∀ b k v w c, Tr.mv b k v w (.leaf ⟨c, .x⟩) = .leaf ⟨c, .x⟩) ∧
     (∀ b k v w a0 a1 a2 a3 a4 a5 a6 a7, Tr.mv b k v w (.node a0 a1 a2 a3 a4 a5 a6 a7) = .node (a0.mv b k v w) (a1.mv b k v w) (a2.mv b k v w) (a3.mv b k v w) (a4.mv b k v w) (a5.mv b k v w) (a6.mv b k v w) (a7.mv b k v w))) ∧
    ((∀ b k v w, OB.mv b k v w .dead = .dead) ∧ (∀ b k v w cs, OB.mv b k v w (.box cs) = .box (cs.map (CV.mv b k v w))) ∧ (∀ b k v w s' v' T e, OB.mv b k v w (.arr s' v' T e) = .arr s' v' T e)) ∧
    ((∀ b k v w x, CV.mv b k v w (.bool x) = .bool x) ∧ (∀ b k v w q n, CV.mv b k v w (.int q n) = .int q n) ∧ (∀ b k v w x, CV.mv b k v w (.str x) = .str x) ∧ (∀ b k v w, CV.mv b k v w .nilp = .nilp) ∧ (∀ b k v w, CV.mv b k v w .nils = .nils) ∧
     (∀ b k v w, CV.mv b k v w .nilf = .nilf) ∧ (∀ b k v w, CV.mv b k v w .nili = .nili) ∧ (∀ b k v w, CV.mv b k v w .emp = .emp) ∧ (∀ b k v w, CV.mv b k v w .emn = .emn) ∧ (∀ b k v w, CV.mv b k v w .junk = .junk) ∧ (∀ b k v w s' e', CV.mv b k v w (.tree s' e') = .tree s' e') ∧
     (∀ b k v w s' e' i j, CV.mv b k v w (.tptr s' e' i j) = .tptr s' e' i j) ∧ (∀ b k v w T g cs, CV.mv b k v w (.ifc T g cs) = .ifc T g cs)) ∧
    ((∀ b k v w b' v' lo len, CV.mv b k v w (.osl b' v' lo len) = if b' = k then (if v' = v then .osl b w lo len else .junk) else .osl b' v' lo len) ∧
     (∀ b k v w b' v' i j, CV.mv b k v w (.oel b' v' i j) = if b' = k then (if v' = v then .oel b w i j else .junk) else .oel b' v' i j) ∧ (∀ b k v w b' off, CV.mv b k v w (.optr b' off) = if b' = k then .junk else .optr b' off) ∧
     (∀ b k v w f caps, CV.mv b k v w (.fn f caps) = .fn f (caps.map (CV.mvO b k v w)))) := by
  refine ⟨⟨?_, ?_, ?_, ?_, ?_, ?_, ?_⟩, ⟨?_, ?_, ?_⟩, ⟨?_, ?_, ?_, ?_, ?_, ?_, ?_, ?_, ?_, ?_, ?_, ?_, ?_⟩, ?_, ?_, ?_, ?_⟩
  all_goals intros
  all_goals first | rfl | (simp [Tr.mv, PV.mv]; done)

/-- a box's cell that holds nil is an own array without elements -/
theorem Ghost_nilB {E : Env} {σ : List OB} (b j s : Nat) (T : TypeId) {cs : List CV} (hs : 0 < s) (hσ : σ[b]? = some (.box cs)) (hj : cs[j]? = some .nils) :
    Ghost E σ E (σ.set b (.box (cs.set j (.osl σ.length 0 0 0))) ++ [.arr s 0 T []]) := by
  intro G a w hs'
  have hi := hs'.inv
  have hi2 := hi.nil s T hs
  have hle : OwnLe G.own (G.own ++ [some ⟨0, s, 0, 0, false⟩]) := OwnLe.append _ _
  have hlt : b < σ.length := (List.getElem?_eq_some_iff.1 hσ).1
  refine ⟨{ G with own := G.own ++ [some ⟨0, s, 0, 0, false⟩] }, .mk' ⟨fun _ _ h => h, rfl, rfl, rfl⟩ hle, ?_, hs'.defers, hs'.size, hs'.na, fun i hc => RepP.mono (G := G) (G' := { G with own := G.own ++ [some ⟨0, s, 0, 0, false⟩] }) (fun _ _ h => h) hle (hs'.slot i hc)⟩
  have hset : σ.set b (.box (cs.set j (.osl σ.length 0 0 0))) ++ [.arr s 0 T []] = (σ ++ [OB.arr s 0 T []]).set b (.box (cs.set j (.osl σ.length 0 0 0))) := by
    rw [List.set_append_left _ _ hlt]
  rw [hset]
  refine ⟨hi2.hH, hi2.hF, hi2.HF, by simpa using hi2.len, fun x ob hx => ?_, hi2.inj, hi2.sep, hi2.os, hi2.tape, hi2.output, hi2.grow⟩
  by_cases hxb : x = b
  · subst hxb
    rw [List.getElem?_set_self (by simp; omega)] at hx
    simp only [Option.some.injEq] at hx; subst hx
    obtain ⟨o, c, T', h1, h2, h3, h4, h5⟩ := hi2.own x (.box cs) (by rw [List.getElem?_append_left hlt]; exact hσ)
    refine ⟨o, c, T', h1, h2, h3, h4, ?_⟩
    have hlen := h5.length
    refine All2.of_get (by simpa using hlen) fun i y v hy hv => ?_
    by_cases e : i = j
    · subst e
      have hl : i < cs.length := (List.getElem?_eq_some_iff.1 hj).1
      rw [List.getElem?_set_self hl] at hy
      simp only [Option.some.injEq] at hy; subst hy
      obtain ⟨v', hv', hr⟩ := h5.get i _ hj
      rw [hv] at hv'
      simp only [Option.some.injEq] at hv'; subst hv'
      exact nil_osl hi s (v := v) hr
    · rw [List.getElem?_set_ne (Ne.symm e)] at hy
      obtain ⟨v', hv', hr⟩ := h5.get i _ hy
      rw [hv] at hv'
      simp only [Option.some.injEq] at hv'; subst hv'
      exact hr
  · rw [List.getElem?_set_ne (Ne.symm hxb)] at hx
    exact hi2.own x ob hx

/-- an own array's first elements are enough -/
theorem Ghost_trim {E : Env} {σ : List OB} (b n : Nat) {s ver : Nat} {T : TypeId} {es : List (List CV)} (hσ : σ[b]? = some (.arr s ver T es)) : Ghost E σ E (σ.set b (.arr s ver T (es.take n))) := by
  intro G a w hs'
  have hi := hs'.inv
  have hlt : b < σ.length := (List.getElem?_eq_some_iff.1 hσ).1
  refine ⟨G, Gle.refl G, ?_, hs'.defers, hs'.size, hs'.na, hs'.slot⟩
  refine ⟨hi.hH, hi.hF, hi.HF, by simpa using hi.len, fun k ob hk => ?_, hi.inj, hi.sep, hi.os, hi.tape, hi.output, hi.grow⟩
  by_cases hkb : k = b
  · subst hkb
    rw [List.getElem?_set_self hlt] at hk
    simp only [Option.some.injEq] at hk; subst hk
    obtain ⟨o, g1, g2, g3, g4, g5, g6, g7, g8, g9⟩ := hi.own k _ hσ
    refine ⟨o, g1, g2, g3, g4, by simp; omega, g6, fun e he => g7 e (List.mem_of_mem_take he), g8, fun hh => ?_⟩
    obtain ⟨c, fz, r1, r2, r3, r4⟩ := g9 hh
    refine ⟨c, fz, r1, r2, r3, fun i j e x he hx => r4 i j e x ?_ hx⟩
    rw [List.getElem?_take] at he
    split at he
    · exact he
    · cases he
  · rw [List.getElem?_set_ne (Ne.symm hkb)] at hk
    exact hi.own k ob hk

/-! an own block goes down into a place that is free -/
def CV.dnO (b k : Nat) : CV → CV
  | .osl b' v lo len => if b' = k then .osl b v lo len else if b' = b then .junk else .osl b' v lo len
  | .oel b' v i j => if b' = k then .oel b v i j else if b' = b then .junk else .oel b' v i j
  | .optr b' off => if b' = k then .optr b off else if b' = b then .junk else .optr b' off
  | .fn f caps => .fn f caps
  | .junk => .junk
  | .bool x => .bool x
  | .int k n => .int k n
  | .str x => .str x
  | .nilp => .nilp
  | .nils => .nils
  | .nilf => .nilf
  | .nili => .nili
  | .emp => .emp
  | .emn => .emn
  | .tree s' es' => .tree s' es'
  | .tptr s' es' i j => .tptr s' es' i j
  | .ifc T g cs => .ifc T g cs
def CV.dn (b k : Nat) : CV → CV
  | .fn f caps => .fn f (caps.map (CV.dnO b k))
  | c => c.dnO b k
def PV.dn (b k : Nat) : PV → PV
  | .x => .x
  | .c y => .c (y.dn b k)
  | .a ys => .a (ys.map (CV.dn b k))
  | .t _ => .x
def OB.dn (b k : Nat) : OB → OB
  | .box cs => .box (cs.map (CV.dn b k))
  | .arr s' v T e => .arr s' v T e
  | .dead => .dead
def Tr.dn (b k : Nat) : Tr → Tr
  | .nil => .nil
  | .leaf e => .leaf ⟨e.cond && (match e.v with | .t _ => false | _ => true), e.v.dn b k⟩
  | .node a0 a1 a2 a3 a4 a5 a6 a7 => .node (a0.dn b k) (a1.dn b k) (a2.dn b k) (a3.dn b k) (a4.dn b k) (a5.dn b k) (a6.dn b k) (a7.dn b k)
def Env.dn (b k : Nat) (E : Env) : Env := ⟨E.n, E.na, E.t.dn b k⟩
theorem Tr.dn_get (b k : Nat) (t : Tr) (j : Nat) : (t.dn b k).get j = (t.get j).dn b k := by
  rcases Nat.lt_or_ge j 8 with hj | hj
  · have hj' : j = 0 ∨ j = 1 ∨ j = 2 ∨ j = 3 ∨ j = 4 ∨ j = 5 ∨ j = 6 ∨ j = 7 := by omega
    cases t <;> rcases hj' with rfl | rfl | rfl | rfl | rfl | rfl | rfl | rfl <;> rfl
  · rw [Tr.get_big _ _ hj, Tr.get_big _ _ hj]; rfl
theorem Tr.dn_ent (b k : Nat) (t : Tr) : (t.dn b k).ent = ⟨t.ent.cond && (match t.ent.v with | .t _ => false | _ => true), t.ent.v.dn b k⟩ := by
  cases t <;> rfl
section
variable {G : Gh} {σ : List OB} {w : World} {b k : Nat} {oo : Option OG}
def dnG (G : Gh) (b k : Nat) (oo : Option OG) : Gh := { G with own := (G.own.set k none).set b oo }
theorem dn_at (hbk : b ≠ k) (hk : G.own[k]? = some oo) (hb : G.own[b]? = some none) (x : Nat) :
    (dnG G b k oo).own[x]? = if x = b then some oo else if x = k then some none else G.own[x]? := by
  have h1 := (List.getElem?_eq_some_iff.1 hb).1
  have h2 := (List.getElem?_eq_some_iff.1 hk).1
  simp only [dnG]
  by_cases e : x = b
  · subst e; rw [if_pos rfl]; simp [h1]
  · rw [if_neg e, List.getElem?_set_ne (Ne.symm e)]
    by_cases e2 : x = k
    · subst e2; rw [if_pos rfl]; simp [h2]
    · rw [if_neg e2, List.getElem?_set_ne (Ne.symm e2)]
theorem dnRepO (hbk : b ≠ k) (hk : G.own[k]? = some oo) (hb : G.own[b]? = some none) {c : CV} {v : Value} (h : RepO G c v) : RepO (dnG G b k oo) (c.dnO b k) v := by
  have h1 : v.oneCell' = true := RepO.one h
  have hat := dn_at hbk hk hb
  have junk : RepO (dnG G b k oo) .junk v := .junk v h1
  have hm : ∀ {x : Nat} {Q : OG → Prop}, x ≠ b → x ≠ k → (∃ oo, G.own[x]? = some oo ∧ ∀ o, oo = some o → Q o) → ∃ oo', (dnG G b k oo).own[x]? = some oo' ∧ ∀ o, oo' = some o → Q o := by
    rintro x Q e1 e2 ⟨o1, h1, h2⟩
    exact ⟨o1, by rw [hat, if_neg e1, if_neg e2]; exact h1, h2⟩
  have hmk : ∀ {Q : OG → Prop}, (∃ oo, G.own[k]? = some oo ∧ ∀ o, oo = some o → Q o) → ∃ oo', (dnG G b k oo).own[b]? = some oo' ∧ ∀ o, oo' = some o → Q o := by
    rintro Q ⟨o1, h1, h2⟩
    rw [hk] at h1
    simp only [Option.some.injEq] at h1
    subst h1
    exact ⟨oo, by rw [hat, if_pos rfl], h2⟩
  cases c <;> simp only [CV.dnO] <;> try exact h
  case optr b' off =>
    split
    · rename_i e; subst e; exact ⟨h.1, hmk h.2⟩
    · split
      · exact junk
      · rename_i e1 e2; exact ⟨h.1, hm e2 e1 h.2⟩
  case oel b' v' i j =>
    split
    · rename_i e; subst e; exact ⟨h.1, hmk h.2⟩
    · split
      · exact junk
      · rename_i e1 e2; exact ⟨h.1, hm e2 e1 h.2⟩
  case osl b' v' lo len =>
    split
    · rename_i e; subst e; exact ⟨h.1, hmk h.2⟩
    · split
      · exact junk
      · rename_i e1 e2; exact ⟨h.1, hm e2 e1 h.2⟩
theorem dnRep (hbk : b ≠ k) (hk : G.own[k]? = some oo) (hb : G.own[b]? = some none) {c : CV} {v : Value} (h : Rep G c v) : Rep (dnG G b k oo) (c.dn b k) v := by
  cases c
  case fn f caps =>
    obtain ⟨vs, rfl, h2⟩ := h
    refine ⟨vs, rfl, ?_⟩
    induction caps generalizing vs with
    | nil => cases vs <;> simp_all [All2]
    | cons c cs ih =>
      cases vs with
      | nil => simp [All2] at h2
      | cons v vs => exact ⟨dnRepO hbk hk hb h2.1, ih vs h2.2⟩
  all_goals first
    | exact dnRepO hbk hk hb (c := .junk) h
    | exact dnRepO hbk hk hb (c := .bool _) h
    | exact dnRepO hbk hk hb (c := .int _ _) h
    | exact dnRepO hbk hk hb (c := .str _) h
    | exact dnRepO hbk hk hb (c := .nilp) h
    | exact dnRepO hbk hk hb (c := .nils) h
    | exact dnRepO hbk hk hb (c := .nilf) h
    | exact dnRepO hbk hk hb (c := .nili) h
    | exact dnRepO hbk hk hb (c := .emp) h
    | exact dnRepO hbk hk hb (c := .emn) h
    | exact dnRepO hbk hk hb (c := .tree _ _) h
    | exact dnRepO hbk hk hb (c := .tptr _ _ _ _) h
    | exact dnRepO hbk hk hb (c := .ifc _ _ _) h
    | skip
  case optr b' off =>
    have := dnRepO hbk hk hb (c := .optr b' off) h
    simp only [CV.dn]
    by_cases e : b' = k
    · simp only [CV.dnO, e, if_true] at this ⊢; exact this
    · by_cases e2 : b' = b <;> simp only [CV.dnO, e, e2, hbk, if_true, if_false] at this ⊢ <;> exact this
  case osl b' v' lo len =>
    have := dnRepO hbk hk hb (c := .osl b' v' lo len) h
    simp only [CV.dn]
    by_cases e : b' = k
    · simp only [CV.dnO, e, if_true] at this ⊢; exact this
    · by_cases e2 : b' = b <;> simp only [CV.dnO, e, e2, hbk, if_true, if_false] at this ⊢ <;> exact this
  case oel b' v' i j =>
    have := dnRepO hbk hk hb (c := .oel b' v' i j) h
    simp only [CV.dn]
    by_cases e : b' = k
    · simp only [CV.dnO, e, if_true] at this ⊢; exact this
    · by_cases e2 : b' = b <;> simp only [CV.dnO, e, e2, hbk, if_true, if_false] at this ⊢ <;> exact this
theorem dnAll (hbk : b ≠ k) (hk : G.own[k]? = some oo) (hb : G.own[b]? = some none) : ∀ {cs : List CV} {vs : List Value}, All2 (Rep G) cs vs → All2 (Rep (dnG G b k oo)) (cs.map (CV.dn b k)) vs
  | [], [], _ => trivial
  | _ :: _, _ :: _, h => ⟨dnRep hbk hk hb h.1, dnAll hbk hk hb h.2⟩
end

theorem Ghost_dn {E : Env} {σ : List OB} (b k : Nat) {ob : OB} (hbk : b ≠ k) (hna : E.na ≤ b) (hnk : E.na ≤ k) (hσb : σ[b]? = some .dead) (hσk : σ[k]? = some ob) :
    Ghost E σ (E.dn b k) (((σ.set k .dead).set b ob).map (OB.dn b k)) := by
  intro G a w hs
  have hi := hs.inv
  have hob : G.own[b]? = some none := hi.own b _ hσb
  have hlk : k < σ.length := (List.getElem?_eq_some_iff.1 hσk).1
  have hlb : b < σ.length := (List.getElem?_eq_some_iff.1 hσb).1
  obtain ⟨oo, hok⟩ : ∃ oo, G.own[k]? = some oo := ⟨_, List.getElem?_eq_getElem (by rw [hi.len]; exact hlk)⟩
  have hat := dn_at (G := G) hbk hok hob
  have hne : ∀ (x : Nat) (o' : OG), (dnG G b k oo).own[x]? = some (some o') → (x = b ∧ G.own[k]? = some (some o')) ∨ (x ≠ b ∧ x ≠ k ∧ G.own[x]? = some (some o')) := by
    intro x o' h
    rw [hat] at h
    split at h
    · rename_i e; simp only [Option.some.injEq] at h; exact .inl ⟨e, by rw [hok, h]⟩
    · rename_i e
      split at h
      · simp at h
      · rename_i e2; exact .inr ⟨e, e2, h⟩
  refine ⟨dnG G b k oo, ⟨⟨fun _ _ h => h, rfl, rfl, rfl⟩, fun x o1 hx h1 => ?_⟩, ⟨hi.hH, hi.hF, hi.HF, by simp [dnG, hi.len], ?_, ?_, ?_, hi.os, hi.tape, hi.output, hi.grow⟩, hs.defers, hs.size, hs.na, fun i hc => ?_⟩
  · have := hs.na
    refine ⟨o1, by rw [hat, if_neg (by omega), if_neg (by omega)]; exact h1, fun o' e => ⟨o', e, .inl rfl⟩⟩
  · intro x obx h
    rw [List.getElem?_map, Option.map_eq_some_iff] at h
    obtain ⟨ob', h1, rfl⟩ := h
    have conv : ∀ (y : Nat) (ob' : OB), OwnOk G w y ob' → (dnG G b k oo).own[x]? = G.own[y]? → OwnOk (dnG G b k oo) w x (ob'.dn b k) := by
      intro y ob' hokx hx
      cases ob' with
      | dead => simpa [OB.dn, OwnOk, hx] using hokx
      | box cs =>
        obtain ⟨o', c, T', g1, g2, g3, g4, g5⟩ := hokx
        exact ⟨o', c, T', hx.trans g1, g2, g3, g4, dnAll hbk hok hob g5⟩
      | arr s' v' T' e' =>
        obtain ⟨o', g1, g2, g3, g4, g5, g6, g7, g8, g9⟩ := hokx
        exact ⟨o', hx.trans g1, g2, g3, g4, g5, g6, g7, g8, g9⟩
    by_cases e : x = b
    · subst e
      rw [List.getElem?_set_self (by simpa using hlb)] at h1
      simp only [Option.some.injEq] at h1
      subst h1
      exact conv k _ (hi.own k _ hσk) (by rw [hat, if_pos rfl, hok])
    · rw [List.getElem?_set_ne (Ne.symm e)] at h1
      by_cases e2 : x = k
      · subst e2
        rw [List.getElem?_set_self hlk] at h1
        simp only [Option.some.injEq] at h1
        subst h1
        show (dnG G b x oo).own[x]? = some none
        rw [hat, if_neg e, if_pos rfl]
      · rw [List.getElem?_set_ne (Ne.symm e2)] at h1
        exact conv x _ (hi.own x ob' h1) (by rw [hat, if_neg e, if_neg e2])
  · intro x x' o1 o2 h1 h2 hh1 hh2 he
    rcases hne x o1 h1 with ⟨e1, f1⟩ | ⟨e1, e1', f1⟩ <;> rcases hne x' o2 h2 with ⟨e2, f2⟩ | ⟨e2, e2', f2⟩
    · omega
    · have := hi.inj k x' o1 o2 f1 f2 hh1 hh2 he; omega
    · have := hi.inj x k o1 o2 f1 f2 hh1 hh2 he; omega
    · exact hi.inj x x' o1 o2 f1 f2 hh1 hh2 he
  · intro x o' h hh
    rcases hne x o' h with ⟨e1, f1⟩ | ⟨e1, e1', f1⟩
    · exact hi.sep k o' f1 hh
    · exact hi.sep x o' f1 hh
  · have hget : (E.dn b k).get i = ⟨(E.get i).cond && (match (E.get i).v with | .t _ => false | _ => true), (E.get i).v.dn b k⟩ := by
      unfold Env.get Env.dn
      simp only
      rw [Tr.dn_get, Tr.dn_get, Tr.dn_get, Tr.dn_ent]
    rw [hget] at hc ⊢
    simp only [Bool.and_eq_true] at hc
    have hr := hs.slot i hc.1
    cases hv : (E.get i).v with
    | x => trivial
    | c y => rw [hv] at hr; exact dnRep hbk hok hob hr
    | a ys => rw [hv] at hr; obtain ⟨vs, e, h2⟩ := hr; exact ⟨vs, e, dnAll hbk hok hob h2⟩
    | t ps => rw [hv] at hc; simp at hc
theorem s_dn :
    ((∀ b k n na t, Env.dn b k ⟨n, na, t⟩ = ⟨n, na, t.dn b k⟩) ∧ (∀ b k, Tr.dn b k .nil = .nil) ∧ (∀ b k c y, Tr.dn b k (.leaf ⟨c, .c y⟩) = .leaf ⟨c, .c (y.dn b k)⟩) ∧ (∀ b k c ys, Tr.dn b k (.leaf ⟨c, .a ys⟩) = .leaf ⟨c, .a (ys.map (CV.dn b k))⟩) ∧
     (∀ b k c ps, Tr.dn b k (.leaf ⟨c, .t ps⟩) = .leaf ⟨false, .x⟩) ∧ (∀ b k c, Tr.dn b k (.leaf ⟨c, .x⟩) = .leaf ⟨c, .x⟩) ∧
     (∀ b k a0 a1 a2 a3 a4 a5 a6 a7, Tr.dn b k (.node a0 a1 a2 a3 a4 a5 a6 a7) = .node (a0.dn b k) (a1.dn b k) (a2.dn b k) (a3.dn b k) (a4.dn b k) (a5.dn b k) (a6.dn b k) (a7.dn b k))) ∧
    ((∀ b k, OB.dn b k .dead = .dead) ∧ (∀ b k cs, OB.dn b k (.box cs) = .box (cs.map (CV.dn b k))) ∧ (∀ b k s' v' T e, OB.dn b k (.arr s' v' T e) = .arr s' v' T e)) ∧
    ((∀ b k x, CV.dn b k (.bool x) = .bool x) ∧ (∀ b k q n, CV.dn b k (.int q n) = .int q n) ∧ (∀ b k x, CV.dn b k (.str x) = .str x) ∧ (∀ b k, CV.dn b k .nilp = .nilp) ∧ (∀ b k, CV.dn b k .nils = .nils) ∧
     (∀ b k, CV.dn b k .nilf = .nilf) ∧ (∀ b k, CV.dn b k .nili = .nili) ∧ (∀ b k, CV.dn b k .emp = .emp) ∧ (∀ b k, CV.dn b k .emn = .emn) ∧ (∀ b k, CV.dn b k .junk = .junk) ∧ (∀ b k s' e', CV.dn b k (.tree s' e') = .tree s' e') ∧
     (∀ b k s' e' i j, CV.dn b k (.tptr s' e' i j) = .tptr s' e' i j) ∧ (∀ b k T g cs, CV.dn b k (.ifc T g cs) = .ifc T g cs)) ∧
    ((∀ b k b' v' lo len, CV.dn b k (.osl b' v' lo len) = if b' = k then .osl b v' lo len else if b' = b then .junk else .osl b' v' lo len) ∧
     (∀ b k b' v' i j, CV.dn b k (.oel b' v' i j) = if b' = k then .oel b v' i j else if b' = b then .junk else .oel b' v' i j) ∧ (∀ b k b' off, CV.dn b k (.optr b' off) = if b' = k then .optr b off else if b' = b then .junk else .optr b' off) ∧
     (∀ b k f caps, CV.dn b k (.fn f caps) = .fn f (caps.map (CV.dnO b k)))) := by
  refine ⟨⟨?_, ?_, ?_, ?_, ?_, ?_, ?_⟩, ⟨?_, ?_, ?_⟩, ⟨?_, ?_, ?_, ?_, ?_, ?_, ?_, ?_, ?_, ?_, ?_, ?_, ?_⟩, ?_, ?_, ?_, ?_⟩
  all_goals intros
  all_goals first | rfl | (simp [Tr.dn, PV.dn]; done)

/-- a slot that holds an empty slice without room is an own array without elements -/
theorem Ghost_emp {E : Env} {σ : List OB} (i s : Nat) (T : TypeId) (hs : 0 < s) (hE : E.get i = ⟨true, .c .emp⟩) : Ghost E σ (E.put i ⟨true, .c (.osl σ.length 0 0 0)⟩) (σ ++ [.arr s 0 T []]) := by
  intro G a w hs'
  refine ⟨{ G with own := G.own ++ [some ⟨0, s, 0, 0, false⟩] }, .mk' ⟨fun _ _ h => h, rfl, rfl, rfl⟩ (OwnLe.append _ _), hs'.inv.nil s T hs, hs'.defers, hs'.size, hs'.na, fun j hc => ?_⟩
  have hg := Env.get_put E i j _ hc
  rw [hg] at hc ⊢
  by_cases hj : j = i
  · subst hj
    rw [if_pos rfl]
    have := hs'.slot j (by rw [hE])
    rw [hE] at this
    have hr : RepT G.H .emp (a.tmps.getD j undef) := this
    generalize a.tmps.getD j undef = v at hr
    cases hr
    have hlast : (G.own ++ [some (⟨0, s, 0, 0, false⟩ : OG)])[σ.length]? = some (some ⟨0, s, 0, 0, false⟩) := by rw [← hs'.inv.len]; simp
    exact ⟨rfl, _, hlast, fun o e => by
      simp only [Option.some.injEq] at e; subst e
      exact ⟨Nat.le_refl _, fun _ => ⟨Nat.le_refl _, _, rfl, fun h => by cases h⟩⟩⟩
  · rw [if_neg hj] at hc ⊢
    exact RepP.mono (G := G) (G' := { G with own := G.own ++ [some ⟨0, s, 0, 0, false⟩] }) (fun _ _ h => h) (OwnLe.append _ _) (hs'.slot j hc)

/-- an own array without elements, in no slot -/
theorem Ghost_new {E : Env} {σ : List OB} (s : Nat) (T : TypeId) (hs : 0 < s) : Ghost E σ E (σ ++ [.arr s 0 T []]) := by
  intro G a w hs'
  exact ⟨{ G with own := G.own ++ [some ⟨0, s, 0, 0, false⟩] }, .mk' ⟨fun _ _ h => h, rfl, rfl, rfl⟩ (OwnLe.append _ _), hs'.inv.nil s T hs, hs'.defers, hs'.size, hs'.na,
    fun j hc => RepP.mono (G := G) (G' := { G with own := G.own ++ [some ⟨0, s, 0, 0, false⟩] }) (fun _ _ h => h) (OwnLe.append _ _) (hs'.slot j hc)⟩

/-- a slot's own slice without elements: nil, or none -/
theorem W_nilcaseO {P : Program} {K : Kt} {E : Env} {σ : List OB} {c : Code} (i : Nat) {b ver lo n s : Nat} {T : TypeId} {es : List (List CV)} (hE : E.get i = ⟨true, .c (.osl b ver lo n)⟩) (hn : n = 0) (hσ : σ[b]? = some (.arr s ver T es))
    (h1 : W P c K (E.put i ⟨true, .c .nils⟩) σ) (h2 : W P c K (E.put i ⟨true, .c .emn⟩) σ) : W P c K E σ := fun G a w hs => by
  subst hn
  have hr := hs.slot i (by rw [hE])
  rw [hE] at hr
  obtain ⟨og, s', T'', es', hb', hown, hov, hosz, ⟨hcap, ad, hval, hha⟩, hok⟩ := alive_osl hs.inv (alive_of (lo := lo) (len := 0) hσ) hr
  obtain ⟨o2, g1, g2, g3, g4, g5, g6, g7, g8, g9⟩ := hok
  rw [hown] at g1
  simp only [Option.some.injEq] at g1
  subst g1
  have put : ∀ y : CV, RepT G.H y (a.tmps.getD i undef) → Sim G (E.put i ⟨true, .c y⟩) σ a w := fun y hy => by
    refine ⟨hs.inv, hs.defers, hs.size, hs.na, fun j hc => ?_⟩
    have hg := Env.get_put E i j _ hc
    rw [hg] at hc ⊢
    by_cases hj : j = i
    · subst hj; rw [if_pos rfl]; exact RepT.rep hy
    · rw [if_neg hj] at hc ⊢; exact hs.slot j hc
  have key : RepT G.H .nils (a.tmps.getD i undef) ∨ RepT G.H .emn (a.tmps.getD i undef) := by
    rw [hval]
    cases ad with
    | some a' => exact .inr (.emn _ _)
    | none =>
      have hh : og.has = false := by
        cases hh : og.has with
        | false => rfl
        | true => obtain ⟨a', e, _⟩ := hha hh; cases e
      have := g8 hh
      rw [this]
      left
      simp only [Nat.zero_sub]
      exact .nils
  rcases key with h | h
  · exact h1 G a w (put _ h)
  · exact h2 G a w (put _ h)

theorem take_lit {α : Type} (l : List α) (n : Nat) (h : l.length ≤ n) : (lit l).take n = lit l := List.take_of_length_le h
theorem take_map_lit {α β : Type} (f : α → β) (l : List α) (n : Nat) (h : l.length ≤ n) : ((lit l).map f).take n = (lit l).map f := List.take_of_length_le (by simpa [lit] using h)
end Pam

/- the rules of rewriting, in bundles -/
namespace Pam
open Go
theorem all_len {α : Type} {f : α → List CV} {l : List α} {n : Nat} (h : ∀ x, (f x).length = n) : ∀ e ∈ l.map f, e.length = n := by
  intro e he
  obtain ⟨x, _, rfl⟩ := List.mem_map.1 he
  exact h x
theorem b_cap : (∀ y, PV.capOk (.c y) = (match y with | .fn _ _ => false | _ => true)) ∧ (∀ b o, CV.flat (.optr b o) = false) ∧ (∀ b, CV.flat (.bool b) = true) ∧ (∀ k n, CV.flat (.int k n) = true) ∧ (∀ s, CV.flat (.str s) = true) ∧ (∀ s e, CV.flat (.tree s e) = true) ∧ CV.flat .nils = true ∧ CV.flat .nilp = true ∧ CV.flat .nilf = true ∧ CV.flat .nili = true ∧ CV.flat .emp = true ∧ (∀ b v l n, CV.flat (.osl b v l n) = false) ∧ (∀ b v l n, CV.flat (.oel b v l n) = false) := by
  refine ⟨?_, ?_, ?_, ?_, ?_, ?_, ?_, ?_, ?_, ?_, ?_, ?_, ?_⟩ <;> intros <;> first | rfl | skip
  rename_i y; cases y <;> rfl
def bL := (And.intro (And.intro (And.intro (And.intro (And.intro @List.mem_cons.{0} (And.intro @List.not_mem_nil.{0} @forall_eq_or_imp.{1})) (And.intro (And.intro @List.getElem?_cons_zero.{0} @List.getElem?_cons_succ.{0}) (And.intro @List.getElem?_nil.{0} @List.length_cons.{0}))) (And.intro (And.intro (And.intro @List.length_nil.{0} @List.length_map.{0, 0}) (And.intro @List.set_cons_zero.{0} @List.set_cons_succ.{0})) (And.intro (And.intro @List.drop_zero.{0} @List.drop_succ_cons.{0}) (And.intro @List.take_succ_cons.{0} @List.take_zero.{0})))) (And.intro (And.intro (And.intro (And.intro @List.headD_cons.{0} @List.cons_append.{0}) (And.intro @List.nil_append.{0} @List.map_cons.{0, 0})) (And.intro (And.intro @List.map_nil.{0, 0} @List.tail_cons.{0}) (And.intro @List.getD_cons_zero.{0} @List.getD_cons_succ.{0}))) (And.intro (And.intro (And.intro @true_and @and_true) (And.intro @eq_self.{1} @forall_const.{1})) (And.intro (And.intro @if_true.{0} @forall_eq.{1}) (And.intro @imp_self @implies_true.{1}))))) (And.intro (And.intro (And.intro (And.intro (And.intro @true_or @or_true) (And.intro @false_or @or_false)) (And.intro (And.intro @Nat.zero_add @Nat.add_zero) (And.intro @Int.toNat_natCast @Option.map_some.{0, 0}))) (And.intro (And.intro (And.intro @Option.map_none.{0, 0} @beq_self_eq_true.{0}) (And.intro @Bool.true_eq_false @Bool.false_eq_true)) (And.intro (And.intro @false_implies @not_false_eq_true) (And.intro @Nat.le_refl @List.all_cons.{0})))) (And.intro (And.intro (And.intro (And.intro @List.all_nil.{0} @List.replicate_succ.{0}) (And.intro @List.replicate_zero.{0} @List.flatten_cons.{0})) (And.intro (And.intro @List.flatten_nil.{0} @List.append_nil.{0}) (And.intro @Bool.and_true @List.foldr_cons.{0, 0}))) (And.intro (And.intro (And.intro @List.foldr_nil.{0, 0} @Option.isSome_some.{0}) (And.intro @Option.isSome_none.{0} @eK.eq_1)) (And.intro (And.intro @eB.eq_1 @eS.eq_1) (And.intro @eL.eq_1 b_cap))))))
def bM := (And.intro (And.intro (And.intro (And.intro (And.intro s_guard (And.intro s_fg s_env)) (And.intro s_get (And.intro s_put s_ev))) (And.intro (And.intro s_run (And.intro s_mem s_int)) (And.intro s_val (And.intro s_sl @need_tt)))) (And.intro (And.intro (And.intro @need_same (And.intro @len_lit s_frz)) (And.intro s_maps (And.intro s_beq s_ren))) (And.intro (And.intro @makeFuncR.eq_1 (And.intro @appendR.eq_1 @srcEs.eq_1)) (And.intro (And.intro @srcEs.eq_2 @srcEs.eq_3) (And.intro @srcEs.eq_4 @srcEs.eq_5))))) (And.intro (And.intro (And.intro (And.intro @makeSliceR.eq_1 (And.intro @sliceR.eq_1 @sliceR.eq_3)) (And.intro @widOk.eq_1 (And.intro @bnd.eq_1 @bnd.eq_2))) (And.intro (And.intro @binS.eq_1 (And.intro @binS.eq_2 @binS.eq_3)) (And.intro (And.intro @binS.eq_4 @binS.eq_5) (And.intro @binS.eq_6 @binS.eq_7)))) (And.intro (And.intro (And.intro @eqCs.eq_1 (And.intro @eqCs.eq_2 @eqC.eq_1)) (And.intro @eqC.eq_2 (And.intro @eqC.eq_3 @putCells.eq_1))) (And.intro (And.intro @buildR.eq_1 (And.intro @buildSliceR.eq_1 @fillC.eq_1)) (And.intro (And.intro @fillC.eq_2 @partE.eq_1) (And.intro @cut.eq_1 @cut.eq_2))))))
def bR := And.intro (And.intro (And.intro @runOps.eq_1 @runOps.eq_2) bL) (And.intro bM (And.intro (And.intro @stepR.eq_1 @stepR.eq_2) (And.intro @stepR.eq_3 @stepR.eq_4)))
def bA := And.intro (And.intro (And.intro (And.intro @anyOps.eq_1 @anyOps.eq_2) (And.intro @extB.eq_1 (And.intro @extB.eq_2 @extB.eq_3))) bL) (And.intro bM (And.intro (And.intro @stepA.eq_1 @stepA.eq_2) (And.intro @stepA.eq_3 @stepA.eq_4)))
def bE := And.intro (And.intro s_less s_fg) (And.intro s_env (And.intro s_get s_put))
def bS := And.intro (And.intro s_cap (And.intro s_inj @len_lit)) (And.intro bE (And.intro bL s_maps))
def bF := And.intro (And.intro s_end s_under) (And.intro (And.intro s_less s_inj) (And.intro (And.intro s_mem s_env) (And.intro (And.intro s_get s_put) (And.intro (And.intro @need_tt @need_same) (And.intro bL s_maps)))))
def bZ := And.intro (And.intro (And.intro s_fr s_mv) (And.intro s_dn s_frz)) (And.intro s_maps (And.intro (And.intro @len_lit (And.intro @take_lit @take_map_lit)) bE))
end Pam

/- Steps of the walk, each in one word: what settles them stands with them. Printed by a program of ours. -/
namespace Pam
open Go
section
variable {P : Program} {ops : Array Oper} {E E' E1 E2 : Env} {σ σ' σ1 σ2 : List OB} {k : Env → List OB → Prop} {kp : PV → Env → List OB → Prop} {l : List Oper} {K : Kt} {c y : Code}
theorem em {α : Type} [Inhabited α] (f : α → List CV) (xs : List α) (i : Nat) (h : i < xs.length := by first | omega | (simp only [len_lit, List.length_cons, List.length_nil, List.length_append, List.length_set, List.length_replicate, List.length_map, List.length_take, List.length_drop]; omega)) : elt (xs.map f) i = f (xs.getD i default) := elt_map f xs i h
structure Bx (p : Prop) : Prop where
  h : p
theorem sd {p q : Prop} (hq : q) (hp : p := by first | omega | assumption | decide | exact all_len fun _ => rfl | (intro _; omega) | rfl | exact fun e => absurd (List.map_eq_nil_iff.1 e) (by assumption) | (and_intros <;> first | omega | assumption | decide | exact all_len fun _ => rfl)) : p ∧ q := ⟨hp, hq⟩
theorem a2 {p q : Prop} (h : p) (i : q) : p ∧ q := ⟨h, i⟩
theorem go {p q : Prop} (hq : q) (h : Bx q → p := by
    intro hq
    simp only [bR, bT, tab, bX, reduceIte, ↓reduceIte, reduceCtorEq, Int.reduceToNat, Nat.reduceDiv, Nat.reduceMod, Nat.reduceLT, Nat.reduceLeDiff, Nat.reduceAdd, Nat.reduceSub, Nat.reduceMul, Nat.reduceEqDiff, Nat.reduceBEq, Nat.reduceBNe, Nat.reduceGT]
    repeat refine sd ?_
    exact hq.1) : p := h ⟨hq⟩
theorem gox {p q F : Prop} (fx : F) (hq : q) (h : F → Bx q → p := by
    intro fx hq
    simp only [bR, bT, tab, bX, reduceIte, ↓reduceIte, reduceCtorEq, Int.reduceToNat, Nat.reduceDiv, Nat.reduceMod, Nat.reduceLT, Nat.reduceLeDiff, Nat.reduceAdd, Nat.reduceSub, Nat.reduceMul, Nat.reduceEqDiff, Nat.reduceBEq, Nat.reduceBNe, Nat.reduceGT, fx]
    repeat refine sd ?_
    exact hq.1) : p := h fx ⟨hq⟩
theorem ga {p q : Prop} (hq : q) (h : Bx q → p := by
    intro hq
    simp only [bA, bT, tab, bX, reduceIte, ↓reduceIte, reduceCtorEq, Int.reduceToNat, Nat.reduceDiv, Nat.reduceMod, Nat.reduceLT, Nat.reduceLeDiff, Nat.reduceAdd, Nat.reduceSub, Nat.reduceMul, Nat.reduceEqDiff, Nat.reduceBEq, Nat.reduceBNe, Nat.reduceGT]
    repeat refine sd ?_
    exact hq.1) : p := h ⟨hq⟩
theorem gax {p q F : Prop} (fx : F) (hq : q) (h : F → Bx q → p := by
    intro fx hq
    simp only [bA, bT, tab, bX, reduceIte, ↓reduceIte, reduceCtorEq, Int.reduceToNat, Nat.reduceDiv, Nat.reduceMod, Nat.reduceLT, Nat.reduceLeDiff, Nat.reduceAdd, Nat.reduceSub, Nat.reduceMul, Nat.reduceEqDiff, Nat.reduceBEq, Nat.reduceBNe, Nat.reduceGT, fx]
    repeat refine sd ?_
    exact hq.1) : p := h fx ⟨hq⟩
theorem gz {p q : Prop} (hq : q) (h : Bx q → p := by
    intro hq
    simp only [bZ, bL, reduceIte, ↓reduceIte, reduceCtorEq, Int.reduceToNat, Nat.reduceDiv, Nat.reduceMod, Nat.reduceLT, Nat.reduceLeDiff, Nat.reduceAdd, Nat.reduceSub, Nat.reduceMul, Nat.reduceEqDiff, Nat.reduceBEq, Nat.reduceBNe, Nat.reduceGT]
    exact hq.1) : p := h ⟨hq⟩
theorem en {p : Prop} (h : p := by simp only [bF, bT, tab, bX, Sum.elim_inl, Sum.elim_inr, reduceIte, ↓reduceIte, reduceCtorEq, Int.reduceToNat, Nat.reduceDiv, Nat.reduceMod, Nat.reduceLT, Nat.reduceLeDiff, Nat.reduceAdd, Nat.reduceSub, Nat.reduceMul, Nat.reduceEqDiff, Nat.reduceBEq, Nat.reduceBNe, Nat.reduceGT] <;> first | done | rfl | (and_intros <;> first | rfl | omega | (simp; done) | (simp [eK, eB, eS, eL]; done))) : p := h
theorem ls {p : Prop} (h : p := by simp only [bS, bX, reduceIte, ↓reduceIte, reduceCtorEq, Int.reduceToNat, Nat.reduceDiv, Nat.reduceMod, Nat.reduceLT, Nat.reduceLeDiff, Nat.reduceAdd, Nat.reduceSub, Nat.reduceMul, Nat.reduceEqDiff, Nat.reduceBEq, Nat.reduceBNe, Nat.reduceGT] <;> first | done | (and_intros <;> first | rfl | (simp; done) | omega | (simp [lit, bX, eK, eB, eS, eL]; done) | (simp only [len_lit, List.length_cons, List.length_nil, List.length_append, List.length_set, List.length_replicate, List.length_map, List.length_take, List.length_drop]; omega))) : p := h
theorem W_rg {id : Nat} (ms : List Nat) (next : W P y K E' σ') (h : ∀ (k : Env → List OB → Prop) (kp : PV → Env → List OB → Prop), k E' σ' → runOps P l.toArray l E σ (fun E σ => k (E.forget ms) σ) kp := by
    intro k kp hk
    refine go ?_
    exact hk) : W P (.seq (.region id l.toArray false) y) K E σ := W_regF ms fun k kp hk _ => h k kp (hk _ _ next)
theorem W_rn {id : Nat} (next : K .normal E' σ') (h : ∀ (k : Env → List OB → Prop) (kp : PV → Env → List OB → Prop), k E' σ' → runOps P l.toArray l E σ k kp := by
    intro k kp hk
    refine go ?_
    exact hk) : W P (.region id l.toArray false) K E σ := W_region fun k kp hk _ => h k kp (hk _ _ next)
theorem W_ag {id : Nat} (ms : List Nat) (masks : List Nat) (bs : List Bool) (next : W P y K E' σ') (hm : P.follows .mixedOrders = true := by kernel_rfl) (hc : chk l.toArray l masks bs = true := by kernel_rfl)
    (h : ∀ (k : Env → List OB → Prop), k E' σ' → anyOps P l.toArray l bs E σ (fun E σ => k (E.forget ms) σ) := by
    intro k hk
    refine ga ?_
    exact hk) : W P (.seq (.region id l.toArray true) y) K E σ := W_anyF ms hm masks bs hc fun k hk => h k (hk _ _ next)
theorem W_an {id : Nat} (masks : List Nat) (bs : List Bool) (next : K .normal E' σ') (hm : P.follows .mixedOrders = true := by kernel_rfl) (hc : chk l.toArray l masks bs = true := by kernel_rfl)
    (h : ∀ (k : Env → List OB → Prop), k E' σ' → anyOps P l.toArray l bs E σ k := by
    intro k hk
    refine ga ?_
    exact hk) : W P (.region id l.toArray true) K E σ := W_any hm masks bs hc fun k hk => h k (hk _ _ next)
theorem W_rgx {F : Prop} (fx : F) {id : Nat} (ms : List Nat) (next : W P y K E' σ') (h : F → ∀ (k : Env → List OB → Prop) (kp : PV → Env → List OB → Prop), k E' σ' → runOps P l.toArray l E σ (fun E σ => k (E.forget ms) σ) kp := by
    intro fx k kp hk
    refine gox fx ?_
    exact hk) : W P (.seq (.region id l.toArray false) y) K E σ := W_regF ms fun k kp hk _ => h fx k kp (hk _ _ next)
theorem W_rnx {F : Prop} (fx : F) {id : Nat} (next : K .normal E' σ') (h : F → ∀ (k : Env → List OB → Prop) (kp : PV → Env → List OB → Prop), k E' σ' → runOps P l.toArray l E σ k kp := by
    intro fx k kp hk
    refine gox fx ?_
    exact hk) : W P (.region id l.toArray false) K E σ := W_region fun k kp hk _ => h fx k kp (hk _ _ next)
theorem W_agx {F : Prop} (fx : F) {id : Nat} (ms : List Nat) (masks : List Nat) (bs : List Bool) (next : W P y K E' σ') (hm : P.follows .mixedOrders = true := by kernel_rfl) (hc : chk l.toArray l masks bs = true := by kernel_rfl)
    (h : F → ∀ (k : Env → List OB → Prop), k E' σ' → anyOps P l.toArray l bs E σ (fun E σ => k (E.forget ms) σ) := by
    intro fx k hk
    refine gax fx ?_
    exact hk) : W P (.seq (.region id l.toArray true) y) K E σ := W_anyF ms hm masks bs hc fun k hk => h fx k (hk _ _ next)
theorem W_anx {F : Prop} (fx : F) {id : Nat} (masks : List Nat) (bs : List Bool) (next : K .normal E' σ') (hm : P.follows .mixedOrders = true := by kernel_rfl) (hc : chk l.toArray l masks bs = true := by kernel_rfl)
    (h : F → ∀ (k : Env → List OB → Prop), k E' σ' → anyOps P l.toArray l bs E σ k := by
    intro fx k hk
    refine gax fx ?_
    exact hk) : W P (.region id l.toArray true) K E σ := W_any hm masks bs hc fun k hk => h fx k (hk _ _ next)
theorem W_gh (hg : Ghost E σ E1 σ1) (next : W P c K E2 σ2) (h : W P c K E2 σ2 → W P c K E1 σ1 := by
    intro hq
    simp only [bZ, bL, reduceIte, ↓reduceIte, reduceCtorEq, Int.reduceToNat, Nat.reduceDiv, Nat.reduceMod, Nat.reduceLT, Nat.reduceLeDiff, Nat.reduceAdd, Nat.reduceSub, Nat.reduceMul, Nat.reduceEqDiff, Nat.reduceBEq, Nat.reduceBNe, Nat.reduceGT]
    exact hq) : W P c K E σ := W_ghost hg (h next)
theorem W_eqn (next : W P c K E' σ) (h : E = E' := by simp only [bE, Nat.reduceDiv, Nat.reduceMod, Nat.reduceLT, Nat.reduceLeDiff, Nat.reduceAdd, Nat.reduceSub, Nat.reduceMul, Nat.reduceEqDiff, Nat.reduceBEq, Nat.reduceBNe, Nat.reduceGT, Int.reduceToNat]; rfl) : W P c K E σ := W_eqE h rfl next
theorem W_eqm (next : W P c K E' σ') (h : E = E' := by simp only [bE, Nat.reduceDiv, Nat.reduceMod, Nat.reduceLT, Nat.reduceLeDiff, Nat.reduceAdd, Nat.reduceSub, Nat.reduceMul, Nat.reduceEqDiff, Nat.reduceBEq, Nat.reduceBNe, Nat.reduceGT, Int.reduceToNat]; rfl) (h2 : σ = σ' := by first | (dsimp only; rfl) | rfl) : W P c K E σ := W_eqE h h2 next
theorem W_eqf (next : W P c K E' σ') (h : E = E' := by simp only [argSlots, Env.ofList, List.length_nil, List.length_cons, bE, Nat.reduceDiv, Nat.reduceMod, Nat.reduceLT, Nat.reduceLeDiff, Nat.reduceAdd, Nat.reduceSub, Nat.reduceMul, Nat.reduceEqDiff, Nat.reduceBEq, Nat.reduceBNe, Nat.reduceGT, Int.reduceToNat]; rfl) (h2 : σ = σ' := by rfl) : W P c K E σ := W_eqE h h2 next
theorem W_eql (next : W P c K E' σ') (h : E = E' := by simp only [bE, Nat.reduceDiv, Nat.reduceMod, Nat.reduceLT, Nat.reduceLeDiff, Nat.reduceAdd, Nat.reduceSub, Nat.reduceMul, Nat.reduceEqDiff, Nat.reduceBEq, Nat.reduceBNe, Nat.reduceGT, Int.reduceToNat, List.length_cons, List.length_nil, List.length_append, List.cons_append, List.nil_append]; rfl) (h2 : σ = σ' := by simp only [List.length_cons, List.length_nil, List.length_append, List.cons_append, List.nil_append]; rfl) : W P c K E σ := W_eqE h h2 next
theorem W_eqa (σ' : List OB) (next : W P c K E σ') (h : σ = σ' := by first | rfl | (simp only [List.take_of_length_le, List.length_map, List.length_append, List.length_cons, List.length_nil, List.length_replicate, List.length_set, List.map_append, List.map_cons, List.map_nil, List.map_replicate, List.map_set, Nat.le_refl, Nat.zero_add, List.nil_append, List.set_cons_zero, List.set_cons_succ, bX, eK, eB, eS, eL]; done) | (simp only [List.take_of_length_le, List.length_map, List.length_append, List.length_cons, List.length_nil, List.length_replicate, List.length_set, List.map_append, List.map_cons, List.map_nil, List.map_replicate, List.map_set, Nat.le_refl, Nat.zero_add, List.nil_append, List.set_cons_zero, List.set_cons_succ, bX, eK, eB, eS, eL]; rfl) | (simp; done)) : W P c K E σ := W_eqE rfl h next
theorem RP {γ : Bool} {C : Prop} {f : FuncId} {args : List PV} {o : Oper} {r : List Oper} {res : PV} (hs : γ = true → SpecF P f args res) (next : RunRest P ops r (E.putD o.dst ⟨γ, res⟩) σ k kp)
    (hd : dstOk E o.dst := by first | trivial | exact dst_ok rfl) (hC : γ = true → C := by first | trivial | (intro _; first | trivial | simp [need]) | simp [need]) (hargs : args.all PV.noOwn = true := by exact rfl) (hres : res.ren (back σ.length []) = res := by exact rfl) : RunCall P ops γ C f args o r E σ k kp := RunCall_pureR hs hd hC hargs hres next
theorem AP {γ : Bool} {C : Prop} {f : FuncId} {args : List PV} {o : Oper} {r : List Oper} {bs : List Bool} {res : PV} (hs : γ = true → SpecF P f args res) (next : anyOps P ops r bs.tail (E.putD o.dst ⟨γ, res⟩) σ k)
    (hd : dstOk E o.dst := by first | trivial | exact dst_ok rfl) (hC : γ = true → C := by first | trivial | (intro _; first | trivial | simp [need]) | simp [need]) (hargs : args.all PV.noOwn = true := by exact rfl) (hres : ∀ n, res.ren (back n []) = res := by exact fun _ => rfl) : AnyCall P ops γ C f args o r bs E σ k := AnyCall_pure hs hd hC hargs hres next
theorem RA {C : Prop} {f : FuncId} {args : List PV} {o : Oper} {r : List Oper} {args' : List PV} {σc : List OB} {post : PV → List OB → Prop} (hs : Spec P f args' σc post (fun _ _ => False)) (ρ : List Nat)
    (next : ∀ p σ', post p σ' → ρ.length ≤ σ'.length → RunRest P ops r (E.putD o.dst ⟨true, p.ren (back σ.length ρ)⟩) (place σ ρ (σ'.map (OB.ren (back σ.length ρ)))) k kp)
    (hd : dstOk E o.dst := by first | trivial | exact dst_ok rfl) (hC : C := by first | trivial | (intro _; first | trivial | simp [need]) | simp [need]) (hnd : ρ.Nodup := by simp) (hlt : ∀ b ∈ ρ, b < σ.length := by simp)
    (hargs : args = args'.map (PV.ren (back σ.length ρ)) := by exact rfl) (hσ : ρ.map (fun b => σ[b]?) = σc.map (fun ob => some (ob.ren (back σ.length ρ))) := by exact rfl) (hu : psUnder ρ.length args' := by first | trivial | (simp [bX, eK, eB, eS, eL, s_cap, psUnder, PV.under, CV.under, obsBelow, OB.under, cvsBelow]; done)) (hub : obsBelow ρ.length σc := by first | trivial | (simp [bX, eK, eB, eS, eL, s_cap, psUnder, PV.under, CV.under, obsBelow, OB.under, cvsBelow]; done)) :
    RunCall P ops true C f args o r E σ k kp := RunCall_atR hs ρ hd hC hnd hlt hargs hσ hu hub next (fun _ _ h _ => h.elim)
theorem RS {o : Oper} {r : List Oper} {v : PV} (hx : ExtTo P E σ o v σ') (next : RunRest P ops r (E.putD o.dst ⟨true, v⟩) σ' k kp) (hg : guardOf ops E o.guard = some true := by first | rfl | (simp only [bR, bT, tab, bX, reduceIte, ↓reduceIte, reduceCtorEq, Int.reduceToNat, Nat.reduceDiv, Nat.reduceMod, Nat.reduceLT, Nat.reduceLeDiff, Nat.reduceAdd, Nat.reduceSub, Nat.reduceMul, Nat.reduceEqDiff, Nat.reduceBEq, Nat.reduceBNe, Nat.reduceGT]; done)) (hd : dstOk E o.dst := by first | trivial | exact dst_ok rfl) :
    RunRest P ops (o :: r) E σ k kp := RunRest_step hx hg hd next
end
end Pam

/- Regions whose order is open, with memory set aside that nothing looks at ahead of the region's last operation. -/
namespace Pam
open Go

def isAl (o : Oper) : Bool := match o.op with | .alloc _ => true | _ => false
/-- an operation that makes no sound -/
def hush (o : Oper) : Oper := { dst := none, op := .move (.const (.bool true)), type := o.type, pos := o.pos, after := o.after, guard := o.guard }
def vOne (o : Oper) : Oper := match o.op with | .alloc _ => hush o | _ => o
/-- the region without what sets memory aside, and without its last operation -/
def virt : List Oper → List Oper
  | [] => []
  | [q] => [hush q]
  | o :: o2 :: r => vOne o :: virt (o2 :: r)
/-- what sets memory aside, and the last operation -/
def late : List Oper → List Oper
  | [] => []
  | [q] => [q]
  | o :: o2 :: r => match o.op with | .alloc _ => o :: late (o2 :: r) | _ => late (o2 :: r)

def chkV (l : List Oper) (ts : List Nat) (bs : List Bool) : Bool :=
  bs.getD (l.length - 1) false && decide (0 < l.length) &&
  l.zipIdx.all fun (o, i) =>
    (if i + 1 < l.length then !isAl o || (o.guard.isNone && (match o.dst with | some t => decide (t < 512) && ts.contains t && (l.zipIdx.all fun (y, j) => j == i || y.dst != some t) | none => false)) else o.dst.isNone && o.guard.isNone && !isAl o) &&
    (match o.guard with | some (g, _) => (match l[g]? with | some y => !isAl y | none => true) | none => true)
def chkA (l : List Oper) (ts masks : List Nat) (bs : List Bool) : Bool := chk (virt l).toArray (virt l) masks bs && chkV l ts bs

structure ChkV (l : List Oper) (ts : List Nat) (bs : List Bool) : Prop where
  bar : bs.getD (l.length - 1) false = true
  pos : 0 < l.length
  al : ∀ (i : Nat) (o : Oper) (T : TypeId), l[i]? = some o → i + 1 < l.length → o.op = .alloc T → o.guard = none ∧ ∃ t, o.dst = some t ∧ t < 512 ∧ t ∈ ts ∧ ∀ (j : Nat) (y : Oper), l[j]? = some y → j ≠ i → y.dst ≠ some t
  last : ∀ (i : Nat) (o : Oper), l[i]? = some o → i + 1 = l.length → o.dst = none ∧ o.guard = none
  ref : ∀ (i : Nat) (o : Oper) (g : Nat) (b : Bool) (y : Oper), l[i]? = some o → o.guard = some (g, b) → l[g]? = some y → ∀ T, y.op ≠ .alloc T

theorem chkV_ok {l : List Oper} {ts : List Nat} {bs : List Bool} (h : chkV l ts bs = true) : ChkV l ts bs := by
  unfold chkV at h
  simp only [Bool.and_eq_true, List.all_eq_true, decide_eq_true_eq] at h
  obtain ⟨⟨h1, h2⟩, h3⟩ := h
  have m : ∀ (i : Nat) (o : Oper), l[i]? = some o → (o, i) ∈ l.zipIdx := fun i o ho => by
    rw [List.mem_zipIdx_iff_getElem?]; simpa using ho
  refine ⟨h1, h2, ?_, ?_, ?_⟩
  · intro i o T ho hi hop
    have := (h3 _ (m i o ho)).1
    simp only [if_pos hi, isAl, hop, Bool.not_true, Bool.false_or, Bool.and_eq_true, Option.isNone_iff_eq_none] at this
    obtain ⟨g, h⟩ := this
    refine ⟨g, ?_⟩
    cases hd : o.dst with
    | none => rw [hd] at h; simp at h
    | some t =>
      rw [hd] at h
      simp only [Bool.and_eq_true, decide_eq_true_eq, List.contains_eq_mem, List.all_eq_true, Bool.or_eq_true, beq_iff_eq, bne_iff_ne] at h
      refine ⟨t, rfl, h.1.1, h.1.2, fun j y hy hji => ?_⟩
      rcases h.2 _ (m j y hy) with h | h
      · exact (hji h).elim
      · exact h
  · intro i o ho hi
    have := (h3 _ (m i o ho)).1
    simp only [if_neg (by omega : ¬ i + 1 < l.length), Bool.and_eq_true, Option.isNone_iff_eq_none] at this
    exact this.1
  · intro i o g b y ho hg hy T hop
    have := (h3 _ (m i o ho)).2
    simp [hg, hy, isAl, hop] at this

theorem virt_len : ∀ l : List Oper, (virt l).length = l.length
  | [] => rfl
  | [q] => rfl
  | o :: o2 :: r => by simp only [virt, List.length_cons]; rw [virt_len (o2 :: r)]; rfl

theorem virt_at : ∀ (l : List Oper) (i : Nat) (o : Oper), l[i]? = some o → (virt l)[i]? = some (if i + 1 < l.length then vOne o else hush o)
  | [], i, o, h => by simp at h
  | [q], 0, o, h => by simp at h; subst h; rfl
  | [q], i + 1, o, h => by simp at h
  | a :: o2 :: r, 0, o, h => by simp at h; subst h; simp [virt]
  | a :: o2 :: r, i + 1, o, h => by
    have := virt_at (o2 :: r) i o (by simpa using h)
    simp only [virt, List.getElem?_cons_succ, this, List.length_cons]
    congr 1
    by_cases e : i + 1 < r.length + 1
    · rw [if_pos e, if_pos (by omega)]
    · rw [if_neg e, if_neg (by omega)]

theorem vOne_plain {o : Oper} (h : ∀ T, o.op ≠ .alloc T) : vOne o = o := by
  unfold vOne
  split
  · rename_i T e; exact (h T e).elim
  · rfl
theorem vOne_al {o : Oper} {T : TypeId} (h : o.op = .alloc T) : vOne o = hush o := by unfold vOne; rw [h]
theorem vOne_after (o : Oper) : (vOne o).after = o.after ∧ (vOne o).guard = o.guard := by
  unfold vOne
  split <;> exact ⟨rfl, rfl⟩

theorem virt_back {l : List Oper} {i : Nat} {o' : Oper} (h : (virt l)[i]? = some o') : ∃ o, l[i]? = some o ∧ o' = (if i + 1 < l.length then vOne o else hush o) ∧ o'.after = o.after ∧ o'.guard = o.guard := by
  have hlt : i < l.length := by rw [← virt_len]; exact (List.getElem?_eq_some_iff.1 h).1
  have e := virt_at l i l[i] (List.getElem?_eq_getElem hlt)
  rw [h] at e
  simp only [Option.some.injEq] at e
  refine ⟨l[i], List.getElem?_eq_getElem hlt, e, ?_⟩
  rw [e]
  split
  · exact vOne_after _
  · exact ⟨rfl, rfl⟩

theorem virt_ready {l : List Oper} {listed : Array Bool} {i : Nat} (h : i ∈ Region.ready .any l.toArray listed) : i ∈ Region.ready .any (virt l).toArray listed := by
  obtain ⟨h1, o, ho, h2⟩ := mem_ready.1 h
  have ho' : l[i]? = some o := by simpa using ho
  have e := virt_at l i o ho'
  obtain ⟨o2, q1, q2, q3, q4⟩ := virt_back e
  rw [ho'] at q1
  simp only [Option.some.injEq] at q1
  subst q1
  refine mem_ready.2 ⟨h1, _, by simpa using e, fun x hx => ?_⟩
  rw [q3] at hx
  exact h2 x hx

section
variable {P : Program}

theorem Oper.wp_put {o : Oper} {a : Act} {w : World} {K : Act → World → Prop} {Q : Exit → Act → World → Prop} (h : o.wp P a w K Q) :
    o.wp P a w (fun a' w' => K a' w' ∧ ∀ t, o.dst ≠ some t → a'.tmps.getD t undef = a.tmps.getD t undef) Q := by
  have key : ∀ (a1 : Act) (v : Value) (t : Nat), a1.tmps = a.tmps → o.dst ≠ some t → (a1.put o.dst v).tmps.getD t undef = a.tmps.getD t undef := by
    intro a1 v t h1 ht
    cases hd : o.dst with
    | none => simp [Act.put, h1]
    | some d =>
      have hne : d ≠ t := fun e => ht (by rw [hd, e])
      simp only [Act.put, Array.getD_eq_getD_getElem?, h1]
      rw [Array.getElem?_setIfInBounds_ne hne]
  unfold Oper.wp at *
  generalize (execOp a.eval o).run P w = r at *
  cases r with
  | ok n w' =>
    cases n <;> simp only [Oper.upon] at h ⊢ <;>
      first
        | exact ⟨h, fun t ht => key _ _ t rfl ht⟩
        | exact Calls.mono h (fun e w'' he => by cases e <;> first | exact ⟨he, fun t ht => key _ _ t rfl ht⟩ | exact he)
        | exact Rows.mono h (fun _ _ he => ⟨he, fun t ht => key _ _ t rfl ht⟩)
  | halt x w' => cases x <;> simp only [Oper.upon] at h ⊢ <;> exact h

theorem wpOp_put {ops : Array Oper} {Q : Exit → Act → World → Prop} {i : Nat} {o : Oper} {K : Act → World → Prop} {a : Act} {w : World} (ho : ops[i]? = some o) (h : wpOp P ops Q i K a w) :
    wpOp P ops Q i (fun a' w' => K a' w' ∧ ∀ t, o.dst ≠ some t → a'.tmps.getD t undef = a.tmps.getD t undef) a w := by
  unfold wpOp at *
  simp only [ho] at h ⊢
  split
  · rename_i hw; simp only [hw, if_true] at h; exact h.imp Oper.wp_put id
  · rename_i hw
    simp only [hw] at h
    refine ⟨h, fun t ht => ?_⟩
    cases hd : o.dst with
    | none => simp [Act.put]
    | some d =>
      have hne : d ≠ t := fun e => ht (by rw [hd, e])
      simp only [Act.put, Array.getD_eq_getD_getElem?]
      rw [Array.getElem?_setIfInBounds_ne hne]

theorem virt_wanted {l : List Oper} {ts : List Nat} {bs : List Bool} (v : ChkV l ts bs) {i : Nat} {o : Oper} (ho : l[i]? = some o) (tmps : Array Value) :
    Region.wanted o (yielded (virt l).toArray tmps) = Region.wanted o (yielded l.toArray tmps) := by
  unfold Region.wanted
  cases hg : o.guard with
  | none => rfl
  | some gb =>
    obtain ⟨g, b⟩ := gb
    simp only
    have : yielded (virt l).toArray tmps g = yielded l.toArray tmps g := by
      unfold yielded
      simp only [List.getElem?_toArray]
      cases hy : l[g]? with
      | none =>
        have : (virt l)[g]? = none := by
          rw [List.getElem?_eq_none_iff] at hy ⊢
          rw [virt_len]; exact hy
        rw [this]
      | some y =>
        rw [virt_at l g y hy]
        by_cases e : g + 1 < l.length
        · rw [if_pos e, vOne_plain (v.ref i o g b y ho hg hy)]
        · rw [if_neg e]
          have := (v.last g y hy (by have := (List.getElem?_eq_some_iff.1 hy).1; omega)).1
          simp [hush, this]
    rw [this]

theorem virt_wpOp {l : List Oper} {ts : List Nat} {bs : List Bool} (v : ChkV l ts bs) {Q : Exit → Act → World → Prop} {i : Nat} {o : Oper} {K : Act → World → Prop} {a : Act} {w : World} (ho : l[i]? = some o) (hi : i + 1 < l.length) (hn : ∀ T, o.op ≠ .alloc T)
    (h : wpOp P (virt l).toArray Q i K a w) : wpOp P l.toArray Q i (fun a' w' => K a' w' ∧ ∀ t, o.dst ≠ some t → a'.tmps.getD t undef = a.tmps.getD t undef) a w := by
  have e := virt_at l i o ho
  rw [if_pos hi, vOne_plain hn] at e
  have h' := wpOp_put (o := o) (by simpa using e) h
  unfold wpOp at h' ⊢
  simp only [List.getElem?_toArray, e, ho, virt_wanted v ho] at h' ⊢
  exact h'

/-- a new block that is nobody's yet -/
theorem Inv.aside {G : Gh} {σ : List OB} {w : World} (hi : Inv G σ w) (x : Obj) : Inv { G with F := fun b => if b = w.heap.size then some x else G.F b } σ (w.alloc x) := by
  have old : ∀ b, b < w.heap.size → (w.alloc x).heap[b]? = w.heap[b]? := fun b hb => heap_alloc_old w _ hb
  constructor
  · intro b y h; rw [old b (lt_of_heap (hi.hH b y h))]; exact hi.hH b y h
  · intro b y h
    simp only at h
    by_cases e : b = w.heap.size
    · rw [if_pos e] at h; rw [e, ← h]; exact heap_alloc_new w _
    · rw [if_neg e] at h; rw [old b (lt_of_heap (hi.hF b y h))]; exact hi.hF b y h
  · intro b y h
    simp only at h ⊢
    by_cases e : b = w.heap.size
    · cases hx : G.H b with
      | none => rfl
      | some z => have := lt_of_heap (hi.hH _ _ hx); omega
    · rw [if_neg e] at h; exact hi.HF b y h
  · exact hi.len
  · intro b ob h
    exact (hi.own b ob h).keep (fun _ _ h => h) (OwnLe.refl _) rfl fun o ho hh => old _ (own_lt hi ho hh)
  · exact hi.inj
  · intro b o h hh
    have := own_lt hi h hh
    refine ⟨(hi.sep b o h hh).1, ?_⟩
    simp only
    rw [if_neg (by omega)]
    exact (hi.sep b o h hh).2
  · exact hi.os
  · exact hi.tape
  · exact hi.output
  · exact Nat.le_trans hi.grow (by simp)

/-- a block that was nobody's is own from here on -/
theorem Inv.gain {G : Gh} {σ : List OB} {w : World} (hi : Inv G σ w) {blk : Nat} {cs : List CV} {c : Array Value} {T : TypeId} (hA : w.heap[blk]? = some (.cells c T)) (hB : G.H blk = none) (hC : G.F blk = none)
    (hD : ∀ (b : Nat) (o : OG), G.own[b]? = some (some o) → o.has = true → o.blk ≠ blk) (h : All2 (Rep G) cs c.toList) : Inv { G with own := G.own ++ [some ⟨blk, 0, 0, 0, true⟩] } (σ ++ [.box cs]) w := by
  have hle : OwnLe G.own (G.own ++ [some ⟨blk, 0, 0, 0, true⟩]) := OwnLe.append _ _
  have split : ∀ (b : Nat) (o' : OG), (G.own ++ [some (⟨blk, 0, 0, 0, true⟩ : OG)])[b]? = some (some o') → (b < G.own.length ∧ G.own[b]? = some (some o')) ∨ (b = G.own.length ∧ o' = ⟨blk, 0, 0, 0, true⟩) := by
    intro b o' h
    rcases Nat.lt_or_ge b G.own.length with hb | hb
    · rw [List.getElem?_append_left hb] at h; exact .inl ⟨hb, h⟩
    · rw [List.getElem?_append_right hb] at h
      rcases Nat.eq_zero_or_pos (b - G.own.length) with e | e
      · rw [e] at h; simp at h; exact .inr ⟨by omega, h.symm⟩
      · rw [List.getElem?_eq_none (by simp; omega)] at h; cases h
  constructor
  · exact hi.hH
  · exact hi.hF
  · exact hi.HF
  · simp [hi.len]
  · intro b ob' h'
    rcases Nat.lt_or_ge b σ.length with hb | hb
    · rw [List.getElem?_append_left hb] at h'
      refine (hi.own b ob' h').keep (fun _ _ h => h) hle ?_ fun o' ho' hh => rfl
      exact List.getElem?_append_left (by rw [hi.len]; exact hb)
    · rw [List.getElem?_append_right hb] at h'
      rcases Nat.eq_zero_or_pos (b - σ.length) with e | e
      · rw [e] at h'; simp at h'
        have : b = σ.length := by omega
        subst this; subst h'
        refine ⟨⟨blk, 0, 0, 0, true⟩, c, T, ?_, rfl, rfl, hA, All2.mono (R := Rep G) (fun _ _ hr => Rep.mono (G := G) (G' := { G with own := G.own ++ [some ⟨blk, 0, 0, 0, true⟩] }) (fun _ _ h => h) hle hr) h⟩
        show (G.own ++ _)[σ.length]? = _
        rw [← hi.len]; simp
      · rw [List.getElem?_eq_none (by simp; omega)] at h'; cases h'
  · intro b b' o1 o2 h1 h2 hh1 hh2 he
    rcases split b o1 h1 with ⟨hb, g1⟩ | ⟨hb, g1⟩ <;> rcases split b' o2 h2 with ⟨hb', g2⟩ | ⟨hb', g2⟩
    · exact hi.inj b b' o1 o2 g1 g2 hh1 hh2 he
    · exact (hD b o1 g1 hh1 (by rw [he, g2])).elim
    · exact (hD b' o2 g2 hh2 (by rw [← he, g1])).elim
    · omega
  · intro b o1 h1 hh1
    rcases split b o1 h1 with ⟨hb, h1⟩ | ⟨hb, rfl⟩
    · exact hi.sep b o1 h1 hh1
    · exact ⟨hB, hC⟩
  · exact hi.os
  · exact hi.tape
  · exact hi.output
  · exact hi.grow

/-- fewer blocks of others -/
theorem Inv.less {G : Gh} {σ : List OB} {w : World} (hi : Inv G σ w) (F : Nat → Option Obj) (h : ∀ b x, F b = some x → G.F b = some x) : Inv { G with F := F } σ w := by
  constructor
  · exact hi.hH
  · exact fun b x e => hi.hF b x (h b x e)
  · exact fun b x e => hi.HF b x (h b x e)
  · exact hi.len
  · exact fun b ob e => (hi.own b ob e).keep (fun _ _ h => h) (OwnLe.refl _) rfl fun _ _ _ => rfl
  · exact hi.inj
  · intro b o e hh
    refine ⟨(hi.sep b o e hh).1, ?_⟩
    show F o.blk = none
    cases hx : F o.blk with
    | none => rfl
    | some x => have := h _ _ hx; rw [(hi.sep b o e hh).2] at this; cases this
  · exact hi.os
  · exact hi.tape
  · exact hi.output
  · exact hi.grow

def Pend (P : Program) (l : List Oper) (G0 G1 : Gh) (listed : Array Bool) (a : Act) : Prop :=
  G1.H = G0.H ∧ G1.own = G0.own ∧ G1.w0 = G0.w0 ∧ G1.na = G0.na ∧ (∀ b x, G0.F b = some x → G1.F b = some x) ∧
  ∃ pb : Nat → Nat,
    (∀ (i j : Nat) (o o' : Oper) (T T' : TypeId), l[i]? = some o → l[j]? = some o' → i + 1 < l.length → j + 1 < l.length → o.op = .alloc T → o'.op = .alloc T' → listed.getD i false = true → listed.getD j false = true → pb i = pb j → i = j) ∧
    ∀ (i : Nat) (o : Oper) (T : TypeId) (t : Nat), l[i]? = some o → i + 1 < l.length → o.op = .alloc T → o.dst = some t → listed.getD i false = true →
      a.tmps.getD t undef = .pointer (some ⟨pb i, 0, none⟩) ∧ G0.F (pb i) = none ∧ ∃ inf u, P.info? T = some inf ∧ inf.zero = some u ∧ G1.F (pb i) = some (.cells u.cells T)

def StA (P : Program) (l : List Oper) (tr : List TS) (E : Env) (σ : List OB) (G0 : Gh) (listed : Array Bool) (a : Act) (w : World) : Prop :=
  ∃ G1, Pend P l G0 G1 listed a ∧ StJ (virt l) tr E σ G1 listed a w

theorem listed_ready {l : List Oper} {listed : Array Bool} (hsz : listed.size = l.length) {i : Nat} (hi : i ∈ Region.ready .any l.toArray listed) : listed.getD i false = false ∧ i < l.length ∧ ∃ o, l[i]? = some o ∧ ∀ j ∈ edgesOf o, listed.getD j false = true := by
  obtain ⟨hun, o, ho', hdeps⟩ := mem_ready.1 hi
  have ho : l[i]? = some o := by simpa using ho'
  have hil : i < l.length := (List.getElem?_eq_some_iff.1 ho).1
  refine ⟨?_, hil, o, ho, fun j hj => ?_⟩
  · rw [Array.getD_eq_getD_getElem?] at hun ⊢
    rw [Array.getElem?_eq_getElem (by omega)] at hun ⊢
    simpa using hun
  · simp only [edgesOf, List.mem_map, List.mem_filter] at hj
    obtain ⟨e, ⟨h1, h2⟩, rfl⟩ := hj
    exact hdeps e (by simpa using h1) h2

theorem StA.step {l : List Oper} {ts : List Nat} {bs : List Bool} {masks : List Nat} {E : Env} {σ : List OB} {tr : List TS} (c : Chk (virt l).toArray (virt l) masks bs) (v : ChkV l ts bs) (ht : Trace P (virt l).toArray (virt l) bs E σ tr)
    (hE : ∀ t ∈ ts, (E.get t).cond = false) (hz : ∀ (i : Nat) (o : Oper) (T : TypeId), l[i]? = some o → i + 1 < l.length → o.op = .alloc T → (∃ z, zeroC P T = some z) ∧ dstOk E o.dst) (G0 : Gh) {Q : Exit → Act → World → Prop} (listed : Array Bool) (a : Act) (w : World) (i : Nat)
    (hJ : StA P l tr E σ G0 listed a w) (hi : i ∈ Region.ready .any l.toArray listed) (hlt : i + 1 < l.length) : wpOp P l.toArray Q i (StA P l tr E σ G0 (listed.setIfInBounds i true)) a w := by
  obtain ⟨G1, ⟨p1, p2, p3, p4, p5, pb, p6, p7⟩, hS⟩ := hJ
  have hsz : listed.size = l.length := by rw [hS.1, virt_len]
  obtain ⟨hi0, hil, o, ho, hr⟩ := listed_ready hsz hi
  have hset : ∀ j, (listed.setIfInBounds i true).getD j false = if j = i then true else listed.getD j false := fun j => setD _ _ _ (by omega)
  by_cases hn : ∀ T, o.op ≠ .alloc T
  · have h1 := StJ.step (Q := Q) c ht G1 listed a w i hS (virt_ready hi)
    refine wpOp_mono (fun a' w' h => ?_) (virt_wpOp v ho hlt hn h1)
    obtain ⟨h2, h3⟩ := h
    refine ⟨G1, ⟨p1, p2, p3, p4, p5, pb, ?_, ?_⟩, h2⟩
    · intro j k y y' T T' hy hy' hj hk hop hop' hl hl'
      rw [hset] at hl hl'
      have nj : j ≠ i := fun e => by subst e; rw [ho] at hy; simp only [Option.some.injEq] at hy; subst hy; exact hn T hop
      have nk : k ≠ i := fun e => by subst e; rw [ho] at hy'; simp only [Option.some.injEq] at hy'; subst hy'; exact hn T' hop'
      rw [if_neg nj] at hl
      rw [if_neg nk] at hl'
      exact p6 j k y y' T T' hy hy' hj hk hop hop' hl hl'
    · intro j y T t hy hj hop hd hl
      rw [hset] at hl
      have nj : j ≠ i := fun e => by subst e; rw [ho] at hy; simp only [Option.some.injEq] at hy; subst hy; exact hn T hop
      rw [if_neg nj] at hl
      obtain ⟨q1, q2⟩ := p7 j y T t hy hj hop hd hl
      obtain ⟨_, t', g1, _, _, g4⟩ := v.al j y T hy hj hop
      rw [hd] at g1
      simp only [Option.some.injEq] at g1
      subst g1
      exact ⟨(h3 t (g4 i o ho (fun e => nj e.symm))).trans q1, q2⟩
  · obtain ⟨T, hop⟩ : ∃ T, o.op = .alloc T := Classical.byContradiction fun h => hn fun T e => h ⟨T, e⟩
    obtain ⟨hg, t, hd, ht512, hts, huniq⟩ := v.al i o T ho hlt hop
    obtain ⟨⟨z, hzT⟩, hdok⟩ := hz i o T ho hlt hop
    obtain ⟨hsz', hcl, G, p, hG, hp, hloud, hinv, hdef, htm, hna, hslot⟩ := hS
    obtain ⟨inf, u, e1, e2, e3, e4, _, e5⟩ := zeroC_all G hzT
    have hFG : G.F = G1.F := hG.le.F
    have hvi := virt_at l i o ho
    rw [if_pos hlt, vOne_al hop] at hvi
    have hrun : (execOp a.eval o).run P w = .ok (.value (.pointer (some ⟨w.heap.size, 0, none⟩))) (w.alloc (.cells u.cells T)) := by
      simp [execOp, hop, Instr.alloc, run_zeroValue e1 e2, newVar, newRow]
    unfold wpOp
    simp only [List.getElem?_toArray, ho]
    rw [if_pos (by unfold Region.wanted; rw [hg])]
    left
    unfold Oper.wp
    rw [hrun]
    show StA P l tr E σ G0 (listed.setIfInBounds i true) (a.put o.dst _) _
    rw [hd]
    have hfree : ∀ j y, l[j]? = some y → j + 1 < l.length → (∃ T, y.op = .alloc T) → listed.getD j false = true → pb j ≠ w.heap.size := by
      intro j y hy hj ⟨T', hop'⟩ hl e
      obtain ⟨_, t', g1, _⟩ := v.al j y T' hy hj hop'
      obtain ⟨_, _, _, _, _, _, q⟩ := p7 j y T' t' hy hj hop' g1 hl
      rw [← hFG] at q
      have := lt_of_heap (hinv.hF _ _ q)
      omega
    have hput : ∀ t', t' ≠ t → (a.put (some t) (.pointer (some ⟨w.heap.size, 0, none⟩))).tmps.getD t' undef = a.tmps.getD t' undef := by
      intro t' hne
      simp only [Act.put, Array.getD_eq_getD_getElem?]
      rw [Array.getElem?_setIfInBounds_ne (Ne.symm hne)]
    refine ⟨{ G1 with F := fun b => if b = w.heap.size then some (.cells u.cells T) else G1.F b }, ⟨p1, p2, p3, p4, ?_, fun j => if j = i then w.heap.size else pb j, ?_, ?_⟩, ?_⟩
    · intro b x hb
      have h1 := p5 b x hb
      simp only
      rw [if_neg]
      · exact h1
      · intro e
        rw [← hFG] at h1
        have := lt_of_heap (hinv.hF _ _ h1)
        omega
    · intro j k y y' T1 T2 hy hy' hj hk hop1 hop2 hl hl' he
      rw [hset] at hl hl'
      simp only at he
      by_cases nj : j = i <;> by_cases nk : k = i
      · omega
      · rw [if_pos nj, if_neg nk] at he; rw [if_neg nk] at hl'
        exact (hfree k y' hy' hk ⟨T2, hop2⟩ hl' he.symm).elim
      · rw [if_neg nj, if_pos nk] at he; rw [if_neg nj] at hl
        exact (hfree j y hy hj ⟨T1, hop1⟩ hl he).elim
      · rw [if_neg nj, if_neg nk] at he; rw [if_neg nj] at hl; rw [if_neg nk] at hl'
        exact p6 j k y y' T1 T2 hy hy' hj hk hop1 hop2 hl hl' he
    · intro j y T' t' hy hj hop' hd' hl
      rw [hset] at hl
      by_cases nj : j = i
      · subst nj
        rw [ho] at hy
        simp only [Option.some.injEq] at hy
        subst hy
        rw [hd] at hd'
        simp only [Option.some.injEq] at hd'
        subst hd'
        rw [hop] at hop'
        simp only [Op.alloc.injEq] at hop'
        subst hop'
        simp only [if_true]
        refine ⟨?_, ?_, inf, u, e1, e2, ?_⟩
        · have : t < a.tmps.size := by
            rw [htm]
            rw [hd] at hdok
            exact hdok
          simp [Act.put, Array.getD, this]
        · cases hx : G0.F w.heap.size with
          | none => rfl
          | some x =>
            have h1 := p5 _ _ hx
            rw [← hFG] at h1
            have := lt_of_heap (hinv.hF _ _ h1)
            omega
        · simp
      · rw [if_neg nj] at hl
        obtain ⟨q1, q2, inf', u', q3, q4, q5⟩ := p7 j y T' t' hy hj hop' hd' hl
        simp only [if_neg nj]
        have hne : t' ≠ t := fun e => huniq j y hy nj (by rw [hd', e])
        refine ⟨(hput t' hne).trans q1, q2, inf', u', q3, q4, ?_⟩
        rw [if_neg (hfree j y hy hj ⟨T', hop'⟩ hl)]
        exact q5
    · refine ⟨by simpa using hsz', ?_, { G with F := fun b => if b = w.heap.size then some (.cells u.cells T) else G1.F b }, p, ⟨⟨hG.le.H, rfl, hG.le.w0, hG.le.na⟩, hG.own⟩, hp, ?_, ?_, hdef, by simpa [Act.put] using htm, hna, ?_⟩
      · intro k ok hk hdn j hj
        simp only at hdn ⊢
        rw [hset] at hdn ⊢
        by_cases e : k = i
        · subst e; rw [hvi] at hk; simp only [Option.some.injEq] at hk; subst hk
          by_cases e' : j = k
          · rw [if_pos e']
          · rw [if_neg e']; exact hr j hj
        · rw [if_neg e] at hdn
          by_cases e' : j = i
          · rw [if_pos e']
          · rw [if_neg e']; exact hcl k ok hk hdn j hj
      · intro j y hy hly
        rw [hset]
        by_cases e : j = i
        · subst e; rw [hvi] at hy; simp only [Option.some.injEq] at hy; subst hy; simp [loudB, hush] at hly
        · rw [if_neg e]; exact hloud j y hy hly
      · have := hinv.aside (.cells u.cells T)
        rw [hFG] at this
        exact this
      · intro t' ht' hc
        have hfun : (fun k => (listed.setIfInBounds i true).getD k false) = (fun k => if k = i then true else listed.getD k false) := by
          funext k; exact hset k
        rw [hfun] at hc ⊢
        rw [slotD_other t' (virt l) tr _ _ i _ hvi (by simp [hush])] at hc ⊢
        by_cases e : t' = t
        · subst e
          have hno : ∀ (j : Nat) (y : Oper), (virt l)[j]? = some y → y.dst = some t' → False := by
            intro j y hy hyd
            obtain ⟨y0, g1, g2, _⟩ := virt_back hy
            by_cases ej : j + 1 < l.length
            · rw [if_pos ej] at g2
              by_cases ha : ∀ T, y0.op ≠ .alloc T
              · rw [vOne_plain ha] at g2
                subst g2
                by_cases eji : j = i
                · subst eji; rw [ho] at g1; simp only [Option.some.injEq] at g1; subst g1; exact ha T hop
                · exact huniq j y g1 eji hyd
              · obtain ⟨T', ha⟩ : ∃ T, y0.op = .alloc T := Classical.byContradiction fun h => ha fun T e => h ⟨T, e⟩
                rw [vOne_al ha] at g2
                subst g2
                cases hyd
            · rw [if_neg ej] at g2
              subst g2
              cases hyd
          have hk : slotD t' (virt l) tr (fun k => listed.getD k false) (E.get t') = E.get t' := by
            rw [slotD_congr t' (virt l) tr _ (fun _ => false) _ (fun j y hy hyd => (hno j y hy hyd).elim)]
            exact slotD_none t' (virt l) tr _ _ fun _ _ _ _ => rfl
          rw [hk, hE t' hts] at hc
          cases hc
        · rw [hput t' e]
          exact RepP.mono (fun _ _ h => h) (OwnLe.refl _) (hslot t' ht' hc)

theorem forget_get : ∀ (ts : List Nat) (E : Env) (t : Nat), (∀ x ∈ ts, x < 512) → t ∈ ts → ((E.forget ts).get t).cond = false := by
  have keep : ∀ (ts : List Nat) (E : Env) (t : Nat), (E.get t).cond = false → ((E.forget ts).get t).cond = false := by
    intro ts
    induction ts with
    | nil => intro E t h; exact h
    | cons i r ih =>
      intro E t h
      refine ih (E.erase i) t ?_
      cases hc : ((E.erase i).get t).cond with
      | false => rfl
      | true => have := Env.erase_get E i t hc; rw [this, h] at hc; cases hc
  have zap : ∀ (E : Env) (i : Nat), i < 512 → ((E.erase i).get i).cond = false := by
    intro E i h
    unfold Env.erase Env.get
    simp only
    have hb : i / 64 < 8 := by omega
    rw [Tr.get_put _ _ _ _ hb, if_pos rfl, Tr.get_put _ _ _ _ (Nat.mod_lt _ (by decide)), if_pos rfl, Tr.get_put _ _ _ _ (Nat.mod_lt _ (by decide)), if_pos rfl]
    simp [Tr.ent]
  intro ts
  induction ts with
  | nil => intro E t _ h; simp at h
  | cons i r ih =>
    intro E t hx h
    by_cases e : t ∈ r
    · exact ih (E.erase i) t (fun x hx' => hx x (by simp [hx'])) e
    · have : t = i := by simpa [e] using h
      subst this
      exact keep r _ t (zap E t (hx t (by simp)))

theorem putD_n (E : Env) (d : Option Tmp) (e : Ent) : (E.putD d e).n = E.n := by cases d <;> rfl
theorem dstOk_n {E E' : Env} (h : E.n = E'.n) {d : Option Tmp} (hd : dstOk E d) : dstOk E' d := by
  cases d with
  | none => trivial
  | some d => show d < E'.n; rw [← h]; exact hd

theorem late_zero {ops : Array Oper} {kp : PV → Env → List OB → Prop} {k : Env → List OB → Prop} : ∀ (r : List Oper) (E : Env) (σ : List OB), runOps P ops (late r) E σ k kp →
    ∀ (i : Nat) (o : Oper) (T : TypeId), (∀ (i : Nat) (o : Oper) (T : TypeId), r[i]? = some o → i + 1 < r.length → o.op = .alloc T → o.guard = none) → r[i]? = some o → i + 1 < r.length → o.op = .alloc T → (∃ z, zeroC P T = some z) ∧ dstOk E o.dst
  | [], E, σ, h, i, o, T, hg, ho, hi, hop => by simp at ho
  | [q], E, σ, h, i, o, T, hg, ho, hi, hop => by simp at hi
  | x :: o2 :: r, E, σ, h, i, o, T, hg, ho, hi, hop => by
    have hg' : ∀ (i : Nat) (o : Oper) (T : TypeId), (o2 :: r)[i]? = some o → i + 1 < (o2 :: r).length → o.op = .alloc T → o.guard = none := fun i o T h1 h2 h3 => hg (i + 1) o T (by simpa using h1) (by simp at h2 ⊢; omega) h3
    by_cases hx : ∀ T, x.op ≠ .alloc T
    · have e : late (x :: o2 :: r) = late (o2 :: r) := by
        unfold late
        split
        · rename_i T' e; exact (hx T' e).elim
        · cases r <;> rfl
      rw [e] at h
      cases i with
      | zero => simp at ho; subst ho; exact (hx T hop).elim
      | succ i => exact late_zero (o2 :: r) E σ h i o T hg' (by simpa using ho) (by simp at hi ⊢; omega) hop
    · obtain ⟨Tx, hx⟩ : ∃ T, x.op = .alloc T := Classical.byContradiction fun h => hx fun T e => h ⟨T, e⟩
      have e : late (x :: o2 :: r) = x :: late (o2 :: r) := by
        simp only [late, hx]
      rw [e] at h
      have hgx := hg 0 x Tx rfl (by simp) hx
      unfold runOps at h
      simp only [guardOf, hgx, run1, hx, allocR] at h
      split at h
      · rename_i z hz
        simp only [stepR] at h
        obtain ⟨hd, _, hr⟩ := h
        cases i with
        | zero => simp at ho; subst ho; rw [hx] at hop; simp only [Op.alloc.injEq] at hop; subst hop; exact ⟨⟨z, hz⟩, hd⟩
        | succ i =>
          obtain ⟨q1, q2⟩ := late_zero (o2 :: r) _ _ hr i o T hg' (by simpa using ho) (by simp at hi ⊢; omega) hop
          exact ⟨q1, dstOk_n (putD_n _ _ _) q2⟩
      · simp only [stepR] at h

theorem mat {ops : Array Oper} {pb : Nat → Nat} {kp : PV → Env → List OB → Prop} {k : Env → List OB → Prop} {a : Act} {w : World} : ∀ (r : List Oper) (m : Nat) (G : Gh) (E : Env) (σ : List OB), Sim G E σ a w →
    (∀ (i : Nat) (o : Oper) (T : TypeId), r[i]? = some o → i + 1 < r.length → o.op = .alloc T → o.guard = none ∧ ∃ t, o.dst = some t ∧ a.tmps.getD t undef = .pointer (some ⟨pb (m + i), 0, none⟩) ∧ G.F (pb (m + i)) = none ∧ G.H (pb (m + i)) = none ∧
      (∀ (b : Nat) (og : OG), G.own[b]? = some (some og) → og.has = true → og.blk ≠ pb (m + i)) ∧ ∃ inf u, P.info? T = some inf ∧ inf.zero = some u ∧ w.heap[pb (m + i)]? = some (.cells u.cells T)) →
    (∀ (i j : Nat) (o o' : Oper) (T T' : TypeId), r[i]? = some o → r[j]? = some o' → i + 1 < r.length → j + 1 < r.length → o.op = .alloc T → o'.op = .alloc T' → pb (m + i) = pb (m + j) → i = j) →
    runOps P ops (late r) E σ k kp → ∀ q, r.getLast? = some q → ∃ G' E' σ', Gle G G' ∧ Sim G' E' σ' a w ∧ runOps P ops [q] E' σ' k kp
  | [], m, G, E, σ, hs, hf, hdist, h, q, hq => by simp at hq
  | [x], m, G, E, σ, hs, hf, hdist, h, q, hq => by simp at hq; subst hq; exact ⟨G, E, σ, Gle.refl G, hs, h⟩
  | x :: o2 :: r, m, G, E, σ, hs, hf, hdist, h, q, hq => by
    have hq' : (o2 :: r).getLast? = some q := by simpa [List.getLast?_cons_cons] using hq
    have hdist' : ∀ (i j : Nat) (o o' : Oper) (T T' : TypeId), (o2 :: r)[i]? = some o → (o2 :: r)[j]? = some o' → i + 1 < (o2 :: r).length → j + 1 < (o2 :: r).length → o.op = .alloc T → o'.op = .alloc T' → pb (m + 1 + i) = pb (m + 1 + j) → i = j := by
      intro i j o o' T T' h1 h2 h3 h4 h5 h6 h7
      have := hdist (i + 1) (j + 1) o o' T T' (by simpa using h1) (by simpa using h2) (by simp at h3 ⊢; omega) (by simp at h4 ⊢; omega) h5 h6 (by rw [show m + (i + 1) = m + 1 + i by omega, show m + (j + 1) = m + 1 + j by omega]; exact h7)
      omega
    by_cases hx : ∀ T, x.op ≠ .alloc T
    · have e : late (x :: o2 :: r) = late (o2 :: r) := by
        unfold late
        split
        · rename_i T' e; exact (hx T' e).elim
        · cases r <;> rfl
      rw [e] at h
      refine mat (o2 :: r) (m + 1) G E σ hs (fun i o T h1 h2 h3 => ?_) hdist' h q hq'
      have := hf (i + 1) o T (by simpa using h1) (by simp at h2 ⊢; omega) h3
      rw [show m + (i + 1) = m + 1 + i by omega] at this
      exact this
    · obtain ⟨Tx, hx⟩ : ∃ T, x.op = .alloc T := Classical.byContradiction fun h => hx fun T e => h ⟨T, e⟩
      have e : late (x :: o2 :: r) = x :: late (o2 :: r) := by
        simp only [late, hx]
      rw [e] at h
      obtain ⟨hgx, t, hd, g1, g2, g3, g4, inf, u, g5, g6, g7⟩ := hf 0 x Tx rfl (by simp) hx
      simp only [Nat.add_zero] at g1 g2 g3 g4 g7
      unfold runOps at h
      simp only [guardOf, hgx, run1, hx, allocR] at h
      split at h
      · rename_i z hz
        simp only [stepR] at h
        obtain ⟨hdk, _, hr⟩ := h
        obtain ⟨inf', u', k1, k2, _, _, _, k5⟩ := zeroC_all G hz
        rw [g5] at k1; simp only [Option.some.injEq] at k1; subst k1
        rw [g6] at k2; simp only [Option.some.injEq] at k2; subst k2
        have hinv := hs.inv.gain (cs := z) g7 g3 g2 g4 (All2.mono (fun _ _ hr => RepT.rep hr) k5)
        have hle : OwnLe G.own (G.own ++ [some (⟨pb m, 0, 0, 0, true⟩ : OG)]) := OwnLe.append _ _
        rw [hd] at hr
        have hsim : Sim { G with own := G.own ++ [some ⟨pb m, 0, 0, 0, true⟩] } (E.putD (some t) ⟨true, .c (.optr σ.length 0)⟩) (σ ++ [.box z]) a w := by
          refine ⟨hinv, hs.defers, hs.size, hs.na, fun i hc => ?_⟩
          have hg := Env.get_put E t i _ hc
          show RepP _ ((E.put t _).get i).v _
          rw [hg]
          by_cases ei : i = t
          · rw [if_pos ei, ei, g1]
            refine ⟨rfl, some ⟨pb m, 0, 0, 0, true⟩, ?_, fun og e _ => by simp only [Option.some.injEq] at e; subst e; rfl⟩
            show (G.own ++ _)[σ.length]? = _
            rw [← hs.inv.len]; simp
          · rw [if_neg ei]
            have hc' : (E.get i).cond = true := by
              have : ((E.put t ⟨true, .c (.optr σ.length 0)⟩).get i).cond = true := hc
              rw [hg, if_neg ei] at this; exact this
            exact RepP.mono (G := G) (G' := { G with own := G.own ++ [some ⟨pb m, 0, 0, 0, true⟩] }) (fun _ _ h => h) hle (hs.slot i hc')
        obtain ⟨G', E', σ', q1, q2, q3⟩ := mat (o2 :: r) (m + 1) _ _ _ hsim (fun i o T h1 h2 h3 => by
          obtain ⟨f1, t', f2, f3, f4, f5, f6, f7⟩ := hf (i + 1) o T (by simpa using h1) (by simp at h2 ⊢; omega) h3
          rw [show m + (i + 1) = m + 1 + i by omega] at f3 f4 f5 f6 f7
          refine ⟨f1, t', f2, f3, f4, f5, fun b og hb hh => ?_, f7⟩
          rcases Nat.lt_or_ge b G.own.length with hb' | hb'
          · rw [List.getElem?_append_left hb'] at hb; exact f6 b og hb hh
          · rw [List.getElem?_append_right hb'] at hb
            rcases Nat.eq_zero_or_pos (b - G.own.length) with e0 | e0
            · rw [e0] at hb
              simp only [List.getElem?_cons_zero, Option.some.injEq] at hb
              subst hb
              intro e1
              have := hdist 0 (i + 1) x o Tx T rfl (by simpa using h1) (by simp) (by simp at h2 ⊢; omega) hx h3 (by rw [Nat.add_zero, show m + (i + 1) = m + 1 + i by omega]; exact e1)
              omega
            · rw [List.getElem?_eq_none (by simp; omega)] at hb; cases hb) hdist' hr q hq'
        have hGle : Gle G { G with own := G.own ++ [some ⟨pb m, 0, 0, 0, true⟩] } := ⟨⟨fun _ _ h => h, rfl, rfl, rfl⟩, OwnPre.of_le hle⟩
        exact ⟨G', E', σ', hGle.trans q1, q2, q3⟩
      · simp only [stepR] at h

theorem virt_ready' {l : List Oper} {listed : Array Bool} {i : Nat} (h : i ∈ Region.ready .any (virt l).toArray listed) : i ∈ Region.ready .any l.toArray listed := by
  obtain ⟨h1, o, ho, h2⟩ := mem_ready.1 h
  obtain ⟨o2, q1, q2, q3, q4⟩ := virt_back (show (virt l)[i]? = some o by simpa using ho)
  exact mem_ready.2 ⟨h1, o2, by simpa using q1, fun x hx => h2 x (by rw [q3]; exact hx)⟩

theorem hush_step {l : List Oper} {i : Nat} {q : Oper} {K : Act → World → Prop} {a : Act} {w : World} (ho : (virt l)[i]? = some (hush q)) (hg : q.guard = none) (h : wpOp P (virt l).toArray (fun _ _ _ => False) i K a w) : K a w := by
  unfold wpOp at h
  simp only [List.getElem?_toArray, ho] at h
  rw [if_pos (by unfold Region.wanted; simp [hush, hg])] at h
  rcases h with h | ⟨_, _, _, h⟩
  · unfold Oper.wp at h
    have : (execOp a.eval (hush q)).run P w = .ok (.value (.bool true)) w := by simp [execOp, hush, Act.eval]
    rw [this] at h
    exact h
  · exact h.elim

theorem wpAny_all {ops : Array Oper} {Q : Exit → Act → World → Prop} {listed : Array Bool} (hr : Region.ready .any ops listed = []) : ∀ (fuel : Nat) (a : Act) (w : World), Q .normal a w → wpAny P .any ops Q fuel listed a w
  | 0, a, w, h => ⟨hr, h⟩
  | fuel + 1, a, w, h => ⟨fun _ => h, fun i hi => by rw [hr] at hi; simp at hi⟩

theorem W_late {id : Nat} {l : List Oper} {K : Kt} {E : Env} {σ : List OB} (hm : P.follows .mixedOrders = true) (ts : List Nat) (masks : List Nat) (bs : List Bool) (hc : chkA l ts masks bs = true) (hts : ∀ t ∈ ts, t < 512) {k : Env → List OB → Prop} {kp : PV → Env → List OB → Prop} (hkn : ∀ E σ, k E σ → K .normal E σ) (hkp : ∀ p E σ, kp p E σ → K (.panic p) E σ)
    (h : TR P (virt l).toArray (virt l) bs (E.forget ts) σ (fun E σ => runOps P l.toArray (late l) E σ k kp)) : W P (.region id l.toArray true) K E σ := fun G a w hs0 => by
  have hs := Env.forget_sim ts hs0
  have hE := fun t ht => forget_get ts E t hts ht
  generalize E.forget ts = E1 at hs hE h
  obtain ⟨tr, ht, hk⟩ := h
  unfold chkA at hc
  simp only [Bool.and_eq_true] at hc
  have c := chk_ok hc.1
  have v := chkV_ok hc.2
  have hz : ∀ (i : Nat) (o : Oper) (T : TypeId), l[i]? = some o → i + 1 < l.length → o.op = .alloc T → (∃ z, zeroC P T = some z) ∧ dstOk E1 o.dst := fun i o T h1 h2 h3 => by
    obtain ⟨q1, q2⟩ := late_zero l _ _ hk i o T (fun i o T h1 h2 h3 => (v.al i o T h1 h2 h3).1) h1 h2 h3
    exact ⟨q1, dstOk_n (envAt_n (virt l) tr E1 (virt l).length).1 q2⟩
  have hpos := v.pos
  obtain ⟨q, hq⟩ : ∃ q, l[l.length - 1]? = some q := ⟨_, List.getElem?_eq_getElem (by omega)⟩
  obtain ⟨hqd, hqg⟩ := v.last _ q hq (by omega)
  have hvq := virt_at l _ q hq
  rw [if_neg (by omega)] at hvq
  refine wp_region_any hm ?_
  have key : ∀ (fuel : Nat) (listed : Array Bool) (a : Act) (w : World), listed.toList.count false ≤ fuel → listed.getD (l.length - 1) false = false → StA P l tr E1 σ G listed a w → wpAny P .any l.toArray (PostX G K) fuel listed a w := by
    have some_ready : ∀ (listed : Array Bool) (a : Act) (w : World), listed.getD (l.length - 1) false = false → StA P l tr E1 σ G listed a w → Region.ready .any l.toArray listed ≠ [] := by
      intro listed a w h1 ⟨G1, _, hS⟩ hr
      have hr' : Region.ready .any (virt l).toArray listed = [] := by
        rw [List.eq_nil_iff_forall_not_mem] at hr ⊢
        exact fun i hi => hr i (virt_ready' hi)
      have := ready_nil c hS.1 hr' (l.length - 1) (by rw [virt_len]; omega)
      rw [h1] at this; cases this
    intro fuel
    induction fuel with
    | zero =>
      intro listed a w hf hl hJ
      exfalso
      have hsz : listed.size = l.length := by obtain ⟨_, _, hS⟩ := hJ; rw [hS.1, virt_len]
      have : listed.toList[l.length - 1]? = some false := by
        rw [Array.getD_eq_getD_getElem?, Array.getElem?_eq_getElem (by omega)] at hl
        rw [Array.getElem?_toList, Array.getElem?_eq_getElem (by omega)]
        simpa using hl
      have hpos := List.count_pos_iff.2 (List.mem_of_getElem? this)
      omega
    | succ fuel ih =>
      intro listed a w hf hl hJ
      refine ⟨fun hr => (some_ready listed a w hl hJ hr).elim, fun i hi => ?_⟩
      have hsz : listed.size = l.length := by obtain ⟨_, _, hS⟩ := hJ; rw [hS.1, virt_len]
      obtain ⟨hi0, hil, o, ho, hr⟩ := listed_ready hsz hi
      have hset : ∀ j, (listed.setIfInBounds i true).getD j false = if j = i then true else listed.getD j false := fun j => setD _ _ _ (by omega)
      by_cases hlt : i + 1 < l.length
      · refine wpOp_mono (fun a' w' hJ' => ih _ a' w' ?_ ?_ hJ') (StA.step c v ht hE hz G listed a w i hJ hi hlt)
        · have : listed.toList[i]? = some false := by
            rw [Array.getD_eq_getD_getElem?, Array.getElem?_eq_getElem (by omega)] at hi0
            rw [Array.getElem?_toList, Array.getElem?_eq_getElem (by omega)]
            simpa using hi0
          have hc := count_set _ _ this
          simp only [Array.toList_setIfInBounds]
          omega
        · rw [hset, if_neg (by omega)]; exact hl
      · have hie : i = l.length - 1 := by omega
        subst hie
        rw [hq] at ho
        simp only [Option.some.injEq] at ho
        subst ho
        obtain ⟨G1, ⟨p1, p2, p3, p4, p5, pb, p6, p7⟩, hS⟩ := hJ
        have hdone : ∀ (j : Nat), j < l.length - 1 → listed.getD j false = true := by
          intro j hj
          have hy := virt_at l j l[j] (List.getElem?_eq_getElem (by omega))
          have := c.done hS.2.1 hvq hl (fun k hk => by
            have : edgesOf (hush q) = edgesOf q := rfl
            rw [this] at hk; exact hr k hk) hy (.inl (c.bar (l.length - 1) j _ _ hvq hy v.bar))
          rw [this]; simp; omega
        have hst := hush_step hvq hqg (StJ.step (Q := fun _ _ _ => False) c ht G1 listed a w (l.length - 1) hS (virt_ready hi))
        have hall : ∀ j, j < l.length → (listed.setIfInBounds (l.length - 1) true).getD j false = true := by
          intro j hj
          rw [hset]
          by_cases e : j = l.length - 1
          · rw [if_pos e]
          · rw [if_neg e]; exact hdone j (by omega)
        obtain ⟨G2, hG2, hsim⟩ := (wpAny_of (Q := fun _ a' w' => ∃ G2, Gle G1 G2 ∧ Sim G2 (envAt E1 (virt l) tr (virt l).length) (heapAt σ tr (virt l).length) a' w') c ht G1 (fun G2 a' w' h1 h2 => ⟨G2, h1, h2⟩) 0 (listed.setIfInBounds (l.length - 1) true) a w (by
          refine Nat.le_of_eq (List.count_eq_zero.2 fun hm => ?_)
          obtain ⟨j, hj, he⟩ := List.getElem_of_mem hm
          have hj' : j < l.length := by simpa [hsz] using hj
          have := hall j hj'
          rw [Array.getD_eq_getD_getElem?, Array.getElem?_eq_getElem (by simpa [hsz] using hj')] at this
          rw [Array.getElem_toList] at he
          simp only [Option.getD_some] at this
          rw [he] at this; cases this) hst).2
        have hF2 : G2.F = G1.F := hG2.le.F
        have hsim' : Sim { G2 with F := G.F } (envAt E1 (virt l) tr (virt l).length) (heapAt σ tr (virt l).length) a w :=
          ⟨hsim.inv.less G.F (fun b x hb => by rw [hF2]; exact p5 b x hb), hsim.defers, hsim.size, hsim.na, fun i hc => RepP.mono (G := G2) (G' := { G2 with F := G.F }) (fun _ _ h => h) (OwnLe.refl _) (hsim.slot i hc)⟩
        obtain ⟨G3, E3, σ3, r1, r2, r3⟩ := mat (pb := pb) l 0 _ _ _ hsim' (fun j y T h1 h2 h3 => by
          obtain ⟨e1, t, e2, _, _, _⟩ := v.al j y T h1 h2 h3
          obtain ⟨f1, f2, inf, u, f3, f4, f5⟩ := p7 j y T t h1 h2 h3 e2 (hdone j (by omega))
          rw [← hF2] at f5
          simp only [Nat.zero_add]
          refine ⟨e1, t, e2, f1, f2, hsim.inv.HF _ _ f5, fun b og hb hh he => ?_, inf, u, f3, f4, hsim.inv.hF _ _ f5⟩
          have := (hsim.inv.sep b og hb hh).2
          rw [he, f5] at this; cases this)
          (fun j k y y' T T' h1 h2 h3 h4 h5 h6 h7 => p6 j k y y' T T' h1 h2 h3 h4 h5 h6 (hdone j (by omega)) (hdone k (by omega)) (by simpa using h7)) hk q (by rw [List.getLast?_eq_getElem?]; exact hq)
        have hGle : Gle G { G2 with F := G.F } := by
          refine ⟨⟨fun b x hb => hG2.le.H b x (by rw [p1]; exact hb), rfl, hG2.le.w0.trans p3, hG2.le.na.trans p4⟩, ?_⟩
          have := hG2.own
          rw [p2, p4] at this
          exact this
        have hw := runOps_ok [q] E3 σ3 _ _ r3 G3 a w r2
        have hw' : wpList P l.toArray (PostX G K) [q] a w := wpList_mono (fun e a' w' hp => PostX.back (hGle.trans r1) (PostX.mono (fun x E σ hx => by
          cases x with
          | normal => exact hkn E σ hx
          | exit id => exact hx.elim
          | ret => exact hx.elim
          | panic p => exact hkp p E σ hx) hp)) _ _ _ hw
        have hnil : Region.ready .any l.toArray (listed.setIfInBounds (l.length - 1) true) = [] := by
          rw [List.eq_nil_iff_forall_not_mem]
          intro j hj
          obtain ⟨g1, g2, _⟩ := listed_ready (by simpa using hsz) hj
          rw [hall j g2] at g1; cases g1
        have hop : wpOp P l.toArray (PostX G K) (l.length - 1) (fun a' w' => PostX G K .normal a' w') a w := by
          unfold wpOp
          simp only [List.getElem?_toArray, hq]
          unfold wpList at hw'
          exact hw'
        exact wpOp_mono (fun a' w' hn => wpAny_all hnil fuel a' w' hn) hop
  refine key _ _ a _ (Nat.le_refl _) ?_ ?_ |> fun h => by
    have e : (Array.replicate l.toArray.size false).toList.count false = l.toArray.size := by simp
    rw [e] at h; exact h
  · rw [Array.getD_eq_getD_getElem?, Array.getElem?_replicate]; split <;> rfl
  · have hfalse : ∀ i, (Array.replicate l.toArray.size false).getD i false = false := by
      intro i
      rw [Array.getD_eq_getD_getElem?, Array.getElem?_replicate]
      split <;> rfl
    refine ⟨G, ⟨rfl, rfl, rfl, rfl, fun _ _ h => h, fun _ => 0, (fun i j o o' T T' _ _ _ _ _ _ h _ _ => by rw [hfalse] at h; cases h), (fun i o T t _ _ _ _ h => by rw [hfalse] at h; cases h)⟩, ?_⟩
    refine ⟨by simp [virt_len], (fun i o ho hd => by simp only [hfalse] at hd; cases hd), G, 0, Gle.refl G, by omega, (fun j o ho hl => by rw [hfalse]; simp), ?_, hs.defers, hs.size, hs.na, fun t ht hc => ?_⟩
    · have : heapAt σ tr 0 = σ := by cases tr <;> rfl
      rw [this]; exact hs.inv.drawn
    · have : slotD t (virt l) tr (fun i => (Array.replicate l.toArray.size false).getD i false) (E1.get t) = E1.get t := slotD_none t (virt l) tr _ _ fun j o _ _ => hfalse j
      rw [this] at hc ⊢
      exact hs.slot t hc

theorem W_lateT {id : Nat} {l : List Oper} {y : Code} {K : Kt} {E : Env} {σ : List OB} (ms : List Nat) (ts : List Nat) (masks : List Nat) (bs : List Bool) (hm : P.follows .mixedOrders = true) (hc : chkA l ts masks bs = true) (hts : ∀ t ∈ ts, t < 512)
    (h : ∀ (k : Env → List OB → Prop) (kp : PV → Env → List OB → Prop), (∀ E σ, W P y K E σ → k E σ) → anyOps P (virt l).toArray (virt l) bs (E.forget ts) σ (fun E σ => runOps P l.toArray (late l) E σ (fun E σ => k (E.forget ms) σ) kp)) : W P (.seq (.region id l.toArray true) y) K E σ :=
  W_seq (W_late (k := fun E σ => W P y K (E.forget ms) σ) (kp := fun _ _ _ => False) hm ts masks bs hc hts (fun _ _ h => W_forget ms h) (fun _ _ _ h => h.elim) (anyOps_ok _ bs _ σ _ (h (fun E σ => W P y K E σ) (fun _ _ _ => False) fun _ _ h => h)))
theorem W_lateN {id : Nat} {l : List Oper} {K : Kt} {E : Env} {σ : List OB} (ts : List Nat) (masks : List Nat) (bs : List Bool) (hm : P.follows .mixedOrders = true) (hc : chkA l ts masks bs = true) (hts : ∀ t ∈ ts, t < 512)
    (h : ∀ (k : Env → List OB → Prop) (kp : PV → Env → List OB → Prop), (∀ E σ, K .normal E σ → k E σ) → anyOps P (virt l).toArray (virt l) bs (E.forget ts) σ (fun E σ => runOps P l.toArray (late l) E σ k kp)) : W P (.region id l.toArray true) K E σ :=
  W_late (k := K .normal) (kp := fun _ _ _ => False) hm ts masks bs hc hts (fun _ _ h => h) (fun _ _ _ h => h.elim) (anyOps_ok _ bs _ σ _ (h (K .normal) (fun _ _ _ => False) fun _ _ h => h))
end
end Pam

/- slices.Sort and slices.Compact at []int over an own array: the kit's contracts in the layer's words. -/
namespace Pam
open Go Go.Shelf Go.Proofs

/-- the sorted list -/
def sortI (l : List Int) : List Int := l.mergeSort fun x y => decide (x ≤ y)

theorem sortI_length (l : List Int) : (sortI l).length = l.length := by simp [sortI, List.length_mergeSort]

theorem getElem_putCells (cur : Array Value) (d : List Int) (k : Nat) : (Go.Sort.putCells (Value.int .i64) 0 d.toArray cur)[k]? = if h : k < d.length ∧ k < cur.size then some (.int .i64 (d[k]'h.1)) else cur[k]? := by
  unfold Go.Sort.putCells
  by_cases hk : k < cur.size
  · by_cases hd : k < d.length
    · rw [dif_pos ⟨hd, hk⟩]
      simp [hk, hd]
    · rw [dif_neg (fun h => hd h.1)]
      simp [hk, hd]
  · rw [dif_neg (fun h => hk h.2)]
    simp [hk]

theorem heap_sorted (w : World) (n g : Nat) (os : Array Obj) (d : List Int) (cur : Array Value) (e : TypeId) (fr : Nat × Nat) (hb : w.heap[g]? = some (.cells cur e fr)) :
    (Go.Sort.grow (Go.Sort.putRow (Value.int .i64) (Go.Sort.ahead w n) g 0 d.toArray) os).heap[g]? = some (.cells (Go.Sort.putCells (Value.int .i64) 0 d.toArray cur) e fr) := by
  obtain ⟨hg, hb⟩ := Array.getElem?_eq_some_iff.1 hb
  simp [Go.Sort.grow, Go.Sort.putRow, Go.Sort.mapBlock, Go.Sort.ahead, Array.getElem?_append, hg, Array.getElem_modify, hb, Go.Sort.onCells]

theorem heap_other (w : World) (n g : Nat) (os : Array Obj) (d : Array Int) (k : Nat) (o : Obj) (hk : w.heap[k]? = some o) (hne : g ≠ k) :
    (Go.Sort.grow (Go.Sort.putRow (Value.int .i64) (Go.Sort.ahead w n) g 0 d) os).heap[k]? = some o := by
  obtain ⟨hg, hk⟩ := Array.getElem?_eq_some_iff.1 hk
  simp [Go.Sort.grow, Go.Sort.putRow, Go.Sort.mapBlock, Go.Sort.ahead, Array.getElem?_append, hg, Array.getElem_modify, hk, hne]

/-- the one own array behind a call that has written into it -/
theorem inv_sorted {G : Gh} {w : World} {v : Nat} {T : TypeId} {l l' d : List Int} {o : OG} {c : Array Value} {fz : Nat × Nat} {os : Array Obj} {n : Nat}
    (hi : Inv G [.arr 1 v T (l.map fun x => [.int .i64 x])] w) (ho : G.own[0]? = some (some o)) (hhas : o.has = true) (hc : w.heap[o.blk]? = some (.cells c T fz))
    (hl : l'.length ≤ l.length) (hd : d.length = l.length) (hp : l' <+: d) :
    Inv G [.arr 1 v T (l'.map fun x => [.int .i64 x])] (Go.Sort.grow (Go.Sort.putRow (Value.int .i64) (Go.Sort.ahead w n) o.blk 0 d.toArray) os) := by
  obtain ⟨o', ho', hver, hsz, _, hlc, hcm, _, hnh, hh⟩ := hi.own 0 _ rfl
  rw [ho] at ho'
  obtain rfl : o = o' := by simpa using ho'
  obtain ⟨c', fz', hc', hfz, hcs, _⟩ := hh hhas
  rw [hc] at hc'
  obtain ⟨rfl, rfl⟩ : c = c' ∧ fz = fz' := by simpa using hc'
  rw [Nat.mul_one] at hcs
  simp only [List.length_map] at hlc
  have hsep := hi.sep 0 o ho hhas
  refine ⟨?_, ?_, hi.HF, by simpa using hi.len, ?_, hi.inj, hi.sep, hi.os, hi.tape, hi.output, ?_⟩
  · intro b ob h
    exact heap_other _ _ _ _ _ _ _ (hi.hH b ob h) (fun e => by subst e; rw [hsep.1] at h; cases h)
  · intro b ob h
    exact heap_other _ _ _ _ _ _ _ (hi.hF b ob h) (fun e => by subst e; rw [hsep.2] at h; cases h)
  · intro b ob h
    match b with
    | 0 =>
      obtain rfl : OB.arr 1 v T (l'.map fun x => [.int .i64 x]) = ob := by simpa using h
      refine ⟨o, ho, hver, hsz, by omega, by simp only [List.length_map]; omega, hcm, ?_, hnh, fun _ => ?_⟩
      · intro e he; simp only [List.mem_map] at he; obtain ⟨x, _, rfl⟩ := he; rfl
      · refine ⟨_, fz, heap_sorted _ _ _ _ _ _ _ _ hc, ?_, ?_, ?_⟩
        · rcases hfz with h | h
          · exact .inl h
          · exact .inr (by simpa [Go.Sort.putCells] using h)
        · simpa [Go.Sort.putCells, hsz] using hcs
        · intro i j e x hi1 hj1
          have hil : i < l'.length := by
            rcases Nat.lt_or_ge i l'.length with h | h
            · exact h
            · rw [List.getElem?_eq_none (by simpa using h)] at hi1; cases hi1
          have hid : i < d.length := Nat.lt_of_lt_of_le hil hp.length_le
          rw [List.getElem?_map, List.getElem?_eq_getElem hil] at hi1
          obtain rfl : [CV.int .i64 l'[i]] = e := by simpa using hi1
          match j with
          | 0 =>
            obtain rfl : CV.int .i64 l'[i] = x := by simpa using hj1
            refine ⟨.int .i64 d[i], ?_, ?_⟩
            · rw [show i * 1 + 0 = i by omega]
              have := getElem_putCells c d i
              rw [dif_pos ⟨hid, by omega⟩] at this
              exact this
            · have : l'[i] = d[i] := hp.getElem hil
              rw [this]; exact .int .i64 _
          | k + 1 => simp at hj1
    | k + 1 => simp at h
  · have := hi.grow
    simp only [Go.Sort.grow, Array.size_append, Go.Sort.size_putRow, Go.Sort.heap_ahead]
    omega

theorem holds_own {G : Gh} {w : World} {v : Nat} {T : TypeId} {l : List Int} {o : OG}
    (hi : Inv G [.arr 1 v T (l.map fun x => [.int .i64 x])] w) (ho : G.own[0]? = some (some o)) (hhas : o.has = true) :
    ∃ c fz, w.heap[o.blk]? = some (.cells c T fz) ∧ Go.Sort.Holds (Value.int .i64) w o.blk 0 l.toArray := by
  obtain ⟨o', ho', hver, hsz, _, hlc, hcm, _, hnh, hh⟩ := hi.own 0 _ rfl
  rw [ho] at ho'
  obtain rfl : o = o' := by simpa using ho'
  obtain ⟨c, fz, hc, hfz, hcs, hcell⟩ := hh hhas
  rw [Nat.mul_one] at hcs
  simp only [List.length_map] at hlc
  refine ⟨c, fz, hc, ?_⟩
  have hcell' : ∀ j (h : j < l.length), c[j]? = some (.int .i64 l[j]) := by
    intro j h
    obtain ⟨x, h1, h2⟩ := hcell j 0 [.int .i64 l[j]] (.int .i64 l[j]) (by simp [h]) (by simp)
    cases h2
    simpa using h1
  intro j hj
  have hj' : j < l.length := by simpa using hj
  have hjc : j < c.size := by omega
  constructor
  · have := hcell' j hj'
    simp only [World.cell?, hc, Nat.zero_add]
    simp [this, hj']
  · simp only [World.frozen?, hc]
    rcases hfz with rfl | hfz
    · simp
    · obtain ⟨lo, hi'⟩ := fz
      simp at hfz ⊢
      omega

theorem own_arg {G : Gh} {w : World} {v : Nat} {T : TypeId} {l : List Int} {vs : List Value}
    (hi : Inv G [.arr 1 v T (l.map fun x => [.int .i64 x])] w) (ha : All2 (RepP G) [.c (.osl 0 v 0 l.length)] vs) :
    ∃ o a, G.own[0]? = some (some o) ∧ o.ver = v ∧ vs = [.slice a l.length o.cap] ∧ l.length ≤ o.cap ∧ (l ≠ [] → o.has = true ∧ a = some ⟨o.blk, 0, none⟩) := by
  obtain ⟨o, ho, hver, hsz, _, hlc, hcm, _, hnh, hh⟩ := hi.own 0 _ rfl
  simp only [List.length_map] at hlc
  match vs, ha with
  | [v0], ha =>
    obtain ⟨hv0, _⟩ := ha
    obtain ⟨_, oo, hoo, hsl⟩ := hv0
    rw [ho] at hoo
    obtain rfl : some o = oo := by simpa using hoo
    obtain ⟨hcap, a, rfl, haddr⟩ := (hsl o rfl).2 hver.symm
    refine ⟨o, a, ho, hver, rfl, hlc, fun he => ?_⟩
    have hpos : 0 < l.length := List.length_pos_iff.2 he
    have hhas : o.has = true := by
      cases h : o.has with
      | true => rfl
      | false => have := hnh h; omega
    obtain ⟨a', rfl, ha'⟩ := haddr hhas
    obtain rfl := ha' (by omega)
    exact ⟨hhas, by simp⟩

theorem sort_spec {P : Program} {ρ : Ren} (Ly : Lays.n189 P ρ) {f : FuncId} (hf : ρ.f 189 = f) (hb : ∃ fn, P.funcs[f]? = some fn ∧ fn.body.isSome = true ∧ (fn.name == "runtime.NumGoroutine") = false)
    (T : TypeId) (v : Nat) (l : List Int) (hl : l.length ≤ 140737488355328) :
    Spec P f [.c (.osl 0 v 0 l.length)] [.arr 1 v T (l.map fun x => [.int .i64 x])] (fun p σ => p = .t [] ∧ σ = [.arr 1 v T ((sortI l).map fun x => [.int .i64 x])]) (fun _ _ => False) := by
  subst hf
  refine ⟨hb, fun G w vs hna hi ha => ?_⟩
  obtain ⟨o, a, ho, hver, rfl, hlc, hx⟩ := own_arg hi ha
  by_cases he : l = []
  · subst he
    refine (Any.slices_Sort_int_none Ly a _ w).mono ?_
    rintro e w' ⟨rfl, rfl⟩
    exact ⟨G, _, .t [], .tuple #[], Gle.refl G, hi, ⟨[], rfl, trivial⟩, .inl ⟨rfl, rfl, by simp [sortI]⟩⟩
  · obtain ⟨hhas, rfl⟩ := hx he
    obtain ⟨c, fz, hc, hH⟩ := holds_own hi ho hhas
    refine (Any.slices_Sort_int Ly o.blk 0 o.cap l w hH (Array.getElem?_eq_some_iff.1 hc).1 (by omega)).mono ?_
    rintro e w' ⟨rfl, n, os, rfl⟩
    exact ⟨G, _, .t [], .tuple #[], Gle.refl G, inv_sorted hi ho hhas hc (Nat.le_of_eq (sortI_length l)) (sortI_length l) (List.prefix_rfl), ⟨[], rfl, trivial⟩, .inl ⟨rfl, rfl, rfl⟩⟩

theorem compact_le (l : List Int) : (Go.Lib.compact l).length ≤ l.length := by
  simp only [Go.Lib.compact, Go.Lib.compactUpTo, List.length_map]
  exact Nat.le_trans (List.length_filter_le _ _) (by simp)

theorem compact_spec {P : Program} {ρ : Ren} (Ly : Lays2.n20 P ρ) {f : FuncId} (hf : ρ.f 20 = f) (hb : ∃ fn, P.funcs[f]? = some fn ∧ fn.body.isSome = true ∧ (fn.name == "runtime.NumGoroutine") = false)
    (T : TypeId) (v : Nat) (l : List Int) (hl : l.length ≤ 140737488355328) :
    Spec P f [.c (.osl 0 v 0 l.length)] [.arr 1 v T (l.map fun x => [.int .i64 x])] (fun p σ => p = .c (.osl 0 v 0 (Go.Lib.compact l).length) ∧ σ = [.arr 1 v T ((Go.Lib.compact l).map fun x => [.int .i64 x])]) (fun _ _ => False) := by
  subst hf
  refine ⟨hb, fun G w vs hna hi ha => ?_⟩
  obtain ⟨o, a, ho, hver, rfl, hlc, hx⟩ := own_arg hi ha
  by_cases he : l = []
  · subst he
    refine (calls_of_every_depth fun D => AnyS.slices_Compact_int_empty_in Ly D a _ w).mono ?_
    rintro e w' ⟨rfl, rfl⟩
    have : Go.Lib.compact ([] : List Int) = [] := List.eq_nil_of_length_eq_zero (Nat.le_zero.1 (compact_le []))
    rw [this]
    exact ⟨G, _, .c (.osl 0 v 0 0), _, Gle.refl G, hi, ha.1, .inl ⟨rfl, rfl, rfl⟩⟩
  · obtain ⟨hhas, rfl⟩ := hx he
    obtain ⟨c, fz, hc, hH⟩ := holds_own hi ho hhas
    refine (calls_of_every_depth fun D => AnyS.slices_Compact_int_in Ly D o.blk 0 o.cap l w hH (by omega) hlc).mono ?_
    rintro e w' ⟨rfl, n, rfl⟩
    have hcl := compact_le l
    have hg : ∀ (W : World), Go.Sort.grow W #[] = W := fun W => by simp [Go.Sort.grow]
    have := inv_sorted (n := n) (os := #[]) hi ho hhas hc hcl (d := Go.Lib.compact l ++ List.replicate (l.length - (Go.Lib.compact l).length) 0) (by simp; omega) (List.prefix_append _ _)
    rw [hg] at this
    refine ⟨G, _, .c (.osl 0 v 0 (Go.Lib.compact l).length), _, Gle.refl G, this, ?_, .inl ⟨rfl, rfl, rfl⟩⟩
    obtain ⟨hv0, _⟩ := ha
    obtain ⟨_, oo, hoo, hsl⟩ := hv0
    rw [ho] at hoo
    obtain rfl : some o = oo := by simpa using hoo
    obtain ⟨hcap, a, hae, haddr⟩ := (hsl o rfl).2 hver.symm
    refine ⟨rfl, some o, ho, fun o' ho' => ?_⟩
    obtain rfl : o = o' := by simpa using ho'
    refine ⟨by omega, fun _ => ⟨by omega, some ⟨o.blk, 0, none⟩, by simp, fun h => ⟨_, rfl, fun _ => by simp⟩⟩⟩
end Pam

/- a table's entry: an array of plain integers at a place that is reckoned -/
namespace Pam
open Go
section
variable {P : Program} {E : Env} {σ : List OB}
theorem getD_map_int (k : IntKind) (L : List Int) (n : Nat) (h : n < L.length) : (L.map (CV.int k)).getD n .junk = .int k (L.getD n 0) := by
  simp [List.getD, h]
theorem Ext_idx {o : Oper} {T : TypeId} {x i : Operand} {ys : List CV} {k k' : IntKind} {n : Int} (L : List Int) (m : Nat) (ho : o.op = .index T x i) (hx : ev E x = ⟨true, .a ys⟩) (hi : ev E i = ⟨true, .c (.int k' n)⟩)
    (hy : ys = L.map (CV.int k)) (hC : isArr P T = true ∧ knownT P (P.elem T) = true ∧ P.arrayLen T * P.cellsOf (P.elem T) ≤ L.length ∧ aggT P (P.elem T) = false ∧ P.cellsOf (P.elem T) = 1) (hl : P.arrayLen T = m) (hm : L.length = m)
    (h0 : 0 ≤ n) (h1 : n < (m : Int)) : ExtTo P E σ o (.c (.int k (L.getD n.toNat 0))) σ := .quiet fun G a w hs => by
  subst hy
  have h : ∃ C, indexR P true T (ev E x) (ev E i) = .ok C (.c ((L.map (CV.int k)).getD n.toNat .junk)) ∧ C := by
    rw [hx, hi]
    refine ⟨_, by unfold indexR; rfl, ?_⟩
    exact ⟨fun _ => rfl, fun _ => rfl, hC.1, hC.2.1, by simpa using hC.2.2.1, hC.2.2.2.1, hC.2.2.2.2, fun _ => ⟨h0, by rw [hl]; exact h1⟩⟩
  obtain ⟨C, h, hc⟩ := h
  obtain ⟨r, e1, e2⟩ := indexR_ok (P := P) (G := G) (w := w) h hc rfl (ev_rep hs x) (ev_rep hs i)
  have : n.toNat < L.length := by omega
  rw [getD_map_int k L n.toNat this] at e2
  exact ⟨r, by simp only [execOp, ho]; exact run_v e1, e2⟩
theorem flatten_get {s : Nat} {x : CV} : ∀ {es : List (List CV)} {i j : Nat} {e : List CV}, (∀ e ∈ es, e.length = s) → es[i]? = some e → e[j]? = some x → es.flatten[i * s + j]? = some x
  | [], i, j, e, _, h, _ => by simp at h
  | a :: es, 0, j, e, hl, h, hx => by
    obtain rfl : a = e := by simpa using h
    have hj : j < a.length := by
      rcases Nat.lt_or_ge j a.length with h' | h'
      · exact h'
      · rw [List.getElem?_eq_none h'] at hx; cases hx
    rw [List.flatten_cons, Nat.zero_mul, Nat.zero_add, List.getElem?_append_left hj]; exact hx
  | a :: es, i + 1, j, e, hl, h, hx => by
    have ha : a.length = s := hl a (by simp)
    rw [List.flatten_cons, List.getElem?_append_right (by rw [ha, Nat.add_mul]; omega)]
    have := flatten_get (es := es) (i := i) (fun e he => hl e (by simp [he])) (by simpa using h) hx
    rw [ha, show (i + 1) * s + j - s = i * s + j by rw [Nat.add_mul]; omega]
    exact this

/-- an array of its own, whose places are reckoned -/
theorem Ext_allocA {o : Oper} {T : TypeId} (s : Nat) (es : List (List CV)) (ho : o.op = .alloc T) (hz : zeroC P T = some es.flatten) (hs : 0 < s) (hl : ∀ e ∈ es, e.length = s) (hn : 0 < es.length) (hm : es.length ≤ 1000000) :
    ExtTo P E σ o (.c (.oel σ.length 0 0 0)) (σ ++ [.arr s 0 T es]) := fun G a w hs' => by
  have hi := hs'.inv
  obtain ⟨i, u, h1, h2, h3, h4, _, h5⟩ := zeroC_all G hz
  have hlen : es.flatten.length = es.length * s := by
    rw [List.length_flatten, List.map_congr_left (g := fun _ => s) hl, List.map_const', List.sum_replicate_nat]
  have hcs : u.cells.size = es.length * s := by
    have := h5.length; simp only [Array.length_toList] at this; omega
  obtain ⟨G', k1, k2, k3, k4⟩ := push_arr (s := s) (T := T) (es := es) (c := u.cells) (cap := es.length) (w' := w.alloc (.cells u.cells T)) hi (.inr rfl) hs (Nat.le_refl _) (by have h9 : maxLen = 9223372036854775807 := rfl; omega) hl hcs
    (by
      intro i j e x hi1 hj1
      have hf := flatten_get hl hi1 hj1
      obtain ⟨v, hv, hr⟩ := h5.get _ _ hf
      exact ⟨v, by show u.cells[i * s + j]? = some v; rw [← Array.getElem?_toList]; exact hv, hr⟩) es.length (Nat.le_refl _)
  refine ⟨_, _, _, G', ?_, .inl rfl, k1, k2, k3, (?_ : RepP G' (.c (.oel σ.length 0 0 0)) (.pointer (some ⟨w.heap.size, 0, none⟩)))⟩
  · simp [execOp, ho, Instr.alloc, run_zeroValue h1 h2, newVar, newRow]
  · obtain ⟨_, oo, hoo, hsl⟩ := k4
    refine ⟨rfl, oo, hoo, fun o e => ?_⟩
    subst e
    obtain ⟨g1, g2⟩ := hsl o rfl
    refine ⟨g1, fun hv => ?_⟩
    obtain ⟨hcap, ad, hval, hha⟩ := g2 hv
    obtain ⟨o', q1, q2, q3, q4, q5, q6, q7, q8, q9⟩ := k3.own σ.length (.arr s 0 T es) (by simp)
    rw [hoo] at q1
    obtain rfl : o = o' := by simpa using q1
    have hh : o.has = true := by
      cases hh : o.has with
      | true => rfl
      | false => have := q8 hh; omega
    obtain ⟨a', rfl, ha'⟩ := hha hh
    have := ha' (by omega)
    subst this
    simp only [Value.slice.injEq, Option.some.injEq] at hval
    have h0 := hval.1
    simp only [Addr.mk.injEq] at h0
    rw [← h0.1]
    simp
/-- nil, cut at a place that is none -/
theorem Ext_slNh {o : Oper} {T : TypeId} {x : Operand} {lo hi : Option Operand} {e1 e2 : Ent} {h : Int} (ho : o.op = .slice T x lo hi none)
    (hx : ev E x = ⟨true, .c .nils⟩) (hT : isSl P T = true) (hk : knownT P (P.elem T) = true)
    (h1 : bnd 0 (lo.map (ev E)) = some (e1, 0)) (h2 : bnd 0 (hi.map (ev E)) = some (e2, h)) (c1 : e1.cond = true) (c2 : e2.cond = true) (hz : h = 0) :
    ExtTo P E σ o (.c .nils) σ := by
  subst hz
  exact Ext_slN ho hx hT hk h1 h2 c1 c2
end
end Pam

/- sorted and each once: the one list of its members -/
namespace Pam
open Go

def ins : List Int → Int → List Int
  | [], n => [n]
  | x :: xs, n => if x ≥ n then (if x > n then n :: x :: xs else x :: xs) else x :: ins xs n

theorem mem_ins (l : List Int) (n y : Int) : y ∈ ins l n ↔ y = n ∨ y ∈ l := by
  induction l with
  | nil => simp [ins]
  | cons x xs ih =>
    unfold ins
    split
    · split
      · simp
      · have : x = n := by omega
        subst this; simp
    · simp only [List.mem_cons, ih]
      constructor
      · rintro (h | h | h) <;> simp [h]
      · rintro (h | h | h) <;> simp [h]

theorem ins_sorted {l : List Int} (h : l.Pairwise (· < ·)) (n : Int) : (ins l n).Pairwise (· < ·) := by
  induction l with
  | nil => simp [ins]
  | cons x xs ih =>
    obtain ⟨h1, h2⟩ := List.pairwise_cons.1 h
    unfold ins
    split
    · split
      · refine List.pairwise_cons.2 ⟨?_, h⟩
        intro a ha
        rcases List.mem_cons.1 ha with rfl | ha
        · omega
        · have := h1 a ha; omega
      · exact h
    · refine List.pairwise_cons.2 ⟨?_, ih h2⟩
      intro a ha
      rcases (mem_ins xs n a).1 ha with rfl | ha
      · omega
      · exact h1 a ha

theorem sorted_uniq : ∀ {l l' : List Int}, l.Pairwise (· < ·) → l'.Pairwise (· < ·) → (∀ x, x ∈ l ↔ x ∈ l') → l = l'
  | [], [], _, _, _ => rfl
  | [], b :: l', _, _, h => by have := (h b).2 (by simp); simp at this
  | a :: l, [], _, _, h => by have := (h a).1 (by simp); simp at this
  | a :: l, b :: l', hl, hl', h => by
    obtain ⟨h1, h2⟩ := List.pairwise_cons.1 hl
    obtain ⟨k1, k2⟩ := List.pairwise_cons.1 hl'
    have e : a = b := by
      have ha := (h a).1 (by simp)
      have hb := (h b).2 (by simp)
      rcases List.mem_cons.1 ha with e | ha
      · exact e
      · rcases List.mem_cons.1 hb with e | hb
        · exact e.symm
        · have := h1 b hb; have := k1 a ha; omega
    subst e
    rw [sorted_uniq h2 k2 fun x => ?_]
    constructor
    · intro hx
      rcases List.mem_cons.1 ((h x).1 (by simp [hx])) with rfl | h'
      · have := h1 x hx; omega
      · exact h'
    · intro hx
      rcases List.mem_cons.1 ((h x).2 (by simp [hx])) with rfl | h'
      · have := k1 x hx; omega
      · exact h'

theorem mem_sortI (l : List Int) (x : Int) : x ∈ sortI l ↔ x ∈ l := by simp [sortI, List.mem_mergeSort]

theorem sortI_sorted (l : List Int) : (sortI l).Pairwise (· ≤ ·) := by
  have := List.pairwise_mergeSort (le := fun x y : Int => decide (x ≤ y)) (by intro a b c; simp; omega) (by intro a b; simp; omega) l
  exact this.imp (by simp)

theorem compact_mem (l : List Int) (x : Int) : x ∈ Go.Lib.compact l ↔ x ∈ l := by
  simp only [Go.Lib.compact, Go.Lib.compactUpTo, List.mem_map, List.mem_filter, List.mem_range]
  constructor
  · rintro ⟨i, ⟨h1, _⟩, rfl⟩
    simp [h1]
  · intro hx
    obtain ⟨i, hi, rfl⟩ := List.mem_iff_getElem.1 hx
    have key : ∀ n i (hi : i < l.length), i = n → ∃ j, (j < l.length ∧ Go.Lib.keeps l.toArray j = true) ∧ l.toArray[j]! = l[i] := by
      intro n
      induction n with
      | zero => intro i hi e; subst e; exact ⟨0, ⟨hi, by simp [Go.Lib.keeps]⟩, by simp [hi]⟩
      | succ n ih =>
        intro i hi e
        subst e
        by_cases hk : Go.Lib.keeps l.toArray (n + 1) = true
        · exact ⟨n + 1, ⟨hi, hk⟩, by simp [hi]⟩
        · obtain ⟨j, h1, h2⟩ := ih n (by omega) rfl
          refine ⟨j, h1, h2.trans ?_⟩
          have hn : n < l.length := by omega
          simp [Go.Lib.keeps, hi, hn] at hk
          exact hk.symm
    exact key i i hi rfl

theorem compact_sorted {l : List Int} (h : l.Pairwise (· ≤ ·)) : (Go.Lib.compact l).Pairwise (· < ·) := by
  simp only [Go.Lib.compact, Go.Lib.compactUpTo, List.pairwise_map]
  have hm : ∀ i j, i ≤ j → (hj : j < l.length) → l.toArray[i]! ≤ l.toArray[j]! := by
    intro i j hij hj
    have hi : i < l.length := by omega
    simp only [List.getElem!_toArray, getElem!_pos l i hi, getElem!_pos l j hj]
    rcases Nat.lt_or_ge i j with h' | h'
    · exact List.pairwise_iff_getElem.1 h i j hi hj h'
    · have : i = j := by omega
      subst this; exact Int.le_refl _
  refine List.Pairwise.imp_of_mem ?_ ((List.pairwise_lt_range (n := l.length)).filter _)
  intro i j hi hj hij
  simp only [List.mem_filter, List.mem_range, Go.Lib.keeps, decide_eq_true_eq] at hi hj
  have h1 := hm i (j - 1) (by omega) (by omega)
  have h2 := hm (j - 1) j (by omega) hj.1
  have h3 : l.toArray[j]! ≠ l.toArray[j - 1]! := by
    rcases hj.2 with h' | h'
    · omega
    · exact h'
  omega

/-- sorted and each once, and inserted one by one: the same -/
theorem compact_sort_eq (l : List Int) : Go.Lib.compact (sortI l) = l.foldl ins [] := by
  have key : ∀ (l a : List Int), a.Pairwise (· < ·) → (l.foldl ins a).Pairwise (· < ·) ∧ ∀ x, x ∈ l.foldl ins a ↔ x ∈ a ∨ x ∈ l := by
    intro l
    induction l with
    | nil => intro a ha; simpa using ha
    | cons y l ih =>
      intro a ha
      obtain ⟨h1, h2⟩ := ih (ins a y) (ins_sorted ha y)
      refine ⟨h1, fun x => ?_⟩
      rw [List.foldl_cons, h2 x, mem_ins]
      simp only [List.mem_cons]
      constructor
      · rintro ((h | h) | h) <;> simp [h]
      · rintro (h | h | h) <;> simp [h]
  obtain ⟨h1, h2⟩ := key l [] List.Pairwise.nil
  refine sorted_uniq (compact_sorted (sortI_sorted l)) h1 fun x => ?_
  rw [compact_mem, mem_sortI, h2]
  simp
end Pam

/- Regions whose order is open, with stores into own boxes that nothing else in the region looks at: such a store need not be ordered with what makes no sound. -/
namespace Pam
open Go

/-- does a value's top refer to none of these blocks? -/
def okRef (pv : List Nat) (p : PV) : Bool := match topRef p with | some b => !pv.contains b | none => true

/-- the same own heap, but for these blocks -/
def Near (pv : List Nat) (σ σ' : List OB) : Prop := σ.length ≤ σ'.length ∧ ∀ b, b ∉ pv → b < σ.length → σ'[b]? = σ[b]?
theorem Near.refl (pv : List Nat) (σ : List OB) : Near pv σ σ := ⟨Nat.le_refl _, fun _ _ _ => rfl⟩
theorem Near.trans {pv : List Nat} {σ σ' σ'' : List OB} (h : Near pv σ σ') (h' : Near pv σ' σ'') : Near pv σ σ'' :=
  ⟨Nat.le_trans h.1 h'.1, fun b hb hl => (h'.2 b hb (Nat.lt_of_lt_of_le hl h.1)).trans (h.2 b hb hl)⟩
theorem Near.of_ext {pv : List Nat} {σ σ' : List OB} (h : Ext σ σ') : Near pv σ σ' := by
  obtain ⟨ρ, rfl⟩ := h
  exact ⟨by simp, fun b _ hb => List.getElem?_append_left hb⟩

/-- the closed conditions: also, what makes no sound and is not ordered with such a store has its slots in the list that is looked at -/
def chkP (ops : Array Oper) (l : List Oper) (masks : List Nat) (bar prv : List Bool) (rd : List (List Nat)) : Bool :=
  chk ops l masks bar &&
  (l.zipIdx.all fun (x, i) => loudB x || (x.looksAt ops).all (fun t => (rd.getD i []).contains t) || l.zipIdx.all fun (_, j) => !(prv.getD j false) || ordB masks i j)

def TStepP (P : Program) (ops : Array Oper) (pv : List Nat) (E : Env) (σ : List OB) (o : Oper) (bar prv : Bool) (rd : List Nat) (ts : TS) : Prop :=
  guardOf ops E o.guard = some ts.γ ∧ dstOk E o.dst ∧
  ((∃ C v, run1 P ts.γ E σ o.op = .ok C v ∧ C ∧ (rd.all fun t => okRef pv (E.get t).v) = true ∧ ts.e = ⟨ts.γ, v⟩ ∧ ts.σ = σ) ∨
   (ts.γ = true ∧ ∃ C v, run1 P ts.γ E σ o.op = .upd C v ts.σ ∧ C ∧ ts.e = ⟨true, v⟩ ∧ (bar = true ∨ Ext σ ts.σ ∨ (prv = true ∧ Near pv σ ts.σ))) ∨
   (∃ C f args r, run1 P ts.γ E σ o.op = .call C f args ∧ (ts.γ = true → C ∧ SpecF P f args r) ∧ args.all PV.noOwn = true ∧ (∀ n, r.ren (back n []) = r) ∧ ts.e = ⟨ts.γ, r⟩ ∧ ts.σ = σ) ∨
   (ts.γ = false ∧ ts.e = ⟨true, .t []⟩ ∧ ts.σ = σ) ∨
   (ts.γ = true ∧ ∃ C f args p, run1 P ts.γ E σ o.op = .call C f args ∧ C ∧ CallTo P σ f args p ts.σ ∧ ts.e = ⟨true, p⟩ ∧ (bar = true ∨ Ext σ ts.σ)))

def TraceP (P : Program) (ops : Array Oper) (pv : List Nat) : List Oper → List Bool → List Bool → List (List Nat) → Env → List OB → List TS → Prop
  | [], _, _, _, _, _, tr => tr = []
  | o :: l, bs, ps, rd, E, σ, tr => ∃ ts r, tr = ts :: r ∧ TStepP P ops pv E σ o (bs.headD false) (ps.headD false) (rd.headD []) ts ∧ TraceP P ops pv l bs.tail ps.tail rd.tail (E.putD o.dst ts.e) ts.σ r

section
variable {P : Program} {ops : Array Oper} {pv : List Nat}

theorem TraceP.at : ∀ {l : List Oper} {bs ps : List Bool} {rd : List (List Nat)} {E : Env} {σ : List OB} {tr : List TS}, TraceP P ops pv l bs ps rd E σ tr → tr.length = l.length ∧
    ∀ (i : Nat) (o : Oper), l[i]? = some o → ∃ ts, tr[i]? = some ts ∧ TStepP P ops pv (envAt E l tr i) (heapAt σ tr i) o (bs.getD i false) (ps.getD i false) (rd.getD i []) ts ∧ heapAt σ tr (i + 1) = ts.σ
  | [], bs, ps, rd, E, σ, tr, h => by simp only [TraceP] at h; subst h; exact ⟨rfl, fun i o h => by simp at h⟩
  | o :: l, bs, ps, rd, E, σ, tr, h => by
    obtain ⟨ts, r, rfl, h1, h2⟩ := h
    obtain ⟨h3, h4⟩ := TraceP.at h2
    refine ⟨by simp [h3], fun i o' ho => ?_⟩
    cases i with
    | zero =>
      simp only [List.getElem?_cons_zero, Option.some.injEq] at ho
      subst ho
      refine ⟨ts, rfl, ?_, ?_⟩
      · cases bs <;> cases ps <;> cases rd <;> exact h1
      · cases r <;> rfl
    | succ i =>
      obtain ⟨ts', k1, k2, k3⟩ := h4 i o' (by simpa using ho)
      refine ⟨ts', by simpa using k1, ?_, ?_⟩
      · cases bs <;> cases ps <;> cases rd <;> simpa [envAt, heapAt] using k2
      · simpa [heapAt] using k3

theorem heapAt_near {σ : List OB} {tr : List TS} (l : List Oper) (hlen : tr.length = l.length) (p : Nat) : ∀ (q : Nat), p ≤ q → q ≤ l.length → (∀ j, p ≤ j → j < q → Near pv (heapAt σ tr j) (heapAt σ tr (j + 1))) → Near pv (heapAt σ tr p) (heapAt σ tr q)
  | 0, h, _, _ => by have : p = 0 := by omega
                     subst this; exact Near.refl _ _
  | q + 1, h, hq, he => by
    by_cases e : p = q + 1
    · subst e; exact Near.refl _ _
    · exact (heapAt_near l hlen p q (by omega) (by omega) fun j h1 h2 => he j h1 (by omega)).trans (he q (by omega) (by omega))

theorem heap_quietP {l : List Oper} {bs ps : List Bool} {rd : List (List Nat)} {E : Env} {σ : List OB} {tr : List TS} (ht : TraceP P ops pv l bs ps rd E σ tr) {j : Nat} {o : Oper} (ho : l[j]? = some o) (hq : loudB o = false) : heapAt σ tr (j + 1) = heapAt σ tr j := by
  obtain ⟨_, h⟩ := ht.at
  obtain ⟨ts, _, h2, h3⟩ := h j o ho
  rw [h3]
  obtain ⟨q1, q2⟩ := quiet_loud (P := P) (γ := ts.γ) (E := envAt E l tr j) (σ := heapAt σ tr j) hq
  rcases h2.2.2 with ⟨_, _, _, _, _, _, h⟩ | ⟨_, C, v, h, _⟩ | ⟨C, f, args, r, h, _⟩ | ⟨_, _, h⟩ | ⟨_, C, f, args, p, h, _⟩
  · exact h
  · exact (q1 _ _ _ h).elim
  · exact (q2 _ _ _ h).elim
  · exact h
  · exact (q2 _ _ _ h).elim

theorem heap_sameP {l : List Oper} {bs ps : List Bool} {rd : List (List Nat)} {E : Env} {σ : List OB} {tr : List TS} (ht : TraceP P ops pv l bs ps rd E σ tr) {p q : Nat} (hpq : p ≤ q) (hq : q ≤ l.length)
    (h : ∀ (j : Nat) (o : Oper), l[j]? = some o → p ≤ j → j < q → loudB o = false) : heapAt σ tr q = heapAt σ tr p := by
  induction q with
  | zero => have : p = 0 := by omega
            subst this; rfl
  | succ q ih =>
    by_cases e : p = q + 1
    · subst e; rfl
    · have hl : q < l.length := by omega
      rw [heap_quietP ht (List.getElem?_eq_getElem hl) (h q _ (List.getElem?_eq_getElem hl) (by omega) (by omega))]
      exact ih (by omega) (by omega) fun j o ho h1 h2 => h j o ho h1 (by omega)

theorem step_near {l : List Oper} {bs ps : List Bool} {rd : List (List Nat)} {E : Env} {σ : List OB} {tr : List TS} (ht : TraceP P ops pv l bs ps rd E σ tr) {j : Nat} {o : Oper} (ho : l[j]? = some o) (hb : bs.getD j false = false) :
    (ps.getD j false = false → Ext (heapAt σ tr j) (heapAt σ tr (j + 1))) ∧ Near pv (heapAt σ tr j) (heapAt σ tr (j + 1)) := by
  obtain ⟨_, h⟩ := ht.at
  obtain ⟨ts, _, h2, h3⟩ := h j o ho
  rw [h3]
  have same : ∀ σ' : List OB, σ' = heapAt σ tr j → (ps.getD j false = false → Ext (heapAt σ tr j) σ') ∧ Near pv (heapAt σ tr j) σ' := fun σ' e => by
    subst e; exact ⟨fun _ => ⟨[], by simp⟩, Near.refl _ _⟩
  have ext : Ext (heapAt σ tr j) ts.σ → (ps.getD j false = false → Ext (heapAt σ tr j) ts.σ) ∧ Near pv (heapAt σ tr j) ts.σ := fun e => ⟨fun _ => e, .of_ext e⟩
  rcases h2.2.2 with ⟨_, _, _, _, _, _, h⟩ | ⟨_, C, v, h, _, _, h'⟩ | ⟨C, f, args, r, h, _, _, _, _, h'⟩ | ⟨_, _, h'⟩ | ⟨_, C, f, args, p, h, _, _, _, h'⟩
  · exact same _ h
  · rcases h' with h' | h' | ⟨h', h''⟩
    · rw [hb] at h'; cases h'
    · exact ext h'
    · exact ⟨fun hp => by (rw [hp] at h'; cases h'), h''⟩
  · exact same _ h'
  · exact same _ h'
  · rcases h' with h' | h'
    · rw [hb] at h'; cases h'
    · exact ext h'

structure ChkP (ops : Array Oper) (l : List Oper) (masks : List Nat) (bar prv : List Bool) (rd : List (List Nat)) : Prop where
  base : Chk ops l masks bar
  see : ∀ (i : Nat) (o : Oper), l[i]? = some o → loudB o = false → (∀ t ∈ o.looksAt ops, t ∈ rd.getD i []) ∨ ∀ j y, l[j]? = some y → prv.getD j false = true → ordB masks i j = true

theorem chkP_ok {ops : Array Oper} {l : List Oper} {masks : List Nat} {bar prv : List Bool} {rd : List (List Nat)} (h : chkP ops l masks bar prv rd = true) : ChkP ops l masks bar prv rd := by
  unfold chkP at h
  simp only [Bool.and_eq_true, List.all_eq_true] at h
  obtain ⟨h1, h2⟩ := h
  refine ⟨chk_ok h1, fun i o ho hq => ?_⟩
  have m : ∀ (i : Nat) (o : Oper), l[i]? = some o → (o, i) ∈ l.zipIdx := fun i o ho => by
    rw [List.mem_zipIdx_iff_getElem?]; simpa using ho
  have := h2 _ (m i o ho)
  simp only [Bool.or_eq_true, hq, Bool.false_eq_true, false_or, List.all_eq_true] at this
  rcases this with h | h
  · exact .inl fun t ht => by simpa using h t ht
  · right
    intro j y hy hp
    have := h _ (m j y hy)
    simpa only [hp, Bool.not_true, Bool.false_or, Bool.false_eq_true, false_or] using this

theorem cellOf_top {v : Value} {c : CV} (h : cellOf v = some c) : topRef (.c c) = none := by
  unfold cellOf at h
  split at h <;> first | (cases h; rfl) | cases h
theorem cvOf_top (v : Value) : topRef (cvOf v).v = none := by
  unfold cvOf
  split
  · split <;> rfl
  · split
    · rename_i h; exact cellOf_top h
    · rfl

theorem StJ.stepP {l : List Oper} {bs ps : List Bool} {rd : List (List Nat)} {masks : List Nat} {E : Env} {σ : List OB} {tr : List TS} (cP : ChkP l.toArray l masks bs ps rd) (ht : TraceP P l.toArray pv l bs ps rd E σ tr) (G0 : Gh) {Q : Exit → Act → World → Prop} (listed : Array Bool) (a : Act) (w : World) (i : Nat)
    (hJ : StJ l tr E σ G0 listed a w) (hready : i ∈ Region.ready .any l.toArray listed) : wpOp P l.toArray Q i (StJ l tr E σ G0 (listed.setIfInBounds i true)) a w := by
  have c := cP.base
  obtain ⟨hsz, hcl, G, p, hG, hp, hloud, hinv, hdef, htm, hna, hslot⟩ := hJ
  obtain ⟨hun, o, ho', hdeps⟩ := mem_ready.1 hready
  have ho : l[i]? = some o := by simpa using ho'
  have hil : i < l.length := (List.getElem?_eq_some_iff.1 ho).1
  have hi0 : listed.getD i false = false := by
    rw [Array.getD_eq_getD_getElem?] at hun ⊢
    rw [Array.getElem?_eq_getElem (by omega)] at hun ⊢
    simpa using hun
  have hr : ∀ j ∈ edgesOf o, listed.getD j false = true := by
    intro j hj
    simp only [edgesOf, List.mem_map, List.mem_filter] at hj
    obtain ⟨e, ⟨h1, h2⟩, rfl⟩ := hj
    exact hdeps e (by simpa using h1) h2
  have hdone := fun {j : Nat} {y : Oper} (hy : l[j]? = some y) (hord : ordB masks i j = true ∨ ordB masks j i = true) => c.done hcl ho hi0 hr hy hord
  obtain ⟨htl, hat⟩ := ht.at
  obtain ⟨ts, hts, ⟨hguard, hdst, hstep⟩, hnext⟩ := hat i o ho
  have hcl' : Closed l (fun k => (listed.setIfInBounds i true).getD k false) := by
    intro k ok hk hd j hj
    simp only at hd ⊢
    rw [setD _ _ _ (by omega)] at hd ⊢
    by_cases e : k = i
    · subst e; rw [ho] at hk; simp only [Option.some.injEq] at hk; subst hk
      by_cases e' : j = k
      · rw [if_pos e']
      · rw [if_neg e']; exact hr j hj
    · rw [if_neg e] at hd
      by_cases e' : j = i
      · rw [if_pos e']
      · rw [if_neg e']; exact hcl k ok hk hd j hj
  have hsz' : (listed.setIfInBounds i true).size = l.length := by simpa using hsz
  -- the state in which the operation runs
  have hEn := envAt_n l tr E i
  have hlook := c.look i o ho
  have hreads : ∀ t ∈ o.looksAt l.toArray, (envAt E l tr i).get t = slotD t l tr (fun j => listed.getD j false) (E.get t) := by
    intro t htm'
    rw [envAt_get t l tr E i (fun j o x hj hd => c.dst j o hj x hd) htl]
    apply slotD_congr
    intro j y hy hd
    refine (hdone hy (.inr ?_)).symm
    refine c.hit j i y o hy ho ?_
    simp only [hits, hd, Bool.or_eq_true]
    left
    simpa using htm'
  have hres := restrict_get (envAt E l tr i) (o.looksAt l.toArray)
  have hgetr : ∀ t ∈ o.looksAt l.toArray, (restrict (envAt E l tr i) (o.looksAt l.toArray)).get t = (envAt E l tr i).get t := fun t h => (hres t hlook).1 h
  have hsim : Sim G (restrict (envAt E l tr i) (o.looksAt l.toArray)) (heapAt σ tr p) a w := by
    refine ⟨hinv, hdef, by rw [(restrict_n _ _).1, hEn.1]; exact htm, by rw [(restrict_n _ _).2, hEn.2]; exact hna, fun t hc => ?_⟩
    by_cases hmem : t ∈ o.looksAt l.toArray
    · rw [hgetr t hmem, hreads t hmem] at hc ⊢
      exact hslot t (hlook t hmem) hc
    · rw [(hres t hlook).2 hmem] at hc; cases hc
  have hops : ∀ x ∈ o.op.operands, ev (restrict (envAt E l tr i) (o.looksAt l.toArray)) x = ev (envAt E l tr i) x := by
    intro x hx
    refine ev_congr (ts := o.looksAt l.toArray) (fun t h => hgetr t h) x fun t e => ?_
    subst e
    simp only [Oper.looksAt, List.mem_append, List.mem_filterMap]
    left
    exact ⟨.tmp t, by simpa using hx, rfl⟩
  have hguard' : guardOf l.toArray (restrict (envAt E l tr i) (o.looksAt l.toArray)) o.guard = some ts.γ := by
    rw [guardOf_congr o hgetr]; exact hguard
  have hwant := guard_ok (P := P) hsim hguard'
  have hdlt : ∀ d, o.dst = some d → d < a.tmps.size := by
    intro d hd
    rw [htm]
    rw [hd] at hdst
    have h' : d < (envAt E l tr i).n := hdst
    rwa [hEn.1] at h'
  -- the slots behind it
  have hslot' : ∀ (G' : Gh) (val : Value), (∀ q v, RepP G q v → RepP G' q v) → (ts.e.cond = true → RepP G' ts.e.v val) → ∀ t, t < 512 →
      (slotD t l tr (fun k => (listed.setIfInBounds i true).getD k false) (E.get t)).cond = true →
      RepP G' (slotD t l tr (fun k => (listed.setIfInBounds i true).getD k false) (E.get t)).v ((a.put o.dst val).tmps.getD t undef) := by
    intro G' val hmono hval t ht512 hc
    have hfun : (fun k => (listed.setIfInBounds i true).getD k false) = (fun k => if k = i then true else listed.getD k false) := by
      funext k; exact setD _ _ _ (by omega)
    rw [hfun] at hc ⊢
    by_cases hd : o.dst = some t
    · rw [slotD_set t l tr _ _ i o ts ho hts hd (fun j y hy hdy hij => by
          have := hdone hy (.inr (c.hit j i y o hy ho (by simp [hits, hdy, hd])))
          rw [this]; simp; omega)] at hc ⊢
      have hlt := hdlt t hd
      have : (a.put o.dst val).tmps.getD t undef = val := by rw [hd]; simp [Act.put, Array.getD, hlt]
      rw [this]; exact hval hc
    · rw [slotD_other t l tr _ _ i o ho hd] at hc ⊢
      have : (a.put o.dst val).tmps.getD t undef = a.tmps.getD t undef := by
        cases hod : o.dst with
        | none => rfl
        | some d =>
          have hne : d ≠ t := fun e => hd (by rw [hod, e])
          simp only [Act.put, Array.getD_eq_getD_getElem?]
          rw [Array.getElem?_setIfInBounds_ne hne]
      rw [this]
      exact hmono _ _ (hslot t ht512 hc)
  have hput : ∀ val, (a.put o.dst val).defers = [] ∧ (a.put o.dst val).tmps.size = E.n := by
    intro val; cases o.dst <;> simp [Act.put, hdef, htm]
  -- where the heap is as it was ahead of it in the text
  have hheap : loudB o = true → heapAt σ tr p = heapAt σ tr i := by
    intro hl
    have key : ∀ (j : Nat) (y : Oper), l[j]? = some y → loudB y = true → (j < p ↔ j < i) := by
      intro j y hy hly
      have h1 := hloud j y hy hly
      have h2 := hdone hy (.inl (c.loud i j o y ho hy hl hly))
      rw [h2] at h1
      simpa using h1.symm
    rcases Nat.le_total p i with h | h
    · exact (heap_sameP ht h (by omega) fun j y hy h1 h2 => by
        cases hly : loudB y with
        | false => rfl
        | true => have := (key j y hy hly).2 h2; omega).symm
    · exact heap_sameP ht h hp fun j y hy h1 h2 => by
        cases hly : loudB y with
        | false => rfl
        | true => have := (key j y hy hly).1 h2; omega
  have hloud' : loudB o = true → ∀ (j : Nat) (y : Oper), l[j]? = some y → loudB y = true → (listed.setIfInBounds i true).getD j false = decide (j < i + 1) := by
    intro hl j y hy hly
    rw [setD _ _ _ (by omega)]
    by_cases e : j = i
    · subst e; simp
    · rw [if_neg e, hdone hy (.inl (c.loud i j o y ho hy hl hly))]
      simp; omega
  have hquiet' : loudB o = false → ∀ (j : Nat) (y : Oper), l[j]? = some y → loudB y = true → (listed.setIfInBounds i true).getD j false = decide (j < p) := by
    intro hl j y hy hly
    rw [setD _ _ _ (by omega)]
    by_cases e : j = i
    · subst e; rw [ho] at hy; simp only [Option.some.injEq] at hy; subst hy; rw [hl] at hly; cases hly
    · rw [if_neg e]; exact hloud j y hy hly
  -- a step that leaves the own heap
  have stay : ∀ (G' : Gh) (w' : World) (val : Value), Gle G G' → OwnLe G.own G'.own → Inv G' (heapAt σ tr p) w' → ts.σ = heapAt σ tr i → (ts.e.cond = true → RepP G' ts.e.v val) → StJ l tr E σ G0 (listed.setIfInBounds i true) (a.put o.dst val) w' := by
    intro G' w' val h1 h2 h3 h4 h5
    refine ⟨hsz', hcl', ?_⟩
    have hm : ∀ q v, RepP G q v → RepP G' q v := fun q v h => RepP.mono h1.le.H h2 h
    cases hl : loudB o with
    | true =>
      refine ⟨G', i + 1, hG.trans h1, by omega, hloud' hl, ?_, (hput val).1, (hput val).2, h1.le.na.trans hna, hslot' G' val hm h5⟩
      rw [hnext, h4, ← hheap hl]; exact h3
    | false => exact ⟨G', p, hG.trans h1, hp, hquiet' hl, h3, (hput val).1, (hput val).2, h1.le.na.trans hna, hslot' G' val hm h5⟩
  unfold wpOp
  simp only [ho']
  have skip : ts.γ = false → (ts.e.cond = true → RepP G ts.e.v undef) → ts.σ = heapAt σ tr i → (if Region.wanted o (yielded l.toArray a.tmps) = true then o.wp P a w (StJ l tr E σ G0 (listed.setIfInBounds i true)) Q ∨ (o.asks P a w ∧ LetsOut Q) else StJ l tr E σ G0 (listed.setIfInBounds i true) (a.put o.dst undef) w) := by
    intro hγ hc hσ
    rw [if_neg (by rw [hwant, hγ]; simp)]
    exact stay G w undef (Gle.refl G) (OwnLe.refl _) hinv hσ hc
  rcases hstep with ⟨C, v, hrun, hC, hrd, he, hσ⟩ | ⟨hγ, C, v, hrun, hC, he, _⟩ | ⟨C, f, args, r, hrun, hC, hargs, hres', he, hσ⟩ | ⟨hγ, he, hσ⟩ | ⟨hγ, C, f, args, r, hrun, hC, hto, he, _⟩
  · cases hγ : ts.γ with
    | false => exact skip hγ (by rw [he, hγ]; intro h; cases h) hσ
    | true =>
      rw [if_pos (by rw [hwant, hγ])]
      left
      rw [hγ] at hrun
      have hrun1 := (run1_congr (P := P) (γ := true) (σ := heapAt σ tr i) o.op hops).trans hrun
      have hlo : loudB o = false ∨ loudB o = true := by cases loudB o <;> simp
      have notbar : ∀ (j : Nat) (y : Oper), l[j]? = some y → loudB y = true → listed.getD j false ≠ decide (j < i) → bs.getD j false = false := by
        intro j y hy hly hne
        cases hb : bs.getD j false with
        | false => rfl
        | true => exact (hne (hdone hy (.inr (c.bar j i y o hy ho hb)))).elim
      have one : ∀ (j : Nat), j < l.length → (∀ y, l[j]? = some y → loudB y = true → listed.getD j false ≠ decide (j < i)) → Near pv (heapAt σ tr j) (heapAt σ tr (j + 1)) := by
        intro j hj hne
        have hy := List.getElem?_eq_getElem hj
        cases hly : loudB l[j] with
        | false => rw [heap_quietP ht hy hly]; exact Near.refl _ _
        | true => exact (step_near ht hy (notbar j _ hy hly (hne _ hy hly))).2
      have onePv : (∀ j y, l[j]? = some y → ps.getD j false = true → ordB masks i j = true) → ∀ (j : Nat), j < l.length → (∀ y, l[j]? = some y → loudB y = true → listed.getD j false ≠ decide (j < i)) → Near [] (heapAt σ tr j) (heapAt σ tr (j + 1)) := by
        intro hord j hj hne
        have hy := List.getElem?_eq_getElem hj
        cases hly : loudB l[j] with
        | false => rw [heap_quietP ht hy hly]; exact Near.refl _ _
        | true =>
          refine .of_ext ((step_near ht hy (notbar j _ hy hly (hne _ hy hly))).1 ?_)
          cases hp : ps.getD j false with
          | false => rfl
          | true => exact (hne _ hy hly (hdone hy (.inl (hord j _ hy hp)))).elim
      have reach : ∀ (q : List Nat), (∀ (j : Nat), j < l.length → (∀ y, l[j]? = some y → loudB y = true → listed.getD j false ≠ decide (j < i)) → Near q (heapAt σ tr j) (heapAt σ tr (j + 1))) → Near q (heapAt σ tr p) (heapAt σ tr i) ∨ Near q (heapAt σ tr i) (heapAt σ tr p) := by
        intro q hone
        rcases Nat.le_total p i with h | h
        · left
          refine heapAt_near l htl p i h (by omega) fun j h1 h2 => hone j (by omega) fun y hy hly => ?_
          rw [hloud j y hy hly]; simp; omega
        · right
          refine heapAt_near l htl i p h hp fun j h1 h2 => hone j (by omega) fun y hy hly => ?_
          rw [hloud j y hy hly]; simp; omega
      have fromNear : ∀ (q : List Nat) (b : Nat) (ob : OB), Near q (heapAt σ tr p) (heapAt σ tr i) ∨ Near q (heapAt σ tr i) (heapAt σ tr p) → b ∉ q → b < (heapAt σ tr p).length → (heapAt σ tr i)[b]? = some ob → (heapAt σ tr p)[b]? = some ob := by
        intro q b ob hn hb hlt hob
        rcases hn with h | h
        · rw [← h.2 b hb hlt]; exact hob
        · rw [h.2 b hb (List.getElem?_eq_some_iff.1 hob).1]; exact hob
      obtain ⟨C', hrun2, hC'⟩ := run1_heap (σ' := heapAt σ tr p) hrun1 hC (fun x hc b ob htop hb => by
        have hlt := topRef_lt hinv (ev_rep hsim x hc) htop
        rcases hlo with hl | hl
        · rcases cP.see i o ho hl with hsee | hsee
          · refine fromNear pv b ob (reach pv one) ?_ hlt hb
            cases x with
            | tmp t =>
              by_cases hmem : t ∈ o.looksAt l.toArray
              · have h1 := List.all_eq_true.1 hrd t (hsee t hmem)
                have h2 : (restrict (envAt E l tr i) (o.looksAt l.toArray)).get t = (envAt E l tr i).get t := hgetr t hmem
                have htop' : topRef ((envAt E l tr i).get t).v = some b := by rw [← h2]; exact htop
                simp only [okRef, htop'] at h1
                simpa using h1
              · exfalso
                have : ((restrict (envAt E l tr i) (o.looksAt l.toArray)).get t).cond = true := hc
                rw [(hres t hlook).2 hmem] at this; cases this
            | const v =>
              exfalso
              have h1 : topRef (cvOf v).v = some b := htop
              rw [cvOf_top] at h1; cases h1
            | func f => cases htop
            | global g => cases htop
          · exact fromNear [] b ob (reach [] (onePv hsee)) (by simp) hlt hb
        · rw [hheap hl]; exact hb)
      obtain ⟨val, e1, e2⟩ := run1_ok hsim rfl o hrun2 hC'
      unfold Oper.wp
      rw [e1]
      exact stay G w val (Gle.refl G) (OwnLe.refl _) hinv hσ fun _ => by rw [he]; exact e2
  · rw [if_pos (by rw [hwant, hγ])]
    left
    rw [hγ] at hrun
    have hl : loudB o = true := by
      cases hl : loudB o with
      | true => rfl
      | false => exact ((quiet_loud hl).1 _ _ _ hrun).elim
    have hrun1 := (run1_congr (P := P) (γ := true) (σ := heapAt σ tr i) o.op hops).trans hrun
    rw [← hheap hl] at hrun1
    obtain ⟨nx, val, w', G', e1, e2, e3, e4, e5, e6⟩ := run1_upd hsim rfl o hrun1 hC
    have hfin : StJ l tr E σ G0 (listed.setIfInBounds i true) (a.put o.dst val) w' :=
      ⟨hsz', hcl', G', i + 1, hG.trans (Gle.mk' e3 e4), by omega, hloud' hl, by rw [hnext]; exact e5, (hput val).1, (hput val).2, e3.na.trans hna,
        hslot' G' val (fun q v h => RepP.mono e3.H e4 h) fun _ => by rw [he]; exact e6⟩
    unfold Oper.wp
    rw [e1]
    rcases e2 with rfl | ⟨rfl, rfl⟩
    · exact hfin
    · exact hfin
  · cases hγ : ts.γ with
    | false => exact skip hγ (by rw [he, hγ]; intro h; cases h) hσ
    | true =>
      rw [if_pos (by rw [hwant, hγ])]
      left
      rw [hγ] at hrun
      obtain ⟨hC1, hspec⟩ := hC hγ
      have hrun1 := (run1_congr (P := P) (γ := true) (σ := heapAt σ tr i) o.op hops).trans hrun
      have hrun2 := run1_call_heap (σ' := heapAt σ tr p) hrun1
      exact call_step hsim o hrun2 hC1 hspec hargs hres' fun G' w' v h1 h2 h3 h4 => stay G' w' v h1 h2 h3 hσ fun _ => by rw [he]; exact h4
  · exact skip hγ (by rw [he]; exact fun _ => ⟨[], rfl, trivial⟩) hσ
  · rw [if_pos (by rw [hwant, hγ])]
    left
    rw [hγ] at hrun
    have hl : loudB o = true := by
      cases hl : loudB o with
      | true => rfl
      | false => exact ((quiet_loud hl).2 _ _ _ hrun).elim
    have hrun1 := (run1_congr (P := P) (γ := true) (σ := heapAt σ tr i) o.op hops).trans hrun
    rw [← hheap hl] at hrun1 hto
    exact call_stepG hsim o hrun1 hC hto fun G' w' v h1 h2 h3 h4 h5 =>
      ⟨hsz', hcl', G', i + 1, hG.trans h1, by omega, hloud' hl, by rw [hnext]; exact h4, (hput v).1, (hput v).2, h1.le.na.trans hna,
        hslot' G' v (fun q v h => RepP.mono h2 h3 h) fun _ => by rw [he]; exact h5⟩
theorem wpAny_ofP {l : List Oper} {masks : List Nat} {bs ps : List Bool} {rd : List (List Nat)} {E : Env} {σ : List OB} {tr : List TS} (cP : ChkP l.toArray l masks bs ps rd) (ht : TraceP P l.toArray pv l bs ps rd E σ tr) (G0 : Gh) {Q : Exit → Act → World → Prop}
    (fin : ∀ G a w, Gle G0 G → Sim G (envAt E l tr l.length) (heapAt σ tr l.length) a w → Q .normal a w) :
    ∀ (fuel : Nat) (listed : Array Bool) (a : Act) (w : World), listed.toList.count false ≤ fuel → StJ l tr E σ G0 listed a w → wpAny P .any l.toArray Q fuel listed a w := by
  have c := cP.base
  have done : ∀ (listed : Array Bool) (a : Act) (w : World), StJ l tr E σ G0 listed a w → Region.ready .any l.toArray listed = [] → Q .normal a w := by
    intro listed a w hJ hr
    obtain ⟨hsz, hcl, G, p, hG, hp, hloud, hinv, hdef, htm, hna, hslot⟩ := hJ
    have hall := ready_nil c hsz hr
    obtain ⟨htl, hat⟩ := ht.at
    have hE := envAt_n l tr E l.length
    have hheap : heapAt σ tr l.length = heapAt σ tr p := heap_sameP ht hp (Nat.le_refl _) fun j y hy h1 h2 => by
      cases hly : loudB y with
      | false => rfl
      | true =>
        have := hloud j y hy hly
        rw [hall j h2] at this
        have : j < p := by simpa using this.symm
        omega
    refine fin G a w hG ⟨by rw [hheap]; exact hinv, hdef, by rw [hE.1]; exact htm, by rw [hE.2]; exact hna, fun t hc => ?_⟩
    by_cases h512 : t < 512
    · have hg : (envAt E l tr l.length).get t = slotD t l tr (fun i => listed.getD i false) (E.get t) := by
        rw [envAt_get t l tr E l.length (fun j o x hj hd => c.dst j o hj x hd) htl]
        apply slotD_congr
        intro j y hy _
        have hlt := (List.getElem?_eq_some_iff.1 hy).1
        simp [hlt, hall j hlt]
      rw [hg] at hc ⊢
      exact hslot t h512 hc
    · rw [Env.get_big _ t (by omega)] at hc; cases hc
  intro fuel
  induction fuel with
  | zero =>
    intro listed a w hf hJ
    have hr : Region.ready .any l.toArray listed = [] := by
      rw [List.eq_nil_iff_forall_not_mem]
      intro i hi
      obtain ⟨h1, o, ho, _⟩ := mem_ready.1 hi
      have hlt : i < listed.size := by rw [hJ.1]; have := (Array.getElem?_eq_some_iff.1 ho).1; simpa using this
      have : listed.toList[i]? = some false := by
        rw [Array.getD_eq_getD_getElem?, Array.getElem?_eq_getElem hlt] at h1
        rw [Array.getElem?_toList, Array.getElem?_eq_getElem hlt]
        simpa using h1
      have hpos := List.count_pos_iff.2 (List.mem_of_getElem? this)
      omega
    exact ⟨hr, done listed a w hJ hr⟩
  | succ fuel ih =>
    intro listed a w hf hJ
    refine ⟨fun hr => done listed a w hJ hr, fun i hi => ?_⟩
    have hstep := StJ.stepP (Q := Q) cP ht G0 listed a w i hJ hi
    refine wpOp_mono (fun a' w' hJ' => ih _ a' w' ?_ hJ') hstep
    obtain ⟨h1, o, ho, _⟩ := mem_ready.1 hi
    have hlt : i < listed.size := by rw [hJ.1]; have := (Array.getElem?_eq_some_iff.1 ho).1; simpa using this
    have : listed.toList[i]? = some false := by
      rw [Array.getD_eq_getD_getElem?, Array.getElem?_eq_getElem hlt] at h1
      rw [Array.getElem?_toList, Array.getElem?_eq_getElem hlt]
      simpa using h1
    have hc := count_set _ _ this
    simp only [Array.toList_setIfInBounds]
    omega


/-- the text's order, as a statement -/
def TRP (P : Program) (ops : Array Oper) (pv : List Nat) (l : List Oper) (bs ps : List Bool) (rd : List (List Nat)) (E : Env) (σ : List OB) (k : Env → List OB → Prop) : Prop :=
  ∃ tr, TraceP P ops pv l bs ps rd E σ tr ∧ k (envAt E l tr l.length) (heapAt σ tr l.length)

def nearB (pv : List Nat) : Nat → List OB → List OB → Prop
  | _, [], _ => True
  | i, a :: as_, b :: bs => (pv.contains i = true ∨ a = b) ∧ nearB pv (i + 1) as_ bs
  | _, _ :: _, [] => False

theorem nearB_ok : ∀ {i : Nat} {σ σ' : List OB}, nearB pv i σ σ' → σ.length ≤ σ'.length ∧ ∀ b, b + i ∉ pv → b < σ.length → σ'[b]? = σ[b]?
  | _, [], _, _ => ⟨by simp, fun b _ h => by simp at h⟩
  | i, a :: as_, b :: bs, ⟨h1, h2⟩ => by
    obtain ⟨k1, k2⟩ := nearB_ok h2
    refine ⟨by simpa using k1, fun c hc hl => ?_⟩
    cases c with
    | zero =>
      rcases h1 with h | h
      · simp at hc; simp at h; exact (hc h).elim
      · simp [h]
    | succ c => simpa using k2 c (by simpa [Nat.add_assoc, Nat.add_comm 1] using hc) (by simpa using hl)

def AnyCallP (P : Program) (ops : Array Oper) (pv : List Nat) (γ : Bool) (C : Prop) (f : FuncId) (args : List PV) (o : Oper) (r : List Oper) (bs ps : List Bool) (rd : List (List Nat)) (E : Env) (σ : List OB) (k : Env → List OB → Prop) : Prop :=
  run1 P γ E σ o.op = .call C f args → guardOf ops E o.guard = some γ → TRP P ops pv (o :: r) bs ps rd E σ k

def stepAP (P : Program) (ops : Array Oper) (pv : List Nat) (γ : Bool) (o : Oper) (r : List Oper) (bs ps : List Bool) (rd : List (List Nat)) (E : Env) (σ : List OB) (k : Env → List OB → Prop) (run : Env → List OB → Prop) : R → Prop
  | .ok C v => dstOk E o.dst ∧ C ∧ ((rd.headD []).all fun t => okRef pv (E.get t).v) = true ∧ run (E.putD o.dst ⟨γ, v⟩) σ
  | .upd C v σ' => dstOk E o.dst ∧ γ = true ∧ C ∧ (bs.headD false = true ∨ extB σ σ' ∨ (ps.headD false = true ∧ nearB pv 0 σ σ')) ∧ run (E.putD o.dst ⟨true, v⟩) σ'
  | .call C f args => AnyCallP P ops pv γ C f args o r bs ps rd E σ k
  | .bad => False

def anyOpsP (P : Program) (ops : Array Oper) (pv : List Nat) : List Oper → List Bool → List Bool → List (List Nat) → Env → List OB → (Env → List OB → Prop) → Prop
  | [], _, _, _, E, σ, k => k E σ
  | o :: r, bs, ps, rd, E, σ, k =>
    match guardOf ops E o.guard with
    | none => False
    | some false => dstOk E o.dst ∧ anyOpsP P ops pv r bs.tail ps.tail rd.tail (E.putD o.dst ⟨true, .t []⟩) σ k
    | some true => stepAP P ops pv true o r bs ps rd E σ k (fun E' σ' => anyOpsP P ops pv r bs.tail ps.tail rd.tail E' σ' k) (run1 P true E σ o.op)

theorem TRP.cons {o : Oper} {r : List Oper} {bs ps : List Bool} {rd : List (List Nat)} {E : Env} {σ : List OB} {k : Env → List OB → Prop} {ts : TS} (h : TStepP P ops pv E σ o (bs.headD false) (ps.headD false) (rd.headD []) ts) (ht : TRP P ops pv r bs.tail ps.tail rd.tail (E.putD o.dst ts.e) ts.σ k) : TRP P ops pv (o :: r) bs ps rd E σ k := by
  obtain ⟨tr, h1, h2⟩ := ht
  refine ⟨ts :: tr, ⟨ts, tr, rfl, h, h1⟩, ?_⟩
  simpa [envAt, heapAt] using h2

theorem anyOpsP_ok : ∀ (l : List Oper) (bs ps : List Bool) (rd : List (List Nat)) (E : Env) (σ : List OB) (k : Env → List OB → Prop), anyOpsP P ops pv l bs ps rd E σ k → TRP P ops pv l bs ps rd E σ k
  | [], bs, ps, rd, E, σ, k, h => ⟨[], rfl, by unfold anyOpsP at h; simpa [envAt, heapAt] using h⟩
  | o :: r, bs, ps, rd, E, σ, k, h => by
    unfold anyOpsP at h
    split at h
    · exact h.elim
    · rename_i hγ
      exact TRP.cons (ts := ⟨false, ⟨true, .t []⟩, σ⟩) ⟨hγ, h.1, .inr (.inr (.inr (.inl ⟨rfl, rfl, rfl⟩)))⟩ (anyOpsP_ok r _ _ _ _ _ _ h.2)
    · rename_i hγ
      unfold stepAP at h
      split at h
      · rename_i C v hrun
        obtain ⟨hd, hC, hrd, hr⟩ := h
        exact TRP.cons (ts := ⟨true, ⟨true, v⟩, σ⟩) ⟨hγ, hd, .inl ⟨C, v, hrun, hC, hrd, rfl, rfl⟩⟩ (anyOpsP_ok r _ _ _ _ _ _ hr)
      · rename_i C v σ' hrun
        obtain ⟨hd, hg, hC, hb, hr⟩ := h
        refine TRP.cons (ts := ⟨true, ⟨true, v⟩, σ'⟩) ⟨hγ, hd, .inr (.inl ⟨rfl, C, v, hrun, hC, rfl, ?_⟩)⟩ (anyOpsP_ok r _ _ _ _ _ _ hr)
        rcases hb with h | h | ⟨h, h'⟩
        · exact .inl h
        · exact .inr (.inl (extB_ok h))
        · exact .inr (.inr ⟨h, by have := nearB_ok h'; exact ⟨this.1, fun b hb hl => this.2 b hb hl⟩⟩)
      · rename_i C f args hrun
        exact h hrun hγ
      · exact h.elim

theorem AnyCallP_pure {γ : Bool} {C : Prop} {f : FuncId} {args : List PV} {o : Oper} {r : List Oper} {bs ps : List Bool} {rd : List (List Nat)} {E : Env} {σ : List OB} {k : Env → List OB → Prop} {res : PV}
    (hs : γ = true → SpecF P f args res) (hd : dstOk E o.dst) (hC : γ = true → C) (hargs : args.all PV.noOwn = true) (hres : ∀ n, res.ren (back n []) = res)
    (next : anyOpsP P ops pv r bs.tail ps.tail rd.tail (E.putD o.dst ⟨γ, res⟩) σ k) : AnyCallP P ops pv γ C f args o r bs ps rd E σ k := fun hrun hγ =>
  TRP.cons (ts := ⟨γ, ⟨γ, res⟩, σ⟩) ⟨hγ, hd, .inr (.inr (.inl ⟨C, f, args, res, hrun, fun h => ⟨hC h, hs h⟩, hargs, hres, rfl, rfl⟩))⟩ (anyOpsP_ok r _ _ _ _ _ _ next)

theorem AnyCallP_at {C : Prop} {f : FuncId} {args : List PV} {o : Oper} {r : List Oper} {bs ps : List Bool} {rd : List (List Nat)} {E : Env} {σ σ2 : List OB} {k : Env → List OB → Prop} {res : PV}
    (hs : CallTo P σ f args res σ2) (hd : dstOk E o.dst) (hC : C) (hb : bs.headD false = true ∨ extB σ σ2)
    (next : anyOpsP P ops pv r bs.tail ps.tail rd.tail (E.putD o.dst ⟨true, res⟩) σ2 k) : AnyCallP P ops pv true C f args o r bs ps rd E σ k := fun hrun hγ =>
  TRP.cons (ts := ⟨true, ⟨true, res⟩, σ2⟩) ⟨hγ, hd, .inr (.inr (.inr (.inr ⟨rfl, C, f, args, res, hrun, hC, hs, rfl, hb.imp id extB_ok⟩)))⟩ (anyOpsP_ok r _ _ _ _ _ _ next)

theorem W_anyPT {id : Nat} {l : List Oper} {K : Kt} {E : Env} {σ : List OB} (hm : P.follows .mixedOrders = true) (pv masks : List Nat) (bs ps : List Bool) (rd : List (List Nat)) (hc : chkP l.toArray l masks bs ps rd = true)
    (h : TRP P l.toArray pv l bs ps rd E σ (K .normal)) : W P (.region id l.toArray true) K E σ := fun G a w hs => by
  obtain ⟨tr, ht, hk⟩ := h
  refine wp_region_any hm ?_
  refine wpAny_ofP (chkP_ok hc) ht G (fun G' a' w' hG hs' => ⟨G', _, _, .normal, hG, hs', rfl, hk⟩) _ _ a _ ?_ ?_
  · simp
  · have hfalse : ∀ i, (Array.replicate l.length false).getD i false = false := by
      intro i
      rw [Array.getD_eq_getD_getElem?, Array.getElem?_replicate]
      split <;> rfl
    refine ⟨by simp, fun i o ho hd => by simp [hfalse] at hd, G, 0, Gle.refl G, by omega, fun j o ho hl => by simp [hfalse], ?_, hs.defers, hs.size, hs.na, fun t ht hc => ?_⟩
    · have : heapAt σ tr 0 = σ := by cases tr <;> rfl
      rw [this]; exact hs.inv.drawn
    · have : slotD t l tr (fun i => (Array.replicate l.length false).getD i false) (E.get t) = E.get t := slotD_none t l tr _ _ fun j o _ _ => hfalse j
      simp only [List.size_toArray] at hc ⊢
      rw [this] at hc ⊢
      exact hs.slot t hc

theorem W_anyP {id : Nat} {l : List Oper} {K : Kt} {E : Env} {σ : List OB} (hm : P.follows .mixedOrders = true) (pv masks : List Nat) (bs ps : List Bool) (rd : List (List Nat)) (hc : chkP l.toArray l masks bs ps rd = true)
    (h : ∀ (k : Env → List OB → Prop), (∀ E σ, K .normal E σ → k E σ) → anyOpsP P l.toArray pv l bs ps rd E σ k) : W P (.region id l.toArray true) K E σ :=
  W_anyPT hm pv masks bs ps rd hc (anyOpsP_ok l bs ps rd E σ _ (h (K .normal) fun _ _ h => h))
theorem W_anyPF {id : Nat} {l : List Oper} {y : Code} {K : Kt} {E : Env} {σ : List OB} (ms : List Nat) (hm : P.follows .mixedOrders = true) (pv masks : List Nat) (bs ps : List Bool) (rd : List (List Nat)) (hc : chkP l.toArray l masks bs ps rd = true)
    (h : ∀ (k : Env → List OB → Prop), (∀ E σ, W P y K E σ → k E σ) → anyOpsP P l.toArray pv l bs ps rd E σ (fun E σ => k (E.forget ms) σ)) : W P (.seq (.region id l.toArray true) y) K E σ :=
  W_seq (W_anyPT hm pv masks bs ps rd hc (by
    obtain ⟨tr, h1, h2⟩ := anyOpsP_ok l bs ps rd E σ _ (h (W P y K) fun _ _ h => h)
    exact ⟨tr, h1, W_forget ms h2⟩))
end
def bAP := And.intro (And.intro (And.intro @anyOpsP.eq_1 @anyOpsP.eq_2) bL) (And.intro bM (And.intro (And.intro @stepAP.eq_1 @stepAP.eq_2) (And.intro @stepAP.eq_3 @stepAP.eq_4)))
end Pam

/- Regions whose order is open, reckoned piece by piece. -/
namespace Pam
open Go
section
variable {P : Program} {ops : Array Oper}

theorem TR_ops {l : List Oper} {bs : List Bool} {E : Env} {σ : List OB} {k : Env → List OB → Prop} (h : anyOps P ops l bs E σ k) : TR P ops l bs E σ k := anyOps_ok l bs E σ k h

theorem TR_bind : ∀ {l l' : List Oper} {bs bs' : List Bool} {E : Env} {σ : List OB} {k : Env → List OB → Prop}, bs.length = l.length → TR P ops l bs E σ (fun E' σ' => TR P ops l' bs' E' σ' k) → TR P ops (l ++ l') (bs ++ bs') E σ k
  | [], l', bs, bs', E, σ, k, hl, ⟨tr, h1, h2⟩ => by
    have : bs = [] := List.eq_nil_of_length_eq_zero (by simpa using hl)
    subst this
    simp only [Trace] at h1
    subst h1
    simpa [envAt, heapAt] using h2
  | o :: l, l', bs, bs', E, σ, k, hl, ⟨tr, h1, h2⟩ => by
    obtain ⟨ts, r, rfl, h3, h4⟩ := h1
    match bs, hl with
    | b :: bs, hl =>
      refine TR.cons (bs := b :: bs ++ bs') (ts := ts) ?_ ?_
      · simpa using h3
      · exact TR_bind (by simpa using hl) ⟨r, h4, by simpa [envAt, heapAt] using h2⟩

theorem TR_cut (n : Nat) {l : List Oper} {bs : List Bool} {E : Env} {σ : List OB} {k : Env → List OB → Prop} (hn : bs.length = l.length) (h : anyOps P ops (l.take n) (bs.take n) E σ (fun E' σ' => TR P ops (l.drop n) (bs.drop n) E' σ' k)) : TR P ops l bs E σ k := by
  have := TR_bind (by simp [hn]) (anyOps_ok _ _ _ _ _ h)
  rwa [List.take_append_drop, List.take_append_drop] at this

theorem AnyCall_pureT {γ : Bool} {C : Prop} {f : FuncId} {args : List PV} {o : Oper} {r : List Oper} {bs : List Bool} {E : Env} {σ : List OB} {k : Env → List OB → Prop} {res : PV}
    (hs : γ = true → SpecF P f args res) (hd : dstOk E o.dst) (hC : γ = true → C) (hargs : args.all PV.noOwn = true) (hres : ∀ n, res.ren (back n []) = res)
    (next : TR P ops r bs.tail (E.putD o.dst ⟨γ, res⟩) σ k) : AnyCall P ops γ C f args o r bs E σ k := fun hrun hγ =>
  TR.cons (ts := ⟨γ, ⟨γ, res⟩, σ⟩) ⟨hγ, hd, .inr (.inr (.inl ⟨C, f, args, res, hrun, fun h => ⟨hC h, hs h⟩, hargs, hres, rfl, rfl⟩))⟩ next

theorem AnyCall_atT {C : Prop} {f : FuncId} {args : List PV} {o : Oper} {r : List Oper} {bs : List Bool} {E : Env} {σ σ2 : List OB} {k : Env → List OB → Prop} {res : PV}
    (hs : CallTo P σ f args res σ2) (hd : dstOk E o.dst) (hC : C) (hb : bs.headD false = true ∨ extB σ σ2)
    (next : TR P ops r bs.tail (E.putD o.dst ⟨true, res⟩) σ2 k) : AnyCall P ops true C f args o r bs E σ k := fun hrun hγ =>
  TR.cons (ts := ⟨true, ⟨true, res⟩, σ2⟩) ⟨hγ, hd, .inr (.inr (.inr (.inr ⟨rfl, C, f, args, res, hrun, hC, hs, rfl, hb.imp id extB_ok⟩)))⟩ next

theorem W_anyTN {id : Nat} {l : List Oper} {K : Kt} {E : Env} {σ : List OB} (hm : P.follows .mixedOrders = true) (masks : List Nat) (bs : List Bool) (hc : chk l.toArray l masks bs = true)
    (h : ∀ (k : Env → List OB → Prop), (∀ E σ, K .normal E σ → k E σ) → TR P l.toArray l bs E σ k) : W P (.region id l.toArray true) K E σ :=
  W_anyT hm masks bs hc (h (K .normal) fun _ _ h => h)
theorem W_anyTF {id : Nat} {l : List Oper} {y : Code} {K : Kt} {E : Env} {σ : List OB} (ms : List Nat) (hm : P.follows .mixedOrders = true) (masks : List Nat) (bs : List Bool) (hc : chk l.toArray l masks bs = true)
    (h : ∀ (k : Env → List OB → Prop), (∀ E σ, W P y K E σ → k E σ) → TR P l.toArray l bs E σ (fun E σ => k (E.forget ms) σ)) : W P (.seq (.region id l.toArray true) y) K E σ :=
  W_seq (W_anyT hm masks bs hc (by
    obtain ⟨tr, h1, h2⟩ := h (W P y K) fun _ _ h => h
    exact ⟨tr, h1, W_forget ms h2⟩))
end
end Pam
