/- Single operations beside those of run1: each by a rule of its own. -/
import Derived.Test.YtpfekllhlfodiaaBase2
import Derived.Shelf.Sort.Plain
import Derived.Shelf.Slices.In.SortNone
import Derived.Shelf.Slices.In.CompactI
set_option linter.all false
namespace Pam
open Go

/-- what one operation does, at each world that this is known of -/
def ExtTo (P : Program) (E : Env) (σ : List OB) (o : Oper) (v : PV) (σ' : List OB) : Prop := ∀ G a w, Sim G E σ a w → Loud P G (execOp a.eval o) w v σ'

section
variable {P : Program} {ops : Array Oper} {E E' : Env} {σ σ' : List OB} {k : Env → List OB → Prop} {kp : PV → Env → List OB → Prop} {l : List Oper}

theorem RunRest_step {o : Oper} {r : List Oper} {v : PV} (hx : ExtTo P E σ o v σ') (hg : guardOf ops E o.guard = some true) (hd : dstOk E o.dst)
    (h : RunRest P ops r (E.putD o.dst ⟨true, v⟩) σ' k kp) : RunRest P ops (o :: r) E σ k kp := fun G a w hs => by
  have hw := guard_ok (P := P) hs hg
  unfold wpList
  rw [if_pos hw]
  obtain ⟨nx, val, w', G', e1, e2, e3, e4, e5, e6⟩ := hx G a w hs
  left
  unfold Oper.wp
  have hs' : Sim G' (E.putD o.dst ⟨true, v⟩) σ' (a.put o.dst val) w' := (hs.ghost e5 e3.H e3.na e4).putD o.dst hd _ val fun _ => e6
  have := wpList_mono (fun e a w h => PostX.back (Gle.mk' e3 e4) h) r _ _ (h G' _ w' hs')
  rw [e1]
  rcases e2 with rfl | ⟨rfl, rfl⟩
  · exact this
  · exact this
theorem RunCall_atR {C : Prop} {f : FuncId} {args : List PV} {o : Oper} {r : List Oper}
    {args' : List PV} {σc : List OB} {post pp : PV → List OB → Prop} (hs : Spec P f args' σc post pp) (ρ : List Nat) (hd : dstOk E o.dst) (hC : C) (hnd : ρ.Nodup) (hlt : ∀ b ∈ ρ, b < σ.length)
    (hargs : args = args'.map (PV.ren (back σ.length ρ))) (hσ : ρ.map (fun b => σ[b]?) = σc.map fun ob => some (ob.ren (back σ.length ρ))) (hu : psUnder ρ.length args') (hub : obsBelow ρ.length σc)
    (next : ∀ p σ', post p σ' → ρ.length ≤ σ'.length → RunRest P ops r (E.putD o.dst ⟨true, p.ren (back σ.length ρ)⟩) (place σ ρ (σ'.map (OB.ren (back σ.length ρ)))) k kp)
    (npanic : ∀ p σ', pp p σ' → ρ.length ≤ σ'.length → kp (p.ren (back σ.length ρ)) E (place σ ρ (σ'.map (OB.ren (back σ.length ρ))))) :
    RunCall P ops true C f args o r E σ k kp := RunCall_atW hs ρ hd hC hnd hlt hargs hσ hu hub next npanic
theorem RunCall_pureR {γ : Bool} {C : Prop} {f : FuncId} {args : List PV} {o : Oper} {r : List Oper} {res : PV} (hs : γ = true → SpecF P f args res) (hd : dstOk E o.dst) (hC : γ = true → C) (hargs : args.all PV.noOwn = true) (hres : res.ren (back σ.length []) = res)
    (next : RunRest P ops r (E.putD o.dst ⟨γ, res⟩) σ k kp) : RunCall P ops γ C f args o r E σ k kp := RunCall_pureW hs hd hC hargs hres next
/-- nothing is left -/
theorem RunRest_nil (h : k E σ) : RunRest P ops [] E σ k kp := fun G a w hs => ⟨G, E, σ, .normal, Gle.refl G, hs, rfl, h⟩

/-- a quiet value -/
theorem ExtTo.quiet {o : Oper} {v : PV} (h : ∀ G a w, Sim G E σ a w → ∃ val, (execOp a.eval o).run P w = .ok (.value val) w ∧ RepP G v val) : ExtTo P E σ o v σ := fun G a w hs => by
  obtain ⟨val, h1, h2⟩ := h G a w hs
  exact ⟨_, val, w, G, h1, .inl rfl, Ghle.refl G, OwnLe.refl _, hs.inv, h2⟩

theorem at_ev {G : Gh} {a : Act} {w : World} (hs : Sim G E σ a w) {x : Operand} {p : PV} (h : ev E x = ⟨true, p⟩) : RepP G p (a.eval x) := by
  have := ev_rep hs x
  rw [h] at this
  exact this rfl

theorem bnd_at {G : Gh} {a : Act} {w : World} (hs : Sim G E σ a w) {d : Nat} {o : Option Operand} {e : Ent} {n : Int} (h : bnd d (o.map (ev E)) = some (e, n)) (hc : e.cond = true) :
    (o.map a.eval = none ∧ n = d) ∨ ∃ k, o.map a.eval = some (.int k n) := by
  cases o with
  | none => simp only [Option.map_none, bnd, Option.some.injEq, Prod.mk.injEq] at h; exact .inl ⟨rfl, h.2.symm⟩
  | some x =>
    simp only [Option.map_some, bnd] at h
    split at h
    · rename_i k m hv
      simp only [Option.some.injEq, Prod.mk.injEq] at h
      obtain ⟨rfl, rfl⟩ := h
      have := ev_rep hs x hc
      rw [hv] at this
      exact .inr ⟨k, by rw [Option.map_some, rep_int this]⟩
    · cases h

theorem alive_of {b ver lo len s : Nat} {T0 : TypeId} {es : List (List CV)} (hσ : σ[b]? = some (.arr s ver T0 es)) : alive σ (.osl b ver lo len) := by simp [alive, hσ]

/-- an own array's part -/
theorem Ext_slO {o : Oper} {T : TypeId} {x : Operand} {lo hi : Option Operand} {b ver lo0 len : Nat} {e1 e2 : Ent} {l h : Int} (ho : o.op = .slice T x lo hi none)
    {s : Nat} {T0 : TypeId} {es : List (List CV)} (hx : ev E x = ⟨true, .c (.osl b ver lo0 len)⟩) (hσ : σ[b]? = some (.arr s ver T0 es)) (hT : isSl P T = true) (hk : knownT P (P.elem T) = true)
    (hsz : P.cellsOf (P.elem T) = s)
    (h1 : bnd 0 (lo.map (ev E)) = some (e1, l)) (h2 : bnd len (hi.map (ev E)) = some (e2, h)) (c1 : e1.cond = true) (c2 : e2.cond = true) (hb : 0 ≤ l ∧ l ≤ h ∧ h ≤ len) :
    ExtTo P E σ o (.c (.osl b ver (lo0 + l.toNat) (h.toNat - l.toNat))) σ := .quiet fun G a w hs => by
  obtain ⟨g0, g1, g2⟩ := hb
  have hu' := isSl_und hT
  obtain ⟨og, s', T'', es', hb', hown, hov, hosz, ⟨hcap, ad, hval, hha⟩, hok⟩ := alive_osl hs.inv (alive_of hσ) (at_ev hs hx)
  rw [hb'] at hσ
  simp only [Option.some.injEq, OB.arr.injEq] at hσ
  rw [← hσ.1] at hsz
  have k1 : (lo.map a.eval = none ∧ l = 0) ∨ ∃ k, lo.map a.eval = some (.int k l) := by simpa using bnd_at hs h1 c1
  have k2 := bnd_at hs h2 c2
  have hbds := sliceBounds_ok (P := P) (w := w) true len (og.cap - lo0) (lo.map a.eval) (hi.map a.eval) l h k1 k2 (by omega) (by omega) (by omega)
  refine ⟨sliced ad l.toNat h.toNat (og.cap - lo0) s', ?_, ⟨rfl, _, hown, fun o' e => ?_⟩⟩
  · simp only [execOp, ho, hval]
    refine run_v ?_
    rw [Option.map_none, run_sliceAt_slice w T _ _ _ _ hu', run_slice_any w T _ _ _ hu', hbds]
    simp only [Result.andThen_ok, run_sizeOf hk, hsz]
  · simp only [Option.some.injEq] at e; subst e
    refine ⟨by omega, fun _ => ⟨by omega, if og.cap - lo0 = l.toNat then ad else ad.map (·.add (l.toNat * s')), ?_, fun hh => ?_⟩⟩
    · simp only [sliced]; congr 1; omega
    · obtain ⟨a', rfl, ha'⟩ := hha hh
      split
      · exact ⟨a', rfl, fun hlt => by omega⟩
      · have := ha' (by omega)
        subst this
        refine ⟨_, rfl, fun _ => ?_⟩
        show (⟨og.blk, lo0 * og.sz, none⟩ : Addr).add (l.toNat * s') = _
        rw [add_at, hosz, Nat.add_mul]

/-- nothing of an own array: s[:0:0] -/
theorem Ext_slO3 {o : Oper} {T : TypeId} {x h m : Operand} {b ver lo0 len : Nat} {k1 k2 : IntKind} (ho : o.op = .slice T x none (some h) (some m))
    {s : Nat} {T0 : TypeId} {es : List (List CV)} (hx : ev E x = ⟨true, .c (.osl b ver lo0 len)⟩) (hσ : σ[b]? = some (.arr s ver T0 es)) (hT : isSl P T = true) (hk : knownT P (P.elem T) = true)
    (hh : ev E h = ⟨true, .c (.int k1 0)⟩) (hm : ev E m = ⟨true, .c (.int k2 0)⟩) : ExtTo P E σ o (.c .emp) σ := .quiet fun G a w hs => by
  have hu' := isSl_und hT
  obtain ⟨og, s', T'', es', hb', hown, hov, hosz, ⟨hcap, ad, hval, hha⟩, hok⟩ := alive_osl hs.inv (alive_of hσ) (at_ev hs hx)
  have e1 := rep_int (at_ev hs hh)
  have e2 := rep_int (at_ev hs hm)
  refine ⟨.slice ad 0 0, ?_, RepT.rep (G := G) (.emp ad)⟩
  simp only [execOp, ho, hval]
  refine run_v ?_
  simp only [Option.map_none, Option.map_some, e1, e2]
  rw [run_sliceAt_slice w T _ _ _ _ hu', run_slice_hm w T ad _ _ hu' _ _ 0 0 (by omega) (by omega) (by omega), run_sizeOf hk]
  simp [sliced]

/-- nil's part -/
theorem Ext_slN {o : Oper} {T : TypeId} {x : Operand} {lo hi : Option Operand} {e1 e2 : Ent} (ho : o.op = .slice T x lo hi none)
    (hx : ev E x = ⟨true, .c .nils⟩) (hT : isSl P T = true) (hk : knownT P (P.elem T) = true)
    (h1 : bnd 0 (lo.map (ev E)) = some (e1, 0)) (h2 : bnd 0 (hi.map (ev E)) = some (e2, 0)) (c1 : e1.cond = true) (c2 : e2.cond = true) :
    ExtTo P E σ o (.c .nils) σ := .quiet fun G a w hs => by
  have hu' := isSl_und hT
  have hr : RepT G.H .nils (a.eval x) := at_ev hs hx
  have k1 : (lo.map a.eval = none ∧ (0 : Int) = 0) ∨ ∃ k, lo.map a.eval = some (.int k 0) := by simpa using bnd_at hs h1 c1
  have k2 : (hi.map a.eval = none ∧ (0 : Int) = (0 : Nat)) ∨ ∃ k, hi.map a.eval = some (.int k 0) := by simpa using bnd_at hs h2 c2
  have hbds := sliceBounds_ok (P := P) (w := w) true 0 0 (lo.map a.eval) (hi.map a.eval) 0 0 k1 k2 (by omega) (by omega) (by omega)
  refine ⟨.slice none 0 0, ?_, RepT.rep (G := G) .nils⟩
  simp only [execOp, ho]
  generalize a.eval x = u at hr
  cases hr
  refine run_v ?_
  rw [Option.map_none, run_sliceAt_slice w T _ _ _ _ hu', run_slice_any w T _ _ _ hu', hbds]
  simp [run_sizeOf hk, sliced]

/-- how much room nil has -/
theorem Ext_capN {o : Oper} {c : Call} {T : TypeId} {x : Operand} (ho : o.op = .call c) (hc : c.callee = .builtin .cap) (hts : c.argTypes = #[T]) (has : c.args = #[x])
    (hx : ev E x = ⟨true, .c .nils⟩) (hT : isSl P T = true) : ExtTo P E σ o (.c (.int .i64 0)) σ := .quiet fun G a w hs => by
  have hu' := isSl_und hT
  have hr : RepT G.H .nils (a.eval x) := at_ev hs hx
  refine ⟨.int .i64 0, ?_, mk_int _ _⟩
  generalize hv : a.eval x = u at hr
  cases hr
  have e1 : (Builtin.cap_ #[T] o.type #[Value.slice none 0 0]).run P w = .ok (.int .i64 0) w := by
    unfold Builtin.cap_
    simp only [List.getElem?_toArray, List.getElem?_cons_zero, Sem.run_bind, run_underlying hu', Result.andThen_ok]
    rfl
  have harr : c.args.map a.eval = #[Value.slice none 0 0] := by rw [has]; simp [hv]
  simp only [execOp, ho, Sem.run_bind, resolve, hc, Sem.run_pure, Result.andThen_ok, invoke, harr, hts, builtin]
  rw [e1]
  rfl

/-- zeros behind nil -/
theorem Ext_zerosN {o : Oper} {c : Call} {T T' : TypeId} {x y : Operand} {n : Int} {z : List CV} (ho : o.op = .call c) (hc : c.callee = .builtin .append) (hts : c.argTypes = #[T, T']) (has : c.args = #[x, y])
    (hx : ev E x = ⟨true, .c .nils⟩) (hy : ev E y = ⟨true, .c (.int .i64 n)⟩) (hT : isSl P T = true) (hT' : isInt P T' = true) (hk : knownT P (P.elem T) = true) (hz : zeroC P (P.elem T) = some z)
    (hpos : 0 < P.cellsOf (P.elem T)) (hn : 0 ≤ n ∧ n ≤ maxLen) (hr : n.toNat * P.bytesOf (P.elem T) ≤ 140737488355328) :
    ExtTo P E σ o (.c (.osl σ.length 0 0 n.toNat)) (σ ++ [.arr (P.cellsOf (P.elem T)) 0 (P.elem T) (List.replicate n.toNat z)]) := fun G a w hs => by
  have hi := hs.inv
  have hu' := isSl_und hT
  have hui := isInt_und hT'
  have hrx : RepT G.H .nils (a.eval x) := at_ev hs hx
  have ey := rep_int (at_ev hs hy)
  obtain ⟨i, zu, h1, h2, h3, h4, h5, h6⟩ := zeroC_all G hz
  obtain ⟨m, rfl⟩ : ∃ m : Nat, n = (m : Int) := ⟨n.toNat, by omega⟩
  simp only [Int.toNat_natCast] at hr ⊢
  have hm : m ≤ maxLen := by omega
  have hzl : z.length = i.size := by have := h6.length; simp at this; omega
  have hwr : IntKind.i64.wrap (m : Int) = m := by rw [IntKind.wrap_i64]; simp only [maxLen] at hm; omega
  generalize hv : a.eval x = u at hrx
  cases hrx
  have hb0 : ¬ (281474976710656 < (m : Int) * (i.bytes : Int)) := by
    rw [← h5]
    rw [← Int.natCast_mul]
    generalize m * P.bytesOf (P.elem T) = q at hr
    omega
  by_cases h0 : m = 0
  · subst h0
    have hrun : (Builtin.append_ #[T, T'] o.type #[.slice none 0 0, .int .i64 (0 : Nat)]).run P w = .ok (.slice none 0 0) w := by
      simp [Builtin.append_, run_underlying hu', run_underlying hui, Go.sizeOf, typeInfo, h1, asInt, asIntOf, IntKind.wrap_i64]
    have hle : OwnLe G.own (G.own ++ [some ⟨0, P.cellsOf (P.elem T), 0, 0, false⟩]) := OwnLe.append _ _
    have hlast : (G.own ++ [some (⟨0, P.cellsOf (P.elem T), 0, 0, false⟩ : OG)])[σ.length]? = some (some ⟨0, P.cellsOf (P.elem T), 0, 0, false⟩) := by rw [← hi.len]; simp
    refine ⟨.value (.slice none 0 0), .slice none 0 0, w, { G with own := G.own ++ [some ⟨0, P.cellsOf (P.elem T), 0, 0, false⟩] }, ?_, .inl rfl, ⟨fun _ _ h => h, rfl, rfl, rfl⟩, hle, ?_, ?_⟩
    · simp only [execOp, ho, Sem.run_bind, resolve, hc, Sem.run_pure, Result.andThen_ok, invoke, hts, has, List.map_toArray, List.map_cons, List.map_nil, hv, ey, builtin, hrun]
    · refine hi.push _ _ (Nat.le_refl _) (fun _ _ => rfl) (fun h => by simp at h) rfl rfl rfl ?_
      exact ⟨_, hlast, rfl, rfl, hpos, by simp, by simp [maxLen], by simp, fun _ => rfl, fun h => by simp at h⟩
    · refine ⟨rfl, _, hlast, fun o e => ?_⟩
      simp only [Option.some.injEq] at e; subst e
      exact ⟨Nat.le_refl _, fun _ => ⟨by simp, none, by simp, fun h => by simp at h⟩⟩
  · have hfit := growslice_fits (need := m) (old := 0) (bytes := i.bytes) (by omega) (by rw [← h5]; simpa using hr)
    have h48' : ¬ (281474976710656 < Builtin.nextslicecap m 0 * i.bytes) := by omega
    have hms : m * i.size ≠ 0 := Nat.mul_ne_zero h0 (by omega)
    have h63' : ¬ (9223372036854775807 < (m : Int)) := by simp only [maxLen] at hm; omega
    have hrun : (Builtin.append_ #[T, T'] o.type #[.slice none 0 0, .int .i64 (m : Nat)]).run P w =
        .ok (.slice (some ⟨w.heap.size, 0, none⟩) m (grownCap w m 0 (P.elem T))) (w.drew.alloc (.cells ((Builtin.zeroCells zu.cells m).toList ++ (Builtin.zeroCells zu.cells (grownCap w m 0 (P.elem T) - m)).toList).toArray (P.elem T))) := by
      have hms2 : ¬ (m * i.size = 0) := hms
      have hneg : ¬ ((m : Int) < 0) := by omega
      simp [Builtin.append_, run_underlying hu', run_underlying hui, Go.sizeOf, typeInfo, zeroValue, h1, h2, asInt, asIntOf, hwr, hb0, h0, h63', h48', Question.forced, newRow, grownCap, hms2, hneg, run_firstCells_none]
      congr 2
      apply Array.ext'
      simp
    obtain ⟨q1, q2⟩ := cap_ok (w := w) (c := 0) (e := P.elem T) hm
    have hrows := rows_rep (H := G.H) (s := i.size) (n := m) (m := grownCap w m 0 (P.elem T)) h6 hzl q1
    have hzc : ∀ k j : Nat, (Builtin.zeroCells zu.cells k)[j]? = (madeCells zu.cells (k * i.size))[j]? := by
      intro k j
      simp only [Builtin.zeroCells, madeCells, h3]
    have hcells : ∀ j, j < m * i.size → ((Builtin.zeroCells zu.cells m).toList ++ (Builtin.zeroCells zu.cells (grownCap w m 0 (P.elem T) - m)).toList).toArray[j]? = (madeCells zu.cells (grownCap w m 0 (P.elem T) * i.size))[j]? := by
      intro j hj
      have hjm : j < grownCap w m 0 (P.elem T) * i.size := Nat.lt_of_lt_of_le hj (Nat.mul_le_mul_right _ q1)
      rw [List.getElem?_toArray, List.getElem?_append_left (by simp [size_zc, h3]; exact hj), Array.getElem?_toList, hzc]
      simp [madeCells, hj, hjm]
    obtain ⟨G', g1, g2, g3, g4⟩ := push_arr (s := P.cellsOf (P.elem T)) (T := P.elem T) (es := List.replicate m z) (c := ((Builtin.zeroCells zu.cells m).toList ++ (Builtin.zeroCells zu.cells (grownCap w m 0 (P.elem T) - m)).toList).toArray) (cap := grownCap w m 0 (P.elem T)) hi (.inl rfl) hpos (by simpa using q1) q2
      (by intro e he; rw [(List.mem_replicate.1 he).2]; omega)
      (by simp [size_zc, h3, ← h4]; rw [← Nat.add_mul]; congr 1; omega)
      (by
        rw [h4]
        exact hrows.congr (fun i e he => by
          have := List.mem_of_getElem? he
          rw [(List.mem_replicate.1 this).2]; exact hzl) fun k hk => hcells k (by simpa using hk)) m q1
    exact ⟨_, _, _, G', by simp only [execOp, ho, Sem.run_bind, resolve, hc, Sem.run_pure, Result.andThen_ok, invoke, hts, has, List.map_toArray, List.map_cons, List.map_nil, hv, ey, builtin, hrun], .inl rfl, g1, g2, g3, g4⟩

/-- an own slice with elements is not nil -/
theorem Ext_eqO {o : Oper} {op : BinOp} {T T' : TypeId} {x y : Operand} {b ver lo len : Nat} (ho : o.op = .binOp op T x y T') (hop : op = .eql ∨ op = .neq)
    {s : Nat} {T0 : TypeId} {es : List (List CV)} (hx : ev E x = ⟨true, .c (.osl b ver lo len)⟩) (hσ : σ[b]? = some (.arr s ver T0 es)) (hy : ev E y = ⟨true, .c .nils⟩) (hT : isSl P T = true) (hl : 0 < len) :
    ExtTo P E σ o (.c (.bool (match op with | .eql => false | _ => true))) σ := .quiet fun G a w hs => by
  have hr : RepT G.H .nils (a.eval y) := at_ev hs hy
  obtain ⟨og, s', T'', es', hb', hown, hov, hosz, ⟨hcap, ad, hval, hha⟩, hok⟩ := alive_osl hs.inv (alive_of hσ) (at_ev hs hx)
  obtain ⟨o2, g1, g2, g3, g4, g5, g6, g7, g8, g9⟩ := hok
  rw [hown] at g1
  simp only [Option.some.injEq] at g1
  subst g1
  have hh : og.has = true := by
    cases hh : og.has with
    | true => rfl
    | false => have := g8 hh; omega
  obtain ⟨a', rfl, _⟩ := hha hh
  generalize hv : a.eval y = u at hr
  cases hr
  obtain ⟨q1, q2, q3⟩ := eq_some (P := P) (w := w) hT a' len (og.cap - lo)
  rcases hop with rfl | rfl
  · exact ⟨_, by simp only [execOp, ho, hval, hv, Sem.run_bind, q1, Result.andThen_ok, q2, Sem.run_pure], mk_bool _⟩
  · exact ⟨_, by simp only [execOp, ho, hval, hv, Sem.run_bind, q1, Result.andThen_ok, q3, Sem.run_pure]; rfl, mk_bool _⟩
end

/-! an own array takes another one's place -/
def CV.mvO (b k vk w : Nat) : CV → CV
  | .osl b' v lo len => if b' = k then (if v = vk then .osl b w lo len else .junk) else .osl b' v lo len
  | .oel b' v i j => if b' = k then (if v = vk then .oel b w i j else .junk) else .oel b' v i j
  | .optr b' off => if b' = k then .junk else .optr b' off
  | .fn f caps => .fn f caps
  | .junk => .junk
  | .bool x => .bool x
  | .int k n => .int k n
  | .str x => .str x
  | .nilp => .nilp
  | .nils => .nils
  | .nilf => .nilf
  | .nili => .nili
  | .emp => .emp
  | .emn => .emn
  | .tree s' es' => .tree s' es'
  | .tptr s' es' i j => .tptr s' es' i j
  | .ifc T g cs => .ifc T g cs
def CV.mv (b k vk w : Nat) : CV → CV
  | .fn f caps => .fn f (caps.map (CV.mvO b k vk w))
  | c => c.mvO b k vk w
def PV.mv (b k vk w : Nat) : PV → PV
  | .x => .x
  | .c y => .c (y.mv b k vk w)
  | .a ys => .a (ys.map (CV.mv b k vk w))
  | .t _ => .x
def OB.mv (b k vk w : Nat) : OB → OB
  | .box cs => .box (cs.map (CV.mv b k vk w))
  | .arr s' v T e => .arr s' v T e
  | .dead => .dead
def Tr.mv (b k vk w : Nat) : Tr → Tr
  | .nil => .nil
  | .leaf e => .leaf ⟨e.cond && (match e.v with | .t _ => false | _ => true), e.v.mv b k vk w⟩
  | .node a0 a1 a2 a3 a4 a5 a6 a7 => .node (a0.mv b k vk w) (a1.mv b k vk w) (a2.mv b k vk w) (a3.mv b k vk w) (a4.mv b k vk w) (a5.mv b k vk w) (a6.mv b k vk w) (a7.mv b k vk w)
def Env.mv (b k vk w : Nat) (E : Env) : Env := ⟨E.n, E.na, E.t.mv b k vk w⟩
theorem Tr.mv_get (b k vk w : Nat) (t : Tr) (j : Nat) : (t.mv b k vk w).get j = (t.get j).mv b k vk w := by
  rcases Nat.lt_or_ge j 8 with hj | hj
  · have hj' : j = 0 ∨ j = 1 ∨ j = 2 ∨ j = 3 ∨ j = 4 ∨ j = 5 ∨ j = 6 ∨ j = 7 := by omega
    cases t <;> rcases hj' with rfl | rfl | rfl | rfl | rfl | rfl | rfl | rfl <;> rfl
  · rw [Tr.get_big _ _ hj, Tr.get_big _ _ hj]; rfl
theorem Tr.mv_ent (b k vk w : Nat) (t : Tr) : (t.mv b k vk w).ent = ⟨t.ent.cond && (match t.ent.v with | .t _ => false | _ => true), t.ent.v.mv b k vk w⟩ := by
  cases t <;> rfl
section
variable {G : Gh} {σ : List OB} {w : World} {b k sb vb sk vk : Nat} {Tb Tk : TypeId} {eb ek : List (List CV)} {ob ok : OG}

def mvG (G : Gh) (b k : Nat) (ob ok : OG) : Gh := { G with own := (G.own.set k none).set b (some { ok with ver := ob.ver + 1 }) }

theorem mv_at (hbk : b ≠ k) (hk : G.own[k]? = some (some ok)) (hb : G.own[b]? = some (some ob)) (x : Nat) :
    (mvG G b k ob ok).own[x]? = if x = b then some (some { ok with ver := ob.ver + 1 }) else if x = k then some none else G.own[x]? := by
  have h1 := (List.getElem?_eq_some_iff.1 hb).1
  have h2 := (List.getElem?_eq_some_iff.1 hk).1
  simp only [mvG]
  by_cases e : x = b
  · subst e; rw [if_pos rfl]; simp [h1]
  · rw [if_neg e, List.getElem?_set_ne (Ne.symm e)]
    by_cases e2 : x = k
    · subst e2; rw [if_pos rfl]; simp [h2]
    · rw [if_neg e2, List.getElem?_set_ne (Ne.symm e2)]

theorem mv_le (hbk : b ≠ k) (hk : G.own[k]? = some (some ok)) (hb : G.own[b]? = some (some ob)) : OwnLe G.own (mvG G b k ob ok).own := by
  intro x oo h
  rw [mv_at hbk hk hb]
  by_cases e : x = b
  · subst e
    rw [hb] at h
    simp only [Option.some.injEq] at h
    exact ⟨_, by rw [if_pos rfl], fun o' e => ⟨ob, h.symm, by simp only [Option.some.injEq] at e; subst e; right; show _ < _ + 1; omega⟩⟩
  · rw [if_neg e]
    by_cases e2 : x = k
    · exact ⟨none, by rw [if_pos e2], fun o' e => by cases e⟩
    · exact ⟨oo, by rw [if_neg e2]; exact h, fun o' ho' => ⟨o', ho', .inl rfl⟩⟩

theorem mvRepO (hbk : b ≠ k) (hk : G.own[k]? = some (some ok)) (hb : G.own[b]? = some (some ob)) (hvk : ok.ver = vk) {c : CV} {v : Value} (h : RepO G c v) :
    RepO (mvG G b k ob ok) (c.mvO b k vk (ob.ver + 1)) v := by
  have h1 : v.oneCell' = true := RepO.one h
  have hm : ∀ {c}, RepO G c v → RepO (mvG G b k ob ok) c v := fun h => RepO.mono (G := G) (G' := mvG G b k ob ok) (fun _ _ h => h) (mv_le hbk hk hb) h
  have junk : RepO (mvG G b k ob ok) .junk v := .junk v h1
  have hat : (mvG G b k ob ok).own[b]? = some (some { ok with ver := ob.ver + 1 }) := by rw [mv_at hbk hk hb, if_pos rfl]
  cases c <;> simp only [CV.mvO] <;> try exact hm h
  case optr b' off =>
    split
    · exact junk
    · exact hm h
  case oel b' v' i j =>
    split
    · rename_i e
      subst e
      split
      · rename_i e2
        subst e2
        obtain ⟨_, oo, k1, k2⟩ := h
        rw [hk] at k1
        simp only [Option.some.injEq] at k1
        obtain ⟨q1, q2⟩ := k2 ok k1.symm
        refine ⟨h1, _, hat, fun o e => ?_⟩
        simp only [Option.some.injEq] at e; subst e
        exact ⟨Nat.le_refl _, fun _ => q2 hvk.symm⟩
      · exact junk
    · exact hm h
  case osl b' v' lo len =>
    split
    · rename_i e
      subst e
      split
      · rename_i e2
        subst e2
        obtain ⟨_, oo, k1, k2⟩ := h
        rw [hk] at k1
        simp only [Option.some.injEq] at k1
        obtain ⟨q1, q2⟩ := k2 ok k1.symm
        refine ⟨h1, _, hat, fun o e => ?_⟩
        simp only [Option.some.injEq] at e; subst e
        exact ⟨Nat.le_refl _, fun _ => q2 hvk.symm⟩
      · exact junk
    · exact hm h

theorem mvRep (hbk : b ≠ k) (hk : G.own[k]? = some (some ok)) (hb : G.own[b]? = some (some ob)) (hvk : ok.ver = vk) {c : CV} {v : Value} (h : Rep G c v) :
    Rep (mvG G b k ob ok) (c.mv b k vk (ob.ver + 1)) v := by
  cases c
  case fn f caps =>
    obtain ⟨vs, rfl, h2⟩ := h
    refine ⟨vs, rfl, ?_⟩
    induction caps generalizing vs with
    | nil => cases vs <;> simp_all [All2]
    | cons c cs ih =>
      cases vs with
      | nil => simp [All2] at h2
      | cons v vs => exact ⟨mvRepO hbk hk hb hvk h2.1, ih vs h2.2⟩
  all_goals first
    | exact mvRepO hbk hk hb hvk (c := .junk) h
    | exact mvRepO hbk hk hb hvk (c := .bool _) h
    | exact mvRepO hbk hk hb hvk (c := .int _ _) h
    | exact mvRepO hbk hk hb hvk (c := .str _) h
    | exact mvRepO hbk hk hb hvk (c := .nilp) h
    | exact mvRepO hbk hk hb hvk (c := .nils) h
    | exact mvRepO hbk hk hb hvk (c := .nilf) h
    | exact mvRepO hbk hk hb hvk (c := .nili) h
    | exact mvRepO hbk hk hb hvk (c := .emp) h
    | exact mvRepO hbk hk hb hvk (c := .emn) h
    | exact mvRepO hbk hk hb hvk (c := .tree _ _) h
    | exact mvRepO hbk hk hb hvk (c := .tptr _ _ _ _) h
    | exact mvRepO hbk hk hb hvk (c := .ifc _ _ _) h
    | skip
  case optr b' off =>
    have := mvRepO hbk hk hb hvk (c := .optr b' off) h
    simp only [CV.mv]
    by_cases e : b' = k <;> simp only [CV.mvO, e, if_true, if_false] at this ⊢ <;> exact this
  case osl b' v' lo len =>
    have := mvRepO hbk hk hb hvk (c := .osl b' v' lo len) h
    simp only [CV.mv]
    by_cases e : b' = k
    · by_cases e2 : v' = vk <;> simp only [CV.mvO, e, e2, if_true, if_false] at this ⊢ <;> exact this
    · simp only [CV.mvO, e, if_false] at this ⊢; exact this
  case oel b' v' i j =>
    have := mvRepO hbk hk hb hvk (c := .oel b' v' i j) h
    simp only [CV.mv]
    by_cases e : b' = k
    · by_cases e2 : v' = vk <;> simp only [CV.mvO, e, e2, if_true, if_false] at this ⊢ <;> exact this
    · simp only [CV.mvO, e, if_false] at this ⊢; exact this

theorem mvAll (hbk : b ≠ k) (hk : G.own[k]? = some (some ok)) (hb : G.own[b]? = some (some ob)) (hvk : ok.ver = vk) : ∀ {cs : List CV} {vs : List Value}, All2 (Rep G) cs vs → All2 (Rep (mvG G b k ob ok)) (cs.map (CV.mv b k vk (ob.ver + 1))) vs
  | [], [], _ => trivial
  | _ :: _, _ :: _, h => ⟨mvRep hbk hk hb hvk h.1, mvAll hbk hk hb hvk h.2⟩
end

theorem Ghost_mv {E : Env} {σ : List OB} (b k : Nat) {sb vb sk vk : Nat} {Tb Tk : TypeId} {eb ek : List (List CV)} (hbk : b ≠ k) (hσb : σ[b]? = some (.arr sb vb Tb eb)) (hσk : σ[k]? = some (.arr sk vk Tk ek)) :
    Ghost E σ (E.mv b k vk (vb + 1)) (((σ.set k .dead).set b (.arr sk (vb + 1) Tk ek)).map (OB.mv b k vk (vb + 1))) := by
  intro G a w hs
  have hi := hs.inv
  obtain ⟨ob, hob, hvb, _⟩ := hi.own b _ hσb
  obtain ⟨ok, hok, hvk, r3, r4, r5, r6, r7, r8, r9⟩ := hi.own k _ hσk
  subst hvb
  have hat := mv_at (G := G) hbk hok hob
  have hle := mv_le (G := G) hbk hok hob
  have hne : ∀ (x : Nat) (o' : OG), (mvG G b k ob ok).own[x]? = some (some o') → (x = b ∧ o' = { ok with ver := ob.ver + 1 }) ∨ (x ≠ b ∧ x ≠ k ∧ G.own[x]? = some (some o')) := by
    intro x o' h
    rw [hat] at h
    split at h
    · rename_i e; simp only [Option.some.injEq] at h; exact .inl ⟨e, h.symm⟩
    · rename_i e
      split at h
      · simp at h
      · rename_i e2; exact .inr ⟨e, e2, h⟩
  refine ⟨mvG G b k ob ok, .mk' ⟨fun _ _ h => h, rfl, rfl, rfl⟩ hle, ⟨hi.hH, hi.hF, hi.HF, by simp [mvG, hi.len], ?_, ?_, ?_, hi.os, hi.tape, hi.output, hi.grow⟩, hs.defers, hs.size, hs.na, fun i hc => ?_⟩
  · intro x obx h
    rw [List.getElem?_map, Option.map_eq_some_iff] at h
    obtain ⟨ob', h1, rfl⟩ := h
    have hlb : b < σ.length := (List.getElem?_eq_some_iff.1 hσb).1
    have hlk : k < σ.length := (List.getElem?_eq_some_iff.1 hσk).1
    by_cases e : x = b
    · subst e
      rw [List.getElem?_set_self (by simpa using hlb)] at h1
      simp only [Option.some.injEq] at h1
      subst h1
      exact ⟨{ ok with ver := ob.ver + 1 }, by rw [hat, if_pos rfl], rfl, r3, r4, r5, r6, r7, r8, r9⟩
    · rw [List.getElem?_set_ne (Ne.symm e)] at h1
      by_cases e2 : x = k
      · subst e2
        rw [List.getElem?_set_self hlk] at h1
        simp only [Option.some.injEq] at h1
        subst h1
        show (mvG G b x ob ok).own[x]? = some none
        rw [hat, if_neg e, if_pos rfl]
      · rw [List.getElem?_set_ne (Ne.symm e2)] at h1
        have hx : (mvG G b k ob ok).own[x]? = G.own[x]? := by rw [hat, if_neg e, if_neg e2]
        have hokx := hi.own x ob' h1
        cases ob' with
        | dead => simpa [OB.mv, OwnOk, hx] using hokx
        | box cs =>
          obtain ⟨o', c, T', g1, g2, g3, g4, g5⟩ := hokx
          exact ⟨o', c, T', hx.trans g1, g2, g3, g4, mvAll hbk hok hob hvk g5⟩
        | arr s' v' T' e' =>
          obtain ⟨o', g1, g2, g3, g4, g5, g6, g7, g8, g9⟩ := hokx
          exact ⟨o', hx.trans g1, g2, g3, g4, g5, g6, g7, g8, g9⟩
  · intro x x' o1 o2 h1 h2 hh1 hh2 he
    rcases hne x o1 h1 with ⟨e1, f1⟩ | ⟨e1, e1', f1⟩ <;> rcases hne x' o2 h2 with ⟨e2, f2⟩ | ⟨e2, e2', f2⟩
    · omega
    · subst f1
      have := hi.inj k x' ok o2 hok f2 hh1 hh2 he
      omega
    · subst f2
      have := hi.inj x k o1 ok f1 hok hh1 hh2 he
      omega
    · exact hi.inj x x' o1 o2 f1 f2 hh1 hh2 he
  · intro x o' h hh
    rcases hne x o' h with ⟨e1, f1⟩ | ⟨e1, e1', f1⟩
    · subst f1; exact hi.sep k ok hok hh
    · exact hi.sep x o' f1 hh
  · have hget : (E.mv b k vk (ob.ver + 1)).get i = ⟨(E.get i).cond && (match (E.get i).v with | .t _ => false | _ => true), (E.get i).v.mv b k vk (ob.ver + 1)⟩ := by
      unfold Env.get Env.mv
      simp only
      rw [Tr.mv_get, Tr.mv_get, Tr.mv_get, Tr.mv_ent]
    rw [hget] at hc ⊢
    simp only [Bool.and_eq_true] at hc
    have hr := hs.slot i hc.1
    cases hv : (E.get i).v with
    | x => trivial
    | c y => rw [hv] at hr; exact mvRep hbk hok hob hvk hr
    | a ys => rw [hv] at hr; obtain ⟨vs, e, h2⟩ := hr; exact ⟨vs, e, mvAll hbk hok hob hvk h2⟩
    | t ps => rw [hv] at hc; simp at hc

/-- rules for that -/
theorem s_mv :
    ((∀ b k v w n na t, Env.mv b k v w ⟨n, na, t⟩ = ⟨n, na, t.mv b k v w⟩) ∧ (∀ b k v w, Tr.mv b k v w .nil = .nil) ∧ (∀ b k v w c y, Tr.mv b k v w (.leaf ⟨c, .c y⟩) = .leaf ⟨c, .c (y.mv b k v w)⟩) ∧ (∀ b k v w c ys, Tr.mv b k v w (.leaf ⟨c, .a ys⟩) = .leaf ⟨c, .a (ys.map (CV.mv b k v w))⟩) ∧
     (∀ b k v w c ps, Tr.mv b k v w (.leaf ⟨c, .t ps⟩) = .leaf ⟨false, .x⟩) ∧ (∀ b k v w c, Tr.mv b k v w (.leaf ⟨c, .x⟩) = .leaf ⟨c, .x⟩) ∧
     (∀ b k v w a0 a1 a2 a3 a4 a5 a6 a7, Tr.mv b k v w (.node a0 a1 a2 a3 a4 a5 a6 a7) = .node (a0.mv b k v w) (a1.mv b k v w) (a2.mv b k v w) (a3.mv b k v w) (a4.mv b k v w) (a5.mv b k v w) (a6.mv b k v w) (a7.mv b k v w))) ∧
    ((∀ b k v w, OB.mv b k v w .dead = .dead) ∧ (∀ b k v w cs, OB.mv b k v w (.box cs) = .box (cs.map (CV.mv b k v w))) ∧ (∀ b k v w s' v' T e, OB.mv b k v w (.arr s' v' T e) = .arr s' v' T e)) ∧
    ((∀ b k v w x, CV.mv b k v w (.bool x) = .bool x) ∧ (∀ b k v w q n, CV.mv b k v w (.int q n) = .int q n) ∧ (∀ b k v w x, CV.mv b k v w (.str x) = .str x) ∧ (∀ b k v w, CV.mv b k v w .nilp = .nilp) ∧ (∀ b k v w, CV.mv b k v w .nils = .nils) ∧
     (∀ b k v w, CV.mv b k v w .nilf = .nilf) ∧ (∀ b k v w, CV.mv b k v w .nili = .nili) ∧ (∀ b k v w, CV.mv b k v w .emp = .emp) ∧ (∀ b k v w, CV.mv b k v w .emn = .emn) ∧ (∀ b k v w, CV.mv b k v w .junk = .junk) ∧ (∀ b k v w s' e', CV.mv b k v w (.tree s' e') = .tree s' e') ∧
     (∀ b k v w s' e' i j, CV.mv b k v w (.tptr s' e' i j) = .tptr s' e' i j) ∧ (∀ b k v w T g cs, CV.mv b k v w (.ifc T g cs) = .ifc T g cs)) ∧
    ((∀ b k v w b' v' lo len, CV.mv b k v w (.osl b' v' lo len) = if b' = k then (if v' = v then .osl b w lo len else .junk) else .osl b' v' lo len) ∧
     (∀ b k v w b' v' i j, CV.mv b k v w (.oel b' v' i j) = if b' = k then (if v' = v then .oel b w i j else .junk) else .oel b' v' i j) ∧ (∀ b k v w b' off, CV.mv b k v w (.optr b' off) = if b' = k then .junk else .optr b' off) ∧
     (∀ b k v w f caps, CV.mv b k v w (.fn f caps) = .fn f (caps.map (CV.mvO b k v w)))) := by
  refine ⟨⟨?_, ?_, ?_, ?_, ?_, ?_, ?_⟩, ⟨?_, ?_, ?_⟩, ⟨?_, ?_, ?_, ?_, ?_, ?_, ?_, ?_, ?_, ?_, ?_, ?_, ?_⟩, ?_, ?_, ?_, ?_⟩
  all_goals intros
  all_goals first | rfl | (simp [Tr.mv, PV.mv]; done)

/-- a box's cell that holds nil is an own array without elements -/
theorem Ghost_nilB {E : Env} {σ : List OB} (b j s : Nat) (T : TypeId) {cs : List CV} (hs : 0 < s) (hσ : σ[b]? = some (.box cs)) (hj : cs[j]? = some .nils) :
    Ghost E σ E (σ.set b (.box (cs.set j (.osl σ.length 0 0 0))) ++ [.arr s 0 T []]) := by
  intro G a w hs'
  have hi := hs'.inv
  have hi2 := hi.nil s T hs
  have hle : OwnLe G.own (G.own ++ [some ⟨0, s, 0, 0, false⟩]) := OwnLe.append _ _
  have hlt : b < σ.length := (List.getElem?_eq_some_iff.1 hσ).1
  refine ⟨{ G with own := G.own ++ [some ⟨0, s, 0, 0, false⟩] }, .mk' ⟨fun _ _ h => h, rfl, rfl, rfl⟩ hle, ?_, hs'.defers, hs'.size, hs'.na, fun i hc => RepP.mono (G := G) (G' := { G with own := G.own ++ [some ⟨0, s, 0, 0, false⟩] }) (fun _ _ h => h) hle (hs'.slot i hc)⟩
  have hset : σ.set b (.box (cs.set j (.osl σ.length 0 0 0))) ++ [.arr s 0 T []] = (σ ++ [OB.arr s 0 T []]).set b (.box (cs.set j (.osl σ.length 0 0 0))) := by
    rw [List.set_append_left _ _ hlt]
  rw [hset]
  refine ⟨hi2.hH, hi2.hF, hi2.HF, by simpa using hi2.len, fun x ob hx => ?_, hi2.inj, hi2.sep, hi2.os, hi2.tape, hi2.output, hi2.grow⟩
  by_cases hxb : x = b
  · subst hxb
    rw [List.getElem?_set_self (by simp; omega)] at hx
    simp only [Option.some.injEq] at hx; subst hx
    obtain ⟨o, c, T', h1, h2, h3, h4, h5⟩ := hi2.own x (.box cs) (by rw [List.getElem?_append_left hlt]; exact hσ)
    refine ⟨o, c, T', h1, h2, h3, h4, ?_⟩
    have hlen := h5.length
    refine All2.of_get (by simpa using hlen) fun i y v hy hv => ?_
    by_cases e : i = j
    · subst e
      have hl : i < cs.length := (List.getElem?_eq_some_iff.1 hj).1
      rw [List.getElem?_set_self hl] at hy
      simp only [Option.some.injEq] at hy; subst hy
      obtain ⟨v', hv', hr⟩ := h5.get i _ hj
      rw [hv] at hv'
      simp only [Option.some.injEq] at hv'; subst hv'
      exact nil_osl hi s (v := v) hr
    · rw [List.getElem?_set_ne (Ne.symm e)] at hy
      obtain ⟨v', hv', hr⟩ := h5.get i _ hy
      rw [hv] at hv'
      simp only [Option.some.injEq] at hv'; subst hv'
      exact hr
  · rw [List.getElem?_set_ne (Ne.symm hxb)] at hx
    exact hi2.own x ob hx

/-- an own array's first elements are enough -/
theorem Ghost_trim {E : Env} {σ : List OB} (b n : Nat) {s ver : Nat} {T : TypeId} {es : List (List CV)} (hσ : σ[b]? = some (.arr s ver T es)) : Ghost E σ E (σ.set b (.arr s ver T (es.take n))) := by
  intro G a w hs'
  have hi := hs'.inv
  have hlt : b < σ.length := (List.getElem?_eq_some_iff.1 hσ).1
  refine ⟨G, Gle.refl G, ?_, hs'.defers, hs'.size, hs'.na, hs'.slot⟩
  refine ⟨hi.hH, hi.hF, hi.HF, by simpa using hi.len, fun k ob hk => ?_, hi.inj, hi.sep, hi.os, hi.tape, hi.output, hi.grow⟩
  by_cases hkb : k = b
  · subst hkb
    rw [List.getElem?_set_self hlt] at hk
    simp only [Option.some.injEq] at hk; subst hk
    obtain ⟨o, g1, g2, g3, g4, g5, g6, g7, g8, g9⟩ := hi.own k _ hσ
    refine ⟨o, g1, g2, g3, g4, by simp; omega, g6, fun e he => g7 e (List.mem_of_mem_take he), g8, fun hh => ?_⟩
    obtain ⟨c, fz, r1, r2, r3, r4⟩ := g9 hh
    refine ⟨c, fz, r1, r2, r3, fun i j e x he hx => r4 i j e x ?_ hx⟩
    rw [List.getElem?_take] at he
    split at he
    · exact he
    · cases he
  · rw [List.getElem?_set_ne (Ne.symm hkb)] at hk
    exact hi.own k ob hk

/-! an own block goes down into a place that is free -/
def CV.dnO (b k : Nat) : CV → CV
  | .osl b' v lo len => if b' = k then .osl b v lo len else if b' = b then .junk else .osl b' v lo len
  | .oel b' v i j => if b' = k then .oel b v i j else if b' = b then .junk else .oel b' v i j
  | .optr b' off => if b' = k then .optr b off else if b' = b then .junk else .optr b' off
  | .fn f caps => .fn f caps
  | .junk => .junk
  | .bool x => .bool x
  | .int k n => .int k n
  | .str x => .str x
  | .nilp => .nilp
  | .nils => .nils
  | .nilf => .nilf
  | .nili => .nili
  | .emp => .emp
  | .emn => .emn
  | .tree s' es' => .tree s' es'
  | .tptr s' es' i j => .tptr s' es' i j
  | .ifc T g cs => .ifc T g cs
def CV.dn (b k : Nat) : CV → CV
  | .fn f caps => .fn f (caps.map (CV.dnO b k))
  | c => c.dnO b k
def PV.dn (b k : Nat) : PV → PV
  | .x => .x
  | .c y => .c (y.dn b k)
  | .a ys => .a (ys.map (CV.dn b k))
  | .t _ => .x
def OB.dn (b k : Nat) : OB → OB
  | .box cs => .box (cs.map (CV.dn b k))
  | .arr s' v T e => .arr s' v T e
  | .dead => .dead
def Tr.dn (b k : Nat) : Tr → Tr
  | .nil => .nil
  | .leaf e => .leaf ⟨e.cond && (match e.v with | .t _ => false | _ => true), e.v.dn b k⟩
  | .node a0 a1 a2 a3 a4 a5 a6 a7 => .node (a0.dn b k) (a1.dn b k) (a2.dn b k) (a3.dn b k) (a4.dn b k) (a5.dn b k) (a6.dn b k) (a7.dn b k)
def Env.dn (b k : Nat) (E : Env) : Env := ⟨E.n, E.na, E.t.dn b k⟩
theorem Tr.dn_get (b k : Nat) (t : Tr) (j : Nat) : (t.dn b k).get j = (t.get j).dn b k := by
  rcases Nat.lt_or_ge j 8 with hj | hj
  · have hj' : j = 0 ∨ j = 1 ∨ j = 2 ∨ j = 3 ∨ j = 4 ∨ j = 5 ∨ j = 6 ∨ j = 7 := by omega
    cases t <;> rcases hj' with rfl | rfl | rfl | rfl | rfl | rfl | rfl | rfl <;> rfl
  · rw [Tr.get_big _ _ hj, Tr.get_big _ _ hj]; rfl
theorem Tr.dn_ent (b k : Nat) (t : Tr) : (t.dn b k).ent = ⟨t.ent.cond && (match t.ent.v with | .t _ => false | _ => true), t.ent.v.dn b k⟩ := by
  cases t <;> rfl
section
variable {G : Gh} {σ : List OB} {w : World} {b k : Nat} {oo : Option OG}
def dnG (G : Gh) (b k : Nat) (oo : Option OG) : Gh := { G with own := (G.own.set k none).set b oo }
theorem dn_at (hbk : b ≠ k) (hk : G.own[k]? = some oo) (hb : G.own[b]? = some none) (x : Nat) :
    (dnG G b k oo).own[x]? = if x = b then some oo else if x = k then some none else G.own[x]? := by
  have h1 := (List.getElem?_eq_some_iff.1 hb).1
  have h2 := (List.getElem?_eq_some_iff.1 hk).1
  simp only [dnG]
  by_cases e : x = b
  · subst e; rw [if_pos rfl]; simp [h1]
  · rw [if_neg e, List.getElem?_set_ne (Ne.symm e)]
    by_cases e2 : x = k
    · subst e2; rw [if_pos rfl]; simp [h2]
    · rw [if_neg e2, List.getElem?_set_ne (Ne.symm e2)]
theorem dnRepO (hbk : b ≠ k) (hk : G.own[k]? = some oo) (hb : G.own[b]? = some none) {c : CV} {v : Value} (h : RepO G c v) : RepO (dnG G b k oo) (c.dnO b k) v := by
  have h1 : v.oneCell' = true := RepO.one h
  have hat := dn_at hbk hk hb
  have junk : RepO (dnG G b k oo) .junk v := .junk v h1
  have hm : ∀ {x : Nat} {Q : OG → Prop}, x ≠ b → x ≠ k → (∃ oo, G.own[x]? = some oo ∧ ∀ o, oo = some o → Q o) → ∃ oo', (dnG G b k oo).own[x]? = some oo' ∧ ∀ o, oo' = some o → Q o := by
    rintro x Q e1 e2 ⟨o1, h1, h2⟩
    exact ⟨o1, by rw [hat, if_neg e1, if_neg e2]; exact h1, h2⟩
  have hmk : ∀ {Q : OG → Prop}, (∃ oo, G.own[k]? = some oo ∧ ∀ o, oo = some o → Q o) → ∃ oo', (dnG G b k oo).own[b]? = some oo' ∧ ∀ o, oo' = some o → Q o := by
    rintro Q ⟨o1, h1, h2⟩
    rw [hk] at h1
    simp only [Option.some.injEq] at h1
    subst h1
    exact ⟨oo, by rw [hat, if_pos rfl], h2⟩
  cases c <;> simp only [CV.dnO] <;> try exact h
  case optr b' off =>
    split
    · rename_i e; subst e; exact ⟨h.1, hmk h.2⟩
    · split
      · exact junk
      · rename_i e1 e2; exact ⟨h.1, hm e2 e1 h.2⟩
  case oel b' v' i j =>
    split
    · rename_i e; subst e; exact ⟨h.1, hmk h.2⟩
    · split
      · exact junk
      · rename_i e1 e2; exact ⟨h.1, hm e2 e1 h.2⟩
  case osl b' v' lo len =>
    split
    · rename_i e; subst e; exact ⟨h.1, hmk h.2⟩
    · split
      · exact junk
      · rename_i e1 e2; exact ⟨h.1, hm e2 e1 h.2⟩
theorem dnRep (hbk : b ≠ k) (hk : G.own[k]? = some oo) (hb : G.own[b]? = some none) {c : CV} {v : Value} (h : Rep G c v) : Rep (dnG G b k oo) (c.dn b k) v := by
  cases c
  case fn f caps =>
    obtain ⟨vs, rfl, h2⟩ := h
    refine ⟨vs, rfl, ?_⟩
    induction caps generalizing vs with
    | nil => cases vs <;> simp_all [All2]
    | cons c cs ih =>
      cases vs with
      | nil => simp [All2] at h2
      | cons v vs => exact ⟨dnRepO hbk hk hb h2.1, ih vs h2.2⟩
  all_goals first
    | exact dnRepO hbk hk hb (c := .junk) h
    | exact dnRepO hbk hk hb (c := .bool _) h
    | exact dnRepO hbk hk hb (c := .int _ _) h
    | exact dnRepO hbk hk hb (c := .str _) h
    | exact dnRepO hbk hk hb (c := .nilp) h
    | exact dnRepO hbk hk hb (c := .nils) h
    | exact dnRepO hbk hk hb (c := .nilf) h
    | exact dnRepO hbk hk hb (c := .nili) h
    | exact dnRepO hbk hk hb (c := .emp) h
    | exact dnRepO hbk hk hb (c := .emn) h
    | exact dnRepO hbk hk hb (c := .tree _ _) h
    | exact dnRepO hbk hk hb (c := .tptr _ _ _ _) h
    | exact dnRepO hbk hk hb (c := .ifc _ _ _) h
    | skip
  case optr b' off =>
    have := dnRepO hbk hk hb (c := .optr b' off) h
    simp only [CV.dn]
    by_cases e : b' = k
    · simp only [CV.dnO, e, if_true] at this ⊢; exact this
    · by_cases e2 : b' = b <;> simp only [CV.dnO, e, e2, hbk, if_true, if_false] at this ⊢ <;> exact this
  case osl b' v' lo len =>
    have := dnRepO hbk hk hb (c := .osl b' v' lo len) h
    simp only [CV.dn]
    by_cases e : b' = k
    · simp only [CV.dnO, e, if_true] at this ⊢; exact this
    · by_cases e2 : b' = b <;> simp only [CV.dnO, e, e2, hbk, if_true, if_false] at this ⊢ <;> exact this
  case oel b' v' i j =>
    have := dnRepO hbk hk hb (c := .oel b' v' i j) h
    simp only [CV.dn]
    by_cases e : b' = k
    · simp only [CV.dnO, e, if_true] at this ⊢; exact this
    · by_cases e2 : b' = b <;> simp only [CV.dnO, e, e2, hbk, if_true, if_false] at this ⊢ <;> exact this
theorem dnAll (hbk : b ≠ k) (hk : G.own[k]? = some oo) (hb : G.own[b]? = some none) : ∀ {cs : List CV} {vs : List Value}, All2 (Rep G) cs vs → All2 (Rep (dnG G b k oo)) (cs.map (CV.dn b k)) vs
  | [], [], _ => trivial
  | _ :: _, _ :: _, h => ⟨dnRep hbk hk hb h.1, dnAll hbk hk hb h.2⟩
end

theorem Ghost_dn {E : Env} {σ : List OB} (b k : Nat) {ob : OB} (hbk : b ≠ k) (hna : E.na ≤ b) (hnk : E.na ≤ k) (hσb : σ[b]? = some .dead) (hσk : σ[k]? = some ob) :
    Ghost E σ (E.dn b k) (((σ.set k .dead).set b ob).map (OB.dn b k)) := by
  intro G a w hs
  have hi := hs.inv
  have hob : G.own[b]? = some none := hi.own b _ hσb
  have hlk : k < σ.length := (List.getElem?_eq_some_iff.1 hσk).1
  have hlb : b < σ.length := (List.getElem?_eq_some_iff.1 hσb).1
  obtain ⟨oo, hok⟩ : ∃ oo, G.own[k]? = some oo := ⟨_, List.getElem?_eq_getElem (by rw [hi.len]; exact hlk)⟩
  have hat := dn_at (G := G) hbk hok hob
  have hne : ∀ (x : Nat) (o' : OG), (dnG G b k oo).own[x]? = some (some o') → (x = b ∧ G.own[k]? = some (some o')) ∨ (x ≠ b ∧ x ≠ k ∧ G.own[x]? = some (some o')) := by
    intro x o' h
    rw [hat] at h
    split at h
    · rename_i e; simp only [Option.some.injEq] at h; exact .inl ⟨e, by rw [hok, h]⟩
    · rename_i e
      split at h
      · simp at h
      · rename_i e2; exact .inr ⟨e, e2, h⟩
  refine ⟨dnG G b k oo, ⟨⟨fun _ _ h => h, rfl, rfl, rfl⟩, fun x o1 hx h1 => ?_⟩, ⟨hi.hH, hi.hF, hi.HF, by simp [dnG, hi.len], ?_, ?_, ?_, hi.os, hi.tape, hi.output, hi.grow⟩, hs.defers, hs.size, hs.na, fun i hc => ?_⟩
  · have := hs.na
    refine ⟨o1, by rw [hat, if_neg (by omega), if_neg (by omega)]; exact h1, fun o' e => ⟨o', e, .inl rfl⟩⟩
  · intro x obx h
    rw [List.getElem?_map, Option.map_eq_some_iff] at h
    obtain ⟨ob', h1, rfl⟩ := h
    have conv : ∀ (y : Nat) (ob' : OB), OwnOk G w y ob' → (dnG G b k oo).own[x]? = G.own[y]? → OwnOk (dnG G b k oo) w x (ob'.dn b k) := by
      intro y ob' hokx hx
      cases ob' with
      | dead => simpa [OB.dn, OwnOk, hx] using hokx
      | box cs =>
        obtain ⟨o', c, T', g1, g2, g3, g4, g5⟩ := hokx
        exact ⟨o', c, T', hx.trans g1, g2, g3, g4, dnAll hbk hok hob g5⟩
      | arr s' v' T' e' =>
        obtain ⟨o', g1, g2, g3, g4, g5, g6, g7, g8, g9⟩ := hokx
        exact ⟨o', hx.trans g1, g2, g3, g4, g5, g6, g7, g8, g9⟩
    by_cases e : x = b
    · subst e
      rw [List.getElem?_set_self (by simpa using hlb)] at h1
      simp only [Option.some.injEq] at h1
      subst h1
      exact conv k _ (hi.own k _ hσk) (by rw [hat, if_pos rfl, hok])
    · rw [List.getElem?_set_ne (Ne.symm e)] at h1
      by_cases e2 : x = k
      · subst e2
        rw [List.getElem?_set_self hlk] at h1
        simp only [Option.some.injEq] at h1
        subst h1
        show (dnG G b x oo).own[x]? = some none
        rw [hat, if_neg e, if_pos rfl]
      · rw [List.getElem?_set_ne (Ne.symm e2)] at h1
        exact conv x _ (hi.own x ob' h1) (by rw [hat, if_neg e, if_neg e2])
  · intro x x' o1 o2 h1 h2 hh1 hh2 he
    rcases hne x o1 h1 with ⟨e1, f1⟩ | ⟨e1, e1', f1⟩ <;> rcases hne x' o2 h2 with ⟨e2, f2⟩ | ⟨e2, e2', f2⟩
    · omega
    · have := hi.inj k x' o1 o2 f1 f2 hh1 hh2 he; omega
    · have := hi.inj x k o1 o2 f1 f2 hh1 hh2 he; omega
    · exact hi.inj x x' o1 o2 f1 f2 hh1 hh2 he
  · intro x o' h hh
    rcases hne x o' h with ⟨e1, f1⟩ | ⟨e1, e1', f1⟩
    · exact hi.sep k o' f1 hh
    · exact hi.sep x o' f1 hh
  · have hget : (E.dn b k).get i = ⟨(E.get i).cond && (match (E.get i).v with | .t _ => false | _ => true), (E.get i).v.dn b k⟩ := by
      unfold Env.get Env.dn
      simp only
      rw [Tr.dn_get, Tr.dn_get, Tr.dn_get, Tr.dn_ent]
    rw [hget] at hc ⊢
    simp only [Bool.and_eq_true] at hc
    have hr := hs.slot i hc.1
    cases hv : (E.get i).v with
    | x => trivial
    | c y => rw [hv] at hr; exact dnRep hbk hok hob hr
    | a ys => rw [hv] at hr; obtain ⟨vs, e, h2⟩ := hr; exact ⟨vs, e, dnAll hbk hok hob h2⟩
    | t ps => rw [hv] at hc; simp at hc
theorem s_dn :
    ((∀ b k n na t, Env.dn b k ⟨n, na, t⟩ = ⟨n, na, t.dn b k⟩) ∧ (∀ b k, Tr.dn b k .nil = .nil) ∧ (∀ b k c y, Tr.dn b k (.leaf ⟨c, .c y⟩) = .leaf ⟨c, .c (y.dn b k)⟩) ∧ (∀ b k c ys, Tr.dn b k (.leaf ⟨c, .a ys⟩) = .leaf ⟨c, .a (ys.map (CV.dn b k))⟩) ∧
     (∀ b k c ps, Tr.dn b k (.leaf ⟨c, .t ps⟩) = .leaf ⟨false, .x⟩) ∧ (∀ b k c, Tr.dn b k (.leaf ⟨c, .x⟩) = .leaf ⟨c, .x⟩) ∧
     (∀ b k a0 a1 a2 a3 a4 a5 a6 a7, Tr.dn b k (.node a0 a1 a2 a3 a4 a5 a6 a7) = .node (a0.dn b k) (a1.dn b k) (a2.dn b k) (a3.dn b k) (a4.dn b k) (a5.dn b k) (a6.dn b k) (a7.dn b k))) ∧
    ((∀ b k, OB.dn b k .dead = .dead) ∧ (∀ b k cs, OB.dn b k (.box cs) = .box (cs.map (CV.dn b k))) ∧ (∀ b k s' v' T e, OB.dn b k (.arr s' v' T e) = .arr s' v' T e)) ∧
    ((∀ b k x, CV.dn b k (.bool x) = .bool x) ∧ (∀ b k q n, CV.dn b k (.int q n) = .int q n) ∧ (∀ b k x, CV.dn b k (.str x) = .str x) ∧ (∀ b k, CV.dn b k .nilp = .nilp) ∧ (∀ b k, CV.dn b k .nils = .nils) ∧
     (∀ b k, CV.dn b k .nilf = .nilf) ∧ (∀ b k, CV.dn b k .nili = .nili) ∧ (∀ b k, CV.dn b k .emp = .emp) ∧ (∀ b k, CV.dn b k .emn = .emn) ∧ (∀ b k, CV.dn b k .junk = .junk) ∧ (∀ b k s' e', CV.dn b k (.tree s' e') = .tree s' e') ∧
     (∀ b k s' e' i j, CV.dn b k (.tptr s' e' i j) = .tptr s' e' i j) ∧ (∀ b k T g cs, CV.dn b k (.ifc T g cs) = .ifc T g cs)) ∧
    ((∀ b k b' v' lo len, CV.dn b k (.osl b' v' lo len) = if b' = k then .osl b v' lo len else if b' = b then .junk else .osl b' v' lo len) ∧
     (∀ b k b' v' i j, CV.dn b k (.oel b' v' i j) = if b' = k then .oel b v' i j else if b' = b then .junk else .oel b' v' i j) ∧ (∀ b k b' off, CV.dn b k (.optr b' off) = if b' = k then .optr b off else if b' = b then .junk else .optr b' off) ∧
     (∀ b k f caps, CV.dn b k (.fn f caps) = .fn f (caps.map (CV.dnO b k)))) := by
  refine ⟨⟨?_, ?_, ?_, ?_, ?_, ?_, ?_⟩, ⟨?_, ?_, ?_⟩, ⟨?_, ?_, ?_, ?_, ?_, ?_, ?_, ?_, ?_, ?_, ?_, ?_, ?_⟩, ?_, ?_, ?_, ?_⟩
  all_goals intros
  all_goals first | rfl | (simp [Tr.dn, PV.dn]; done)

/-- a slot that holds an empty slice without room is an own array without elements -/
theorem Ghost_emp {E : Env} {σ : List OB} (i s : Nat) (T : TypeId) (hs : 0 < s) (hE : E.get i = ⟨true, .c .emp⟩) : Ghost E σ (E.put i ⟨true, .c (.osl σ.length 0 0 0)⟩) (σ ++ [.arr s 0 T []]) := by
  intro G a w hs'
  refine ⟨{ G with own := G.own ++ [some ⟨0, s, 0, 0, false⟩] }, .mk' ⟨fun _ _ h => h, rfl, rfl, rfl⟩ (OwnLe.append _ _), hs'.inv.nil s T hs, hs'.defers, hs'.size, hs'.na, fun j hc => ?_⟩
  have hg := Env.get_put E i j _ hc
  rw [hg] at hc ⊢
  by_cases hj : j = i
  · subst hj
    rw [if_pos rfl]
    have := hs'.slot j (by rw [hE])
    rw [hE] at this
    have hr : RepT G.H .emp (a.tmps.getD j undef) := this
    generalize a.tmps.getD j undef = v at hr
    cases hr
    have hlast : (G.own ++ [some (⟨0, s, 0, 0, false⟩ : OG)])[σ.length]? = some (some ⟨0, s, 0, 0, false⟩) := by rw [← hs'.inv.len]; simp
    exact ⟨rfl, _, hlast, fun o e => by
      simp only [Option.some.injEq] at e; subst e
      exact ⟨Nat.le_refl _, fun _ => ⟨Nat.le_refl _, _, rfl, fun h => by cases h⟩⟩⟩
  · rw [if_neg hj] at hc ⊢
    exact RepP.mono (G := G) (G' := { G with own := G.own ++ [some ⟨0, s, 0, 0, false⟩] }) (fun _ _ h => h) (OwnLe.append _ _) (hs'.slot j hc)

/-- an own array without elements, in no slot -/
theorem Ghost_new {E : Env} {σ : List OB} (s : Nat) (T : TypeId) (hs : 0 < s) : Ghost E σ E (σ ++ [.arr s 0 T []]) := by
  intro G a w hs'
  exact ⟨{ G with own := G.own ++ [some ⟨0, s, 0, 0, false⟩] }, .mk' ⟨fun _ _ h => h, rfl, rfl, rfl⟩ (OwnLe.append _ _), hs'.inv.nil s T hs, hs'.defers, hs'.size, hs'.na,
    fun j hc => RepP.mono (G := G) (G' := { G with own := G.own ++ [some ⟨0, s, 0, 0, false⟩] }) (fun _ _ h => h) (OwnLe.append _ _) (hs'.slot j hc)⟩

/-- a slot's own slice without elements: nil, or none -/
theorem W_nilcaseO {P : Program} {K : Kt} {E : Env} {σ : List OB} {c : Code} (i : Nat) {b ver lo n s : Nat} {T : TypeId} {es : List (List CV)} (hE : E.get i = ⟨true, .c (.osl b ver lo n)⟩) (hn : n = 0) (hσ : σ[b]? = some (.arr s ver T es))
    (h1 : W P c K (E.put i ⟨true, .c .nils⟩) σ) (h2 : W P c K (E.put i ⟨true, .c .emn⟩) σ) : W P c K E σ := fun G a w hs => by
  subst hn
  have hr := hs.slot i (by rw [hE])
  rw [hE] at hr
  obtain ⟨og, s', T'', es', hb', hown, hov, hosz, ⟨hcap, ad, hval, hha⟩, hok⟩ := alive_osl hs.inv (alive_of (lo := lo) (len := 0) hσ) hr
  obtain ⟨o2, g1, g2, g3, g4, g5, g6, g7, g8, g9⟩ := hok
  rw [hown] at g1
  simp only [Option.some.injEq] at g1
  subst g1
  have put : ∀ y : CV, RepT G.H y (a.tmps.getD i undef) → Sim G (E.put i ⟨true, .c y⟩) σ a w := fun y hy => by
    refine ⟨hs.inv, hs.defers, hs.size, hs.na, fun j hc => ?_⟩
    have hg := Env.get_put E i j _ hc
    rw [hg] at hc ⊢
    by_cases hj : j = i
    · subst hj; rw [if_pos rfl]; exact RepT.rep hy
    · rw [if_neg hj] at hc ⊢; exact hs.slot j hc
  have key : RepT G.H .nils (a.tmps.getD i undef) ∨ RepT G.H .emn (a.tmps.getD i undef) := by
    rw [hval]
    cases ad with
    | some a' => exact .inr (.emn _ _)
    | none =>
      have hh : og.has = false := by
        cases hh : og.has with
        | false => rfl
        | true => obtain ⟨a', e, _⟩ := hha hh; cases e
      have := g8 hh
      rw [this]
      left
      simp only [Nat.zero_sub]
      exact .nils
  rcases key with h | h
  · exact h1 G a w (put _ h)
  · exact h2 G a w (put _ h)

theorem take_lit {α : Type} (l : List α) (n : Nat) (h : l.length ≤ n) : (lit l).take n = lit l := List.take_of_length_le h
theorem take_map_lit {α β : Type} (f : α → β) (l : List α) (n : Nat) (h : l.length ≤ n) : ((lit l).map f).take n = (lit l).map f := List.take_of_length_le (by simpa [lit] using h)
end Pam

/- the rules of rewriting, in bundles -/
namespace Pam
open Go
theorem all_len {α : Type} {f : α → List CV} {l : List α} {n : Nat} (h : ∀ x, (f x).length = n) : ∀ e ∈ l.map f, e.length = n := by
  intro e he
  obtain ⟨x, _, rfl⟩ := List.mem_map.1 he
  exact h x
theorem b_cap : (∀ y, PV.capOk (.c y) = (match y with | .fn _ _ => false | _ => true)) ∧ (∀ b o, CV.flat (.optr b o) = false) ∧ (∀ b, CV.flat (.bool b) = true) ∧ (∀ k n, CV.flat (.int k n) = true) ∧ (∀ s, CV.flat (.str s) = true) ∧ (∀ s e, CV.flat (.tree s e) = true) ∧ CV.flat .nils = true ∧ CV.flat .nilp = true ∧ CV.flat .nilf = true ∧ CV.flat .nili = true ∧ CV.flat .emp = true ∧ (∀ b v l n, CV.flat (.osl b v l n) = false) ∧ (∀ b v l n, CV.flat (.oel b v l n) = false) := by
  refine ⟨?_, ?_, ?_, ?_, ?_, ?_, ?_, ?_, ?_, ?_, ?_, ?_, ?_⟩ <;> intros <;> first | rfl | skip
  rename_i y; cases y <;> rfl
def bL := (And.intro (And.intro (And.intro (And.intro (And.intro @List.mem_cons.{0} (And.intro @List.not_mem_nil.{0} @forall_eq_or_imp.{1})) (And.intro (And.intro @List.getElem?_cons_zero.{0} @List.getElem?_cons_succ.{0}) (And.intro @List.getElem?_nil.{0} @List.length_cons.{0}))) (And.intro (And.intro (And.intro @List.length_nil.{0} @List.length_map.{0, 0}) (And.intro @List.set_cons_zero.{0} @List.set_cons_succ.{0})) (And.intro (And.intro @List.drop_zero.{0} @List.drop_succ_cons.{0}) (And.intro @List.take_succ_cons.{0} @List.take_zero.{0})))) (And.intro (And.intro (And.intro (And.intro @List.headD_cons.{0} @List.cons_append.{0}) (And.intro @List.nil_append.{0} @List.map_cons.{0, 0})) (And.intro (And.intro @List.map_nil.{0, 0} @List.tail_cons.{0}) (And.intro @List.getD_cons_zero.{0} @List.getD_cons_succ.{0}))) (And.intro (And.intro (And.intro @true_and @and_true) (And.intro @eq_self.{1} @forall_const.{1})) (And.intro (And.intro @if_true.{0} @forall_eq.{1}) (And.intro @imp_self @implies_true.{1}))))) (And.intro (And.intro (And.intro (And.intro (And.intro @true_or @or_true) (And.intro @false_or @or_false)) (And.intro (And.intro @Nat.zero_add @Nat.add_zero) (And.intro @Int.toNat_natCast @Option.map_some.{0, 0}))) (And.intro (And.intro (And.intro @Option.map_none.{0, 0} @beq_self_eq_true.{0}) (And.intro @Bool.true_eq_false @Bool.false_eq_true)) (And.intro (And.intro @false_implies @not_false_eq_true) (And.intro @Nat.le_refl @List.all_cons.{0})))) (And.intro (And.intro (And.intro (And.intro @List.all_nil.{0} @List.replicate_succ.{0}) (And.intro @List.replicate_zero.{0} @List.flatten_cons.{0})) (And.intro (And.intro @List.flatten_nil.{0} @List.append_nil.{0}) (And.intro @Bool.and_true @List.foldr_cons.{0, 0}))) (And.intro (And.intro (And.intro @List.foldr_nil.{0, 0} @Option.isSome_some.{0}) (And.intro @Option.isSome_none.{0} @eK.eq_1)) (And.intro (And.intro @eB.eq_1 @eS.eq_1) (And.intro @eL.eq_1 b_cap))))))
def bM := (And.intro (And.intro (And.intro (And.intro (And.intro s_guard (And.intro s_fg s_env)) (And.intro s_get (And.intro s_put s_ev))) (And.intro (And.intro s_run (And.intro s_mem s_int)) (And.intro s_val (And.intro s_sl @need_tt)))) (And.intro (And.intro (And.intro @need_same (And.intro @len_lit s_frz)) (And.intro s_maps (And.intro s_beq s_ren))) (And.intro (And.intro @makeFuncR.eq_1 (And.intro @appendR.eq_1 @srcEs.eq_1)) (And.intro (And.intro @srcEs.eq_2 @srcEs.eq_3) (And.intro @srcEs.eq_4 @srcEs.eq_5))))) (And.intro (And.intro (And.intro (And.intro @makeSliceR.eq_1 (And.intro @sliceR.eq_1 @sliceR.eq_3)) (And.intro @widOk.eq_1 (And.intro @bnd.eq_1 @bnd.eq_2))) (And.intro (And.intro @binS.eq_1 (And.intro @binS.eq_2 @binS.eq_3)) (And.intro (And.intro @binS.eq_4 @binS.eq_5) (And.intro @binS.eq_6 @binS.eq_7)))) (And.intro (And.intro (And.intro @eqCs.eq_1 (And.intro @eqCs.eq_2 @eqC.eq_1)) (And.intro @eqC.eq_2 (And.intro @eqC.eq_3 @putCells.eq_1))) (And.intro (And.intro @buildR.eq_1 (And.intro @buildSliceR.eq_1 @fillC.eq_1)) (And.intro (And.intro @fillC.eq_2 @partE.eq_1) (And.intro @cut.eq_1 @cut.eq_2))))))
def bR := And.intro (And.intro (And.intro @runOps.eq_1 @runOps.eq_2) bL) (And.intro bM (And.intro (And.intro @stepR.eq_1 @stepR.eq_2) (And.intro @stepR.eq_3 @stepR.eq_4)))
def bA := And.intro (And.intro (And.intro (And.intro @anyOps.eq_1 @anyOps.eq_2) (And.intro @extB.eq_1 (And.intro @extB.eq_2 @extB.eq_3))) bL) (And.intro bM (And.intro (And.intro @stepA.eq_1 @stepA.eq_2) (And.intro @stepA.eq_3 @stepA.eq_4)))
def bE := And.intro (And.intro s_less s_fg) (And.intro s_env (And.intro s_get s_put))
def bS := And.intro (And.intro s_cap (And.intro s_inj @len_lit)) (And.intro bE (And.intro bL s_maps))
def bF := And.intro (And.intro s_end s_under) (And.intro (And.intro s_less s_inj) (And.intro (And.intro s_mem s_env) (And.intro (And.intro s_get s_put) (And.intro (And.intro @need_tt @need_same) (And.intro bL s_maps)))))
def bZ := And.intro (And.intro (And.intro s_fr s_mv) (And.intro s_dn s_frz)) (And.intro s_maps (And.intro (And.intro @len_lit (And.intro @take_lit @take_map_lit)) bE))
end Pam

/- Steps of the walk, each in one word: what settles them stands with them. Printed by a program of ours. -/
namespace Pam
open Go
section
variable {P : Program} {ops : Array Oper} {E E' E1 E2 : Env} {σ σ' σ1 σ2 : List OB} {k : Env → List OB → Prop} {kp : PV → Env → List OB → Prop} {l : List Oper} {K : Kt} {c y : Code}
theorem em {α : Type} [Inhabited α] (f : α → List CV) (xs : List α) (i : Nat) (h : i < xs.length := by first | omega | (simp only [len_lit, List.length_cons, List.length_nil, List.length_append, List.length_set, List.length_replicate, List.length_map, List.length_take, List.length_drop]; omega)) : elt (xs.map f) i = f (xs.getD i default) := elt_map f xs i h
structure Bx (p : Prop) : Prop where
  h : p
theorem sd {p q : Prop} (hq : q) (hp : p := by first | omega | assumption | decide | exact all_len fun _ => rfl | (intro _; omega) | rfl | exact fun e => absurd (List.map_eq_nil_iff.1 e) (by assumption) | (and_intros <;> first | omega | assumption | decide | exact all_len fun _ => rfl)) : p ∧ q := ⟨hp, hq⟩
theorem a2 {p q : Prop} (h : p) (i : q) : p ∧ q := ⟨h, i⟩
theorem go {p q : Prop} (hq : q) (h : Bx q → p := by
    intro hq
    simp only [bR, bT, tab, bX, reduceIte, ↓reduceIte, reduceCtorEq, Int.reduceToNat, Nat.reduceDiv, Nat.reduceMod, Nat.reduceLT, Nat.reduceLeDiff, Nat.reduceAdd, Nat.reduceSub, Nat.reduceMul, Nat.reduceEqDiff, Nat.reduceBEq, Nat.reduceBNe, Nat.reduceGT]
    repeat refine sd ?_
    exact hq.1) : p := h ⟨hq⟩
theorem gox {p q F : Prop} (fx : F) (hq : q) (h : F → Bx q → p := by
    intro fx hq
    simp only [bR, bT, tab, bX, reduceIte, ↓reduceIte, reduceCtorEq, Int.reduceToNat, Nat.reduceDiv, Nat.reduceMod, Nat.reduceLT, Nat.reduceLeDiff, Nat.reduceAdd, Nat.reduceSub, Nat.reduceMul, Nat.reduceEqDiff, Nat.reduceBEq, Nat.reduceBNe, Nat.reduceGT, fx]
    repeat refine sd ?_
    exact hq.1) : p := h fx ⟨hq⟩
theorem ga {p q : Prop} (hq : q) (h : Bx q → p := by
    intro hq
    simp only [bA, bT, tab, bX, reduceIte, ↓reduceIte, reduceCtorEq, Int.reduceToNat, Nat.reduceDiv, Nat.reduceMod, Nat.reduceLT, Nat.reduceLeDiff, Nat.reduceAdd, Nat.reduceSub, Nat.reduceMul, Nat.reduceEqDiff, Nat.reduceBEq, Nat.reduceBNe, Nat.reduceGT]
    repeat refine sd ?_
    exact hq.1) : p := h ⟨hq⟩
theorem gax {p q F : Prop} (fx : F) (hq : q) (h : F → Bx q → p := by
    intro fx hq
    simp only [bA, bT, tab, bX, reduceIte, ↓reduceIte, reduceCtorEq, Int.reduceToNat, Nat.reduceDiv, Nat.reduceMod, Nat.reduceLT, Nat.reduceLeDiff, Nat.reduceAdd, Nat.reduceSub, Nat.reduceMul, Nat.reduceEqDiff, Nat.reduceBEq, Nat.reduceBNe, Nat.reduceGT, fx]
    repeat refine sd ?_
    exact hq.1) : p := h fx ⟨hq⟩
theorem gz {p q : Prop} (hq : q) (h : Bx q → p := by
    intro hq
    simp only [bZ, bL, reduceIte, ↓reduceIte, reduceCtorEq, Int.reduceToNat, Nat.reduceDiv, Nat.reduceMod, Nat.reduceLT, Nat.reduceLeDiff, Nat.reduceAdd, Nat.reduceSub, Nat.reduceMul, Nat.reduceEqDiff, Nat.reduceBEq, Nat.reduceBNe, Nat.reduceGT]
    exact hq.1) : p := h ⟨hq⟩
theorem en {p : Prop} (h : p := by simp only [bF, bT, tab, bX, Sum.elim_inl, Sum.elim_inr, reduceIte, ↓reduceIte, reduceCtorEq, Int.reduceToNat, Nat.reduceDiv, Nat.reduceMod, Nat.reduceLT, Nat.reduceLeDiff, Nat.reduceAdd, Nat.reduceSub, Nat.reduceMul, Nat.reduceEqDiff, Nat.reduceBEq, Nat.reduceBNe, Nat.reduceGT] <;> first | done | rfl | (and_intros <;> first | rfl | omega | (simp; done) | (simp [eK, eB, eS, eL]; done))) : p := h
theorem ls {p : Prop} (h : p := by simp only [bS, bX, reduceIte, ↓reduceIte, reduceCtorEq, Int.reduceToNat, Nat.reduceDiv, Nat.reduceMod, Nat.reduceLT, Nat.reduceLeDiff, Nat.reduceAdd, Nat.reduceSub, Nat.reduceMul, Nat.reduceEqDiff, Nat.reduceBEq, Nat.reduceBNe, Nat.reduceGT] <;> first | done | (and_intros <;> first | rfl | (simp; done) | omega | (simp [lit, bX, eK, eB, eS, eL]; done) | (simp only [len_lit, List.length_cons, List.length_nil, List.length_append, List.length_set, List.length_replicate, List.length_map, List.length_take, List.length_drop]; omega))) : p := h
theorem W_rg {id : Nat} (ms : List Nat) (next : W P y K E' σ') (h : ∀ (k : Env → List OB → Prop) (kp : PV → Env → List OB → Prop), k E' σ' → runOps P l.toArray l E σ (fun E σ => k (E.forget ms) σ) kp := by
    intro k kp hk
    refine go ?_
    exact hk) : W P (.seq (.region id l.toArray false) y) K E σ := W_regF ms fun k kp hk _ => h k kp (hk _ _ next)
theorem W_rn {id : Nat} (next : K .normal E' σ') (h : ∀ (k : Env → List OB → Prop) (kp : PV → Env → List OB → Prop), k E' σ' → runOps P l.toArray l E σ k kp := by
    intro k kp hk
    refine go ?_
    exact hk) : W P (.region id l.toArray false) K E σ := W_region fun k kp hk _ => h k kp (hk _ _ next)
theorem W_ag {id : Nat} (ms : List Nat) (masks : List Nat) (bs : List Bool) (next : W P y K E' σ') (hm : P.follows .mixedOrders = true := by kernel_rfl) (hc : chk l.toArray l masks bs = true := by kernel_rfl)
    (h : ∀ (k : Env → List OB → Prop), k E' σ' → anyOps P l.toArray l bs E σ (fun E σ => k (E.forget ms) σ) := by
    intro k hk
    refine ga ?_
    exact hk) : W P (.seq (.region id l.toArray true) y) K E σ := W_anyF ms hm masks bs hc fun k hk => h k (hk _ _ next)
theorem W_an {id : Nat} (masks : List Nat) (bs : List Bool) (next : K .normal E' σ') (hm : P.follows .mixedOrders = true := by kernel_rfl) (hc : chk l.toArray l masks bs = true := by kernel_rfl)
    (h : ∀ (k : Env → List OB → Prop), k E' σ' → anyOps P l.toArray l bs E σ k := by
    intro k hk
    refine ga ?_
    exact hk) : W P (.region id l.toArray true) K E σ := W_any hm masks bs hc fun k hk => h k (hk _ _ next)
theorem W_rgx {F : Prop} (fx : F) {id : Nat} (ms : List Nat) (next : W P y K E' σ') (h : F → ∀ (k : Env → List OB → Prop) (kp : PV → Env → List OB → Prop), k E' σ' → runOps P l.toArray l E σ (fun E σ => k (E.forget ms) σ) kp := by
    intro fx k kp hk
    refine gox fx ?_
    exact hk) : W P (.seq (.region id l.toArray false) y) K E σ := W_regF ms fun k kp hk _ => h fx k kp (hk _ _ next)
theorem W_rnx {F : Prop} (fx : F) {id : Nat} (next : K .normal E' σ') (h : F → ∀ (k : Env → List OB → Prop) (kp : PV → Env → List OB → Prop), k E' σ' → runOps P l.toArray l E σ k kp := by
    intro fx k kp hk
    refine gox fx ?_
    exact hk) : W P (.region id l.toArray false) K E σ := W_region fun k kp hk _ => h fx k kp (hk _ _ next)
theorem W_agx {F : Prop} (fx : F) {id : Nat} (ms : List Nat) (masks : List Nat) (bs : List Bool) (next : W P y K E' σ') (hm : P.follows .mixedOrders = true := by kernel_rfl) (hc : chk l.toArray l masks bs = true := by kernel_rfl)
    (h : F → ∀ (k : Env → List OB → Prop), k E' σ' → anyOps P l.toArray l bs E σ (fun E σ => k (E.forget ms) σ) := by
    intro fx k hk
    refine gax fx ?_
    exact hk) : W P (.seq (.region id l.toArray true) y) K E σ := W_anyF ms hm masks bs hc fun k hk => h fx k (hk _ _ next)
theorem W_anx {F : Prop} (fx : F) {id : Nat} (masks : List Nat) (bs : List Bool) (next : K .normal E' σ') (hm : P.follows .mixedOrders = true := by kernel_rfl) (hc : chk l.toArray l masks bs = true := by kernel_rfl)
    (h : F → ∀ (k : Env → List OB → Prop), k E' σ' → anyOps P l.toArray l bs E σ k := by
    intro fx k hk
    refine gax fx ?_
    exact hk) : W P (.region id l.toArray true) K E σ := W_any hm masks bs hc fun k hk => h fx k (hk _ _ next)
theorem W_gh (hg : Ghost E σ E1 σ1) (next : W P c K E2 σ2) (h : W P c K E2 σ2 → W P c K E1 σ1 := by
    intro hq
    simp only [bZ, bL, reduceIte, ↓reduceIte, reduceCtorEq, Int.reduceToNat, Nat.reduceDiv, Nat.reduceMod, Nat.reduceLT, Nat.reduceLeDiff, Nat.reduceAdd, Nat.reduceSub, Nat.reduceMul, Nat.reduceEqDiff, Nat.reduceBEq, Nat.reduceBNe, Nat.reduceGT]
    exact hq) : W P c K E σ := W_ghost hg (h next)
theorem W_eqn (next : W P c K E' σ) (h : E = E' := by simp only [bE, Nat.reduceDiv, Nat.reduceMod, Nat.reduceLT, Nat.reduceLeDiff, Nat.reduceAdd, Nat.reduceSub, Nat.reduceMul, Nat.reduceEqDiff, Nat.reduceBEq, Nat.reduceBNe, Nat.reduceGT, Int.reduceToNat]; rfl) : W P c K E σ := W_eqE h rfl next
theorem W_eqm (next : W P c K E' σ') (h : E = E' := by simp only [bE, Nat.reduceDiv, Nat.reduceMod, Nat.reduceLT, Nat.reduceLeDiff, Nat.reduceAdd, Nat.reduceSub, Nat.reduceMul, Nat.reduceEqDiff, Nat.reduceBEq, Nat.reduceBNe, Nat.reduceGT, Int.reduceToNat]; rfl) (h2 : σ = σ' := by first | (dsimp only; rfl) | rfl) : W P c K E σ := W_eqE h h2 next
theorem W_eqf (next : W P c K E' σ') (h : E = E' := by simp only [argSlots, Env.ofList, List.length_nil, List.length_cons, bE, Nat.reduceDiv, Nat.reduceMod, Nat.reduceLT, Nat.reduceLeDiff, Nat.reduceAdd, Nat.reduceSub, Nat.reduceMul, Nat.reduceEqDiff, Nat.reduceBEq, Nat.reduceBNe, Nat.reduceGT, Int.reduceToNat]; rfl) (h2 : σ = σ' := by rfl) : W P c K E σ := W_eqE h h2 next
theorem W_eql (next : W P c K E' σ') (h : E = E' := by simp only [bE, Nat.reduceDiv, Nat.reduceMod, Nat.reduceLT, Nat.reduceLeDiff, Nat.reduceAdd, Nat.reduceSub, Nat.reduceMul, Nat.reduceEqDiff, Nat.reduceBEq, Nat.reduceBNe, Nat.reduceGT, Int.reduceToNat, List.length_cons, List.length_nil, List.length_append, List.cons_append, List.nil_append]; rfl) (h2 : σ = σ' := by simp only [List.length_cons, List.length_nil, List.length_append, List.cons_append, List.nil_append]; rfl) : W P c K E σ := W_eqE h h2 next
theorem W_eqa (σ' : List OB) (next : W P c K E σ') (h : σ = σ' := by first | rfl | (simp only [List.take_of_length_le, List.length_map, List.length_append, List.length_cons, List.length_nil, List.length_replicate, List.length_set, List.map_append, List.map_cons, List.map_nil, List.map_replicate, List.map_set, Nat.le_refl, Nat.zero_add, List.nil_append, List.set_cons_zero, List.set_cons_succ, bX, eK, eB, eS, eL]; done) | (simp only [List.take_of_length_le, List.length_map, List.length_append, List.length_cons, List.length_nil, List.length_replicate, List.length_set, List.map_append, List.map_cons, List.map_nil, List.map_replicate, List.map_set, Nat.le_refl, Nat.zero_add, List.nil_append, List.set_cons_zero, List.set_cons_succ, bX, eK, eB, eS, eL]; rfl) | (simp; done)) : W P c K E σ := W_eqE rfl h next
theorem RP {γ : Bool} {C : Prop} {f : FuncId} {args : List PV} {o : Oper} {r : List Oper} {res : PV} (hs : γ = true → SpecF P f args res) (next : RunRest P ops r (E.putD o.dst ⟨γ, res⟩) σ k kp)
    (hd : dstOk E o.dst := by first | trivial | exact dst_ok rfl) (hC : γ = true → C := by first | trivial | (intro _; first | trivial | simp [need]) | simp [need]) (hargs : args.all PV.noOwn = true := by exact rfl) (hres : res.ren (back σ.length []) = res := by exact rfl) : RunCall P ops γ C f args o r E σ k kp := RunCall_pureR hs hd hC hargs hres next
theorem AP {γ : Bool} {C : Prop} {f : FuncId} {args : List PV} {o : Oper} {r : List Oper} {bs : List Bool} {res : PV} (hs : γ = true → SpecF P f args res) (next : anyOps P ops r bs.tail (E.putD o.dst ⟨γ, res⟩) σ k)
    (hd : dstOk E o.dst := by first | trivial | exact dst_ok rfl) (hC : γ = true → C := by first | trivial | (intro _; first | trivial | simp [need]) | simp [need]) (hargs : args.all PV.noOwn = true := by exact rfl) (hres : ∀ n, res.ren (back n []) = res := by exact fun _ => rfl) : AnyCall P ops γ C f args o r bs E σ k := AnyCall_pure hs hd hC hargs hres next
theorem RA {C : Prop} {f : FuncId} {args : List PV} {o : Oper} {r : List Oper} {args' : List PV} {σc : List OB} {post : PV → List OB → Prop} (hs : Spec P f args' σc post (fun _ _ => False)) (ρ : List Nat)
    (next : ∀ p σ', post p σ' → ρ.length ≤ σ'.length → RunRest P ops r (E.putD o.dst ⟨true, p.ren (back σ.length ρ)⟩) (place σ ρ (σ'.map (OB.ren (back σ.length ρ)))) k kp)
    (hd : dstOk E o.dst := by first | trivial | exact dst_ok rfl) (hC : C := by first | trivial | (intro _; first | trivial | simp [need]) | simp [need]) (hnd : ρ.Nodup := by simp) (hlt : ∀ b ∈ ρ, b < σ.length := by simp)
    (hargs : args = args'.map (PV.ren (back σ.length ρ)) := by exact rfl) (hσ : ρ.map (fun b => σ[b]?) = σc.map (fun ob => some (ob.ren (back σ.length ρ))) := by exact rfl) (hu : psUnder ρ.length args' := by first | trivial | (simp [bX, eK, eB, eS, eL, s_cap, psUnder, PV.under, CV.under, obsBelow, OB.under, cvsBelow]; done)) (hub : obsBelow ρ.length σc := by first | trivial | (simp [bX, eK, eB, eS, eL, s_cap, psUnder, PV.under, CV.under, obsBelow, OB.under, cvsBelow]; done)) :
    RunCall P ops true C f args o r E σ k kp := RunCall_atR hs ρ hd hC hnd hlt hargs hσ hu hub next (fun _ _ h _ => h.elim)
theorem RS {o : Oper} {r : List Oper} {v : PV} (hx : ExtTo P E σ o v σ') (next : RunRest P ops r (E.putD o.dst ⟨true, v⟩) σ' k kp) (hg : guardOf ops E o.guard = some true := by first | rfl | (simp only [bR, bT, tab, bX, reduceIte, ↓reduceIte, reduceCtorEq, Int.reduceToNat, Nat.reduceDiv, Nat.reduceMod, Nat.reduceLT, Nat.reduceLeDiff, Nat.reduceAdd, Nat.reduceSub, Nat.reduceMul, Nat.reduceEqDiff, Nat.reduceBEq, Nat.reduceBNe, Nat.reduceGT]; done)) (hd : dstOk E o.dst := by first | trivial | exact dst_ok rfl) :
    RunRest P ops (o :: r) E σ k kp := RunRest_step hx hg hd next
end
end Pam

/- slices.Sort and slices.Compact at []int over an own array: the kit's contracts in the layer's words. -/
namespace Pam
open Go Go.Shelf Go.Proofs

/-- the sorted list -/
def sortI (l : List Int) : List Int := l.mergeSort fun x y => decide (x ≤ y)

theorem sortI_length (l : List Int) : (sortI l).length = l.length := by simp [sortI, List.length_mergeSort]

theorem getElem_putCells (cur : Array Value) (d : List Int) (k : Nat) : (Go.Sort.putCells (Value.int .i64) 0 d.toArray cur)[k]? = if h : k < d.length ∧ k < cur.size then some (.int .i64 (d[k]'h.1)) else cur[k]? := by
  unfold Go.Sort.putCells
  by_cases hk : k < cur.size
  · by_cases hd : k < d.length
    · rw [dif_pos ⟨hd, hk⟩]
      simp [hk, hd]
    · rw [dif_neg (fun h => hd h.1)]
      simp [hk, hd]
  · rw [dif_neg (fun h => hk h.2)]
    simp [hk]

theorem heap_sorted (w : World) (n g : Nat) (os : Array Obj) (d : List Int) (cur : Array Value) (e : TypeId) (fr : Nat × Nat) (hb : w.heap[g]? = some (.cells cur e fr)) :
    (Go.Sort.grow (Go.Sort.putRow (Value.int .i64) (Go.Sort.ahead w n) g 0 d.toArray) os).heap[g]? = some (.cells (Go.Sort.putCells (Value.int .i64) 0 d.toArray cur) e fr) := by
  obtain ⟨hg, hb⟩ := Array.getElem?_eq_some_iff.1 hb
  simp [Go.Sort.grow, Go.Sort.putRow, Go.Sort.mapBlock, Go.Sort.ahead, Array.getElem?_append, hg, Array.getElem_modify, hb, Go.Sort.onCells]

theorem heap_other (w : World) (n g : Nat) (os : Array Obj) (d : Array Int) (k : Nat) (o : Obj) (hk : w.heap[k]? = some o) (hne : g ≠ k) :
    (Go.Sort.grow (Go.Sort.putRow (Value.int .i64) (Go.Sort.ahead w n) g 0 d) os).heap[k]? = some o := by
  obtain ⟨hg, hk⟩ := Array.getElem?_eq_some_iff.1 hk
  simp [Go.Sort.grow, Go.Sort.putRow, Go.Sort.mapBlock, Go.Sort.ahead, Array.getElem?_append, hg, Array.getElem_modify, hk, hne]

/-- the one own array behind a call that has written into it -/
theorem inv_sorted {G : Gh} {w : World} {v : Nat} {T : TypeId} {l l' d : List Int} {o : OG} {c : Array Value} {fz : Nat × Nat} {os : Array Obj} {n : Nat}
    (hi : Inv G [.arr 1 v T (l.map fun x => [.int .i64 x])] w) (ho : G.own[0]? = some (some o)) (hhas : o.has = true) (hc : w.heap[o.blk]? = some (.cells c T fz))
    (hl : l'.length ≤ l.length) (hd : d.length = l.length) (hp : l' <+: d) :
    Inv G [.arr 1 v T (l'.map fun x => [.int .i64 x])] (Go.Sort.grow (Go.Sort.putRow (Value.int .i64) (Go.Sort.ahead w n) o.blk 0 d.toArray) os) := by
  obtain ⟨o', ho', hver, hsz, _, hlc, hcm, _, hnh, hh⟩ := hi.own 0 _ rfl
  rw [ho] at ho'
  obtain rfl : o = o' := by simpa using ho'
  obtain ⟨c', fz', hc', hfz, hcs, _⟩ := hh hhas
  rw [hc] at hc'
  obtain ⟨rfl, rfl⟩ : c = c' ∧ fz = fz' := by simpa using hc'
  rw [Nat.mul_one] at hcs
  simp only [List.length_map] at hlc
  have hsep := hi.sep 0 o ho hhas
  refine ⟨?_, ?_, hi.HF, by simpa using hi.len, ?_, hi.inj, hi.sep, hi.os, hi.tape, hi.output, ?_⟩
  · intro b ob h
    exact heap_other _ _ _ _ _ _ _ (hi.hH b ob h) (fun e => by subst e; rw [hsep.1] at h; cases h)
  · intro b ob h
    exact heap_other _ _ _ _ _ _ _ (hi.hF b ob h) (fun e => by subst e; rw [hsep.2] at h; cases h)
  · intro b ob h
    match b with
    | 0 =>
      obtain rfl : OB.arr 1 v T (l'.map fun x => [.int .i64 x]) = ob := by simpa using h
      refine ⟨o, ho, hver, hsz, by omega, by simp only [List.length_map]; omega, hcm, ?_, hnh, fun _ => ?_⟩
      · intro e he; simp only [List.mem_map] at he; obtain ⟨x, _, rfl⟩ := he; rfl
      · refine ⟨_, fz, heap_sorted _ _ _ _ _ _ _ _ hc, ?_, ?_, ?_⟩
        · rcases hfz with h | h
          · exact .inl h
          · exact .inr (by simpa [Go.Sort.putCells] using h)
        · simpa [Go.Sort.putCells, hsz] using hcs
        · intro i j e x hi1 hj1
          have hil : i < l'.length := by
            rcases Nat.lt_or_ge i l'.length with h | h
            · exact h
            · rw [List.getElem?_eq_none (by simpa using h)] at hi1; cases hi1
          have hid : i < d.length := Nat.lt_of_lt_of_le hil hp.length_le
          rw [List.getElem?_map, List.getElem?_eq_getElem hil] at hi1
          obtain rfl : [CV.int .i64 l'[i]] = e := by simpa using hi1
          match j with
          | 0 =>
            obtain rfl : CV.int .i64 l'[i] = x := by simpa using hj1
            refine ⟨.int .i64 d[i], ?_, ?_⟩
            · rw [show i * 1 + 0 = i by omega]
              have := getElem_putCells c d i
              rw [dif_pos ⟨hid, by omega⟩] at this
              exact this
            · have : l'[i] = d[i] := hp.getElem hil
              rw [this]; exact .int .i64 _
          | k + 1 => simp at hj1
    | k + 1 => simp at h
  · have := hi.grow
    simp only [Go.Sort.grow, Array.size_append, Go.Sort.size_putRow, Go.Sort.heap_ahead]
    omega

theorem holds_own {G : Gh} {w : World} {v : Nat} {T : TypeId} {l : List Int} {o : OG}
    (hi : Inv G [.arr 1 v T (l.map fun x => [.int .i64 x])] w) (ho : G.own[0]? = some (some o)) (hhas : o.has = true) :
    ∃ c fz, w.heap[o.blk]? = some (.cells c T fz) ∧ Go.Sort.Holds (Value.int .i64) w o.blk 0 l.toArray := by
  obtain ⟨o', ho', hver, hsz, _, hlc, hcm, _, hnh, hh⟩ := hi.own 0 _ rfl
  rw [ho] at ho'
  obtain rfl : o = o' := by simpa using ho'
  obtain ⟨c, fz, hc, hfz, hcs, hcell⟩ := hh hhas
  rw [Nat.mul_one] at hcs
  simp only [List.length_map] at hlc
  refine ⟨c, fz, hc, ?_⟩
  have hcell' : ∀ j (h : j < l.length), c[j]? = some (.int .i64 l[j]) := by
    intro j h
    obtain ⟨x, h1, h2⟩ := hcell j 0 [.int .i64 l[j]] (.int .i64 l[j]) (by simp [h]) (by simp)
    cases h2
    simpa using h1
  intro j hj
  have hj' : j < l.length := by simpa using hj
  have hjc : j < c.size := by omega
  constructor
  · have := hcell' j hj'
    simp only [World.cell?, hc, Nat.zero_add]
    simp [this, hj']
  · simp only [World.frozen?, hc]
    rcases hfz with rfl | hfz
    · simp
    · obtain ⟨lo, hi'⟩ := fz
      simp at hfz ⊢
      omega

theorem own_arg {G : Gh} {w : World} {v : Nat} {T : TypeId} {l : List Int} {vs : List Value}
    (hi : Inv G [.arr 1 v T (l.map fun x => [.int .i64 x])] w) (ha : All2 (RepP G) [.c (.osl 0 v 0 l.length)] vs) :
    ∃ o a, G.own[0]? = some (some o) ∧ o.ver = v ∧ vs = [.slice a l.length o.cap] ∧ l.length ≤ o.cap ∧ (l ≠ [] → o.has = true ∧ a = some ⟨o.blk, 0, none⟩) := by
  obtain ⟨o, ho, hver, hsz, _, hlc, hcm, _, hnh, hh⟩ := hi.own 0 _ rfl
  simp only [List.length_map] at hlc
  match vs, ha with
  | [v0], ha =>
    obtain ⟨hv0, _⟩ := ha
    obtain ⟨_, oo, hoo, hsl⟩ := hv0
    rw [ho] at hoo
    obtain rfl : some o = oo := by simpa using hoo
    obtain ⟨hcap, a, rfl, haddr⟩ := (hsl o rfl).2 hver.symm
    refine ⟨o, a, ho, hver, rfl, hlc, fun he => ?_⟩
    have hpos : 0 < l.length := List.length_pos_iff.2 he
    have hhas : o.has = true := by
      cases h : o.has with
      | true => rfl
      | false => have := hnh h; omega
    obtain ⟨a', rfl, ha'⟩ := haddr hhas
    obtain rfl := ha' (by omega)
    exact ⟨hhas, by simp⟩

theorem sort_spec {P : Program} {ρ : Ren} (Ly : Lays.n189 P ρ) {f : FuncId} (hf : ρ.f 189 = f) (hb : ∃ fn, P.funcs[f]? = some fn ∧ fn.body.isSome = true ∧ (fn.name == "runtime.NumGoroutine") = false)
    (T : TypeId) (v : Nat) (l : List Int) (hl : l.length ≤ 140737488355328) :
    Spec P f [.c (.osl 0 v 0 l.length)] [.arr 1 v T (l.map fun x => [.int .i64 x])] (fun p σ => p = .t [] ∧ σ = [.arr 1 v T ((sortI l).map fun x => [.int .i64 x])]) (fun _ _ => False) := by
  subst hf
  refine ⟨hb, fun G w vs hna hi ha => ?_⟩
  obtain ⟨o, a, ho, hver, rfl, hlc, hx⟩ := own_arg hi ha
  by_cases he : l = []
  · subst he
    refine (Any.slices_Sort_int_none Ly a _ w).mono ?_
    rintro e w' ⟨rfl, rfl⟩
    exact ⟨G, _, .t [], .tuple #[], Gle.refl G, hi, ⟨[], rfl, trivial⟩, .inl ⟨rfl, rfl, by simp [sortI]⟩⟩
  · obtain ⟨hhas, rfl⟩ := hx he
    obtain ⟨c, fz, hc, hH⟩ := holds_own hi ho hhas
    refine (Any.slices_Sort_int Ly o.blk 0 o.cap l w hH (Array.getElem?_eq_some_iff.1 hc).1 (by omega)).mono ?_
    rintro e w' ⟨rfl, n, os, rfl⟩
    exact ⟨G, _, .t [], .tuple #[], Gle.refl G, inv_sorted hi ho hhas hc (Nat.le_of_eq (sortI_length l)) (sortI_length l) (List.prefix_rfl), ⟨[], rfl, trivial⟩, .inl ⟨rfl, rfl, rfl⟩⟩

theorem compact_le (l : List Int) : (Go.Lib.compact l).length ≤ l.length := by
  simp only [Go.Lib.compact, Go.Lib.compactUpTo, List.length_map]
  exact Nat.le_trans (List.length_filter_le _ _) (by simp)

theorem compact_spec {P : Program} {ρ : Ren} (Ly : Lays2.n20 P ρ) {f : FuncId} (hf : ρ.f 20 = f) (hb : ∃ fn, P.funcs[f]? = some fn ∧ fn.body.isSome = true ∧ (fn.name == "runtime.NumGoroutine") = false)
    (T : TypeId) (v : Nat) (l : List Int) (hl : l.length ≤ 140737488355328) :
    Spec P f [.c (.osl 0 v 0 l.length)] [.arr 1 v T (l.map fun x => [.int .i64 x])] (fun p σ => p = .c (.osl 0 v 0 (Go.Lib.compact l).length) ∧ σ = [.arr 1 v T ((Go.Lib.compact l).map fun x => [.int .i64 x])]) (fun _ _ => False) := by
  subst hf
  refine ⟨hb, fun G w vs hna hi ha => ?_⟩
  obtain ⟨o, a, ho, hver, rfl, hlc, hx⟩ := own_arg hi ha
  by_cases he : l = []
  · subst he
    refine (calls_of_every_depth fun D => AnyS.slices_Compact_int_empty_in Ly D a _ w).mono ?_
    rintro e w' ⟨rfl, rfl⟩
    have : Go.Lib.compact ([] : List Int) = [] := List.eq_nil_of_length_eq_zero (Nat.le_zero.1 (compact_le []))
    rw [this]
    exact ⟨G, _, .c (.osl 0 v 0 0), _, Gle.refl G, hi, ha.1, .inl ⟨rfl, rfl, rfl⟩⟩
  · obtain ⟨hhas, rfl⟩ := hx he
    obtain ⟨c, fz, hc, hH⟩ := holds_own hi ho hhas
    refine (calls_of_every_depth fun D => AnyS.slices_Compact_int_in Ly D o.blk 0 o.cap l w hH (by omega) hlc).mono ?_
    rintro e w' ⟨rfl, n, rfl⟩
    have hcl := compact_le l
    have hg : ∀ (W : World), Go.Sort.grow W #[] = W := fun W => by simp [Go.Sort.grow]
    have := inv_sorted (n := n) (os := #[]) hi ho hhas hc hcl (d := Go.Lib.compact l ++ List.replicate (l.length - (Go.Lib.compact l).length) 0) (by simp; omega) (List.prefix_append _ _)
    rw [hg] at this
    refine ⟨G, _, .c (.osl 0 v 0 (Go.Lib.compact l).length), _, Gle.refl G, this, ?_, .inl ⟨rfl, rfl, rfl⟩⟩
    obtain ⟨hv0, _⟩ := ha
    obtain ⟨_, oo, hoo, hsl⟩ := hv0
    rw [ho] at hoo
    obtain rfl : some o = oo := by simpa using hoo
    obtain ⟨hcap, a, hae, haddr⟩ := (hsl o rfl).2 hver.symm
    refine ⟨rfl, some o, ho, fun o' ho' => ?_⟩
    obtain rfl : o = o' := by simpa using ho'
    refine ⟨by omega, fun _ => ⟨by omega, some ⟨o.blk, 0, none⟩, by simp, fun h => ⟨_, rfl, fun _ => by simp⟩⟩⟩
end Pam

/- sorted and each once: the one list of its members -/
namespace Pam
open Go

def ins : List Int → Int → List Int
  | [], n => [n]
  | x :: xs, n => if x ≥ n then (if x > n then n :: x :: xs else x :: xs) else x :: ins xs n

theorem mem_ins (l : List Int) (n y : Int) : y ∈ ins l n ↔ y = n ∨ y ∈ l := by
  induction l with
  | nil => simp [ins]
  | cons x xs ih =>
    unfold ins
    split
    · split
      · simp
      · have : x = n := by omega
        subst this; simp
    · simp only [List.mem_cons, ih]
      constructor
      · rintro (h | h | h) <;> simp [h]
      · rintro (h | h | h) <;> simp [h]

theorem ins_sorted {l : List Int} (h : l.Pairwise (· < ·)) (n : Int) : (ins l n).Pairwise (· < ·) := by
  induction l with
  | nil => simp [ins]
  | cons x xs ih =>
    obtain ⟨h1, h2⟩ := List.pairwise_cons.1 h
    unfold ins
    split
    · split
      · refine List.pairwise_cons.2 ⟨?_, h⟩
        intro a ha
        rcases List.mem_cons.1 ha with rfl | ha
        · omega
        · have := h1 a ha; omega
      · exact h
    · refine List.pairwise_cons.2 ⟨?_, ih h2⟩
      intro a ha
      rcases (mem_ins xs n a).1 ha with rfl | ha
      · omega
      · exact h1 a ha

theorem sorted_uniq : ∀ {l l' : List Int}, l.Pairwise (· < ·) → l'.Pairwise (· < ·) → (∀ x, x ∈ l ↔ x ∈ l') → l = l'
  | [], [], _, _, _ => rfl
  | [], b :: l', _, _, h => by have := (h b).2 (by simp); simp at this
  | a :: l, [], _, _, h => by have := (h a).1 (by simp); simp at this
  | a :: l, b :: l', hl, hl', h => by
    obtain ⟨h1, h2⟩ := List.pairwise_cons.1 hl
    obtain ⟨k1, k2⟩ := List.pairwise_cons.1 hl'
    have e : a = b := by
      have ha := (h a).1 (by simp)
      have hb := (h b).2 (by simp)
      rcases List.mem_cons.1 ha with e | ha
      · exact e
      · rcases List.mem_cons.1 hb with e | hb
        · exact e.symm
        · have := h1 b hb; have := k1 a ha; omega
    subst e
    rw [sorted_uniq h2 k2 fun x => ?_]
    constructor
    · intro hx
      rcases List.mem_cons.1 ((h x).1 (by simp [hx])) with rfl | h'
      · have := h1 x hx; omega
      · exact h'
    · intro hx
      rcases List.mem_cons.1 ((h x).2 (by simp [hx])) with rfl | h'
      · have := k1 x hx; omega
      · exact h'

theorem mem_sortI (l : List Int) (x : Int) : x ∈ sortI l ↔ x ∈ l := by simp [sortI, List.mem_mergeSort]

theorem sortI_sorted (l : List Int) : (sortI l).Pairwise (· ≤ ·) := by
  have := List.pairwise_mergeSort (le := fun x y : Int => decide (x ≤ y)) (by intro a b c; simp; omega) (by intro a b; simp; omega) l
  exact this.imp (by simp)

theorem compact_mem (l : List Int) (x : Int) : x ∈ Go.Lib.compact l ↔ x ∈ l := by
  simp only [Go.Lib.compact, Go.Lib.compactUpTo, List.mem_map, List.mem_filter, List.mem_range]
  constructor
  · rintro ⟨i, ⟨h1, _⟩, rfl⟩
    simp [h1]
  · intro hx
    obtain ⟨i, hi, rfl⟩ := List.mem_iff_getElem.1 hx
    have key : ∀ n i (hi : i < l.length), i = n → ∃ j, (j < l.length ∧ Go.Lib.keeps l.toArray j = true) ∧ l.toArray[j]! = l[i] := by
      intro n
      induction n with
      | zero => intro i hi e; subst e; exact ⟨0, ⟨hi, by simp [Go.Lib.keeps]⟩, by simp [hi]⟩
      | succ n ih =>
        intro i hi e
        subst e
        by_cases hk : Go.Lib.keeps l.toArray (n + 1) = true
        · exact ⟨n + 1, ⟨hi, hk⟩, by simp [hi]⟩
        · obtain ⟨j, h1, h2⟩ := ih n (by omega) rfl
          refine ⟨j, h1, h2.trans ?_⟩
          have hn : n < l.length := by omega
          simp [Go.Lib.keeps, hi, hn] at hk
          exact hk.symm
    exact key i i hi rfl

theorem compact_sorted {l : List Int} (h : l.Pairwise (· ≤ ·)) : (Go.Lib.compact l).Pairwise (· < ·) := by
  simp only [Go.Lib.compact, Go.Lib.compactUpTo, List.pairwise_map]
  have hm : ∀ i j, i ≤ j → (hj : j < l.length) → l.toArray[i]! ≤ l.toArray[j]! := by
    intro i j hij hj
    have hi : i < l.length := by omega
    simp only [List.getElem!_toArray, getElem!_pos l i hi, getElem!_pos l j hj]
    rcases Nat.lt_or_ge i j with h' | h'
    · exact List.pairwise_iff_getElem.1 h i j hi hj h'
    · have : i = j := by omega
      subst this; exact Int.le_refl _
  refine List.Pairwise.imp_of_mem ?_ ((List.pairwise_lt_range (n := l.length)).filter _)
  intro i j hi hj hij
  simp only [List.mem_filter, List.mem_range, Go.Lib.keeps, decide_eq_true_eq] at hi hj
  have h1 := hm i (j - 1) (by omega) (by omega)
  have h2 := hm (j - 1) j (by omega) hj.1
  have h3 : l.toArray[j]! ≠ l.toArray[j - 1]! := by
    rcases hj.2 with h' | h'
    · omega
    · exact h'
  omega

/-- sorted and each once, and inserted one by one: the same -/
theorem compact_sort_eq (l : List Int) : Go.Lib.compact (sortI l) = l.foldl ins [] := by
  have key : ∀ (l a : List Int), a.Pairwise (· < ·) → (l.foldl ins a).Pairwise (· < ·) ∧ ∀ x, x ∈ l.foldl ins a ↔ x ∈ a ∨ x ∈ l := by
    intro l
    induction l with
    | nil => intro a ha; simpa using ha
    | cons y l ih =>
      intro a ha
      obtain ⟨h1, h2⟩ := ih (ins a y) (ins_sorted ha y)
      refine ⟨h1, fun x => ?_⟩
      rw [List.foldl_cons, h2 x, mem_ins]
      simp only [List.mem_cons]
      constructor
      · rintro ((h | h) | h) <;> simp [h]
      · rintro (h | h | h) <;> simp [h]
  obtain ⟨h1, h2⟩ := key l [] List.Pairwise.nil
  refine sorted_uniq (compact_sorted (sortI_sorted l)) h1 fun x => ?_
  rw [compact_mem, mem_sortI, h2]
  simp
end Pam

/- Regions whose order is open, reckoned piece by piece. -/
namespace Pam
open Go
section
variable {P : Program} {ops : Array Oper}

theorem TR_ops {l : List Oper} {bs : List Bool} {E : Env} {σ : List OB} {k : Env → List OB → Prop} (h : anyOps P ops l bs E σ k) : TR P ops l bs E σ k := anyOps_ok l bs E σ k h

theorem TR_bind : ∀ {l l' : List Oper} {bs bs' : List Bool} {E : Env} {σ : List OB} {k : Env → List OB → Prop}, bs.length = l.length → TR P ops l bs E σ (fun E' σ' => TR P ops l' bs' E' σ' k) → TR P ops (l ++ l') (bs ++ bs') E σ k
  | [], l', bs, bs', E, σ, k, hl, ⟨tr, h1, h2⟩ => by
    have : bs = [] := List.eq_nil_of_length_eq_zero (by simpa using hl)
    subst this
    simp only [Trace] at h1
    subst h1
    simpa [envAt, heapAt] using h2
  | o :: l, l', bs, bs', E, σ, k, hl, ⟨tr, h1, h2⟩ => by
    obtain ⟨ts, r, rfl, h3, h4⟩ := h1
    match bs, hl with
    | b :: bs, hl =>
      refine TR.cons (bs := b :: bs ++ bs') (ts := ts) ?_ ?_
      · simpa using h3
      · exact TR_bind (by simpa using hl) ⟨r, h4, by simpa [envAt, heapAt] using h2⟩

theorem TR_cut (n : Nat) {l : List Oper} {bs : List Bool} {E : Env} {σ : List OB} {k : Env → List OB → Prop} (hn : bs.length = l.length) (h : anyOps P ops (l.take n) (bs.take n) E σ (fun E' σ' => TR P ops (l.drop n) (bs.drop n) E' σ' k)) : TR P ops l bs E σ k := by
  have := TR_bind (by simp [hn]) (anyOps_ok _ _ _ _ _ h)
  rwa [List.take_append_drop, List.take_append_drop] at this

theorem AnyCall_pureT {γ : Bool} {C : Prop} {f : FuncId} {args : List PV} {o : Oper} {r : List Oper} {bs : List Bool} {E : Env} {σ : List OB} {k : Env → List OB → Prop} {res : PV}
    (hs : γ = true → SpecF P f args res) (hd : dstOk E o.dst) (hC : γ = true → C) (hargs : args.all PV.noOwn = true) (hres : ∀ n, res.ren (back n []) = res)
    (next : TR P ops r bs.tail (E.putD o.dst ⟨γ, res⟩) σ k) : AnyCall P ops γ C f args o r bs E σ k := fun hrun hγ =>
  TR.cons (ts := ⟨γ, ⟨γ, res⟩, σ⟩) ⟨hγ, hd, .inr (.inr (.inl ⟨C, f, args, res, hrun, fun h => ⟨hC h, hs h⟩, hargs, hres, rfl, rfl⟩))⟩ next

theorem AnyCall_atT {C : Prop} {f : FuncId} {args : List PV} {o : Oper} {r : List Oper} {bs : List Bool} {E : Env} {σ σ2 : List OB} {k : Env → List OB → Prop} {res : PV}
    (hs : CallTo P σ f args res σ2) (hd : dstOk E o.dst) (hC : C) (hb : bs.headD false = true ∨ extB σ σ2)
    (next : TR P ops r bs.tail (E.putD o.dst ⟨true, res⟩) σ2 k) : AnyCall P ops true C f args o r bs E σ k := fun hrun hγ =>
  TR.cons (ts := ⟨true, ⟨true, res⟩, σ2⟩) ⟨hγ, hd, .inr (.inr (.inr (.inr ⟨rfl, C, f, args, res, hrun, hC, hs, rfl, hb.imp id extB_ok⟩)))⟩ next

theorem W_anyTN {id : Nat} {l : List Oper} {K : Kt} {E : Env} {σ : List OB} (hm : P.follows .mixedOrders = true) (masks : List Nat) (bs : List Bool) (hc : chk l.toArray l masks bs = true)
    (h : ∀ (k : Env → List OB → Prop), (∀ E σ, K .normal E σ → k E σ) → TR P l.toArray l bs E σ k) : W P (.region id l.toArray true) K E σ :=
  W_anyT hm masks bs hc (h (K .normal) fun _ _ h => h)
theorem W_anyTF {id : Nat} {l : List Oper} {y : Code} {K : Kt} {E : Env} {σ : List OB} (ms : List Nat) (hm : P.follows .mixedOrders = true) (masks : List Nat) (bs : List Bool) (hc : chk l.toArray l masks bs = true)
    (h : ∀ (k : Env → List OB → Prop), (∀ E σ, W P y K E σ → k E σ) → TR P l.toArray l bs E σ (fun E σ => k (E.forget ms) σ)) : W P (.seq (.region id l.toArray true) y) K E σ :=
  W_seq (W_anyT hm masks bs hc (by
    obtain ⟨tr, h1, h2⟩ := h (W P y K) fun _ _ h => h
    exact ⟨tr, h1, W_forget ms h2⟩))
end
end Pam
