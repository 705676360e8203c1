/- A call by its contract: what the callee is handed, what comes back. -/
import Derived.Test.YtpfekllhlfodiaaBase1
set_option linter.all false
namespace Pam
open Go

/-- what comes back is laid at its places; the rest behind -/
def place {α : Type} : List α → List Nat → List α → List α
  | σ, [], xs => σ ++ xs
  | σ, b :: ρ, x :: xs => place (σ.set b x) ρ xs
  | σ, _ :: _, [] => σ

section place
variable {α : Type}

theorem place_length : ∀ (ρ : List Nat) (σ xs : List α), ρ.length ≤ xs.length → (place σ ρ xs).length = σ.length + (xs.length - ρ.length)
  | [], σ, xs, _ => by simp [place]
  | b :: ρ, σ, [], h => by simp at h
  | b :: ρ, σ, x :: xs, h => by simp only [place]; rw [place_length ρ _ xs (by simpa using h)]; simp

theorem place_other : ∀ (ρ : List Nat) (σ xs : List α) (b : Nat), ρ.length ≤ xs.length → b ∉ ρ → b < σ.length → (place σ ρ xs)[b]? = σ[b]?
  | [], σ, xs, b, _, _, hb => by simp only [place]; exact List.getElem?_append_left hb
  | c :: ρ, σ, [], b, h, _, _ => by simp at h
  | c :: ρ, σ, x :: xs, b, h, hn, hb => by
    simp only [place]
    rw [place_other ρ _ xs b (by simpa using h) (fun h => hn (by simp [h])) (by simpa using hb)]
    exact List.getElem?_set_ne (fun e => hn (by simp [e]))

theorem place_at : ∀ (ρ : List Nat) (σ xs : List α) (k b : Nat), ρ.Nodup → ρ.length ≤ xs.length → (∀ b ∈ ρ, b < σ.length) → ρ[k]? = some b → (place σ ρ xs)[b]? = xs[k]?
  | [], σ, xs, k, b, _, _, _, h => by simp at h
  | c :: ρ, σ, [], k, b, _, h, _, _ => by simp at h
  | c :: ρ, σ, x :: xs, k, b, hnd, hl, hlt, h => by
    simp only [place]
    have hc : c < σ.length := hlt c (by simp)
    have hnd' := List.nodup_cons.1 hnd
    cases k with
    | zero =>
      simp only [List.getElem?_cons_zero, Option.some.injEq] at h ⊢
      subst h
      rw [place_other ρ _ xs c (by simpa using hl) hnd'.1 (by simpa using hc)]
      simp [hc]
    | succ k =>
      simp only [List.getElem?_cons_succ] at h ⊢
      exact place_at ρ _ xs k b hnd'.2 (by simpa using hl) (fun b hb => by simpa using hlt b (by simp [hb])) h

theorem place_new : ∀ (ρ : List Nat) (σ xs : List α) (j : Nat), ρ.length ≤ xs.length → (place σ ρ xs)[σ.length + j]? = xs[ρ.length + j]?
  | [], σ, xs, j, _ => by simp only [place]; rw [List.getElem?_append_right (by omega)]; congr 1; simp
  | c :: ρ, σ, [], j, h => by simp at h
  | c :: ρ, σ, x :: xs, j, h => by
    simp only [place]
    have := place_new ρ (σ.set c x) xs j (by simpa using h)
    rw [List.length_set] at this
    rw [this]
    simp [Nat.add_right_comm]

theorem place_map {β : Type} (f : α → β) : ∀ (ρ : List Nat) (σ xs : List α), (place σ ρ xs).map f = place (σ.map f) ρ (xs.map f)
  | [], σ, xs => by simp [place]
  | c :: ρ, σ, [] => by simp [place]
  | c :: ρ, σ, x :: xs => by simp only [place, List.map_cons]; rw [place_map f ρ]; simp [List.map_set]
end place

def CV.ren0 (r : Nat → Nat) : CV → CV
  | .optr b off => .optr (r b) off
  | .osl b ver lo len => .osl (r b) ver lo len
  | .oel b ver i j => .oel (r b) ver i j
  | c => c
def CV.ren (r : Nat → Nat) : CV → CV
  | .fn f caps => .fn f (caps.map (CV.ren0 r))
  | c => c.ren0 r
def PV.ren (r : Nat → Nat) : PV → PV
  | .c y => .c (y.ren r)
  | .a ys => .a (ys.map (CV.ren r))
  | .t ps => .t (ps.map fun p => match p with | .c y => .c (y.ren r) | .a ys => .a (ys.map (CV.ren r)) | q => q)
  | .x => .x
def OB.ren (r : Nat → Nat) : OB → OB
  | .box cs => .box (cs.map (CV.ren r))
  | o => o

theorem RepO.map {G G' : Gh} (hH : ∀ b o, G.H b = some o → G'.H b = some o) (r : Nat → Nat) (hr : ∀ (b : Nat) (oo : Option OG), G.own[b]? = some oo → G'.own[r b]? = some oo) {c : CV} {v : Value} (h : RepO G c v) : RepO G' (c.ren0 r) v := by
  cases c
  case optr b off => obtain ⟨h1, oo, h2, h3⟩ := h; exact ⟨h1, oo, hr b oo h2, h3⟩
  case osl b ver lo len => obtain ⟨h1, oo, h2, h3⟩ := h; exact ⟨h1, oo, hr b oo h2, h3⟩
  case oel b ver i j => obtain ⟨h1, oo, h2, h3⟩ := h; exact ⟨h1, oo, hr b oo h2, h3⟩
  all_goals (simp only [RepO, CV.ren0] at h ⊢; exact RepT.mono hH h)

theorem All2.map_left {α β γ : Type} {R : α → β → Prop} {R' : γ → β → Prop} (f : α → γ) (h : ∀ a b, R a b → R' (f a) b) : ∀ {as : List α} {bs : List β}, All2 R as bs → All2 R' (as.map f) bs
  | [], [], _ => trivial
  | _ :: _, _ :: _, ⟨h1, h2⟩ => ⟨h _ _ h1, All2.map_left f h h2⟩

theorem Rep.map {G G' : Gh} (hH : ∀ b o, G.H b = some o → G'.H b = some o) (r : Nat → Nat) (hr : ∀ (b : Nat) (oo : Option OG), G.own[b]? = some oo → G'.own[r b]? = some oo) {c : CV} {v : Value} (h : Rep G c v) : Rep G' (c.ren r) v := by
  cases c
  case fn f caps => obtain ⟨vs, rfl, h2⟩ := h; exact ⟨vs, rfl, All2.map_left _ (fun _ _ h => RepO.map hH r hr h) h2⟩
  case optr b off => exact RepO.map (G := G) (c := .optr b off) hH r hr h
  case osl b ver lo len => exact RepO.map (G := G) (c := .osl b ver lo len) hH r hr h
  case oel b ver i j => exact RepO.map (G := G) (c := .oel b ver i j) hH r hr h
  all_goals (simp only [Rep, CV.ren, CV.ren0] at h ⊢; simp only [RepO] at h ⊢; exact RepT.mono hH h)

theorem RepV.map {G G' : Gh} (hH : ∀ b o, G.H b = some o → G'.H b = some o) (r : Nat → Nat) (hr : ∀ (b : Nat) (oo : Option OG), G.own[b]? = some oo → G'.own[r b]? = some oo) {p : PV} {v : Value} (h : RepV G p v) : RepV G' (p.ren r) v := by
  cases p with
  | x => trivial
  | c y => exact Rep.map hH r hr h
  | a ys => obtain ⟨vs, rfl, h2⟩ := h; exact ⟨vs, rfl, All2.map_left _ (fun _ _ h => Rep.map hH r hr h) h2⟩
  | t ps => exact h.elim

theorem RepP.map {G G' : Gh} (hH : ∀ b o, G.H b = some o → G'.H b = some o) (r : Nat → Nat) (hr : ∀ (b : Nat) (oo : Option OG), G.own[b]? = some oo → G'.own[r b]? = some oo) {p : PV} {v : Value} (h : RepP G p v) : RepP G' (p.ren r) v := by
  cases p with
  | x => trivial
  | c y => exact Rep.map hH r hr h
  | a ys => exact RepV.map (p := .a ys) hH r hr h
  | t ps =>
    obtain ⟨vs, rfl, h2⟩ := h
    refine ⟨vs, rfl, All2.map_left _ (fun p v h => ?_) h2⟩
    cases p with
    | x => trivial
    | c y => exact Rep.map hH r hr h
    | a ys => exact RepV.map (p := .a ys) hH r hr h
    | t ps => exact h.elim

/-- the other way: what the caller knows, the callee knows -/
theorem RepO.unmap {G G' : Gh} {n : Nat} (hH : G'.H = G.H) (r : Nat → Nat) (hr : ∀ b, b < n → G'.own[b]? = G.own[r b]?) {c : CV} {v : Value} (hb : match c with | .optr b _ => b < n | .osl b _ _ _ => b < n | .oel b _ _ _ => b < n | _ => True) (h : RepO G (c.ren0 r) v) : RepO G' c v := by
  cases c
  case optr b off => obtain ⟨h1, oo, h2, h3⟩ := h; exact ⟨h1, oo, (hr b hb).trans h2, h3⟩
  case osl b ver lo len => obtain ⟨h1, oo, h2, h3⟩ := h; exact ⟨h1, oo, (hr b hb).trans h2, h3⟩
  case oel b ver i j => obtain ⟨h1, oo, h2, h3⟩ := h; exact ⟨h1, oo, (hr b hb).trans h2, h3⟩
  all_goals (simp only [RepO, CV.ren0] at h ⊢; rw [hH]; exact h)

theorem Rep.unmap {G G' : Gh} {n : Nat} (hH : G'.H = G.H) (r : Nat → Nat) (hr : ∀ b, b < n → G'.own[b]? = G.own[r b]?) {c : CV} {v : Value} (hb : c.under n) (h : Rep G (c.ren r) v) : Rep G' c v := by
  cases c
  case fn f caps =>
    obtain ⟨vs, rfl, h2⟩ := h
    refine ⟨vs, rfl, ?_⟩
    simp only [CV.under] at hb
    induction caps generalizing vs with
    | nil => cases vs <;> simp_all [All2]
    | cons c cs ih =>
      cases vs with
      | nil => simp [All2] at h2
      | cons v vs => exact ⟨RepO.unmap hH r hr (hb _ (by simp)) h2.1, ih (fun c hc => hb c (by simp [hc])) vs h2.2⟩
  case optr b off => exact RepO.unmap (G := G) (c := .optr b off) hH r hr hb h
  case osl b ver lo len => exact RepO.unmap (G := G) (c := .osl b ver lo len) hH r hr hb h
  case oel b ver i j => exact RepO.unmap (G := G) (c := .oel b ver i j) hH r hr hb h
  all_goals (simp only [Rep, CV.ren, CV.ren0] at h ⊢; simp only [RepO] at h ⊢; rw [hH]; exact h)

theorem All2.unmap {G G' : Gh} {n : Nat} (hH : G'.H = G.H) (r : Nat → Nat) (hr : ∀ b, b < n → G'.own[b]? = G.own[r b]?) : ∀ {cs : List CV} {vs : List Value}, cvsBelow n cs → All2 (Rep G) (cs.map (CV.ren r)) vs → All2 (Rep G') cs vs
  | [], [], _, _ => trivial
  | _ :: _, _ :: _, hb, h => ⟨Rep.unmap hH r hr hb.1 h.1, All2.unmap hH r hr hb.2 h.2⟩

theorem RepP.unmap {G G' : Gh} {n : Nat} (hH : G'.H = G.H) (r : Nat → Nat) (hr : ∀ b, b < n → G'.own[b]? = G.own[r b]?) {p : PV} {v : Value} (hb : p.under n) (h : RepP G (p.ren r) v) : RepP G' p v := by
  cases p with
  | x => trivial
  | c y => exact Rep.unmap hH r hr hb h
  | a ys => obtain ⟨vs, rfl, h2⟩ := h; exact ⟨vs, rfl, All2.unmap hH r hr hb h2⟩
  | t ps => exact hb.elim

/-- places of the callee's own blocks in the caller's heap -/
def back (n : Nat) (ρ : List Nat) (k : Nat) : Nat := if k < ρ.length then ρ.getD k 0 else n + (k - ρ.length)

theorem back_at {n k b : Nat} {ρ : List Nat} (h : ρ[k]? = some b) : back n ρ k = b := by
  have hkl := (List.getElem?_eq_some_iff.1 h).1
  unfold back
  rw [if_pos hkl, List.getD_eq_getElem?_getD, h]; rfl

open Classical in
/-- the callee's frame: all of the caller's that it is not handed -/
noncomputable def frameF (G : Gh) (w : World) (ρ : List Nat) (b : Nat) : Option Obj :=
  match G.F b with
  | some o => some o
  | none => if ∃ i o, i ∉ ρ ∧ G.own[i]? = some (some o) ∧ o.has = true ∧ o.blk = b then w.heap[b]? else none

section
variable {P : Program} {G : Gh} {E : Env} {σ : List OB} {a : Act} {w : World}

noncomputable def calleeG (G : Gh) (w : World) (ρ : List Nat) : Gh := { H := G.H, F := frameF G w ρ, own := ρ.map fun b => G.own.getD b none, w0 := G.w0, na := ρ.length }

theorem callee_own {ρ : List Nat} (hi : Inv G σ w) (hlt : ∀ b ∈ ρ, b < σ.length) (b : Nat) (hb : b < ρ.length) : (calleeG G w ρ).own[b]? = G.own[back σ.length ρ b]? := by
  have hm : ρ[b] < G.own.length := by rw [hi.len]; exact hlt _ (List.getElem_mem hb)
  simp only [calleeG, back, hb, if_true, List.getElem?_map, List.getElem?_eq_getElem hb, Option.map_some, List.getD, Option.getD_some, List.getElem?_eq_getElem hm]

theorem callee_inv {ρ : List Nat} {σc : List OB} (hi : Inv G σ w) (hnd : ρ.Nodup) (hlt : ∀ b ∈ ρ, b < σ.length) (hlen : σc.length = ρ.length)
    (hσ : ∀ (k : Nat) (ob : OB), σc[k]? = some ob → ∃ b, ρ[k]? = some b ∧ σ[b]? = some (ob.ren (back σ.length ρ))) (hb : obsBelow ρ.length σc) : Inv (calleeG G w ρ) σc w := by
  have hown := callee_own (w := w) hi hlt
  have hF : ∀ b o, frameF G w ρ b = some o → (G.F b = some o) ∨ (w.heap[b]? = some o ∧ ∃ i o', i ∉ ρ ∧ G.own[i]? = some (some o') ∧ o'.has = true ∧ o'.blk = b) := by
    intro b o h
    unfold frameF at h
    split at h
    · rename_i o' ho; left; rw [ho]; exact h
    · split at h
      · rename_i hex; exact .inr ⟨h, hex⟩
      · cases h
  have hk : ∀ (k : Nat) (o : OG), (calleeG G w ρ).own[k]? = some (some o) → ∃ b, ρ[k]? = some b ∧ G.own[b]? = some (some o) := by
    intro k o h
    have hkl : k < ρ.length := by
      have := (List.getElem?_eq_some_iff.1 h).1
      simpa [calleeG] using this
    rw [hown k hkl] at h
    refine ⟨ρ[k], List.getElem?_eq_getElem hkl, ?_⟩
    rw [back_at (List.getElem?_eq_getElem hkl)] at h; exact h
  refine ⟨hi.hH, ?_, ?_, by simp [calleeG, hlen], ?_, ?_, ?_, hi.os, hi.tape, hi.output, hi.grow⟩
  · intro b o h
    rcases hF b o h with h | ⟨h, _⟩
    · exact hi.hF b o h
    · exact h
  · intro b o h
    rcases hF b o h with h | ⟨_, i, o', _, h2, h3, h4⟩
    · exact hi.HF b o h
    · rw [← h4]; exact (hi.sep i o' h2 h3).1
  · intro k ob h
    obtain ⟨b, h1, h2⟩ := hσ k ob h
    have hkl : k < ρ.length := (List.getElem?_eq_some_iff.1 h1).1
    have hbk : back σ.length ρ k = b := back_at h1
    have hok := hi.own b _ h2
    have hbl := obsBelow_get hb k ob h
    have ho : (calleeG G w ρ).own[k]? = G.own[b]? := by rw [hown k hkl, hbk]
    cases ob with
    | dead => simpa [OwnOk, OB.ren, ho] using hok
    | box cs =>
      obtain ⟨o, c, T, g1, g2, g3, g4, g5⟩ := hok
      exact ⟨o, c, T, ho.trans g1, g2, g3, g4, All2.unmap (G := G) (G' := calleeG G w ρ) rfl _ hown hbl g5⟩
    | arr s ver T es =>
      obtain ⟨o, g1, rest⟩ := hok
      exact ⟨o, ho.trans g1, rest⟩
  · intro k k' o o' h h' hh hh' he
    obtain ⟨b, h1, h2⟩ := hk k o h
    obtain ⟨b', h1', h2'⟩ := hk k' o' h'
    have := hi.inj b b' o o' h2 h2' hh hh' he
    subst this
    have hkl := (List.getElem?_eq_some_iff.1 h1).1
    exact (List.getElem?_inj hkl hnd).1 (h1.trans h1'.symm)
  · intro k o h hh
    obtain ⟨b, h1, h2⟩ := hk k o h
    obtain ⟨s1, s2⟩ := hi.sep b o h2 hh
    refine ⟨s1, ?_⟩
    show frameF G w ρ o.blk = none
    cases hf : frameF G w ρ o.blk with
    | none => rfl
    | some x =>
      rcases hF _ _ hf with h | ⟨_, i, o', k1, k2, k3, k4⟩
      · rw [s2] at h; cases h
      · have := hi.inj i b o' o k2 h2 k3 hh k4
        subst this
        exact (k1 (List.mem_of_getElem? h1)).elim

theorem caller_back {ρ : List Nat} {σ' : List OB} {G' : Gh} {w' : World} (hi : Inv G σ w) (hnd : ρ.Nodup) (hlt : ∀ b ∈ ρ, b < σ.length)
    (hle : Gle (calleeG G w ρ) G') (hi' : Inv G' σ' w') (hl : ρ.length ≤ σ'.length) :
    ∃ G'', Gle G G'' ∧ OwnLe G.own G''.own ∧ Inv G'' (place σ ρ (σ'.map (OB.ren (back σ.length ρ)))) w' ∧ (∀ p v, RepP G' p v → RepP G'' (p.ren (back σ.length ρ)) v) := by
  have hown := callee_own (w := w) hi hlt
  have hlen' : G'.own.length = σ'.length := hi'.len
  have hlo : ρ.length ≤ G'.own.length := by omega
  have hltG : ∀ b ∈ ρ, b < G.own.length := fun b hb => by rw [hi.len]; exact hlt b hb
  -- the own places behind the call
  have hr : ∀ (b : Nat) (oo : Option OG), G'.own[b]? = some oo → (place G.own ρ G'.own)[back σ.length ρ b]? = some oo := by
    intro b oo h
    unfold back
    by_cases hb : b < ρ.length
    · rw [if_pos hb, place_at ρ _ _ b _ hnd hlo hltG (show ρ[b]? = some (ρ.getD b 0) by simp [List.getD, List.getElem?_eq_getElem hb])]; exact h
    · rw [if_neg hb, ← hi.len, place_new ρ _ _ _ hlo, show ρ.length + (b - ρ.length) = b by omega]; exact h
  have hsrc : ∀ (b : Nat) (oo : Option OG), (place G.own ρ G'.own)[b]? = some oo → (b ∉ ρ ∧ G.own[b]? = some oo) ∨ ∃ k, G'.own[k]? = some oo ∧ back σ.length ρ k = b := by
    intro b oo h
    by_cases hm : b ∈ ρ
    · obtain ⟨k, hk⟩ := List.mem_iff_getElem?.1 hm
      have hkl := (List.getElem?_eq_some_iff.1 hk).1
      rw [place_at ρ _ _ k b hnd hlo hltG hk] at h
      exact .inr ⟨k, h, back_at hk⟩
    · rcases Nat.lt_or_ge b G.own.length with hb | hb
      · rw [place_other ρ _ _ b hlo hm hb] at h; exact .inl ⟨hm, h⟩
      · obtain ⟨j, rfl⟩ : ∃ j, b = G.own.length + j := ⟨b - G.own.length, by omega⟩
        rw [place_new ρ _ _ j hlo] at h
        refine .inr ⟨ρ.length + j, h, ?_⟩
        unfold back; rw [if_neg (by omega), hi.len]; omega
  have hF1 : ∀ b o, G.F b = some o → G'.F b = some o := by
    intro b o h
    rw [hle.le.F]; simp [calleeG, frameF, h]
  have hF2 : ∀ (i : Nat) (o : OG), i ∉ ρ → G.own[i]? = some (some o) → o.has = true → G'.F o.blk = w.heap[o.blk]? ∧ ∃ x, w.heap[o.blk]? = some x := by
    intro i o hn ho hh
    have hs := (hi.sep i o ho hh).2
    refine ⟨?_, ?_⟩
    · rw [hle.le.F]
      simp only [calleeG, frameF, hs]
      rw [if_pos ⟨i, o, hn, ho, hh, rfl⟩]
    · have := own_lt hi ho hh
      exact ⟨_, Array.getElem?_eq_getElem this⟩
  have hkeep : ∀ (i : Nat) (o : OG), i ∉ ρ → G.own[i]? = some (some o) → o.has = true → w'.heap[o.blk]? = w.heap[o.blk]? := by
    intro i o hn ho hh
    obtain ⟨h1, x, h2⟩ := hF2 i o hn ho hh
    rw [h2] at h1
    rw [h2]; exact hi'.hF _ _ h1
  have hOL : OwnLe G.own (place G.own ρ G'.own) := by
    intro b oo h
    by_cases hm : b ∈ ρ
    · obtain ⟨k, hk⟩ := List.mem_iff_getElem?.1 hm
      have hkl := (List.getElem?_eq_some_iff.1 hk).1
      have hc : (calleeG G w ρ).own[k]? = some oo := by rw [hown k hkl, back_at hk]; exact h
      obtain ⟨oo', q1, q2⟩ := hle.own k oo hkl hc
      exact ⟨oo', by rw [place_at ρ _ _ k b hnd hlo hltG hk]; exact q1, q2⟩
    · have hb : b < G.own.length := (List.getElem?_eq_some_iff.1 h).1
      exact ⟨oo, by rw [place_other ρ _ _ b hlo hm hb]; exact h, fun o' e => ⟨o', e, .inl rfl⟩⟩
  have hH : ∀ b o, G.H b = some o → G'.H b = some o := hle.le.H
  refine ⟨{ H := G'.H, F := G.F, own := place G.own ρ G'.own, w0 := G.w0, na := G.na }, ⟨⟨hH, rfl, rfl, rfl⟩, .of_le hOL⟩, hOL, ?_, fun p v h => RepP.map (G := G') (G' := { H := G'.H, F := G.F, own := place G.own ρ G'.own, w0 := G.w0, na := G.na }) (fun _ _ h => h) _ hr h⟩
  have hw0 : G'.w0 = G.w0 := hle.le.w0
  refine ⟨hi'.hH, fun b o h => hi'.hF b o (hF1 b o h), fun b o h => hi'.HF b o (hF1 b o h), ?_, ?_, ?_, ?_, by rw [← hw0]; exact hi'.os, by rw [← hw0]; exact hi'.tape, by rw [← hw0]; exact hi'.output, by rw [← hw0]; exact hi'.grow⟩
  · simp only
    rw [place_length _ _ _ hlo, place_length _ _ _ (by simpa using hl)]; simp [hi.len, hlen']
  · have back_ok : ∀ (k b : Nat) (ob : OB), σ'[k]? = some ob → back σ.length ρ k = b → OwnOk { H := G'.H, F := G.F, own := place G.own ρ G'.own, w0 := G.w0, na := G.na } w' b (ob.ren (back σ.length ρ)) := by
      intro k b ob h1 h2
      have hok := hi'.own k ob h1
      have hkl : k < G'.own.length := by rw [hlen']; exact (List.getElem?_eq_some_iff.1 h1).1
      have ho : (place G.own ρ G'.own)[b]? = G'.own[k]? := by
        rw [← h2, hr k _ (List.getElem?_eq_getElem hkl), List.getElem?_eq_getElem hkl]
      cases ob with
      | dead => simpa [OwnOk, OB.ren, ho] using hok
      | box cs =>
        obtain ⟨o, c, T, g1, g2, g3, g4, g5⟩ := hok
        exact ⟨o, c, T, ho.trans g1, g2, g3, g4, All2.map_left _ (fun _ _ h => Rep.map (G := G') (G' := { H := G'.H, F := G.F, own := place G.own ρ G'.own, w0 := G.w0, na := G.na }) (fun _ _ h => h) (back σ.length ρ) hr h) g5⟩
      | arr s ver T es =>
        obtain ⟨o, g1, rest⟩ := hok
        exact ⟨o, ho.trans g1, rest⟩
    intro b ob h
    by_cases hm : b ∈ ρ
    · obtain ⟨k, hk⟩ := List.mem_iff_getElem?.1 hm
      have hkl := (List.getElem?_eq_some_iff.1 hk).1
      rw [place_at ρ _ _ k b hnd (by simpa using hl) hlt hk, List.getElem?_map, Option.map_eq_some_iff] at h
      obtain ⟨ob', h1, rfl⟩ := h
      exact back_ok k b ob' h1 (back_at hk)
    · rcases Nat.lt_or_ge b σ.length with hb | hb
      · rw [place_other ρ _ _ b (by simpa using hl) hm hb] at h
        refine (hi.own b ob h).keep hH hOL ?_ fun o ho hh => hkeep b o hm ho hh
        exact place_other ρ _ _ b hlo hm (by rw [hi.len]; exact hb)
      · obtain ⟨j, rfl⟩ : ∃ j, b = σ.length + j := ⟨b - σ.length, by omega⟩
        rw [place_new ρ _ _ j (by simpa using hl), List.getElem?_map, Option.map_eq_some_iff] at h
        obtain ⟨ob', h1, rfl⟩ := h
        refine back_ok (ρ.length + j) _ ob' h1 ?_
        unfold back; rw [if_neg (by omega)]; omega
  · intro b b' o o' h h' hh hh' he
    rcases hsrc b _ h with ⟨n1, g1⟩ | ⟨k, g1, e1⟩ <;> rcases hsrc b' _ h' with ⟨n2, g2⟩ | ⟨k', g2, e2⟩
    · exact hi.inj b b' o o' g1 g2 hh hh' he
    · obtain ⟨q1, x, q2⟩ := hF2 b o n1 g1 hh
      have := (hi'.sep k' o' g2 hh').2
      rw [← he, q1, q2] at this; cases this
    · obtain ⟨q1, x, q2⟩ := hF2 b' o' n2 g2 hh'
      have := (hi'.sep k o g1 hh).2
      rw [he, q1, q2] at this; cases this
    · have := hi'.inj k k' o o' g1 g2 hh hh' he
      rw [← e1, ← e2, this]
  · intro b o h hh
    rcases hsrc b _ h with ⟨n1, g1⟩ | ⟨k, g1, e1⟩
    · obtain ⟨q1, x, q2⟩ := hF2 b o n1 g1 hh
      rw [q2] at q1
      exact ⟨hi'.HF _ _ q1, (hi.sep b o g1 hh).2⟩
    · obtain ⟨q1, q2⟩ := hi'.sep k o g1 hh
      refine ⟨q1, ?_⟩
      cases hf : G.F o.blk with
      | none => rfl
      | some x => rw [hF1 _ _ hf] at q2; cases q2

def psUnder (n : Nat) : List PV → Prop
  | [] => True
  | p :: r => p.under n ∧ psUnder n r

theorem All2.unmapP {G G' : Gh} {n : Nat} (hH : G'.H = G.H) (r : Nat → Nat) (hr : ∀ b, b < n → G'.own[b]? = G.own[r b]?) : ∀ {cs : List PV} {vs : List Value}, psUnder n cs → All2 (RepP G) (cs.map (PV.ren r)) vs → All2 (RepP G') cs vs
  | [], [], _, _ => trivial
  | _ :: _, _ :: _, hb, h => ⟨RepP.unmap hH r hr hb.1 h.1, All2.unmapP hH r hr hb.2 h.2⟩

/-- a call that the walk meets, by its contract: own blocks at ρ are handed in -/
theorem RunCall_atW {ops : Array Oper} {C : Prop} {f : FuncId} {args : List PV} {o : Oper} {r : List Oper} {k : Env → List OB → Prop} {kp : PV → Env → List OB → Prop}
    {args' : List PV} {σc : List OB} {post pp : PV → List OB → Prop} (hs : Spec P f args' σc post pp) (ρ : List Nat) (hd : dstOk E o.dst) (hC : C) (hnd : ρ.Nodup) (hlt : ∀ b ∈ ρ, b < σ.length)
    (hargs : args = args'.map (PV.ren (back σ.length ρ))) (hσ : ρ.map (fun b => σ[b]?) = σc.map fun ob => some (ob.ren (back σ.length ρ))) (hu : psUnder ρ.length args') (hub : obsBelow ρ.length σc)
    (next : ∀ p σ', post p σ' → ρ.length ≤ σ'.length → WL P ops r (E.putD o.dst ⟨true, p.ren (back σ.length ρ)⟩) (place σ ρ (σ'.map (OB.ren (back σ.length ρ)))) (KR k kp))
    (npanic : ∀ p σ', pp p σ' → ρ.length ≤ σ'.length → kp (p.ren (back σ.length ρ)) E (place σ ρ (σ'.map (OB.ren (back σ.length ρ))))) :
    RunCall P ops true C f args o r E σ k kp := by
  intro hrun hg G a w hsim
  have hw := guard_ok (P := P) hsim hg
  obtain ⟨hf, hcall⟩ := hs
  obtain ⟨vs, e1, e2⟩ := run_callR hsim rfl o hrun hC hf
  have hi := hsim.inv
  have hlen : σc.length = ρ.length := by have := congrArg List.length hσ; simpa using this.symm
  have hσ' : ∀ (k : Nat) (ob : OB), σc[k]? = some ob → ∃ b, ρ[k]? = some b ∧ σ[b]? = some (ob.ren (back σ.length ρ)) := by
    intro k ob h
    have hk : k < ρ.length := by rw [← hlen]; exact (List.getElem?_eq_some_iff.1 h).1
    have := congrArg (fun l => l[k]?) hσ
    simp only [List.getElem?_map, h, Option.map_some, List.getElem?_eq_getElem hk, Option.some.injEq] at this
    exact ⟨ρ[k], List.getElem?_eq_getElem hk, this⟩
  have hci := callee_inv hi hnd hlt hlen hσ' hub
  have hown := callee_own (w := w) hi hlt
  rw [hargs] at e2
  have hcv := hcall (calleeG G w ρ) w vs (by simp [calleeG, hlen]) hci (All2.unmapP (G := G) (G' := calleeG G w ρ) rfl _ hown hu e2)
  unfold wpList
  rw [if_pos hw]
  left
  unfold Oper.wp
  rw [e1]
  refine hcv.mono fun e w' hres => ?_
  obtain ⟨G', σ', p, v, h1, h2, h3, h4⟩ := hres
  have hl : ρ.length ≤ σ'.length := by
    rw [← h2.len]
    rcases Nat.eq_zero_or_pos ρ.length with e0 | e0
    · omega
    · have hlast : (calleeG G w ρ).own[ρ.length - 1]? = some ((calleeG G w ρ).own[ρ.length - 1]'(by simp [calleeG]; omega)) := List.getElem?_eq_getElem _
      obtain ⟨oo', q1, _⟩ := h1.own _ _ (by simp [calleeG]; omega) hlast
      have := (List.getElem?_eq_some_iff.1 q1).1
      omega
  obtain ⟨G'', g1, g2, g3, g4⟩ := caller_back hi hnd hlt h1 h2 hl
  rcases h4 with ⟨rfl, h4⟩ | ⟨rfl, h4⟩
  · have hrun' := next p σ' h4 hl
    have hs' : Sim G'' (E.putD o.dst ⟨true, p.ren (back σ.length ρ)⟩) (place σ ρ (σ'.map (OB.ren (back σ.length ρ)))) (a.put o.dst v) w' :=
      (hsim.ghost g3 g1.le.H g1.le.na g2).putD o.dst hd _ v fun _ => g4 p v h3
    exact wpList_mono (fun _ _ _ h => PostX.back g1 h) r _ _ (hrun' G'' _ w' hs')
  · exact ⟨G'', E, _, .panic _, g1, hsim.ghost g3 g1.le.H g1.le.na g2, ⟨v, rfl, g4 p v h3⟩, npanic p σ' h4 hl⟩

theorem RunCall_at {ops : Array Oper} {C : Prop} {f : FuncId} {args : List PV} {o : Oper} {r : List Oper} {k : Env → List OB → Prop} {kp : PV → Env → List OB → Prop}
    {args' : List PV} {σc : List OB} {post pp : PV → List OB → Prop} (hs : Spec P f args' σc post pp) (ρ : List Nat) (hd : dstOk E o.dst) (hC : C) (hnd : ρ.Nodup) (hlt : ∀ b ∈ ρ, b < σ.length)
    (hargs : args = args'.map (PV.ren (back σ.length ρ))) (hσ : ρ.map (fun b => σ[b]?) = σc.map fun ob => some (ob.ren (back σ.length ρ))) (hu : psUnder ρ.length args') (hub : obsBelow ρ.length σc)
    (next : ∀ p σ', post p σ' → ρ.length ≤ σ'.length → runOps P ops r (E.putD o.dst ⟨true, p.ren (back σ.length ρ)⟩) (place σ ρ (σ'.map (OB.ren (back σ.length ρ)))) k kp)
    (npanic : ∀ p σ', pp p σ' → ρ.length ≤ σ'.length → kp (p.ren (back σ.length ρ)) E (place σ ρ (σ'.map (OB.ren (back σ.length ρ))))) :
    RunCall P ops true C f args o r E σ k kp :=
  RunCall_atW hs ρ hd hC hnd hlt hargs hσ hu hub (fun p σ' h hl => runOps_ok _ _ _ _ _ (next p σ' h hl)) npanic

/-- a function of plain values: it returns this, and leaves nothing -/
def SpecF (P : Program) (f : FuncId) (args : List PV) (r : PV) : Prop := Spec P f args [] (fun p σ' => p = r ∧ σ' = []) (fun _ _ => False)

/-- no reference into the own heap -/
def PV.noOwn : PV → Bool
  | .c y => y.flat || (match y with | .fn _ caps => caps.all CV.flat | _ => false)
  | .a ys => ys.all CV.flat
  | .x => true
  | .t _ => false

theorem CV.flat_ren {c : CV} (h : c.flat = true) (r : Nat → Nat) : c.ren r = c ∧ ∀ n, c.under n := by
  cases c <;> first | (simp [CV.flat] at h; done) | exact ⟨rfl, fun _ => trivial⟩

theorem flat_all_ren {cs : List CV} (h : cs.all CV.flat = true) (r : Nat → Nat) : cs.map (CV.ren r) = cs ∧ ∀ n, cvsBelow n cs := by
  induction cs with
  | nil => exact ⟨rfl, fun _ => trivial⟩
  | cons c cs ih =>
    simp only [List.all_cons, Bool.and_eq_true] at h
    obtain ⟨h1, h2⟩ := CV.flat_ren h.1 r
    obtain ⟨h3, h4⟩ := ih h.2
    exact ⟨by simp [h1, h3], fun n => ⟨h2 n, h4 n⟩⟩

theorem PV.noOwn_ren {p : PV} (h : p.noOwn = true) (r : Nat → Nat) : p.ren r = p ∧ ∀ n, p.under n := by
  cases p with
  | x => exact ⟨rfl, fun _ => trivial⟩
  | t ps => simp [PV.noOwn] at h
  | a ys => obtain ⟨h1, h2⟩ := flat_all_ren h r; exact ⟨by simp [PV.ren, h1], h2⟩
  | c y =>
    by_cases hf : y.flat = true
    · obtain ⟨h1, h2⟩ := CV.flat_ren hf r; exact ⟨by simp [PV.ren, h1], h2⟩
    · cases y
      case fn f caps =>
        have h' : caps.all CV.flat = true := by simpa [PV.noOwn, CV.flat] using h
        constructor
        · simp only [PV.ren, CV.ren]
          congr 2
          clear h hf
          induction caps with
          | nil => rfl
          | cons c cs ih =>
            simp only [List.all_cons, Bool.and_eq_true] at h'
            simp only [List.map_cons, ih h'.2]
            congr 1
            cases c <;> first | rfl | (simp [CV.flat] at h')
        · intro n
          simp only [PV.under, CV.under]
          intro c hc
          have := (List.all_eq_true.1 h') c hc
          cases c <;> first | trivial | (simp [CV.flat] at this)
      all_goals simp_all [PV.noOwn]

theorem RunCall_pureW {ops : Array Oper} {γ : Bool} {C : Prop} {f : FuncId} {args : List PV} {o : Oper} {r : List Oper} {k : Env → List OB → Prop} {kp : PV → Env → List OB → Prop}
    {res : PV} (hs : γ = true → SpecF P f args res) (hd : dstOk E o.dst) (hC : γ = true → C) (hargs : args.all PV.noOwn = true) (hres : res.ren (back σ.length []) = res)
    (next : WL P ops r (E.putD o.dst ⟨γ, res⟩) σ (KR k kp)) : RunCall P ops γ C f args o r E σ k kp := by
  cases γ with
  | true =>
    have ha : args.map (PV.ren (back σ.length [])) = args ∧ psUnder 0 args := by
      clear hs
      induction args with
      | nil => exact ⟨rfl, trivial⟩
      | cons p l ih =>
        simp only [List.all_cons, Bool.and_eq_true] at hargs
        obtain ⟨h1, h2⟩ := PV.noOwn_ren hargs.1 (back σ.length [])
        obtain ⟨h3, h4⟩ := ih hargs.2
        exact ⟨by simp [h1, h3], h2 0, h4⟩
    refine RunCall_atW (hs rfl) [] hd (hC rfl) List.nodup_nil (by simp) ha.1.symm (by simp) ha.2 trivial ?_ (fun _ _ h => h.elim)
    rintro p σ' ⟨rfl, rfl⟩ _
    simpa [place, hres] using next
  | false =>
    intro _ hg G a w hsim
    have hw := guard_ok (P := P) hsim hg
    unfold wpList
    rw [if_neg (by rw [hw]; simp)]
    exact next G _ w (hsim.putD o.dst hd _ undef fun hc => by cases hc)

theorem RunCall_pure {ops : Array Oper} {γ : Bool} {C : Prop} {f : FuncId} {args : List PV} {o : Oper} {r : List Oper} {k : Env → List OB → Prop} {kp : PV → Env → List OB → Prop}
    {res : PV} (hs : γ = true → SpecF P f args res) (hd : dstOk E o.dst) (hC : γ = true → C) (hargs : args.all PV.noOwn = true) (hres : res.ren (back σ.length []) = res)
    (next : runOps P ops r (E.putD o.dst ⟨γ, res⟩) σ k kp) : RunCall P ops γ C f args o r E σ k kp :=
  RunCall_pureW hs hd hC hargs hres (runOps_ok _ _ _ _ _ next)
end
end Pam

/- Facts of a program's types, read off a table. -/
namespace Pam
open Go

structure TD where
  ok : Bool := false
  size : Nat := 0
  bytes : Nat := 0
  agg : Bool := false
  sl : Bool := false
  arr : Bool := false
  str : Bool := false
  bool : Bool := false
  int : Bool := false
  ptr : Bool := false
  elem : TypeId := 0
  alen : Nat := 0
  kind : IntKind := .i64
  fs : List (Nat × TypeId) := []
  fk : Bool := false
  zero : Option (List CV) := none
  flat : Option (List Nat) := none

/-- what a row of the table says of a type -/
structure Facts (P : Program) (T : TypeId) (d : TD) : Prop where
  known : knownT P T = true
  und : (P.underlying T).isSome = true
  size : P.cellsOf T = d.size
  bytes : P.bytesOf T = d.bytes
  agg : aggT P T = d.agg
  sl : isSl P T = d.sl
  arr : isArr P T = d.arr
  str : isStr P T = d.str
  bool : isBool P T = d.bool
  int : isInt P T = d.int
  ptr : isPtr P T = d.ptr
  elem : P.elem T = d.elem
  alen : P.arrayLen T = d.alen
  kind : P.intKind T = d.kind
  fk : fieldsKnown P T = d.fk
  zero : zeroC P T = d.zero
  flat : flatK P T = d.flat
  fld : ∀ i, i < d.fs.length → fldOk P T i = true ∧ fldOff P T i = (d.fs.getD i (0, 0)).1 ∧ fldT P T i = (d.fs.getD i (0, 0)).2

end Pam

/- Regions whose order Go leaves open: evaluated in the order of the text, where the edges allow it. -/
namespace Pam
open Go

theorem Tr.get_put8 (t : Tr) (i j : Nat) (x : Tr) (hi : i < 8) : (t.put i x).get j = if j = i then x else t.get j := Tr.get_put t i j x hi

theorem Env.get_put' (E : Env) (i j : Nat) (e : Ent) (h : i < 512) : (E.put i e).get j = if j = i then e else E.get j := by
  unfold Env.get Env.put
  simp only
  have hb : i / 64 < 8 := by omega
  rw [Tr.get_put _ _ _ _ hb]
  by_cases e1 : j / 64 = i / 64
  · rw [if_pos e1, Tr.get_put _ _ _ _ (Nat.mod_lt _ (by decide))]
    by_cases e2 : j / 8 % 8 = i / 8 % 8
    · rw [if_pos e2, Tr.get_put _ _ _ _ (Nat.mod_lt _ (by decide))]
      by_cases e3 : j % 8 = i % 8
      · have : j = i := by omega
        subst this
        simp [Tr.ent]
      · have : j ≠ i := by omega
        rw [if_neg e3, if_neg this, e1, e2]
    · have : j ≠ i := by omega
      rw [if_neg e2, if_neg this, e1]
  · have : j ≠ i := by omega
    rw [if_neg e1, if_neg this]

theorem Env.get_big (E : Env) (i : Nat) (h : 512 ≤ i) : (E.get i).cond = false := by
  unfold Env.get
  rw [Tr.get_big E.t (i / 64) (by omega)]
  simp [Tr.get, Tr.ent]

def loudB (o : Oper) : Bool :=
  match o.op with
  | .move _ | .assign _ | .pick .. | .load .. | .nilCheck _ | .binOp .. | .unOp .. | .convert .. | .fieldAddr .. | .field .. | .indexAddr .. | .index .. | .extract .. | .slice .. | .build .. | .makeFunc .. => false
  | .call c => (match c.callee with | .builtin .len | .builtin .min | .builtin .max => false | _ => true)
  | _ => true

def edgesOf (o : Oper) : List Nat := (o.after.toList.filter (Region.binds .any)).map (·.on)
def orM (masks : List Nat) : List Nat → Nat
  | [] => 0
  | j :: r => (2 ^ j ||| masks.getD j 0) ||| orM masks r

theorem orM_bit (masks : List Nat) (k : Nat) : ∀ l, (orM masks l).testBit k = true → ∃ j ∈ l, j = k ∨ (masks.getD j 0).testBit k = true
  | [], h => by simp [orM] at h
  | j :: r, h => by
    simp only [orM, Nat.testBit_or, Bool.or_eq_true, Nat.testBit_two_pow] at h
    rcases h with (h | h) | h
    · exact ⟨j, by simp, .inl (by simpa using h)⟩
    · exact ⟨j, by simp, .inr h⟩
    · obtain ⟨j', h1, h2⟩ := orM_bit masks k r h
      exact ⟨j', by simp [h1], h2⟩

/-- does one operation write what another one looks at or writes? -/
def hits (ops : Array Oper) (x y : Oper) : Bool :=
  match x.dst with
  | none => false
  | some d => (y.looksAt ops).contains d || y.dst == some d

def ordB (masks : List Nat) (i j : Nat) : Bool := i == j || (masks.getD i 0).testBit j || (masks.getD j 0).testBit i

/-- the closed conditions on a region -/
def chk (ops : Array Oper) (l : List Oper) (masks : List Nat) (bar : List Bool) : Bool :=
  (l.zipIdx.all fun (o, i) => masks.getD i 0 == orM masks (edgesOf o) && (edgesOf o).all (· < i) &&
    (match o.dst with | some d => decide (d < 512) | none => true) && (o.looksAt ops).all (· < 512)) &&
  (l.zipIdx.all fun (x, i) => l.zipIdx.all fun (y, j) => (!(loudB x && loudB y) || ordB masks i j) && (!(hits ops x y) || ordB masks i j) && (!(bar.getD i false) || ordB masks i j))

/-- a step of the text's own order: what is known of the operation's value, and the own heap behind it -/
structure TS where
  γ : Bool
  e : Ent
  σ : List OB

def Ext (σ σ' : List OB) : Prop := ∃ ρ, σ' = σ ++ ρ

/-- a call by a contract that tells one end, from this own heap -/
def CallTo (P : Program) (σ : List OB) (f : FuncId) (args : List PV) (p : PV) (σ2 : List OB) : Prop :=
  ∃ (args' : List PV) (σc : List OB) (post pp : PV → List OB → Prop) (ρ : List Nat), Spec P f args' σc post pp ∧ ρ.Nodup ∧ (∀ b ∈ ρ, b < σ.length) ∧ args = args'.map (PV.ren (back σ.length ρ)) ∧
    ρ.map (fun b => σ[b]?) = σc.map (fun ob => some (ob.ren (back σ.length ρ))) ∧ psUnder ρ.length args' ∧ obsBelow ρ.length σc ∧
    (∀ q τ, post q τ → ρ.length ≤ τ.length → q.ren (back σ.length ρ) = p ∧ place σ ρ (τ.map (OB.ren (back σ.length ρ))) = σ2) ∧ (∀ q τ, pp q τ → False)

def TStep (P : Program) (ops : Array Oper) (E : Env) (σ : List OB) (o : Oper) (bar : Bool) (ts : TS) : Prop :=
  guardOf ops E o.guard = some ts.γ ∧ dstOk E o.dst ∧
  ((∃ C v, run1 P ts.γ E σ o.op = .ok C v ∧ C ∧ ts.e = ⟨ts.γ, v⟩ ∧ ts.σ = σ) ∨
   (ts.γ = true ∧ ∃ C v, run1 P ts.γ E σ o.op = .upd C v ts.σ ∧ C ∧ ts.e = ⟨true, v⟩ ∧ (bar = true ∨ Ext σ ts.σ)) ∨
   (∃ C f args r, run1 P ts.γ E σ o.op = .call C f args ∧ (ts.γ = true → C ∧ SpecF P f args r) ∧ args.all PV.noOwn = true ∧ (∀ n, r.ren (back n []) = r) ∧ ts.e = ⟨ts.γ, r⟩ ∧ ts.σ = σ) ∨
   (ts.γ = false ∧ ts.e = ⟨true, .t []⟩ ∧ ts.σ = σ) ∨
   (ts.γ = true ∧ ∃ C f args p, run1 P ts.γ E σ o.op = .call C f args ∧ C ∧ CallTo P σ f args p ts.σ ∧ ts.e = ⟨true, p⟩ ∧ (bar = true ∨ Ext σ ts.σ)))

def Trace (P : Program) (ops : Array Oper) : List Oper → List Bool → Env → List OB → List TS → Prop
  | [], _, _, _, tr => tr = []
  | o :: l, bs, E, σ, tr => ∃ ts r, tr = ts :: r ∧ TStep P ops E σ o (bs.headD false) ts ∧ Trace P ops l bs.tail (E.putD o.dst ts.e) ts.σ r

/-- the environment and the heap ahead of an operation -/
def envAt (E : Env) : List Oper → List TS → Nat → Env
  | o :: l, ts :: tr, k + 1 => envAt (E.putD o.dst ts.e) l tr k
  | _, _, _ => E
def heapAt (σ : List OB) : List TS → Nat → List OB
  | ts :: tr, k + 1 => heapAt ts.σ tr k
  | _, _ => σ
/-- what is known of a slot when the operations of d are done -/
def slotD (t : Tmp) : List Oper → List TS → (Nat → Bool) → Ent → Ent
  | o :: l, ts :: tr, d, e => slotD t l tr (fun j => d (j + 1)) (if d 0 = true ∧ o.dst = some t then ts.e else e)
  | _, _, _, e => e

section
variable {P : Program} {ops : Array Oper}

theorem Trace.at : ∀ {l : List Oper} {bs : List Bool} {E : Env} {σ : List OB} {tr : List TS}, Trace P ops l bs E σ tr → tr.length = l.length ∧
    ∀ (i : Nat) (o : Oper), l[i]? = some o → ∃ ts, tr[i]? = some ts ∧ TStep P ops (envAt E l tr i) (heapAt σ tr i) o (bs.getD i false) ts ∧ heapAt σ tr (i + 1) = ts.σ
  | [], bs, E, σ, tr, h => by simp only [Trace] at h; subst h; exact ⟨rfl, fun i o h => by simp at h⟩
  | o :: l, bs, E, σ, tr, h => by
    obtain ⟨ts, r, rfl, h1, h2⟩ := h
    obtain ⟨h3, h4⟩ := Trace.at h2
    refine ⟨by simp [h3], fun i o' ho => ?_⟩
    cases i with
    | zero =>
      simp only [List.getElem?_cons_zero, Option.some.injEq] at ho
      subst ho
      refine ⟨ts, rfl, ?_, ?_⟩
      · cases bs <;> exact h1
      · cases r <;> rfl
    | succ i =>
      obtain ⟨ts', k1, k2, k3⟩ := h4 i o' (by simpa using ho)
      refine ⟨ts', by simpa using k1, ?_, ?_⟩
      · cases bs <;> simpa [envAt, heapAt] using k2
      · simpa [heapAt] using k3

theorem slotD_congr (t : Tmp) : ∀ (l : List Oper) (tr : List TS) (d d' : Nat → Bool) (e : Ent), (∀ j o, l[j]? = some o → o.dst = some t → d j = d' j) → slotD t l tr d e = slotD t l tr d' e
  | [], tr, d, d', e, _ => by simp [slotD]
  | o :: l, [], d, d', e, _ => by simp [slotD]
  | o :: l, ts :: tr, d, d', e, h => by
    simp only [slotD]
    have : (if d 0 = true ∧ o.dst = some t then ts.e else e) = (if d' 0 = true ∧ o.dst = some t then ts.e else e) := by
      by_cases ho : o.dst = some t
      · rw [h 0 o (by simp) ho]
      · simp [ho]
    rw [this]
    exact slotD_congr t l tr _ _ _ fun j o' hj hd => h (j + 1) o' (by simpa using hj) hd

theorem slotD_none (t : Tmp) (l : List Oper) (tr : List TS) (d : Nat → Bool) (e : Ent) (h : ∀ j o, l[j]? = some o → o.dst = some t → d j = false) : slotD t l tr d e = e := by
  rw [slotD_congr t l tr d (fun _ => false) e h]
  clear h
  induction l generalizing tr e with
  | nil => simp [slotD]
  | cons o l ih =>
    cases tr with
    | nil => simp [slotD]
    | cons ts tr => simp only [slotD]; rw [ih]; simp

/-- one operation more is done, behind which none that writes its slot is -/
theorem slotD_set (t : Tmp) : ∀ (l : List Oper) (tr : List TS) (d : Nat → Bool) (e : Ent) (i : Nat) (o : Oper) (ts : TS), l[i]? = some o → tr[i]? = some ts → o.dst = some t →
    (∀ j o', l[j]? = some o' → o'.dst = some t → i < j → d j = false) → slotD t l tr (fun j => if j = i then true else d j) e = ts.e
  | [], tr, d, e, i, o, ts, h, _, _, _ => by simp at h
  | x :: l, [], d, e, i, o, ts, _, h, _, _ => by simp at h
  | x :: l, y :: tr, d, e, i, o, ts, h1, h2, h3, h4 => by
    simp only [slotD]
    cases i with
    | zero =>
      simp only [List.getElem?_cons_zero, Option.some.injEq] at h1 h2
      subst h1; subst h2
      rw [slotD_none]
      · simp [h3]
      · intro j o' hj hd
        simp only [Nat.add_eq_zero_iff, Nat.one_ne_zero, and_false, if_false]
        exact h4 (j + 1) o' (by simpa using hj) hd (by omega)
    | succ i =>
      have := slotD_set t l tr (fun j => d (j + 1)) (if (if 0 = i + 1 then true else d 0) = true ∧ x.dst = some t then y.e else e) i o ts (by simpa using h1) (by simpa using h2) h3
        (fun j o' hj hd hij => h4 (j + 1) o' (by simpa using hj) hd (by omega))
      rw [← this]
      apply slotD_congr
      intro j o' _ _
      simp

theorem slotD_other (t : Tmp) (l : List Oper) (tr : List TS) (d : Nat → Bool) (e : Ent) (i : Nat) (o : Oper) (h : l[i]? = some o) (hd : o.dst ≠ some t) : slotD t l tr (fun j => if j = i then true else d j) e = slotD t l tr d e := by
  apply slotD_congr
  intro j o' hj hdj
  by_cases e : j = i
  · subst e; rw [h] at hj; simp only [Option.some.injEq] at hj; subst hj; exact (hd hdj).elim
  · simp [e]

theorem putD_get (E : Env) (d : Option Tmp) (e : Ent) (t : Tmp) (h : ∀ x, d = some x → x < 512) : (E.putD d e).get t = if d = some t then e else E.get t := by
  cases d with
  | none => simp [Env.putD]
  | some x =>
    simp only [Env.putD]
    rw [Env.get_put' E x t e (h x rfl)]
    by_cases he : t = x
    · subst he; simp
    · have : x ≠ t := fun h => he h.symm
      simp [he, this]

theorem envAt_get (t : Tmp) : ∀ (l : List Oper) (tr : List TS) (E : Env) (k : Nat), (∀ (j : Nat) (o : Oper) (x : Nat), l[j]? = some o → o.dst = some x → x < 512) → tr.length = l.length → (envAt E l tr k).get t = slotD t l tr (fun j => decide (j < k)) (E.get t)
  | [], tr, E, k, _, _ => by cases k <;> simp [envAt, slotD]
  | o :: l, [], E, k, _, h => by simp at h
  | o :: l, ts :: tr, E, 0, _, _ => by
    simp only [envAt]
    rw [slotD_none]
    intro j o' _ _; simp
  | o :: l, ts :: tr, E, k + 1, hx, h => by
    simp only [envAt, slotD]
    rw [envAt_get t l tr _ k (fun j o' x hj hd => hx (j + 1) o' x (by simpa using hj) hd) (by simpa using h)]
    rw [putD_get _ _ _ _ (fun x hd => hx 0 o x (by simp) hd)]
    have e1 : (fun j => decide (j + 1 < k + 1)) = (fun j => decide (j < k)) := by funext j; simp
    simp [e1]

theorem heapAt_ext {σ : List OB} {tr : List TS} (l : List Oper) (hlen : tr.length = l.length) (p : Nat) : ∀ (q : Nat), p ≤ q → q ≤ l.length → (∀ j, p ≤ j → j < q → Ext (heapAt σ tr j) (heapAt σ tr (j + 1))) → Ext (heapAt σ tr p) (heapAt σ tr q)
  | 0, h, _, _ => by have : p = 0 := by omega
                     subst this; exact ⟨[], by simp⟩
  | q + 1, h, hq, he => by
    by_cases e : p = q + 1
    · subst e; exact ⟨[], by simp⟩
    · obtain ⟨ρ, h1⟩ := heapAt_ext l hlen p q (by omega) (by omega) fun j h1 h2 => he j h1 (by omega)
      obtain ⟨ρ', h2⟩ := he q (by omega) (by omega)
      exact ⟨ρ ++ ρ', by rw [h2, h1, List.append_assoc]⟩

theorem quiet_loud {γ : Bool} {E : Env} {σ : List OB} {o : Oper} (h : loudB o = false) : (∀ C v σ', run1 P γ E σ o.op ≠ .upd C v σ') ∧ ∀ C f args, run1 P γ E σ o.op ≠ .call C f args := by
  unfold loudB at h
  constructor
  · intro C v σ' hr
    cases hop : o.op
    all_goals (rw [hop] at h hr; simp only [run1] at hr; try (simp at h; done))
    case move => cases hr
    case assign => cases hr
    case pick => unfold pickR at hr; split at hr <;> cases hr
    case build => unfold buildR at hr; split at hr <;> first | cases hr | (split at hr <;> cases hr)
    case load => unfold loadR at hr; split at hr <;> first | cases hr | (split at hr <;> cases hr)
    case nilCheck => unfold nilCheckR at hr; split at hr <;> cases hr
    case binOp => unfold binR at hr; split at hr <;> first | cases hr | (split at hr <;> first | cases hr | (split at hr <;> first | cases hr | (split at hr <;> cases hr)))
    case unOp => unfold unR at hr; split at hr <;> cases hr
    case convert => unfold convR at hr; split at hr <;> cases hr
    case fieldAddr => unfold fieldAddrR at hr; split at hr <;> cases hr
    case field => unfold fieldR at hr; split at hr <;> cases hr
    case indexAddr => unfold indexAddrR at hr; split at hr <;> first | cases hr | (split at hr <;> cases hr)
    case index => unfold indexR at hr; split at hr <;> cases hr
    case extract => unfold extractR at hr; split at hr <;> cases hr
    case slice =>
      unfold sliceR at hr
      split at hr
      · split at hr
        · split at hr
          · split at hr <;> cases hr
          · cases hr
        · cases hr
      · split at hr <;> first | cases hr | (split at hr <;> first | cases hr | (split at hr <;> cases hr))
    case makeFunc => unfold makeFuncR at hr; split at hr <;> cases hr
    case call c =>
      split at hr
      · simp_all
      · rename_i b hb
        simp only [hb] at h
        unfold builtinR at hr
        split at hr
        · unfold lenR at hr; split at hr <;> cases hr
        · simp at h
        · unfold minmaxR at hr; split at hr <;> cases hr
        · unfold minmaxR at hr; split at hr <;> cases hr
        · cases hr
      · cases hr
  · intro C f args hr
    cases hop : o.op
    all_goals (rw [hop] at h hr; simp only [run1] at hr; try (simp at h; done))
    case move => cases hr
    case assign => cases hr
    case pick => unfold pickR at hr; split at hr <;> cases hr
    case build => unfold buildR at hr; split at hr <;> first | cases hr | (split at hr <;> cases hr)
    case load => unfold loadR at hr; split at hr <;> first | cases hr | (split at hr <;> cases hr)
    case nilCheck => unfold nilCheckR at hr; split at hr <;> cases hr
    case binOp => unfold binR at hr; split at hr <;> first | cases hr | (split at hr <;> first | cases hr | (split at hr <;> first | cases hr | (split at hr <;> cases hr)))
    case unOp => unfold unR at hr; split at hr <;> cases hr
    case convert => unfold convR at hr; split at hr <;> cases hr
    case fieldAddr => unfold fieldAddrR at hr; split at hr <;> cases hr
    case field => unfold fieldR at hr; split at hr <;> cases hr
    case indexAddr => unfold indexAddrR at hr; split at hr <;> first | cases hr | (split at hr <;> cases hr)
    case index => unfold indexR at hr; split at hr <;> cases hr
    case extract => unfold extractR at hr; split at hr <;> cases hr
    case slice =>
      unfold sliceR at hr
      split at hr
      · split at hr
        · split at hr
          · split at hr <;> cases hr
          · cases hr
        · cases hr
      · split at hr <;> first | cases hr | (split at hr <;> first | cases hr | (split at hr <;> cases hr))
    case makeFunc => unfold makeFuncR at hr; split at hr <;> cases hr
    case call c =>
      split at hr
      · simp_all
      · rename_i b hb
        unfold builtinR at hr
        split at hr
        · unfold lenR at hr; split at hr <;> cases hr
        · split at hr
          · unfold appendR at hr
            split at hr
            · cases hr
            · split at hr <;> first | cases hr | (split at hr <;> cases hr)
          · cases hr
        · unfold minmaxR at hr; split at hr <;> cases hr
        · unfold minmaxR at hr; split at hr <;> cases hr
        · cases hr
      · cases hr

end
end Pam

/- The theorem on regions whose order is open: what holds in the text's order holds in every order that the edges allow. -/
namespace Pam
open Go

section
variable {P : Program} {ops : Array Oper}

def readsT (x : Operand) : List Tmp := match x with | .tmp t => [t] | _ => []

theorem ev_congr {E E' : Env} {ts : List Tmp} (h : ∀ t ∈ ts, E.get t = E'.get t) (x : Operand) (hx : ∀ t, x = .tmp t → t ∈ ts) : ev E x = ev E' x := by
  cases x with
  | tmp t => exact h t (hx t rfl)
  | _ => rfl

theorem map_ev_congr {E E' : Env} (l : List Operand) (h : ∀ x ∈ l, ev E x = ev E' x) : l.map (ev E) = l.map (ev E') := List.map_congr_left h

theorem run1_congr {γ : Bool} {E E' : Env} {σ : List OB} (op : Op) (h : ∀ x ∈ op.operands, ev E x = ev E' x) : run1 P γ E σ op = run1 P γ E' σ op := by
  cases op
  case move x => simp only [run1]; rw [h x (by simp [Op.operands])]
  case assign x => simp only [run1]; rw [h x (by simp [Op.operands])]
  case pick c a b => simp only [run1]; rw [h c (by simp [Op.operands]), h a (by simp [Op.operands]), h b (by simp [Op.operands])]
  case box T x => simp only [run1]; rw [h x (by simp [Op.operands])]
  case build T parts =>
    simp only [run1, partE]
    rw [List.map_congr_left]
    intro p hp
    rw [h p.2 (by simp only [Op.operands, List.mem_toArray, List.mem_map]; exact ⟨p, hp, rfl⟩)]
  case buildSlice T len parts =>
    simp only [run1, partE]
    rw [List.map_congr_left]
    intro p hp
    rw [h p.2 (by simp only [Op.operands, List.mem_toArray, List.mem_map]; exact ⟨p, hp, rfl⟩)]
  case load T x => simp only [run1]; rw [h x (by simp [Op.operands])]
  case store T x y => simp only [run1]; rw [h x (by simp [Op.operands]), h y (by simp [Op.operands])]
  case nilCheck x => simp only [run1]; rw [h x (by simp [Op.operands])]
  case binOp op T x y T' => simp only [run1]; rw [h x (by simp [Op.operands]), h y (by simp [Op.operands])]
  case unOp op T x => simp only [run1]; rw [h x (by simp [Op.operands])]
  case convert s d x => simp only [run1]; rw [h x (by simp [Op.operands])]
  case fieldAddr T x i => simp only [run1]; rw [h x (by simp [Op.operands])]
  case field T x i => simp only [run1]; rw [h x (by simp [Op.operands])]
  case indexAddr T x i => simp only [run1]; rw [h x (by simp [Op.operands]), h i (by simp [Op.operands])]
  case index T x i => simp only [run1]; rw [h x (by simp [Op.operands]), h i (by simp [Op.operands])]
  case extract x i => simp only [run1]; rw [h x (by simp [Op.operands])]
  case slice T x lo hi mx =>
    simp only [run1]
    rw [h x (by simp [Op.operands])]
    have hl : ∀ o : Option Operand, (∀ y, o = some y → ev E y = ev E' y) → o.map (ev E) = o.map (ev E') := by
      intro o ho; cases o with
      | none => rfl
      | some y => simp [ho y rfl]
    rw [hl lo fun y hy => h y (by simp [Op.operands, hy]), hl hi fun y hy => h y (by simp [Op.operands, hy]), hl mx fun y hy => h y (by simp [Op.operands, hy])]
  case makeSlice T x y => simp only [run1]; rw [h x (by simp [Op.operands]), h y (by simp [Op.operands])]
  case makeFunc fn first caps =>
    simp only [run1]
    rw [map_ev_congr]
    intro x hx
    exact h x (by simp only [Op.operands, Array.mem_append]; right; simpa using hx)
  case call c =>
    simp only [run1]
    have hargs : c.args.toList.map (ev E) = c.args.toList.map (ev E') := map_ev_congr _ fun x hx => h x (by simp only [Op.operands, Call.operands, Array.mem_append]; right; simpa using hx)
    rw [hargs]
    split
    · rename_i f hf
      rw [h f (by simp only [Op.operands, Call.operands, Array.mem_append]; left; simp [hf])]
    · rfl
    · rfl
  all_goals rfl

theorem guardOf_congr {E E' : Env} (o : Oper) (h : ∀ t ∈ o.looksAt ops, E.get t = E'.get t) : guardOf ops E o.guard = guardOf ops E' o.guard := by
  unfold guardOf
  cases hg : o.guard with
  | none => rfl
  | some jw =>
    obtain ⟨j, want⟩ := jw
    simp only
    cases ho : ops[j]? with
    | none => rfl
    | some o' =>
      simp only
      cases hd : o'.dst with
      | none => rfl
      | some d =>
        simp only
        rw [h d (by simp [Oper.looksAt, hg, ho, hd])]

/-- a reference at the top of a value -/
def topRef : PV → Option Nat
  | .c (.optr b _) => some b
  | .c (.osl b _ _ _) => some b
  | .c (.oel b _ _ _) => some b
  | _ => none

theorem alive_heap {σ σ' : List OB} {c : CV} (h : ∀ b ob, topRef (.c c) = some b → σ[b]? = some ob → σ'[b]? = some ob) (ha : alive σ c) : alive σ' c := by
  cases c <;> simp only [alive] at ha ⊢
  all_goals
    split at ha
    · rename_i hb; rw [h _ _ rfl hb]; exact ha
    · exact ha.elim

theorem run1_heap {E : Env} {σ σ' : List OB} {op : Op} {C : Prop} {v : PV} (h : run1 P true E σ op = .ok C v) (hC : C)
    (hh : ∀ x, (ev E x).cond = true → ∀ b ob, topRef (ev E x).v = some b → σ[b]? = some ob → σ'[b]? = some ob) : ∃ C', run1 P true E σ' op = .ok C' v ∧ C' := by
  have al : ∀ x c, (ev E x).v = .c c → need true (ev E x) → alive σ c → alive σ' c := fun x c hv hn ha => alive_heap (fun b ob ht hb => hh x (hn rfl) b ob (by rw [hv]; exact ht) hb) ha
  have wd : ∀ x b ver lo len s, (ev E x).v = .c (.osl b ver lo len) → need true (ev E x) → widOk σ b s → widOk σ' b s := by
    intro x b ver lo len s hv hn ha
    unfold widOk at ha ⊢
    cases hb : σ[b]? with
    | none => rw [hb] at ha; exact ha.elim
    | some ob => rw [hh x (hn rfl) b ob (by rw [hv]; rfl) hb]; rw [hb] at ha; exact ha
  cases op
  case load T x =>
    simp only [run1, loadR] at h ⊢
    split at h
    · rename_i b off hv
      split at h
      · rename_i cs hb
        simp only [R.ok.injEq] at h; obtain ⟨rfl, rfl⟩ := h
        have := hh x (hC.1 rfl) b _ (by rw [hv]; rfl) hb
        exact ⟨_, by first | rfl | (simp only [hv, this]; done) | (simp only [hv, this]; rfl) | (simp only [this]; done) | (simp only [this]; rfl), hC⟩
      · cases h
    · rename_i s es i j hv
      exact ⟨C, by first | exact h | (simp only [hv]; exact h), hC⟩
    · rename_i b ver i j hv
      split at h
      · rename_i s ver' T' es hb
        simp only [R.ok.injEq] at h; obtain ⟨rfl, rfl⟩ := h
        have := hh x (hC.1 rfl) b _ (by rw [hv]; rfl) hb
        exact ⟨_, by first | rfl | (simp only [hv, this]; done) | (simp only [hv, this]; rfl) | (simp only [this]; done) | (simp only [this]; rfl), hC⟩
      · cases h
    · cases h
  case nilCheck x =>
    simp only [run1, nilCheckR] at h ⊢
    split at h
    · rename_i b off hv
      simp only [R.ok.injEq] at h; obtain ⟨rfl, rfl⟩ := h
      refine ⟨_, by first | rfl | (simp only [hv]; done) | (simp only [hv]; rfl), ?_⟩
      exact ⟨hC.1, al x _ hv hC.1 hC.2⟩
    · rename_i hv; exact ⟨C, by first | exact h | (simp only [hv]; exact h), hC⟩
    · rename_i b ver i j hv
      simp only [R.ok.injEq] at h; obtain ⟨rfl, rfl⟩ := h
      refine ⟨_, by first | rfl | (simp only [hv]; done) | (simp only [hv]; rfl), ?_⟩
      exact ⟨hC.1, al x _ hv hC.1 hC.2⟩
    · cases h
  case fieldAddr T x i =>
    simp only [run1, fieldAddrR] at h ⊢
    split at h
    · rename_i b off hv
      simp only [R.ok.injEq] at h; obtain ⟨rfl, rfl⟩ := h
      refine ⟨_, by first | rfl | (simp only [hv]; done) | (simp only [hv]; rfl), ?_⟩
      exact ⟨hC.1, al x _ hv hC.1 hC.2.1, hC.2.2⟩
    · rename_i hv; exact ⟨C, by first | exact h | (simp only [hv]; exact h), hC⟩
    · rename_i b ver k j hv
      simp only [R.ok.injEq] at h; obtain ⟨rfl, rfl⟩ := h
      refine ⟨_, by first | rfl | (simp only [hv]; done) | (simp only [hv]; rfl), ?_⟩
      exact ⟨hC.1, al x _ hv hC.1 hC.2.1, hC.2.2⟩
    · cases h
  case indexAddr T x i =>
    simp only [run1, indexAddrR] at h ⊢
    split at h
    · rename_i hv hv2; exact ⟨C, by first | exact h | (simp only [hv, hv2]; exact h), hC⟩
    · rename_i b ver lo len k n hv hv2
      split at h
      · rename_i s ver' T' es hb
        simp only [R.ok.injEq] at h; obtain ⟨rfl, rfl⟩ := h
        have := hh x (hC.1 rfl) b _ (by rw [hv]; rfl) hb
        exact ⟨_, by first | rfl | (simp only [hv, hv2, this]; done) | (simp only [hv, hv2, this]; rfl) | (simp only [this]; done) | (simp only [this]; rfl), hC⟩
      · cases h
    · rename_i b off k n hv hv2
      simp only [R.ok.injEq] at h; obtain ⟨rfl, rfl⟩ := h
      refine ⟨_, by first | rfl | (simp only [hv, hv2]; done) | (simp only [hv, hv2]; rfl), ?_⟩
      exact ⟨hC.1, hC.2.1, al x _ hv hC.1 hC.2.2.1, hC.2.2.2⟩
    · rename_i b ver k j k0 n hv hv2
      split at h
      · rename_i s ver' T' es hb
        simp only [R.ok.injEq] at h; obtain ⟨rfl, rfl⟩ := h
        have := hh x (hC.1 rfl) b _ (by rw [hv]; rfl) hb
        exact ⟨_, by first | rfl | (simp only [hv, hv2, this]; done) | (simp only [hv, hv2, this]; rfl) | (simp only [this]; done) | (simp only [this]; rfl), hC⟩
      · cases h
    · cases h
  case slice T x lo hi mx =>
    simp only [run1, sliceR] at h ⊢
    split at h
    · rename_i m hm
      exact ⟨C, by first | exact h | (simp only [hm]; exact h), hC⟩
    · rename_i hm
      split at h
      · rename_i s es hv
        split at h
        · rename_i e1 e2; exact ⟨C, by first | exact h | (simp only [hm, hv, e1, e2]; exact h), hC⟩
        · cases h
      · rename_i b ver lo0 len hv
        split at h
        · rename_i hlo
          split at h
          · rename_i _ _ e2
            simp only [R.ok.injEq] at h; obtain ⟨rfl, rfl⟩ := h
            refine ⟨_, by first | rfl | (simp only [hm, hv, hlo, e2]; done) | (simp only [hm, hv, hlo, e2]; rfl), ?_⟩
            exact ⟨hC.1, hC.2.1, al x _ hv hC.1 hC.2.2.1, hC.2.2.2⟩
          · cases h
        · rename_i q hlo
          split at h
          · rename_i _ _ _ _ e1 e2
            simp only [R.ok.injEq] at h; obtain ⟨rfl, rfl⟩ := h
            refine ⟨_, by first | rfl | (simp only [hm, hv, hlo, e1, e2]; done) | (simp only [hm, hv, hlo, e1, e2]; rfl), ?_⟩
            exact ⟨hC.1, hC.2.1, hC.2.2.1, al x _ hv hC.1 hC.2.2.2.1, hC.2.2.2.2.1, hC.2.2.2.2.2.1, wd x _ _ _ _ _ hv hC.1 hC.2.2.2.2.2.2.1, hC.2.2.2.2.2.2.2⟩
          · cases h
      · rename_i s hv
        split at h
        · rename_i e1 e2; exact ⟨C, by first | exact h | (simp only [hm, hv, e1, e2]; exact h), hC⟩
        · cases h
      · cases h
  case call c =>
    simp only [run1] at h ⊢
    split at h
    · unfold callR at h; split at h <;> cases h
    · rename_i b hcal
      try simp only [hcal]
      unfold builtinR at h ⊢
      split at h
      · rename_i T x hts hxs
        try simp only [hts, hxs]
        have hx : ∃ X, x = ev E X := by
          have : x ∈ c.args.toList.map (ev E) := by rw [hxs]; simp
          obtain ⟨X, _, hX⟩ := List.mem_map.1 this
          exact ⟨X, hX.symm⟩
        obtain ⟨X, rfl⟩ := hx
        unfold lenR at h ⊢
        split at h
        · rename_i hv; exact ⟨C, by first | exact h | (simp only [hv]; exact h), hC⟩
        · rename_i b ver lo len hv
          simp only [R.ok.injEq] at h; obtain ⟨rfl, rfl⟩ := h
          refine ⟨_, by first | rfl | (simp only [hv]; done) | (simp only [hv]; rfl), ?_⟩
          exact ⟨hC.1, al X _ hv hC.1 hC.2.1, hC.2.2⟩
        · rename_i hv; exact ⟨C, by first | exact h | (simp only [hv]; exact h), hC⟩
        · rename_i hv; exact ⟨C, by first | exact h | (simp only [hv]; exact h), hC⟩
        · rename_i hv; exact ⟨C, by first | exact h | (simp only [hv]; exact h), hC⟩
        · rename_i hv; exact ⟨C, by first | exact h | (simp only [hv]; exact h), hC⟩
        · cases h
      · split at h
        · unfold appendR at h
          split at h
          · cases h
          · split at h <;> first | cases h | (split at h <;> cases h)
        · cases h
      · rename_i hxs; exact ⟨C, by first | exact h | (simp only [hxs]; exact h), hC⟩
      · rename_i hxs; exact ⟨C, by first | exact h | (simp only [hxs]; exact h), hC⟩
      · cases h
    · cases h
  all_goals first
    | exact ⟨C, h, hC⟩
    | (simp only [run1] at h; unfold allocR at h; split at h <;> cases h)
    | (simp only [run1] at h; unfold boxR at h; cases h)
    | (simp only [run1] at h; unfold buildSliceR at h; split at h <;> first | cases h | (split at h <;> cases h))
    | (simp only [run1] at h; unfold storeR at h; split at h <;> first | cases h | (split at h <;> cases h))
    | (simp only [run1] at h; unfold makeSliceR at h; split at h <;> cases h)
    | cases h

theorem run1_call_heap {E : Env} {σ σ' : List OB} {γ : Bool} {op : Op} {C : Prop} {f : FuncId} {args : List PV} (h : run1 P γ E σ op = .call C f args) : run1 P γ E σ' op = .call C f args := by
  cases op
  case call c =>
    simp only [run1] at h ⊢
    split at h
    · exact h
    · unfold builtinR at h
      split at h
      · unfold lenR at h; split at h <;> cases h
      · split at h
        · unfold appendR at h
          split at h
          · cases h
          · split at h <;> first | cases h | (split at h <;> cases h)
        · cases h
      · unfold minmaxR at h; split at h <;> cases h
      · unfold minmaxR at h; split at h <;> cases h
      · cases h
    · cases h
  case load => simp only [run1] at h; unfold loadR at h; split at h <;> first | cases h | (split at h <;> cases h)
  case nilCheck => simp only [run1] at h; unfold nilCheckR at h; split at h <;> cases h
  case fieldAddr => simp only [run1] at h; unfold fieldAddrR at h; split at h <;> cases h
  case indexAddr => simp only [run1] at h; unfold indexAddrR at h; split at h <;> first | cases h | (split at h <;> cases h)
  case slice =>
    simp only [run1] at h
    unfold sliceR at h
    split at h
    · split at h
      · split at h
        · split at h <;> cases h
        · cases h
      · cases h
    · split at h <;> first | cases h | (split at h <;> first | cases h | (split at h <;> cases h))
  case alloc => simp only [run1] at h; unfold allocR at h; split at h <;> cases h
  case box => simp only [run1] at h; unfold boxR at h; cases h
  case buildSlice => simp only [run1] at h; unfold buildSliceR at h; split at h <;> first | cases h | (split at h <;> cases h)
  case store => simp only [run1] at h; unfold storeR at h; split at h <;> first | cases h | (split at h <;> cases h)
  case makeSlice => simp only [run1] at h; unfold makeSliceR at h; split at h <;> cases h
  all_goals exact h
end
end Pam

/- Regions whose order is open: the rule. -/
namespace Pam
open Go

section
variable {P : Program}

/-- a call by a plain contract, in any state -/
theorem call_step {G : Gh} {E : Env} {σ : List OB} {a : Act} {w : World} {C : Prop} {f : FuncId} {args : List PV} {res : PV} {K : Act → World → Prop} {Q : Exit → Act → World → Prop} (hsim : Sim G E σ a w) (o : Oper)
    (hrun : run1 P true E σ o.op = .call C f args) (hC : C) (hs : SpecF P f args res) (hargs : args.all PV.noOwn = true) (hres : ∀ n, res.ren (back n []) = res)
    (next : ∀ G' w' v, Gle G G' → OwnLe G.own G'.own → Inv G' σ w' → RepP G' res v → K (a.put o.dst v) w') : o.wp P a w K Q := by
  have ha : args.map (PV.ren (back σ.length [])) = args ∧ psUnder 0 args := by
    clear hs hrun
    induction args with
    | nil => exact ⟨rfl, trivial⟩
    | cons p l ih =>
      simp only [List.all_cons, Bool.and_eq_true] at hargs
      obtain ⟨h1, h2⟩ := PV.noOwn_ren hargs.1 (back σ.length [])
      obtain ⟨h3, h4⟩ := ih hargs.2
      exact ⟨by simp [h1, h3], h2 0, h4⟩
  obtain ⟨hf, hcall⟩ := hs
  obtain ⟨vs, e1, e2⟩ := run_callR hsim rfl o hrun hC hf
  have hi := hsim.inv
  have hnd : ([] : List Nat).Nodup := List.nodup_nil
  have hlt : ∀ b ∈ ([] : List Nat), b < σ.length := by simp
  have hci : Inv (calleeG G w []) [] w := callee_inv (σc := []) hi hnd hlt rfl (fun k ob h => by simp at h) trivial
  have hown := callee_own (w := w) hi hlt
  rw [← ha.1] at e2
  have hcv := hcall (calleeG G w []) w vs (by simp [calleeG]) hci (All2.unmapP (G := G) (G' := calleeG G w []) rfl _ hown ha.2 e2)
  unfold Oper.wp
  rw [e1]
  refine hcv.mono fun e w' hr => ?_
  obtain ⟨G', σ', p, v, h1, h2, h3, h4⟩ := hr
  rcases h4 with ⟨rfl, rfl, rfl⟩ | ⟨_, h4⟩
  · obtain ⟨G'', g1, g2, g3, g4⟩ := caller_back hi hnd hlt h1 h2 (by simp)
    have g5 := g4 _ v h3
    rw [hres] at g5
    exact next G'' w' v g1 g2 (by simpa [place] using g3) g5
  · exact h4.elim

/-- a call by a contract that tells one end -/
theorem call_stepG {G : Gh} {E : Env} {σ σ2 : List OB} {a : Act} {w : World} {C : Prop} {f : FuncId} {args : List PV} {res : PV} {K : Act → World → Prop} {Q : Exit → Act → World → Prop} (hsim : Sim G E σ a w) (o : Oper)
    (hrun : run1 P true E σ o.op = .call C f args) (hC : C) (hs : CallTo P σ f args res σ2)
    (next : ∀ G' w' v, Gle G G' → (∀ b o, G.H b = some o → G'.H b = some o) → OwnLe G.own G'.own → Inv G' σ2 w' → RepP G' res v → K (a.put o.dst v) w') : o.wp P a w K Q := by
  obtain ⟨args', σc, post, pp, ρ, ⟨hf, hcall⟩, hnd, hlt, hargs, hσ, hu, hub, hpost, hpp⟩ := hs
  obtain ⟨vs, e1, e2⟩ := run_callR hsim rfl o hrun hC hf
  have hi := hsim.inv
  have hlen : σc.length = ρ.length := by have := congrArg List.length hσ; simpa using this.symm
  have hσ' : ∀ (k : Nat) (ob : OB), σc[k]? = some ob → ∃ b, ρ[k]? = some b ∧ σ[b]? = some (ob.ren (back σ.length ρ)) := by
    intro k ob h
    have hk : k < ρ.length := by rw [← hlen]; exact (List.getElem?_eq_some_iff.1 h).1
    have := congrArg (fun l => l[k]?) hσ
    simp only [List.getElem?_map, h, Option.map_some, List.getElem?_eq_getElem hk, Option.some.injEq] at this
    exact ⟨ρ[k], List.getElem?_eq_getElem hk, this⟩
  have hci := callee_inv hi hnd hlt hlen hσ' hub
  have hown := callee_own (w := w) hi hlt
  rw [hargs] at e2
  have hcv := hcall (calleeG G w ρ) w vs (by simp [calleeG, hlen]) hci (All2.unmapP (G := G) (G' := calleeG G w ρ) rfl _ hown hu e2)
  unfold Oper.wp
  rw [e1]
  refine hcv.mono fun e w' hres => ?_
  obtain ⟨G', σ', p, v, h1, h2, h3, h4⟩ := hres
  have hl : ρ.length ≤ σ'.length := by
    rw [← h2.len]
    rcases Nat.eq_zero_or_pos ρ.length with e0 | e0
    · omega
    · have hlast : (calleeG G w ρ).own[ρ.length - 1]? = some ((calleeG G w ρ).own[ρ.length - 1]'(by simp [calleeG]; omega)) := List.getElem?_eq_getElem _
      obtain ⟨oo', q1, _⟩ := h1.own _ _ (by simp [calleeG]; omega) hlast
      have := (List.getElem?_eq_some_iff.1 q1).1
      omega
  obtain ⟨G'', g1, g2, g3, g4⟩ := caller_back hi hnd hlt h1 h2 hl
  rcases h4 with ⟨rfl, h4⟩ | ⟨rfl, h4⟩
  · obtain ⟨k1, k2⟩ := hpost p σ' h4 hl
    rw [k2] at g3
    have g5 := g4 p v h3
    rw [k1] at g5
    exact next G'' w' v g1 g1.le.H g2 g3 g5
  · exact (hpp _ _ h4).elim

theorem topRef_lt {G : Gh} {σ : List OB} {w : World} {p : PV} {v : Value} (hi : Inv G σ w) (h : RepP G p v) {b : Nat} (hb : topRef p = some b) : b < σ.length := by
  have : ∀ oo : Option OG, G.own[b]? = some oo → b < σ.length := fun oo h => by rw [← hi.len]; exact (List.getElem?_eq_some_iff.1 h).1
  unfold topRef at hb
  split at hb <;> simp only [Option.some.injEq, reduceCtorEq] at hb
  · subst hb; have h' : RepO G (.optr _ _) v := h; obtain ⟨_, oo, h1, _⟩ := h'; exact this oo h1
  · subst hb; have h' : RepO G (.osl _ _ _ _) v := h; obtain ⟨_, oo, h1, _⟩ := h'; exact this oo h1
  · subst hb; have h' : RepO G (.oel _ _ _ _) v := h; obtain ⟨_, oo, h1, _⟩ := h'; exact this oo h1

def restrict (E : Env) : List Tmp → Env
  | [] => ⟨E.n, E.na, .nil⟩
  | t :: r => (restrict E r).put t (E.get t)
theorem restrict_n (E : Env) : ∀ l, (restrict E l).n = E.n ∧ (restrict E l).na = E.na
  | [] => ⟨rfl, rfl⟩
  | _ :: r => restrict_n E r
theorem restrict_get (E : Env) : ∀ (l : List Tmp) (t : Tmp), (∀ x ∈ l, x < 512) → (t ∈ l → (restrict E l).get t = E.get t) ∧ (t ∉ l → ((restrict E l).get t).cond = false)
  | [], t, _ => ⟨fun h => by simp at h, fun _ => by simp [restrict, Env.get, Tr.get, Tr.ent]⟩
  | x :: l, t, h => by
    obtain ⟨h1, h2⟩ := restrict_get E l t fun y hy => h y (by simp [hy])
    simp only [restrict]
    rw [Env.get_put' _ x t _ (h x (by simp))]
    constructor
    · intro ht
      by_cases e : t = x
      · subst e; simp
      · rw [if_neg e]; exact h1 (by simpa [e] using ht)
    · intro ht
      simp only [List.mem_cons, not_or] at ht
      rw [if_neg ht.1]; exact h2 ht.2

theorem envAt_n : ∀ (l : List Oper) (tr : List TS) (E : Env) (k : Nat), (envAt E l tr k).n = E.n ∧ (envAt E l tr k).na = E.na
  | [], tr, E, k => by cases k <;> simp [envAt]
  | o :: l, [], E, k => by cases k <;> simp [envAt]
  | o :: l, ts :: tr, E, 0 => by simp [envAt]
  | o :: l, ts :: tr, E, k + 1 => by
    simp only [envAt]
    obtain ⟨h1, h2⟩ := envAt_n l tr (E.putD o.dst ts.e) k
    rw [h1, h2]
    cases o.dst <;> exact ⟨rfl, rfl⟩

structure Chk (ops : Array Oper) (l : List Oper) (masks : List Nat) (bar : List Bool) : Prop where
  mask : ∀ (i : Nat) (o : Oper), l[i]? = some o → masks.getD i 0 = orM masks (edgesOf o)
  lt : ∀ (i : Nat) (o : Oper), l[i]? = some o → ∀ j ∈ edgesOf o, j < i
  dst : ∀ (i : Nat) (o : Oper), l[i]? = some o → ∀ d, o.dst = some d → d < 512
  look : ∀ (i : Nat) (o : Oper), l[i]? = some o → ∀ t ∈ o.looksAt ops, t < 512
  loud : ∀ (i j : Nat) (x y : Oper), l[i]? = some x → l[j]? = some y → loudB x = true → loudB y = true → ordB masks i j = true
  hit : ∀ (i j : Nat) (x y : Oper), l[i]? = some x → l[j]? = some y → hits ops x y = true → ordB masks i j = true
  bar : ∀ (i j : Nat) (x y : Oper), l[i]? = some x → l[j]? = some y → bar.getD i false = true → ordB masks i j = true

theorem chk_ok {ops : Array Oper} {l : List Oper} {masks : List Nat} {bar : List Bool} (h : chk ops l masks bar = true) : Chk ops l masks bar := by
  unfold chk at h
  simp only [Bool.and_eq_true, List.all_eq_true] at h
  obtain ⟨h1, h2⟩ := h
  have m : ∀ (i : Nat) (o : Oper), l[i]? = some o → (o, i) ∈ l.zipIdx := fun i o ho => by
    rw [List.mem_zipIdx_iff_getElem?]; simpa using ho
  constructor
  · intro i o ho; have := h1 _ (m i o ho); simp only [Bool.and_eq_true, beq_iff_eq] at this; exact this.1.1.1
  · intro i o ho j hj
    have := h1 _ (m i o ho)
    simp only [Bool.and_eq_true, List.all_eq_true, decide_eq_true_eq] at this
    exact this.1.1.2 j hj
  · intro i o ho d hd
    have := h1 _ (m i o ho)
    simp only [Bool.and_eq_true, hd, decide_eq_true_eq] at this
    exact this.1.2
  · intro i o ho t ht
    have := h1 _ (m i o ho)
    simp only [Bool.and_eq_true, List.all_eq_true, decide_eq_true_eq] at this
    exact this.2 t ht
  · intro i j x y hx hy lx ly
    have := h2 _ (m i x hx) _ (m j y hy)
    simp only [Bool.and_eq_true, Bool.or_eq_true, Bool.not_eq_true', lx, ly] at this
    simpa using this.1.1
  · intro i j x y hx hy hh
    have := h2 _ (m i x hx) _ (m j y hy)
    simp only [Bool.and_eq_true, Bool.or_eq_true, Bool.not_eq_true', hh] at this
    simpa using this.1.2
  · intro i j x y hx hy hh
    have := h2 _ (m i x hx) _ (m j y hy)
    simp only [Bool.and_eq_true, Bool.or_eq_true, Bool.not_eq_true', hh] at this
    simpa using this.2

/-- what is done is closed under what must be done ahead -/
def Closed (l : List Oper) (d : Nat → Bool) : Prop := ∀ (i : Nat) (o : Oper), l[i]? = some o → d i = true → ∀ j ∈ edgesOf o, d j = true

theorem Chk.bit {ops : Array Oper} {l : List Oper} {masks : List Nat} {bar : List Bool} (c : Chk ops l masks bar) {d : Nat → Bool} (hd : Closed l d) : ∀ (i : Nat) (o : Oper), l[i]? = some o → ∀ j, (masks.getD i 0).testBit j = true → j < i ∧ (d i = true → d j = true) := by
  intro i
  induction i using Nat.strongRecOn with
  | _ i ih =>
    intro o ho j hj
    rw [c.mask i o ho] at hj
    obtain ⟨k, hk, h⟩ := orM_bit masks j _ hj
    have hlt := c.lt i o ho k hk
    have hkl : k < l.length := by have := (List.getElem?_eq_some_iff.1 ho).1; omega
    rcases h with rfl | h
    · exact ⟨hlt, fun hi => hd i o ho hi k hk⟩
    · obtain ⟨h1, h2⟩ := ih k hlt l[k] (List.getElem?_eq_getElem hkl) j h
      exact ⟨by omega, fun hi => h2 (hd i o ho hi k hk)⟩

/-- of what is ordered with the next operation, what is done is what stands ahead of it -/
theorem Chk.done {ops : Array Oper} {l : List Oper} {masks : List Nat} {bar : List Bool} (c : Chk ops l masks bar) {d : Nat → Bool} (hd : Closed l d) {i : Nat} {o : Oper} (ho : l[i]? = some o) (hi : d i = false)
    (hr : ∀ j ∈ edgesOf o, d j = true) {j : Nat} {y : Oper} (hy : l[j]? = some y) (hord : ordB masks i j = true ∨ ordB masks j i = true) : d j = decide (j < i) := by
  by_cases e : j = i
  · subst e; simp [hi]
  · have hord' : (masks.getD i 0).testBit j = true ∨ (masks.getD j 0).testBit i = true := by
      rcases hord with h | h <;> simp only [ordB, Bool.or_eq_true, beq_iff_eq] at h
      · rcases h with (h | h) | h
        · exact (e h.symm).elim
        · exact .inl h
        · exact .inr h
      · rcases h with (h | h) | h
        · exact (e h).elim
        · exact .inr h
        · exact .inl h
    rcases hord' with h | h
    · have hlt := (c.bit hd i o ho j h).1
      rw [c.mask i o ho] at h
      obtain ⟨k, hk, h⟩ := orM_bit masks j _ h
      have hkl : k < l.length := by have := (List.getElem?_eq_some_iff.1 ho).1; have := c.lt i o ho k hk; omega
      have hdj : d j = true := by
        rcases h with rfl | h
        · exact hr k hk
        · exact (c.bit hd k l[k] (List.getElem?_eq_getElem hkl) j h).2 (hr k hk)
      rw [hdj]; simp [hlt]
    · obtain ⟨h1, h2⟩ := c.bit hd j y hy i h
      have hdj : d j = false := by
        cases hh : d j with
        | false => rfl
        | true => rw [h2 hh] at hi; cases hi
      rw [hdj]; simp; omega

def StJ (l : List Oper) (tr : List TS) (E : Env) (σ : List OB) (G0 : Gh) (listed : Array Bool) (a : Act) (w : World) : Prop :=
  listed.size = l.length ∧ Closed l (fun i => listed.getD i false) ∧
  ∃ G p, Gle G0 G ∧ p ≤ l.length ∧ (∀ (j : Nat) (o : Oper), l[j]? = some o → loudB o = true → listed.getD j false = decide (j < p)) ∧
    Inv G (heapAt σ tr p) w ∧ a.defers = [] ∧ a.tmps.size = E.n ∧ G.na = E.na ∧
    ∀ t, t < 512 → (slotD t l tr (fun i => listed.getD i false) (E.get t)).cond = true → RepP G (slotD t l tr (fun i => listed.getD i false) (E.get t)).v (a.tmps.getD t undef)

theorem heap_quiet {ops : Array Oper} {l : List Oper} {bs : List Bool} {E : Env} {σ : List OB} {tr : List TS} (ht : Trace P ops l bs E σ tr) {j : Nat} {o : Oper} (ho : l[j]? = some o) (hq : loudB o = false) : heapAt σ tr (j + 1) = heapAt σ tr j := by
  obtain ⟨_, h⟩ := ht.at
  obtain ⟨ts, _, h2, h3⟩ := h j o ho
  rw [h3]
  obtain ⟨q1, q2⟩ := quiet_loud (P := P) (γ := ts.γ) (E := envAt E l tr j) (σ := heapAt σ tr j) hq
  rcases h2.2.2 with ⟨_, _, _, _, _, h⟩ | ⟨_, C, v, h, _⟩ | ⟨C, f, args, r, h, _⟩ | ⟨_, _, h⟩ | ⟨_, C, f, args, p, h, _⟩
  · exact h
  · exact (q1 _ _ _ h).elim
  · exact (q2 _ _ _ h).elim
  · exact h
  · exact (q2 _ _ _ h).elim

theorem heap_same {ops : Array Oper} {l : List Oper} {bs : List Bool} {E : Env} {σ : List OB} {tr : List TS} (ht : Trace P ops l bs E σ tr) {p q : Nat} (hpq : p ≤ q) (hq : q ≤ l.length)
    (h : ∀ (j : Nat) (o : Oper), l[j]? = some o → p ≤ j → j < q → loudB o = false) : heapAt σ tr q = heapAt σ tr p := by
  induction q with
  | zero => have : p = 0 := by omega
            subst this; rfl
  | succ q ih =>
    by_cases e : p = q + 1
    · subst e; rfl
    · have hl : q < l.length := by omega
      rw [heap_quiet ht (List.getElem?_eq_getElem hl) (h q _ (List.getElem?_eq_getElem hl) (by omega) (by omega))]
      exact ih (by omega) (by omega) fun j o ho h1 h2 => h j o ho h1 (by omega)

theorem step_ext {ops : Array Oper} {l : List Oper} {bs : List Bool} {E : Env} {σ : List OB} {tr : List TS} (ht : Trace P ops l bs E σ tr) {j : Nat} {o : Oper} (ho : l[j]? = some o) (hb : bs.getD j false = false) : Ext (heapAt σ tr j) (heapAt σ tr (j + 1)) := by
  obtain ⟨_, h⟩ := ht.at
  obtain ⟨ts, _, h2, h3⟩ := h j o ho
  rw [h3]
  rcases h2.2.2 with ⟨_, _, _, _, _, h⟩ | ⟨_, C, v, h, _, _, h'⟩ | ⟨C, f, args, r, h, _, _, _, _, h'⟩ | ⟨_, _, h'⟩ | ⟨_, C, f, args, p, h, _, _, _, h'⟩
  · rw [h]; exact ⟨[], by simp⟩
  · rcases h' with h' | h'
    · rw [hb] at h'; cases h'
    · exact h'
  · rw [h']; exact ⟨[], by simp⟩
  · rw [h']; exact ⟨[], by simp⟩
  · rcases h' with h' | h'
    · rw [hb] at h'; cases h'
    · exact h'

theorem setD (listed : Array Bool) (i j : Nat) (hi : i < listed.size) : (listed.setIfInBounds i true).getD j false = if j = i then true else listed.getD j false := by
  simp only [Array.getD_eq_getD_getElem?, Array.getElem?_setIfInBounds]
  by_cases e : i = j
  · subst e; simp [hi]
  · simp [e, Ne.symm e]

theorem StJ.step {l : List Oper} {bs : List Bool} {masks : List Nat} {E : Env} {σ : List OB} {tr : List TS} (c : Chk l.toArray l masks bs) (ht : Trace P l.toArray l bs E σ tr) (G0 : Gh) {Q : Exit → Act → World → Prop} (listed : Array Bool) (a : Act) (w : World) (i : Nat)
    (hJ : StJ l tr E σ G0 listed a w) (hready : i ∈ Region.ready .any l.toArray listed) : wpOp P l.toArray Q i (StJ l tr E σ G0 (listed.setIfInBounds i true)) a w := by
  obtain ⟨hsz, hcl, G, p, hG, hp, hloud, hinv, hdef, htm, hna, hslot⟩ := hJ
  obtain ⟨hun, o, ho', hdeps⟩ := mem_ready.1 hready
  have ho : l[i]? = some o := by simpa using ho'
  have hil : i < l.length := (List.getElem?_eq_some_iff.1 ho).1
  have hi0 : listed.getD i false = false := by
    rw [Array.getD_eq_getD_getElem?] at hun ⊢
    rw [Array.getElem?_eq_getElem (by omega)] at hun ⊢
    simpa using hun
  have hr : ∀ j ∈ edgesOf o, listed.getD j false = true := by
    intro j hj
    simp only [edgesOf, List.mem_map, List.mem_filter] at hj
    obtain ⟨e, ⟨h1, h2⟩, rfl⟩ := hj
    exact hdeps e (by simpa using h1) h2
  have hdone := fun {j : Nat} {y : Oper} (hy : l[j]? = some y) (hord : ordB masks i j = true ∨ ordB masks j i = true) => c.done hcl ho hi0 hr hy hord
  obtain ⟨htl, hat⟩ := ht.at
  obtain ⟨ts, hts, ⟨hguard, hdst, hstep⟩, hnext⟩ := hat i o ho
  have hcl' : Closed l (fun k => (listed.setIfInBounds i true).getD k false) := by
    intro k ok hk hd j hj
    simp only at hd ⊢
    rw [setD _ _ _ (by omega)] at hd ⊢
    by_cases e : k = i
    · subst e; rw [ho] at hk; simp only [Option.some.injEq] at hk; subst hk
      by_cases e' : j = k
      · rw [if_pos e']
      · rw [if_neg e']; exact hr j hj
    · rw [if_neg e] at hd
      by_cases e' : j = i
      · rw [if_pos e']
      · rw [if_neg e']; exact hcl k ok hk hd j hj
  have hsz' : (listed.setIfInBounds i true).size = l.length := by simpa using hsz
  -- the state in which the operation runs
  have hEn := envAt_n l tr E i
  have hlook := c.look i o ho
  have hreads : ∀ t ∈ o.looksAt l.toArray, (envAt E l tr i).get t = slotD t l tr (fun j => listed.getD j false) (E.get t) := by
    intro t htm'
    rw [envAt_get t l tr E i (fun j o x hj hd => c.dst j o hj x hd) htl]
    apply slotD_congr
    intro j y hy hd
    refine (hdone hy (.inr ?_)).symm
    refine c.hit j i y o hy ho ?_
    simp only [hits, hd, Bool.or_eq_true]
    left
    simpa using htm'
  have hres := restrict_get (envAt E l tr i) (o.looksAt l.toArray)
  have hgetr : ∀ t ∈ o.looksAt l.toArray, (restrict (envAt E l tr i) (o.looksAt l.toArray)).get t = (envAt E l tr i).get t := fun t h => (hres t hlook).1 h
  have hsim : Sim G (restrict (envAt E l tr i) (o.looksAt l.toArray)) (heapAt σ tr p) a w := by
    refine ⟨hinv, hdef, by rw [(restrict_n _ _).1, hEn.1]; exact htm, by rw [(restrict_n _ _).2, hEn.2]; exact hna, fun t hc => ?_⟩
    by_cases hmem : t ∈ o.looksAt l.toArray
    · rw [hgetr t hmem, hreads t hmem] at hc ⊢
      exact hslot t (hlook t hmem) hc
    · rw [(hres t hlook).2 hmem] at hc; cases hc
  have hops : ∀ x ∈ o.op.operands, ev (restrict (envAt E l tr i) (o.looksAt l.toArray)) x = ev (envAt E l tr i) x := by
    intro x hx
    refine ev_congr (ts := o.looksAt l.toArray) (fun t h => hgetr t h) x fun t e => ?_
    subst e
    simp only [Oper.looksAt, List.mem_append, List.mem_filterMap]
    left
    exact ⟨.tmp t, by simpa using hx, rfl⟩
  have hguard' : guardOf l.toArray (restrict (envAt E l tr i) (o.looksAt l.toArray)) o.guard = some ts.γ := by
    rw [guardOf_congr o hgetr]; exact hguard
  have hwant := guard_ok (P := P) hsim hguard'
  have hdlt : ∀ d, o.dst = some d → d < a.tmps.size := by
    intro d hd
    rw [htm]
    rw [hd] at hdst
    have h' : d < (envAt E l tr i).n := hdst
    rwa [hEn.1] at h'
  -- the slots behind it
  have hslot' : ∀ (G' : Gh) (val : Value), (∀ q v, RepP G q v → RepP G' q v) → (ts.e.cond = true → RepP G' ts.e.v val) → ∀ t, t < 512 →
      (slotD t l tr (fun k => (listed.setIfInBounds i true).getD k false) (E.get t)).cond = true →
      RepP G' (slotD t l tr (fun k => (listed.setIfInBounds i true).getD k false) (E.get t)).v ((a.put o.dst val).tmps.getD t undef) := by
    intro G' val hmono hval t ht512 hc
    have hfun : (fun k => (listed.setIfInBounds i true).getD k false) = (fun k => if k = i then true else listed.getD k false) := by
      funext k; exact setD _ _ _ (by omega)
    rw [hfun] at hc ⊢
    by_cases hd : o.dst = some t
    · rw [slotD_set t l tr _ _ i o ts ho hts hd (fun j y hy hdy hij => by
          have := hdone hy (.inr (c.hit j i y o hy ho (by simp [hits, hdy, hd])))
          rw [this]; simp; omega)] at hc ⊢
      have hlt := hdlt t hd
      have : (a.put o.dst val).tmps.getD t undef = val := by rw [hd]; simp [Act.put, Array.getD, hlt]
      rw [this]; exact hval hc
    · rw [slotD_other t l tr _ _ i o ho hd] at hc ⊢
      have : (a.put o.dst val).tmps.getD t undef = a.tmps.getD t undef := by
        cases hod : o.dst with
        | none => rfl
        | some d =>
          have hne : d ≠ t := fun e => hd (by rw [hod, e])
          simp only [Act.put, Array.getD_eq_getD_getElem?]
          rw [Array.getElem?_setIfInBounds_ne hne]
      rw [this]
      exact hmono _ _ (hslot t ht512 hc)
  have hput : ∀ val, (a.put o.dst val).defers = [] ∧ (a.put o.dst val).tmps.size = E.n := by
    intro val; cases o.dst <;> simp [Act.put, hdef, htm]
  -- where the heap is as it was ahead of it in the text
  have hheap : loudB o = true → heapAt σ tr p = heapAt σ tr i := by
    intro hl
    have key : ∀ (j : Nat) (y : Oper), l[j]? = some y → loudB y = true → (j < p ↔ j < i) := by
      intro j y hy hly
      have h1 := hloud j y hy hly
      have h2 := hdone hy (.inl (c.loud i j o y ho hy hl hly))
      rw [h2] at h1
      simpa using h1.symm
    rcases Nat.le_total p i with h | h
    · exact (heap_same ht h (by omega) fun j y hy h1 h2 => by
        cases hly : loudB y with
        | false => rfl
        | true => have := (key j y hy hly).2 h2; omega).symm
    · exact heap_same ht h hp fun j y hy h1 h2 => by
        cases hly : loudB y with
        | false => rfl
        | true => have := (key j y hy hly).1 h2; omega
  have hloud' : loudB o = true → ∀ (j : Nat) (y : Oper), l[j]? = some y → loudB y = true → (listed.setIfInBounds i true).getD j false = decide (j < i + 1) := by
    intro hl j y hy hly
    rw [setD _ _ _ (by omega)]
    by_cases e : j = i
    · subst e; simp
    · rw [if_neg e, hdone hy (.inl (c.loud i j o y ho hy hl hly))]
      simp; omega
  have hquiet' : loudB o = false → ∀ (j : Nat) (y : Oper), l[j]? = some y → loudB y = true → (listed.setIfInBounds i true).getD j false = decide (j < p) := by
    intro hl j y hy hly
    rw [setD _ _ _ (by omega)]
    by_cases e : j = i
    · subst e; rw [ho] at hy; simp only [Option.some.injEq] at hy; subst hy; rw [hl] at hly; cases hly
    · rw [if_neg e]; exact hloud j y hy hly
  -- a step that leaves the own heap
  have stay : ∀ (G' : Gh) (w' : World) (val : Value), Gle G G' → OwnLe G.own G'.own → Inv G' (heapAt σ tr p) w' → ts.σ = heapAt σ tr i → (ts.e.cond = true → RepP G' ts.e.v val) → StJ l tr E σ G0 (listed.setIfInBounds i true) (a.put o.dst val) w' := by
    intro G' w' val h1 h2 h3 h4 h5
    refine ⟨hsz', hcl', ?_⟩
    have hm : ∀ q v, RepP G q v → RepP G' q v := fun q v h => RepP.mono h1.le.H h2 h
    cases hl : loudB o with
    | true =>
      refine ⟨G', i + 1, hG.trans h1, by omega, hloud' hl, ?_, (hput val).1, (hput val).2, h1.le.na.trans hna, hslot' G' val hm h5⟩
      rw [hnext, h4, ← hheap hl]; exact h3
    | false => exact ⟨G', p, hG.trans h1, hp, hquiet' hl, h3, (hput val).1, (hput val).2, h1.le.na.trans hna, hslot' G' val hm h5⟩
  unfold wpOp
  simp only [ho']
  have skip : ts.γ = false → (ts.e.cond = true → RepP G ts.e.v undef) → ts.σ = heapAt σ tr i → (if Region.wanted o (yielded l.toArray a.tmps) = true then o.wp P a w (StJ l tr E σ G0 (listed.setIfInBounds i true)) Q ∨ (o.asks P a w ∧ LetsOut Q) else StJ l tr E σ G0 (listed.setIfInBounds i true) (a.put o.dst undef) w) := by
    intro hγ hc hσ
    rw [if_neg (by rw [hwant, hγ]; simp)]
    exact stay G w undef (Gle.refl G) (OwnLe.refl _) hinv hσ hc
  rcases hstep with ⟨C, v, hrun, hC, he, hσ⟩ | ⟨hγ, C, v, hrun, hC, he, _⟩ | ⟨C, f, args, r, hrun, hC, hargs, hres', he, hσ⟩ | ⟨hγ, he, hσ⟩ | ⟨hγ, C, f, args, r, hrun, hC, hto, he, _⟩
  · cases hγ : ts.γ with
    | false => exact skip hγ (by rw [he, hγ]; intro h; cases h) hσ
    | true =>
      rw [if_pos (by rw [hwant, hγ])]
      left
      rw [hγ] at hrun
      have hrun1 := (run1_congr (P := P) (γ := true) (σ := heapAt σ tr i) o.op hops).trans hrun
      have hext : Ext (heapAt σ tr p) (heapAt σ tr i) ∨ Ext (heapAt σ tr i) (heapAt σ tr p) := by
        have notbar : ∀ (j : Nat) (y : Oper), l[j]? = some y → loudB y = true → listed.getD j false ≠ decide (j < i) → bs.getD j false = false := by
          intro j y hy hly hne
          cases hb : bs.getD j false with
          | false => rfl
          | true => exact (hne (hdone hy (.inr (c.bar j i y o hy ho hb)))).elim
        have one : ∀ (j : Nat), j < l.length → (∀ y, l[j]? = some y → loudB y = true → listed.getD j false ≠ decide (j < i)) → Ext (heapAt σ tr j) (heapAt σ tr (j + 1)) := by
          intro j hj hne
          have hy := List.getElem?_eq_getElem hj
          cases hly : loudB l[j] with
          | false => rw [heap_quiet ht hy hly]; exact ⟨[], by simp⟩
          | true => exact step_ext ht hy (notbar j _ hy hly (hne _ hy hly))
        rcases Nat.le_total p i with h | h
        · left
          refine heapAt_ext l htl p i h (by omega) fun j h1 h2 => one j (by omega) fun y hy hly => ?_
          rw [hloud j y hy hly]; simp; omega
        · right
          refine heapAt_ext l htl i p h hp fun j h1 h2 => one j (by omega) fun y hy hly => ?_
          rw [hloud j y hy hly]; simp; omega
      obtain ⟨C', hrun2, hC'⟩ := run1_heap (σ' := heapAt σ tr p) hrun1 hC (fun x hc b ob htop hb => by
        rcases hext with ⟨ρ, h⟩ | ⟨ρ, h⟩
        · have hlt := topRef_lt hinv (ev_rep hsim x hc) htop
          rw [h, List.getElem?_append_left hlt] at hb; exact hb
        · rw [h, List.getElem?_append_left (List.getElem?_eq_some_iff.1 hb).1]; exact hb)
      obtain ⟨val, e1, e2⟩ := run1_ok hsim rfl o hrun2 hC'
      unfold Oper.wp
      rw [e1]
      exact stay G w val (Gle.refl G) (OwnLe.refl _) hinv hσ fun _ => by rw [he]; exact e2
  · rw [if_pos (by rw [hwant, hγ])]
    left
    rw [hγ] at hrun
    have hl : loudB o = true := by
      cases hl : loudB o with
      | true => rfl
      | false => exact ((quiet_loud hl).1 _ _ _ hrun).elim
    have hrun1 := (run1_congr (P := P) (γ := true) (σ := heapAt σ tr i) o.op hops).trans hrun
    rw [← hheap hl] at hrun1
    obtain ⟨nx, val, w', G', e1, e2, e3, e4, e5, e6⟩ := run1_upd hsim rfl o hrun1 hC
    have hfin : StJ l tr E σ G0 (listed.setIfInBounds i true) (a.put o.dst val) w' :=
      ⟨hsz', hcl', G', i + 1, hG.trans (Gle.mk' e3 e4), by omega, hloud' hl, by rw [hnext]; exact e5, (hput val).1, (hput val).2, e3.na.trans hna,
        hslot' G' val (fun q v h => RepP.mono e3.H e4 h) fun _ => by rw [he]; exact e6⟩
    unfold Oper.wp
    rw [e1]
    rcases e2 with rfl | ⟨rfl, rfl⟩
    · exact hfin
    · exact hfin
  · cases hγ : ts.γ with
    | false => exact skip hγ (by rw [he, hγ]; intro h; cases h) hσ
    | true =>
      rw [if_pos (by rw [hwant, hγ])]
      left
      rw [hγ] at hrun
      obtain ⟨hC1, hspec⟩ := hC hγ
      have hrun1 := (run1_congr (P := P) (γ := true) (σ := heapAt σ tr i) o.op hops).trans hrun
      have hrun2 := run1_call_heap (σ' := heapAt σ tr p) hrun1
      exact call_step hsim o hrun2 hC1 hspec hargs hres' fun G' w' v h1 h2 h3 h4 => stay G' w' v h1 h2 h3 hσ fun _ => by rw [he]; exact h4
  · exact skip hγ (by rw [he]; exact fun _ => ⟨[], rfl, trivial⟩) hσ
  · rw [if_pos (by rw [hwant, hγ])]
    left
    rw [hγ] at hrun
    have hl : loudB o = true := by
      cases hl : loudB o with
      | true => rfl
      | false => exact ((quiet_loud hl).2 _ _ _ hrun).elim
    have hrun1 := (run1_congr (P := P) (γ := true) (σ := heapAt σ tr i) o.op hops).trans hrun
    rw [← hheap hl] at hrun1 hto
    exact call_stepG hsim o hrun1 hC hto fun G' w' v h1 h2 h3 h4 h5 =>
      ⟨hsz', hcl', G', i + 1, hG.trans h1, by omega, hloud' hl, by rw [hnext]; exact h4, (hput v).1, (hput v).2, h1.le.na.trans hna,
        hslot' G' v (fun q v h => RepP.mono h2 h3 h) fun _ => by rw [he]; exact h5⟩
end
end Pam

/- Regions whose order is open: the rule for the walk. -/
namespace Pam
open Go

section
variable {P : Program}

theorem count_set : ∀ (l : List Bool) (i : Nat), l[i]? = some false → (l.set i true).count false + 1 = l.count false
  | [], i, h => by simp at h
  | b :: l, 0, h => by
    simp only [List.getElem?_cons_zero, Option.some.injEq] at h
    subst h
    simp
  | b :: l, i + 1, h => by
    have := count_set l i (by simpa using h)
    simp only [List.set_cons_succ, List.count_cons]
    omega

theorem ready_nil {l : List Oper} {masks : List Nat} {bs : List Bool} (c : Chk l.toArray l masks bs) {listed : Array Bool} (hs : listed.size = l.length) (h : Region.ready .any l.toArray listed = []) : ∀ i, i < l.length → listed.getD i false = true := by
  intro i
  induction i using Nat.strongRecOn with
  | _ i ih =>
    intro hi
    cases hd : listed.getD i false with
    | true => rfl
    | false =>
      exfalso
      have ho := List.getElem?_eq_getElem hi
      have : i ∈ Region.ready .any l.toArray listed := by
        refine mem_ready.2 ⟨?_, l[i], by simp, fun e he hb => ?_⟩
        · rw [Array.getD_eq_getD_getElem?] at hd ⊢
          rw [Array.getElem?_eq_getElem (by omega)] at hd ⊢
          simpa using hd
        · have hlt := c.lt i _ ho e.on (by simp only [edgesOf, List.mem_map, List.mem_filter]; exact ⟨e, ⟨by simpa using he, hb⟩, rfl⟩)
          exact ih e.on hlt (by omega)
      rw [h] at this; simp at this

theorem wpAny_of {l : List Oper} {masks : List Nat} {bs : List Bool} {E : Env} {σ : List OB} {tr : List TS} (c : Chk l.toArray l masks bs) (ht : Trace P l.toArray l bs E σ tr) (G0 : Gh) {Q : Exit → Act → World → Prop}
    (fin : ∀ G a w, Gle G0 G → Sim G (envAt E l tr l.length) (heapAt σ tr l.length) a w → Q .normal a w) :
    ∀ (fuel : Nat) (listed : Array Bool) (a : Act) (w : World), listed.toList.count false ≤ fuel → StJ l tr E σ G0 listed a w → wpAny P .any l.toArray Q fuel listed a w := by
  have done : ∀ (listed : Array Bool) (a : Act) (w : World), StJ l tr E σ G0 listed a w → Region.ready .any l.toArray listed = [] → Q .normal a w := by
    intro listed a w hJ hr
    obtain ⟨hsz, hcl, G, p, hG, hp, hloud, hinv, hdef, htm, hna, hslot⟩ := hJ
    have hall := ready_nil c hsz hr
    obtain ⟨htl, hat⟩ := ht.at
    have hE := envAt_n l tr E l.length
    have hheap : heapAt σ tr l.length = heapAt σ tr p := heap_same ht hp (Nat.le_refl _) fun j y hy h1 h2 => by
      cases hly : loudB y with
      | false => rfl
      | true =>
        have := hloud j y hy hly
        rw [hall j h2] at this
        have : j < p := by simpa using this.symm
        omega
    refine fin G a w hG ⟨by rw [hheap]; exact hinv, hdef, by rw [hE.1]; exact htm, by rw [hE.2]; exact hna, fun t hc => ?_⟩
    by_cases h512 : t < 512
    · have hg : (envAt E l tr l.length).get t = slotD t l tr (fun i => listed.getD i false) (E.get t) := by
        rw [envAt_get t l tr E l.length (fun j o x hj hd => c.dst j o hj x hd) htl]
        apply slotD_congr
        intro j y hy _
        have hlt := (List.getElem?_eq_some_iff.1 hy).1
        simp [hlt, hall j hlt]
      rw [hg] at hc ⊢
      exact hslot t h512 hc
    · rw [Env.get_big _ t (by omega)] at hc; cases hc
  intro fuel
  induction fuel with
  | zero =>
    intro listed a w hf hJ
    have hr : Region.ready .any l.toArray listed = [] := by
      rw [List.eq_nil_iff_forall_not_mem]
      intro i hi
      obtain ⟨h1, o, ho, _⟩ := mem_ready.1 hi
      have hlt : i < listed.size := by rw [hJ.1]; have := (Array.getElem?_eq_some_iff.1 ho).1; simpa using this
      have : listed.toList[i]? = some false := by
        rw [Array.getD_eq_getD_getElem?, Array.getElem?_eq_getElem hlt] at h1
        rw [Array.getElem?_toList, Array.getElem?_eq_getElem hlt]
        simpa using h1
      have hpos := List.count_pos_iff.2 (List.mem_of_getElem? this)
      omega
    exact ⟨hr, done listed a w hJ hr⟩
  | succ fuel ih =>
    intro listed a w hf hJ
    refine ⟨fun hr => done listed a w hJ hr, fun i hi => ?_⟩
    have hstep := StJ.step (Q := Q) c ht G0 listed a w i hJ hi
    refine wpOp_mono (fun a' w' hJ' => ih _ a' w' ?_ hJ') hstep
    obtain ⟨h1, o, ho, _⟩ := mem_ready.1 hi
    have hlt : i < listed.size := by rw [hJ.1]; have := (Array.getElem?_eq_some_iff.1 ho).1; simpa using this
    have : listed.toList[i]? = some false := by
      rw [Array.getD_eq_getD_getElem?, Array.getElem?_eq_getElem hlt] at h1
      rw [Array.getElem?_toList, Array.getElem?_eq_getElem hlt]
      simpa using h1
    have hc := count_set _ _ this
    simp only [Array.toList_setIfInBounds]
    omega

/-- the text's order, as a statement -/
def TR (P : Program) (ops : Array Oper) (l : List Oper) (bs : List Bool) (E : Env) (σ : List OB) (k : Env → List OB → Prop) : Prop :=
  ∃ tr, Trace P ops l bs E σ tr ∧ k (envAt E l tr l.length) (heapAt σ tr l.length)

def extB : List OB → List OB → Prop
  | [], _ => True
  | a :: as, b :: bs => a = b ∧ extB as bs
  | _ :: _, [] => False

theorem extB_ok : ∀ {σ σ' : List OB}, extB σ σ' → Ext σ σ'
  | [], σ', _ => ⟨σ', rfl⟩
  | a :: as, b :: bs, ⟨h1, h2⟩ => by obtain ⟨ρ, h⟩ := extB_ok h2; exact ⟨ρ, by rw [h1, h]; rfl⟩

/-- a plain call that the text's order meets -/
def AnyCall (P : Program) (ops : Array Oper) (γ : Bool) (C : Prop) (f : FuncId) (args : List PV) (o : Oper) (r : List Oper) (bs : List Bool) (E : Env) (σ : List OB) (k : Env → List OB → Prop) : Prop :=
  run1 P γ E σ o.op = .call C f args → guardOf ops E o.guard = some γ → TR P ops (o :: r) bs E σ k

def stepA (P : Program) (ops : Array Oper) (γ : Bool) (o : Oper) (r : List Oper) (bs : List Bool) (E : Env) (σ : List OB) (k : Env → List OB → Prop) (run : Env → List OB → Prop) : R → Prop
  | .ok C v => dstOk E o.dst ∧ C ∧ run (E.putD o.dst ⟨γ, v⟩) σ
  | .upd C v σ' => dstOk E o.dst ∧ γ = true ∧ C ∧ (bs.headD false = true ∨ extB σ σ') ∧ run (E.putD o.dst ⟨true, v⟩) σ'
  | .call C f args => AnyCall P ops γ C f args o r bs E σ k
  | .bad => False

/-- a region whose order is open, evaluated in the text's order -/
def anyOps (P : Program) (ops : Array Oper) : List Oper → List Bool → Env → List OB → (Env → List OB → Prop) → Prop
  | [], _, E, σ, k => k E σ
  | o :: r, bs, E, σ, k =>
    match guardOf ops E o.guard with
    | none => False
    | some false => dstOk E o.dst ∧ anyOps P ops r bs.tail (E.putD o.dst ⟨true, .t []⟩) σ k
    | some true => stepA P ops true o r bs E σ k (fun E' σ' => anyOps P ops r bs.tail E' σ' k) (run1 P true E σ o.op)

theorem TR.cons {ops : Array Oper} {o : Oper} {r : List Oper} {bs : List Bool} {E : Env} {σ : List OB} {k : Env → List OB → Prop} {ts : TS} (h : TStep P ops E σ o (bs.headD false) ts) (ht : TR P ops r bs.tail (E.putD o.dst ts.e) ts.σ k) : TR P ops (o :: r) bs E σ k := by
  obtain ⟨tr, h1, h2⟩ := ht
  refine ⟨ts :: tr, ⟨ts, tr, rfl, h, h1⟩, ?_⟩
  simpa [envAt, heapAt] using h2

theorem anyOps_ok {ops : Array Oper} : ∀ (l : List Oper) (bs : List Bool) (E : Env) (σ : List OB) (k : Env → List OB → Prop), anyOps P ops l bs E σ k → TR P ops l bs E σ k
  | [], bs, E, σ, k, h => ⟨[], rfl, by unfold anyOps at h; simpa [envAt, heapAt] using h⟩
  | o :: r, bs, E, σ, k, h => by
    unfold anyOps at h
    split at h
    · exact h.elim
    · rename_i hγ
      exact TR.cons (ts := ⟨false, ⟨true, .t []⟩, σ⟩) ⟨hγ, h.1, .inr (.inr (.inr (.inl ⟨rfl, rfl, rfl⟩)))⟩ (anyOps_ok r _ _ _ _ h.2)
    · rename_i hγ
      unfold stepA at h
      split at h
      · rename_i C v hrun
        obtain ⟨hd, hC, hr⟩ := h
        exact TR.cons (ts := ⟨true, ⟨true, v⟩, σ⟩) ⟨hγ, hd, .inl ⟨C, v, hrun, hC, rfl, rfl⟩⟩ (anyOps_ok r _ _ _ _ hr)
      · rename_i C v σ' hrun
        obtain ⟨hd, hg, hC, hb, hr⟩ := h
        exact TR.cons (ts := ⟨true, ⟨true, v⟩, σ'⟩) ⟨hγ, hd, .inr (.inl ⟨rfl, C, v, hrun, hC, rfl, hb.imp id extB_ok⟩)⟩ (anyOps_ok r _ _ _ _ hr)
      · rename_i C f args hrun
        exact h hrun hγ
      · exact h.elim

theorem AnyCall_pure {ops : Array Oper} {γ : Bool} {C : Prop} {f : FuncId} {args : List PV} {o : Oper} {r : List Oper} {bs : List Bool} {E : Env} {σ : List OB} {k : Env → List OB → Prop} {res : PV}
    (hs : γ = true → SpecF P f args res) (hd : dstOk E o.dst) (hC : γ = true → C) (hargs : args.all PV.noOwn = true) (hres : ∀ n, res.ren (back n []) = res)
    (next : anyOps P ops r bs.tail (E.putD o.dst ⟨γ, res⟩) σ k) : AnyCall P ops γ C f args o r bs E σ k := fun hrun hγ =>
  TR.cons (ts := ⟨γ, ⟨γ, res⟩, σ⟩) ⟨hγ, hd, .inr (.inr (.inl ⟨C, f, args, res, hrun, fun h => ⟨hC h, hs h⟩, hargs, hres, rfl, rfl⟩))⟩ (anyOps_ok r _ _ _ _ next)

theorem AnyCall_at {ops : Array Oper} {C : Prop} {f : FuncId} {args : List PV} {o : Oper} {r : List Oper} {bs : List Bool} {E : Env} {σ σ2 : List OB} {k : Env → List OB → Prop} {res : PV}
    (hs : CallTo P σ f args res σ2) (hd : dstOk E o.dst) (hC : C) (hb : bs.headD false = true ∨ extB σ σ2)
    (next : anyOps P ops r bs.tail (E.putD o.dst ⟨true, res⟩) σ2 k) : AnyCall P ops true C f args o r bs E σ k := fun hrun hγ =>
  TR.cons (ts := ⟨true, ⟨true, res⟩, σ2⟩) ⟨hγ, hd, .inr (.inr (.inr (.inr ⟨rfl, C, f, args, res, hrun, hC, hs, rfl, hb.imp id extB_ok⟩)))⟩ (anyOps_ok r _ _ _ _ next)

theorem Inv.drawn {G : Gh} {σ : List OB} {w : World} (h : Inv G σ w) : Inv G σ { w with drawn := w.drawn + 1 } :=
  ⟨h.hH, h.hF, h.HF, h.len, fun b ob hb => (h.own b ob hb).keep (fun _ _ h => h) (OwnLe.refl _) rfl (fun _ _ _ => rfl), h.inj, h.sep, h.os, h.tape, h.output, h.grow⟩

theorem W_anyT {id : Nat} {l : List Oper} {K : Kt} {E : Env} {σ : List OB} (hm : P.follows .mixedOrders = true) (masks : List Nat) (bs : List Bool) (hc : chk l.toArray l masks bs = true)
    (h : TR P l.toArray l bs E σ (K .normal)) : W P (.region id l.toArray true) K E σ := fun G a w hs => by
  obtain ⟨tr, ht, hk⟩ := h
  refine wp_region_any hm ?_
  refine wpAny_of (chk_ok hc) ht G (fun G' a' w' hG hs' => ⟨G', _, _, .normal, hG, hs', rfl, hk⟩) _ _ a _ ?_ ?_
  · simp
  · have hfalse : ∀ i, (Array.replicate l.length false).getD i false = false := by
      intro i
      rw [Array.getD_eq_getD_getElem?, Array.getElem?_replicate]
      split <;> rfl
    refine ⟨by simp, fun i o ho hd => by simp [hfalse] at hd, G, 0, Gle.refl G, by omega, fun j o ho hl => by simp [hfalse], ?_, hs.defers, hs.size, hs.na, fun t ht hc => ?_⟩
    · have : heapAt σ tr 0 = σ := by cases tr <;> rfl
      rw [this]; exact hs.inv.drawn
    · have : slotD t l tr (fun i => (Array.replicate l.length false).getD i false) (E.get t) = E.get t := slotD_none t l tr _ _ fun j o _ _ => hfalse j
      simp only [List.size_toArray] at hc ⊢
      rw [this] at hc ⊢
      exact hs.slot t hc

theorem W_any {id : Nat} {l : List Oper} {K : Kt} {E : Env} {σ : List OB} (hm : P.follows .mixedOrders = true) (masks : List Nat) (bs : List Bool) (hc : chk l.toArray l masks bs = true)
    (h : ∀ (k : Env → List OB → Prop), (∀ E σ, K .normal E σ → k E σ) → anyOps P l.toArray l bs E σ k) : W P (.region id l.toArray true) K E σ :=
  W_anyT hm masks bs hc (anyOps_ok l bs E σ _ (h (K .normal) fun _ _ h => h))
theorem W_anyseq {id : Nat} {l : List Oper} {y : Code} {K : Kt} {E : Env} {σ : List OB} (hm : P.follows .mixedOrders = true) (masks : List Nat) (bs : List Bool) (hc : chk l.toArray l masks bs = true)
    (h : ∀ (k : Env → List OB → Prop), (∀ E σ, W P y K E σ → k E σ) → anyOps P l.toArray l bs E σ k) : W P (.seq (.region id l.toArray true) y) K E σ := W_seq (W_any hm masks bs hc h)

end
end Pam

/- Rules of rewriting: how the pure machine is evaluated, a rule a case, in a few bundles. -/
namespace Pam
open Go

theorem need_tt (γ : Bool) (v : PV) : need γ ⟨true, v⟩ = True := by simp [need]
theorem need_same (γ : Bool) (v : PV) : need γ ⟨γ, v⟩ = True := by simp [need]
theorem need_eq (γ c : Bool) (v : PV) : need γ ⟨c, v⟩ = (γ = true → c = true) := rfl

section
variable (n na : Nat) (t x a0 a1 a2 a3 a4 a5 a6 a7 : Tr) (e : Ent) (i : Nat)
/-- slots -/
theorem s_env :
    ((∀ (n na : Nat) (t : Tr) (i : Nat), Env.get ⟨n, na, t⟩ i = (((t.get (i / 64)).get (i / 8 % 8)).get (i % 8)).ent) ∧
     (∀ (n na : Nat) (t : Tr) (i : Nat) (e : Ent), Env.put ⟨n, na, t⟩ i e = ⟨n, na, t.put (i / 64) ((t.get (i / 64)).put (i / 8 % 8) (((t.get (i / 64)).get (i / 8 % 8)).put (i % 8) (.leaf e)))⟩) ∧
     (∀ (E : Env) (i : Nat) (e : Ent), Env.putD E (some i) e = E.put i e) ∧ (∀ (E : Env) (e : Ent), Env.putD E none e = E) ∧
     (∀ (n na : Nat) (t : Tr) (d : Tmp), dstOk ⟨n, na, t⟩ (some d) = (d < n)) ∧ (∀ E : Env, dstOk E none = True)) ∧
    ((∀ i, Tr.get .nil i = .nil) ∧ (∀ e, Tr.ent (.leaf e) = e) ∧ Tr.ent .nil = ⟨false, .x⟩) :=
  ⟨⟨fun _ _ _ _ => rfl, fun _ _ _ _ _ => rfl, fun _ _ _ => rfl, fun _ _ => rfl, fun _ _ _ _ => rfl, fun _ => rfl⟩, fun _ => rfl, fun _ => rfl, rfl⟩
theorem s_get :
    ((∀ a0 a1 a2 a3 a4 a5 a6 a7, Tr.get (.node a0 a1 a2 a3 a4 a5 a6 a7) 0 = a0) ∧ (∀ a0 a1 a2 a3 a4 a5 a6 a7, Tr.get (.node a0 a1 a2 a3 a4 a5 a6 a7) 1 = a1) ∧
     (∀ a0 a1 a2 a3 a4 a5 a6 a7, Tr.get (.node a0 a1 a2 a3 a4 a5 a6 a7) 2 = a2) ∧ (∀ a0 a1 a2 a3 a4 a5 a6 a7, Tr.get (.node a0 a1 a2 a3 a4 a5 a6 a7) 3 = a3)) ∧
    ((∀ a0 a1 a2 a3 a4 a5 a6 a7, Tr.get (.node a0 a1 a2 a3 a4 a5 a6 a7) 4 = a4) ∧ (∀ a0 a1 a2 a3 a4 a5 a6 a7, Tr.get (.node a0 a1 a2 a3 a4 a5 a6 a7) 5 = a5) ∧
     (∀ a0 a1 a2 a3 a4 a5 a6 a7, Tr.get (.node a0 a1 a2 a3 a4 a5 a6 a7) 6 = a6) ∧ (∀ a0 a1 a2 a3 a4 a5 a6 a7, Tr.get (.node a0 a1 a2 a3 a4 a5 a6 a7) 7 = a7)) := by
  refine ⟨⟨?_, ?_, ?_, ?_⟩, ?_, ?_, ?_, ?_⟩ <;> (intros; rfl)
theorem s_put :
    (((∀ a0 a1 a2 a3 a4 a5 a6 a7 x, Tr.put (.node a0 a1 a2 a3 a4 a5 a6 a7) 0 x = .node x a1 a2 a3 a4 a5 a6 a7) ∧ (∀ a0 a1 a2 a3 a4 a5 a6 a7 x, Tr.put (.node a0 a1 a2 a3 a4 a5 a6 a7) 1 x = .node a0 x a2 a3 a4 a5 a6 a7) ∧
      (∀ a0 a1 a2 a3 a4 a5 a6 a7 x, Tr.put (.node a0 a1 a2 a3 a4 a5 a6 a7) 2 x = .node a0 a1 x a3 a4 a5 a6 a7) ∧ (∀ a0 a1 a2 a3 a4 a5 a6 a7 x, Tr.put (.node a0 a1 a2 a3 a4 a5 a6 a7) 3 x = .node a0 a1 a2 x a4 a5 a6 a7)) ∧
     ((∀ a0 a1 a2 a3 a4 a5 a6 a7 x, Tr.put (.node a0 a1 a2 a3 a4 a5 a6 a7) 4 x = .node a0 a1 a2 a3 x a5 a6 a7) ∧ (∀ a0 a1 a2 a3 a4 a5 a6 a7 x, Tr.put (.node a0 a1 a2 a3 a4 a5 a6 a7) 5 x = .node a0 a1 a2 a3 a4 x a6 a7) ∧
      (∀ a0 a1 a2 a3 a4 a5 a6 a7 x, Tr.put (.node a0 a1 a2 a3 a4 a5 a6 a7) 6 x = .node a0 a1 a2 a3 a4 a5 x a7) ∧ (∀ a0 a1 a2 a3 a4 a5 a6 a7 x, Tr.put (.node a0 a1 a2 a3 a4 a5 a6 a7) 7 x = .node a0 a1 a2 a3 a4 a5 a6 x))) ∧
    (((∀ x, Tr.put .nil 0 x = .node x .nil .nil .nil .nil .nil .nil .nil) ∧ (∀ x, Tr.put .nil 1 x = .node .nil x .nil .nil .nil .nil .nil .nil) ∧
      (∀ x, Tr.put .nil 2 x = .node .nil .nil x .nil .nil .nil .nil .nil) ∧ (∀ x, Tr.put .nil 3 x = .node .nil .nil .nil x .nil .nil .nil .nil)) ∧
     ((∀ x, Tr.put .nil 4 x = .node .nil .nil .nil .nil x .nil .nil .nil) ∧ (∀ x, Tr.put .nil 5 x = .node .nil .nil .nil .nil .nil x .nil .nil) ∧
      (∀ x, Tr.put .nil 6 x = .node .nil .nil .nil .nil .nil .nil x .nil) ∧ (∀ x, Tr.put .nil 7 x = .node .nil .nil .nil .nil .nil .nil .nil x))) ∧
    (((∀ e x, Tr.put (.leaf e) 0 x = .node x .nil .nil .nil .nil .nil .nil .nil))) := by
  refine ⟨⟨⟨?_, ?_, ?_, ?_⟩, ?_, ?_, ?_, ?_⟩, ⟨⟨?_, ?_, ?_, ?_⟩, ?_, ?_, ?_, ?_⟩, ?_⟩ <;> (intros; rfl)
end

/-- operands -/
theorem s_ev :
    ((∀ E t, ev E (.tmp t) = E.get t) ∧ (∀ E v, ev E (.const v) = cvOf v) ∧ (∀ E f, ev E (.func f) = ⟨true, .c (.fn f [])⟩)) ∧
    ((∀ k n, cvOf (.int k n) = ⟨true, .c (.int k n)⟩) ∧ (∀ b, cvOf (.bool b) = ⟨true, .c (.bool b)⟩) ∧ (∀ s, cvOf (.string s) = ⟨true, .c (.str s.data.toList)⟩) ∧
     (cvOf (.pointer none) = ⟨true, .c .nilp⟩) ∧ (cvOf (.slice none 0 0) = ⟨true, .c .nils⟩) ∧ (cvOf .nilFunc = ⟨true, .c .nilf⟩) ∧ (cvOf .nilIface = ⟨true, .c .nili⟩)) ∧
    ((∀ cs, cvOf (.agg cs) = (match cellsOfL cs.toList with | some l => ⟨true, .a l⟩ | none => ⟨false, .x⟩)) ∧ (cellsOfL [] = some []) ∧
     (∀ v r, cellsOfL (v :: r) = (match cellOf v, cellsOfL r with | some c, some cs => some (c :: cs) | _, _ => none)) ∧
     (∀ k n, cellOf (.int k n) = some (.int k n)) ∧ (∀ b, cellOf (.bool b) = some (.bool b)) ∧ (∀ s, cellOf (.string s) = some (.str s.data.toList)) ∧
     (cellOf (.pointer none) = some .nilp) ∧ (cellOf (.slice none 0 0) = some .nils) ∧ (cellOf .nilFunc = some .nilf) ∧ (cellOf .nilIface = some .nili)) := by
  refine ⟨⟨?_, ?_, ?_⟩, ⟨?_, ?_, ?_, ?_, ?_, ?_, ?_⟩, ?_, ?_, ?_, ?_, ?_, ?_, ?_, ?_, ?_, ?_⟩ <;> (intros; rfl)

/-- which operation -/
theorem s_run :
    ((∀ P γ E σ x, run1 P γ E σ (.move x) = .ok (need γ (ev E x)) (ev E x).v) ∧ (∀ P γ E σ x, run1 P γ E σ (.assign x) = .ok (need γ (ev E x)) (ev E x).v) ∧
     (∀ P γ E σ c a b, run1 P γ E σ (.pick c a b) = pickR γ (ev E c) (ev E a) (ev E b)) ∧ (∀ P γ E σ T, run1 P γ E σ (.alloc T) = allocR P σ T) ∧
     (∀ P γ E σ T x, run1 P γ E σ (.box T x) = boxR P σ T (ev E x)) ∧ (∀ P γ E σ T p, run1 P γ E σ (.load T p) = loadR P γ σ T (ev E p)) ∧
     (∀ P γ E σ T p x, run1 P γ E σ (.store T p x) = storeR P σ T (ev E p) (ev E x)) ∧ (∀ P γ E σ x, run1 P γ E σ (.nilCheck x) = nilCheckR γ σ (ev E x))) ∧
    ((∀ P γ E σ op T x y T', run1 P γ E σ (.binOp op T x y T') = binR P γ op T (ev E x) (ev E y)) ∧ (∀ P γ E σ op T x, run1 P γ E σ (.unOp op T x) = unR γ op (ev E x)) ∧
     (∀ P γ E σ s d x, run1 P γ E σ (.convert s d x) = convR P γ s d (ev E x)) ∧ (∀ P γ E σ T x i, run1 P γ E σ (.fieldAddr T x i) = fieldAddrR P γ σ T (ev E x) i) ∧
     (∀ P γ E σ T x i, run1 P γ E σ (.field T x i) = fieldR P γ T (ev E x) i) ∧ (∀ P γ E σ T x i, run1 P γ E σ (.indexAddr T x i) = indexAddrR P γ σ T (ev E x) (ev E i)) ∧
     (∀ P γ E σ T x i, run1 P γ E σ (.index T x i) = indexR P γ T (ev E x) (ev E i)) ∧ (∀ P γ E σ x i, run1 P γ E σ (.extract x i) = extractR γ (ev E x) i)) ∧
    ((∀ P γ E σ T x lo hi mx, run1 P γ E σ (.slice T x lo hi mx) = sliceR P γ σ T (ev E x) (lo.map (ev E)) (hi.map (ev E)) (mx.map (ev E))) ∧
     (∀ P γ E σ T x y, run1 P γ E σ (.makeSlice T x y) = makeSliceR P σ T (ev E x) (ev E y)) ∧
     (∀ P γ E σ T (l : List (Nat × Operand)), run1 P γ E σ (.build T l.toArray) = buildR P γ T (partE E l)) ∧
     (∀ P γ E σ T n (l : List (Nat × Operand)), run1 P γ E σ (.buildSlice T n l.toArray) = buildSliceR P σ T n (partE E l)) ∧
     (∀ P γ E σ fn (first caps : List Operand), run1 P γ E σ (.makeFunc fn first.toArray caps.toArray) = makeFuncR γ fn first (caps.map (ev E))) ∧
     (∀ P γ E σ f (args : List Operand) ts, run1 P γ E σ (.call ⟨.value f, args.toArray, ts⟩) = callR γ (ev E f) (args.map (ev E))) ∧
     (∀ P γ E σ b (args : List Operand) (ts : List TypeId), run1 P γ E σ (.call ⟨.builtin b, args.toArray, ts.toArray⟩) = builtinR P γ σ b ts (args.map (ev E)))) := by
  refine ⟨⟨?_, ?_, ?_, ?_, ?_, ?_, ?_, ?_⟩, ⟨?_, ?_, ?_, ?_, ?_, ?_, ?_, ?_⟩, ?_, ?_, ?_, ?_, ?_, ?_, ?_⟩ <;> (intros; rfl)

/-- reading and writing -/
theorem s_mem :
    ((∀ P γ σ T c b off, loadR P γ σ T ⟨c, .c (.optr b off)⟩ = (match σ[b]? with
        | some (.box cs) => .ok (need γ ⟨c, .c (.optr b off)⟩ ∧ knownT P T = true ∧ 0 < P.cellsOf T ∧ off + P.cellsOf T ≤ cs.length ∧ (aggT P T = true ∨ P.cellsOf T = 1)) (mkV P T ((cs.drop off).take (P.cellsOf T)))
        | _ => .bad)) ∧
     (∀ P γ σ T c s es i j, loadR P γ σ T ⟨c, .c (.tptr s es i j)⟩ = .ok (need γ ⟨c, .c (.tptr s es i j)⟩ ∧ knownT P T = true ∧ 0 < P.cellsOf T ∧ (γ = true → i < es.length) ∧ j + P.cellsOf T ≤ s ∧ (aggT P T = true ∨ P.cellsOf T = 1)) (mkV P T (((elt es i).drop j).take (P.cellsOf T)))) ∧
     (∀ P γ σ T c b ver i j, loadR P γ σ T ⟨c, .c (.oel b ver i j)⟩ = (match σ[b]? with
        | some (.arr s ver' _ es) => .ok (need γ ⟨c, .c (.oel b ver i j)⟩ ∧ ver = ver' ∧ knownT P T = true ∧ 0 < P.cellsOf T ∧ (γ = true → i < es.length) ∧ j + P.cellsOf T ≤ s ∧ (aggT P T = true ∨ P.cellsOf T = 1)) (mkV P T (((elt es i).drop j).take (P.cellsOf T)))
        | _ => .bad))) ∧
    ((∀ P σ T c b off x, storeR P σ T ⟨c, .c (.optr b off)⟩ x = (match σ[b]? with
        | some (.box cs) => .upd (c = true ∧ x.cond = true ∧ knownT P T = true ∧ 0 < P.cellsOf T ∧ x.v.cells.length = P.cellsOf T ∧ off + P.cellsOf T ≤ cs.length) .x (σ.set b (.box (putCells cs off x.v.cells)))
        | _ => .bad)) ∧
     (∀ P σ T c b ver i j x, storeR P σ T ⟨c, .c (.oel b ver i j)⟩ x = (match σ[b]? with
        | some (.arr s ver' T' es) => .upd (c = true ∧ x.cond = true ∧ ver = ver' ∧ knownT P T = true ∧ 0 < P.cellsOf T ∧ x.v.cells.length = P.cellsOf T ∧ (x.v.cells.all CV.flat) = true ∧ i < es.length ∧ j + P.cellsOf T ≤ s) .x
            (σ.set b (.arr s ver' T' (es.set i (putCells (elt es i) j x.v.cells))))
        | _ => .bad))) ∧
    ((∀ y, PV.cells (.c y) = [y]) ∧ (∀ ys, PV.cells (.a ys) = ys) ∧ (∀ P σ T x, boxR P σ T x = .upd (x.cond = true ∧ knownT P T = true ∧ 0 < x.v.cells.length) (.c (.optr σ.length 0)) (σ ++ [.box x.v.cells])) ∧
     (∀ P σ T, allocR P σ T = (match zeroC P T with | some z => .upd (0 < z.length) (.c (.optr σ.length 0)) (σ ++ [.box z]) | none => .bad))) ∧
    ((∀ (σ : List OB) b off, alive σ (.optr b off) = (match σ[b]? with | some (.box _) => True | _ => False)) ∧ (∀ (σ : List OB) b ver lo len, alive σ (.osl b ver lo len) = (match σ[b]? with | some (.arr _ ver' _ _) => ver = ver' | _ => False)) ∧
     (∀ (σ : List OB) b ver i j, alive σ (.oel b ver i j) = (match σ[b]? with | some (.arr _ ver' _ _) => ver = ver' | _ => False)) ∧ (∀ P T cs, mkV P T cs = (match aggT P T with | true => .a cs | false => .c (cs.headD .junk)))) := by
  refine ⟨⟨?_, ?_, ?_⟩, ⟨?_, ?_⟩, ⟨?_, ?_, ?_, ?_⟩, ?_, ?_, ?_, ?_⟩ <;> (intros; rfl)

/-- arithmetic -/
theorem s_int :
    ((∀ P γ T c c' k a k' b, binR P γ .add T ⟨c, .c (.int k a)⟩ ⟨c', .c (.int k' b)⟩ = if k = k' then .ok (need γ ⟨c, .c (.int k a)⟩ ∧ need γ ⟨c', .c (.int k' b)⟩ ∧ (γ = true → True)) (.c (.int k (k.wrap (a + b)))) else .bad) ∧
     (∀ P γ T c c' k a k' b, binR P γ .sub T ⟨c, .c (.int k a)⟩ ⟨c', .c (.int k' b)⟩ = if k = k' then .ok (need γ ⟨c, .c (.int k a)⟩ ∧ need γ ⟨c', .c (.int k' b)⟩ ∧ (γ = true → True)) (.c (.int k (k.wrap (a - b)))) else .bad) ∧
     (∀ P γ T c c' k a k' b, binR P γ .mul T ⟨c, .c (.int k a)⟩ ⟨c', .c (.int k' b)⟩ = if k = k' then .ok (need γ ⟨c, .c (.int k a)⟩ ∧ need γ ⟨c', .c (.int k' b)⟩ ∧ (γ = true → True)) (.c (.int k (k.wrap (a * b)))) else .bad) ∧
     (∀ P γ T c c' k a k' b, binR P γ .quo T ⟨c, .c (.int k a)⟩ ⟨c', .c (.int k' b)⟩ = if k = k' then .ok (need γ ⟨c, .c (.int k a)⟩ ∧ need γ ⟨c', .c (.int k' b)⟩ ∧ (γ = true → b ≠ 0)) (.c (.int k (k.wrap (a.tdiv b)))) else .bad) ∧
     (∀ P γ T c c' k a k' b, binR P γ .rem T ⟨c, .c (.int k a)⟩ ⟨c', .c (.int k' b)⟩ = if k = k' then .ok (need γ ⟨c, .c (.int k a)⟩ ∧ need γ ⟨c', .c (.int k' b)⟩ ∧ (γ = true → b ≠ 0)) (.c (.int k (a.tmod b))) else .bad)) ∧
    ((∀ P γ T c c' k a k' b, binR P γ .and T ⟨c, .c (.int k a)⟩ ⟨c', .c (.int k' b)⟩ = if k = k' then .ok (need γ ⟨c, .c (.int k a)⟩ ∧ need γ ⟨c', .c (.int k' b)⟩ ∧ (γ = true → True)) (.c (.int k (bits .and k a b))) else .bad) ∧
     (∀ P γ T c c' k a k' b, binR P γ .or T ⟨c, .c (.int k a)⟩ ⟨c', .c (.int k' b)⟩ = if k = k' then .ok (need γ ⟨c, .c (.int k a)⟩ ∧ need γ ⟨c', .c (.int k' b)⟩ ∧ (γ = true → True)) (.c (.int k (bits .or k a b))) else .bad) ∧
     (∀ P γ T c c' k a k' b, binR P γ .xor T ⟨c, .c (.int k a)⟩ ⟨c', .c (.int k' b)⟩ = if k = k' then .ok (need γ ⟨c, .c (.int k a)⟩ ∧ need γ ⟨c', .c (.int k' b)⟩ ∧ (γ = true → True)) (.c (.int k (bits .xor k a b))) else .bad) ∧
     (∀ P γ T c c' k a k' b, binR P γ .shl T ⟨c, .c (.int k a)⟩ ⟨c', .c (.int k' b)⟩ = .ok (need γ ⟨c, .c (.int k a)⟩ ∧ need γ ⟨c', .c (.int k' b)⟩ ∧ (γ = true → 0 ≤ b)) (.c (.int k (k.wrap (a * 2 ^ (min b.toNat k.bits)))))) ∧
     (∀ P γ T c c' k a k' b, binR P γ .shr T ⟨c, .c (.int k a)⟩ ⟨c', .c (.int k' b)⟩ = .ok (need γ ⟨c, .c (.int k a)⟩ ∧ need γ ⟨c', .c (.int k' b)⟩ ∧ (γ = true → 0 ≤ b)) (.c (.int k (a.fdiv (2 ^ (min b.toNat k.bits))))))) ∧
    ((∀ P γ T c c' k a k' b, binR P γ .eql T ⟨c, .c (.int k a)⟩ ⟨c', .c (.int k' b)⟩ = if k = k' then .ok (need γ ⟨c, .c (.int k a)⟩ ∧ need γ ⟨c', .c (.int k' b)⟩ ∧ (γ = true → True)) (.c (.bool (a == b))) else .bad) ∧
     (∀ P γ T c c' k a k' b, binR P γ .neq T ⟨c, .c (.int k a)⟩ ⟨c', .c (.int k' b)⟩ = if k = k' then .ok (need γ ⟨c, .c (.int k a)⟩ ∧ need γ ⟨c', .c (.int k' b)⟩ ∧ (γ = true → True)) (.c (.bool (a != b))) else .bad) ∧
     (∀ P γ T c c' k a k' b, binR P γ .lss T ⟨c, .c (.int k a)⟩ ⟨c', .c (.int k' b)⟩ = if k = k' then .ok (need γ ⟨c, .c (.int k a)⟩ ∧ need γ ⟨c', .c (.int k' b)⟩ ∧ (γ = true → True)) (.c (.bool (decide (a < b)))) else .bad) ∧
     (∀ P γ T c c' k a k' b, binR P γ .leq T ⟨c, .c (.int k a)⟩ ⟨c', .c (.int k' b)⟩ = if k = k' then .ok (need γ ⟨c, .c (.int k a)⟩ ∧ need γ ⟨c', .c (.int k' b)⟩ ∧ (γ = true → True)) (.c (.bool (decide (a ≤ b)))) else .bad) ∧
     (∀ P γ T c c' k a k' b, binR P γ .gtr T ⟨c, .c (.int k a)⟩ ⟨c', .c (.int k' b)⟩ = if k = k' then .ok (need γ ⟨c, .c (.int k a)⟩ ∧ need γ ⟨c', .c (.int k' b)⟩ ∧ (γ = true → True)) (.c (.bool (decide (a > b)))) else .bad) ∧
     (∀ P γ T c c' k a k' b, binR P γ .geq T ⟨c, .c (.int k a)⟩ ⟨c', .c (.int k' b)⟩ = if k = k' then .ok (need γ ⟨c, .c (.int k a)⟩ ∧ need γ ⟨c', .c (.int k' b)⟩ ∧ (γ = true → True)) (.c (.bool (decide (a ≥ b)))) else .bad)) := by
  refine ⟨⟨?_, ?_, ?_, ?_, ?_⟩, ⟨?_, ?_, ?_, ?_, ?_⟩, ?_, ?_, ?_, ?_, ?_, ?_⟩ <;> (intros; rfl)

theorem s_val :
    ((∀ P γ op T c c' a b, binR P γ op T ⟨c, .c (.str a)⟩ ⟨c', .c (.str b)⟩ = (match binS op a b with | some (C, v) => .ok (need γ ⟨c, .c (.str a)⟩ ∧ need γ ⟨c', .c (.str b)⟩ ∧ (γ = true → C)) v | none => .bad)) ∧
     (∀ P γ op T c c' a b, binR P γ op T ⟨c, .c (.bool a)⟩ ⟨c', .c (.bool b)⟩ = (match op, eqV P T (.c (.bool a)) (.c (.bool b)) with
        | .eql, some (C, r) => .ok (need γ ⟨c, .c (.bool a)⟩ ∧ need γ ⟨c', .c (.bool b)⟩ ∧ C) (.c (.bool r)) | .neq, some (C, r) => .ok (need γ ⟨c, .c (.bool a)⟩ ∧ need γ ⟨c', .c (.bool b)⟩ ∧ C) (.c (.bool (!r))) | _, _ => .bad)) ∧
     (∀ P γ op T c c' a b, binR P γ op T ⟨c, .a a⟩ ⟨c', .a b⟩ = (match op, eqV P T (.a a) (.a b) with
        | .eql, some (C, r) => .ok (need γ ⟨c, .a a⟩ ∧ need γ ⟨c', .a b⟩ ∧ C) (.c (.bool r)) | .neq, some (C, r) => .ok (need γ ⟨c, .a a⟩ ∧ need γ ⟨c', .a b⟩ ∧ C) (.c (.bool (!r))) | _, _ => .bad)) ∧
     (∀ P T a b, eqV P T (.c (.bool a)) (.c (.bool b)) = some (isBool P T = true, a == b)) ∧ (∀ P T s es, eqV P T (.c (.tree s es)) (.c .nils) = some (isSl P T = true ∧ es ≠ [], false)) ∧ (∀ P T, eqV P T (.c .nils) (.c .nils) = some (isSl P T = true, true)) ∧ (∀ P T, eqV P T (.c .emn) (.c .nils) = some (isSl P T = true, false)) ∧
     (∀ P γ op T c c' s es, binR P γ op T ⟨c, .c (.tree s es)⟩ ⟨c', .c .nils⟩ = (match op, eqV P T (.c (.tree s es)) (.c .nils) with
        | .eql, some (C, r) => .ok (need γ ⟨c, .c (.tree s es)⟩ ∧ need γ ⟨c', .c .nils⟩ ∧ C) (.c (.bool r)) | .neq, some (C, r) => .ok (need γ ⟨c, .c (.tree s es)⟩ ∧ need γ ⟨c', .c .nils⟩ ∧ C) (.c (.bool (!r))) | _, _ => .bad)) ∧
     (∀ P γ op T c c', binR P γ op T ⟨c, .c .nils⟩ ⟨c', .c .nils⟩ = (match op, eqV P T (.c .nils) (.c .nils) with
        | .eql, some (C, r) => .ok (need γ ⟨c, .c .nils⟩ ∧ need γ ⟨c', .c .nils⟩ ∧ C) (.c (.bool r)) | .neq, some (C, r) => .ok (need γ ⟨c, .c .nils⟩ ∧ need γ ⟨c', .c .nils⟩ ∧ C) (.c (.bool (!r))) | _, _ => .bad)) ∧
     (∀ P γ op T c c', binR P γ op T ⟨c, .c .emn⟩ ⟨c', .c .nils⟩ = (match op, eqV P T (.c .emn) (.c .nils) with
        | .eql, some (C, r) => .ok (need γ ⟨c, .c .emn⟩ ∧ need γ ⟨c', .c .nils⟩ ∧ C) (.c (.bool r)) | .neq, some (C, r) => .ok (need γ ⟨c, .c .emn⟩ ∧ need γ ⟨c', .c .nils⟩ ∧ C) (.c (.bool (!r))) | _, _ => .bad)) ∧ (∀ P T xs ys, eqV P T (.a xs) (.a ys) = (match eqCs xs ys with | some b => some (flatK P T = some (xs.map kindC), b) | none => none))) ∧
    ((∀ γ c b, unR γ .not ⟨c, .c (.bool b)⟩ = .ok (need γ ⟨c, .c (.bool b)⟩) (.c (.bool (!b)))) ∧ (∀ γ c k n, unR γ .neg ⟨c, .c (.int k n)⟩ = .ok (need γ ⟨c, .c (.int k n)⟩) (.c (.int k (k.wrap (0 - n))))) ∧
     (∀ γ c k n, unR γ .xor ⟨c, .c (.int k n)⟩ = .ok (need γ ⟨c, .c (.int k n)⟩) (.c (.int k (bits .xor k (if k.signed then -1 else k.max) n)))) ∧
     (∀ γ c a b, pickR γ ⟨c, .c (.bool true)⟩ a b = .ok (need γ ⟨c, .c (.bool true)⟩ ∧ need γ a) a.v) ∧ (∀ γ c a b, pickR γ ⟨c, .c (.bool false)⟩ a b = .ok (need γ ⟨c, .c (.bool false)⟩ ∧ need γ b) b.v) ∧
     (∀ P γ s d c k n, convR P γ s d ⟨c, .c (.int k n)⟩ = .ok (need γ ⟨c, .c (.int k n)⟩ ∧ (P.underlying s).isSome = true ∧ isInt P d = true) (.c (.int (P.intKind d) ((P.intKind d).wrap n)))) ∧
     (∀ P γ s d c n, convR P γ s d ⟨c, .c (.str n)⟩ = .ok (need γ ⟨c, .c (.str n)⟩ ∧ (P.underlying s).isSome = true ∧ isStr P d = true) (.c (.str n)))) ∧
    ((∀ P γ σ T c b off i, fieldAddrR P γ σ T ⟨c, .c (.optr b off)⟩ i = .ok (need γ ⟨c, .c (.optr b off)⟩ ∧ alive σ (.optr b off) ∧ fldOk P T i = true) (.c (.optr b (off + fldOff P T i)))) ∧
     (∀ P γ σ T c s es k j i, fieldAddrR P γ σ T ⟨c, .c (.tptr s es k j)⟩ i = .ok (need γ ⟨c, .c (.tptr s es k j)⟩ ∧ fldOk P T i = true) (.c (.tptr s es k (j + fldOff P T i)))) ∧
     (∀ P γ σ T c b ver k j i, fieldAddrR P γ σ T ⟨c, .c (.oel b ver k j)⟩ i = .ok (need γ ⟨c, .c (.oel b ver k j)⟩ ∧ alive σ (.oel b ver k j) ∧ fldOk P T i = true) (.c (.oel b ver k (j + fldOff P T i)))) ∧
     (∀ P γ T c ys i, fieldR P γ T ⟨c, .a ys⟩ i = .ok (need γ ⟨c, .a ys⟩ ∧ fldOk P T i = true ∧ knownT P (fldT P T i) = true ∧ fldOff P T i + P.cellsOf (fldT P T i) ≤ ys.length ∧ (aggT P (fldT P T i) = true ∨ P.cellsOf (fldT P T i) = 1))
      (mkV P (fldT P T i) ((ys.drop (fldOff P T i)).take (P.cellsOf (fldT P T i)))))) := by
  refine ⟨⟨?_, ?_, ?_, ?_, ?_, ?_, ?_, ?_, ?_, ?_, ?_⟩, ⟨?_, ?_, ?_, ?_, ?_, ?_, ?_⟩, ?_, ?_, ?_, ?_⟩ <;> (intros; rfl)

/-- slices, strings, tuples -/
theorem s_sl :
    ((∀ P γ σ T c c' s es k n, indexAddrR P γ σ T ⟨c, .c (.tree s es)⟩ ⟨c', .c (.int k n)⟩ = .ok (need γ ⟨c, .c (.tree s es)⟩ ∧ need γ ⟨c', .c (.int k n)⟩ ∧ isSl P T = true ∧ knownT P (P.elem T) = true ∧ P.cellsOf (P.elem T) = s ∧ (γ = true → 0 ≤ n ∧ n < es.length)) (.c (.tptr s es n.toNat 0))) ∧
     (∀ P γ σ T c c' b ver lo len k n, indexAddrR P γ σ T ⟨c, .c (.osl b ver lo len)⟩ ⟨c', .c (.int k n)⟩ = (match σ[b]? with
        | some (.arr s ver' _ _) => .ok (need γ ⟨c, .c (.osl b ver lo len)⟩ ∧ need γ ⟨c', .c (.int k n)⟩ ∧ ver = ver' ∧ isSl P T = true ∧ knownT P (P.elem T) = true ∧ P.cellsOf (P.elem T) = s ∧ (γ = true → 0 ≤ n ∧ n < len)) (.c (.oel b ver (lo + n.toNat) 0))
        | _ => .bad)) ∧
     (∀ P γ σ T c c' b off k n, indexAddrR P γ σ T ⟨c, .c (.optr b off)⟩ ⟨c', .c (.int k n)⟩ = .ok (need γ ⟨c, .c (.optr b off)⟩ ∧ need γ ⟨c', .c (.int k n)⟩ ∧ alive σ (.optr b off) ∧ isArr P T = true ∧ knownT P (P.elem T) = true ∧ (γ = true → 0 ≤ n ∧ n < P.arrayLen T)) (.c (.optr b (off + n.toNat * P.cellsOf (P.elem T))))) ∧
     (∀ P γ σ T c c' b ver i j k n, indexAddrR P γ σ T ⟨c, .c (.oel b ver i j)⟩ ⟨c', .c (.int k n)⟩ = (match σ[b]? with
        | some (.arr s ver' _ _) => .ok (need γ ⟨c, .c (.oel b ver i j)⟩ ∧ need γ ⟨c', .c (.int k n)⟩ ∧ ver = ver' ∧ isArr P T = true ∧ knownT P (P.elem T) = true ∧ P.cellsOf (P.elem T) = s ∧ j = 0 ∧ (γ = true → 0 ≤ n ∧ n < P.arrayLen T)) (.c (.oel b ver (i + n.toNat) 0))
        | _ => .bad)) ∧
     (∀ P γ T c c' s k n, indexR P γ T ⟨c, .c (.str s)⟩ ⟨c', .c (.int k n)⟩ = .ok (need γ ⟨c, .c (.str s)⟩ ∧ need γ ⟨c', .c (.int k n)⟩ ∧ isStr P T = true ∧ (γ = true → 0 ≤ n ∧ n < s.length)) (.c (.int .u8 ((s.getD n.toNat 0).toNat)))) ∧
     (∀ P γ T c c' ys k n, indexR P γ T ⟨c, .a ys⟩ ⟨c', .c (.int k n)⟩ = .ok (need γ ⟨c, .a ys⟩ ∧ need γ ⟨c', .c (.int k n)⟩ ∧ isArr P T = true ∧ knownT P (P.elem T) = true ∧ P.arrayLen T * P.cellsOf (P.elem T) ≤ ys.length ∧ aggT P (P.elem T) = false ∧ P.cellsOf (P.elem T) = 1 ∧ (γ = true → 0 ≤ n ∧ n < P.arrayLen T)) (.c (ys.getD n.toNat .junk)))) ∧
    ((∀ γ c ps i, extractR γ ⟨c, .t ps⟩ i = .ok (need γ ⟨c, .t ps⟩ ∧ i < ps.length) (ps.getD i .x)) ∧
     (∀ P γ σ T c s es, lenR P γ σ T ⟨c, .c (.tree s es)⟩ = .ok (need γ ⟨c, .c (.tree s es)⟩ ∧ isSl P T = true) (.c (.int .i64 es.length))) ∧
     (∀ P γ σ T c b ver lo len, lenR P γ σ T ⟨c, .c (.osl b ver lo len)⟩ = .ok (need γ ⟨c, .c (.osl b ver lo len)⟩ ∧ alive σ (.osl b ver lo len) ∧ isSl P T = true) (.c (.int .i64 len))) ∧
     (∀ P γ σ T c, lenR P γ σ T ⟨c, .c .nils⟩ = .ok (need γ ⟨c, .c .nils⟩ ∧ isSl P T = true) (.c (.int .i64 0))) ∧ (∀ P γ σ T c, lenR P γ σ T ⟨c, .c .emn⟩ = .ok (need γ ⟨c, .c .emn⟩ ∧ isSl P T = true) (.c (.int .i64 0))) ∧ (∀ P γ σ T c, lenR P γ σ T ⟨c, .c .emp⟩ = .ok (need γ ⟨c, .c .emp⟩ ∧ isSl P T = true) (.c (.int .i64 0))) ∧
     (∀ P γ σ T c s, lenR P γ σ T ⟨c, .c (.str s)⟩ = .ok (need γ ⟨c, .c (.str s)⟩ ∧ isStr P T = true) (.c (.int .i64 s.length)))) ∧
    ((∀ P γ σ T x, builtinR P γ σ .len [T] [x] = lenR P γ σ T x) ∧ (∀ P γ σ T T' x y, builtinR P γ σ .append [T, T'] [x, y] = if T = T' ∨ isStr P T' then appendR P σ T x y else .bad) ∧
     (∀ P γ σ l x y, builtinR P γ σ .min l [x, y] = minmaxR γ false x y) ∧ (∀ P γ σ l x y, builtinR P γ σ .max l [x, y] = minmaxR γ true x y) ∧
     (∀ γ mx c c' k a k' b, minmaxR γ mx ⟨c, .c (.int k a)⟩ ⟨c', .c (.int k' b)⟩ = .ok (need γ ⟨c, .c (.int k a)⟩ ∧ need γ ⟨c', .c (.int k' b)⟩ ∧ k = k') (.c (.int k (if mx then (if b > a then b else a) else (if b < a then b else a))))) ∧
     (∀ γ c g caps args, callR γ ⟨c, .c (.fn g caps)⟩ args = .call (c = true ∧ ∀ e ∈ args, need γ e) g (args.map (·.v) ++ caps.map .c)) ∧
     (∀ γ σ c b off, nilCheckR γ σ ⟨c, .c (.optr b off)⟩ = .ok (need γ ⟨c, .c (.optr b off)⟩ ∧ alive σ (.optr b off)) (.c (.optr b off)))) := by
  refine ⟨⟨?_, ?_, ?_, ?_, ?_, ?_⟩, ⟨?_, ?_, ?_, ?_, ?_, ?_, ?_⟩, ?_, ?_, ?_, ?_, ?_, ?_, ?_⟩ <;> (intros; rfl)

theorem s_guard :
    (∀ ops E, guardOf ops E none = some true) ∧ (∀ (l : List Oper) E j w, guardOf l.toArray E (some (j, w)) = (match l[j]? with
      | none => none
      | some o => (match o.dst with | none => none | some d => (match (E.get d).cond, (E.get d).v with | true, .c (.bool X) => some (X == w) | true, .t [] => some false | _, _ => none)))) := by
  refine ⟨?_, ?_⟩
  · intros; rfl
  · intro l E j w; rw [← List.getElem?_toArray]; rfl
end Pam

/- Rules on continuations, and small helps for the walk. -/
namespace Pam
open Go

theorem s_k :
    ((∀ k K E σ, KThen k K .normal E σ = k E σ) ∧ (∀ k K i E σ, KThen k K (.exit i) E σ = K (.exit i) E σ) ∧ (∀ k K E σ, KThen k K .ret E σ = K .ret E σ) ∧ (∀ k K p E σ, KThen k K (.panic p) E σ = K (.panic p) E σ)) ∧
    ((∀ i K E σ, KBlock i K .normal E σ = K .normal E σ) ∧ (∀ i K j E σ, KBlock i K (.exit j) E σ = if j = i then K .normal E σ else K (.exit j) E σ) ∧ (∀ i K E σ, KBlock i K .ret E σ = K .ret E σ) ∧ (∀ i K p E σ, KBlock i K (.panic p) E σ = K (.panic p) E σ)) ∧
    ((∀ {α : Type} n na (s : α → List (Nat × PV)) h inv (μ : α → Nat) x K i E σ, KRound n na s h inv μ x K (.exit i) E σ = K (.exit i) E σ) ∧ (∀ {α : Type} n na (s : α → List (Nat × PV)) h inv (μ : α → Nat) x K E σ, KRound n na s h inv μ x K .ret E σ = K .ret E σ) ∧
     (∀ {α : Type} n na (s : α → List (Nat × PV)) h inv (μ : α → Nat) x K p E σ, KRound n na s h inv μ x K (.panic p) E σ = K (.panic p) E σ)) := by
  refine ⟨⟨?_, ?_, ?_, ?_⟩, ⟨?_, ?_, ?_, ?_⟩, ?_, ?_, ?_⟩ <;> (intros; rfl)

theorem round_eq {α : Type} {n na : Nat} {s : α → List (Nat × PV)} {h : α → List OB} {inv : α → Prop} {μ : α → Nat} {x : α} {K : Kt} {E : Env} {σ : List OB} (y : α) (hn : E.n = n) (hna : E.na = na) (hi : inv y) (hm : μ y < μ x) (hl : Less E σ (s y) (h y)) :
    KRound n na s h inv μ x K .normal E σ := ⟨hn, hna, y, hi, hm, hl⟩

theorem elt_map {α : Type} [Inhabited α] (f : α → List CV) (xs : List α) (i : Nat) (h : i < xs.length) : elt (xs.map f) i = f (xs.getD i default) := by
  simp [elt, List.getD, h]
theorem drop_cons {α : Type} [Inhabited α] (l : List α) (k : Nat) (h : k < l.length) : l.drop k = l.getD k default :: l.drop (k + 1) := by
  rw [List.drop_eq_getElem_cons h]; simp [List.getD, h]

def w64 (n : Int) : Int := IntKind.i64.wrap n
theorem w64_eq {n : Int} (h1 : -9223372036854775808 ≤ n) (h2 : n ≤ 9223372036854775807) : IntKind.i64.wrap n = n := by
  rw [IntKind.wrap_i64]; omega
theorem w64_succ {k : Nat} (h : (k : Int) < 9223372036854775807) : IntKind.i64.wrap ((k : Int) + 1) = ((k + 1 : Nat) : Int) := by
  rw [w64_eq (by omega) (by omega)]; omega
end Pam

/- Loops and cuts whose states are the first state, but for the slots that are written; rules on continuations one by one. -/
namespace Pam
open Go

/-- the second one says no more than the first -/
def Tr.le : Tr → Tr → Prop
  | _, .nil => True
  | t, .leaf e' => e'.cond = false ∨ t = .leaf e'
  | .node a0 a1 a2 a3 a4 a5 a6 a7, .node b0 b1 b2 b3 b4 b5 b6 b7 => Tr.le a0 b0 ∧ Tr.le a1 b1 ∧ Tr.le a2 b2 ∧ Tr.le a3 b3 ∧ Tr.le a4 b4 ∧ Tr.le a5 b5 ∧ Tr.le a6 b6 ∧ Tr.le a7 b7
  | .nil, .node b0 b1 b2 b3 b4 b5 b6 b7 => Tr.le .nil b0 ∧ Tr.le .nil b1 ∧ Tr.le .nil b2 ∧ Tr.le .nil b3 ∧ Tr.le .nil b4 ∧ Tr.le .nil b5 ∧ Tr.le .nil b6 ∧ Tr.le .nil b7
  | _, .node _ _ _ _ _ _ _ _ => False
def Tr.under (n : Nat) : Tr → Prop
  | .nil => True
  | .leaf e => e.cond = false ∨ e.v.under n
  | .node a0 a1 a2 a3 a4 a5 a6 a7 => Tr.under n a0 ∧ Tr.under n a1 ∧ Tr.under n a2 ∧ Tr.under n a3 ∧ Tr.under n a4 ∧ Tr.under n a5 ∧ Tr.under n a6 ∧ Tr.under n a7

theorem Tr.le_get {t t' : Tr} (h : Tr.le t t') (j : Nat) : Tr.le (t.get j) (t'.get j) := by
  rcases Nat.lt_or_ge j 8 with hj | hj
  · have hj' : j = 0 ∨ j = 1 ∨ j = 2 ∨ j = 3 ∨ j = 4 ∨ j = 5 ∨ j = 6 ∨ j = 7 := by omega
    cases t' with
    | nil => show Tr.le _ .nil; cases t.get j <;> trivial
    | leaf e => show Tr.le _ .nil; cases t.get j <;> trivial
    | node b0 b1 b2 b3 b4 b5 b6 b7 =>
      cases t with
      | nil =>
        obtain ⟨h0, h1, h2, h3, h4, h5, h6, h7⟩ := h
        rcases hj' with rfl | rfl | rfl | rfl | rfl | rfl | rfl | rfl <;> assumption
      | leaf e => exact h.elim
      | node a0 a1 a2 a3 a4 a5 a6 a7 =>
        obtain ⟨h0, h1, h2, h3, h4, h5, h6, h7⟩ := h
        rcases hj' with rfl | rfl | rfl | rfl | rfl | rfl | rfl | rfl <;> assumption
  · rw [Tr.get_big t' j hj]; cases t.get j <;> trivial
theorem Tr.le_ent {t t' : Tr} (h : Tr.le t t') (hc : t'.ent.cond = true) : t.ent = t'.ent := by
  cases t' with
  | nil => cases hc
  | node => cases hc
  | leaf e =>
    have h' : e.cond = false ∨ t = .leaf e := by cases t <;> exact h
    rcases h' with h' | h'
    · simp only [Tr.ent] at hc; rw [h'] at hc; cases hc
    · rw [h']
theorem Tr.under_get {n : Nat} {t : Tr} (h : Tr.under n t) (j : Nat) : Tr.under n (t.get j) := by
  rcases Nat.lt_or_ge j 8 with hj | hj
  · have hj' : j = 0 ∨ j = 1 ∨ j = 2 ∨ j = 3 ∨ j = 4 ∨ j = 5 ∨ j = 6 ∨ j = 7 := by omega
    cases t with
    | nil => trivial
    | leaf e => trivial
    | node a0 a1 a2 a3 a4 a5 a6 a7 =>
      obtain ⟨h0, h1, h2, h3, h4, h5, h6, h7⟩ := h
      rcases hj' with rfl | rfl | rfl | rfl | rfl | rfl | rfl | rfl <;> assumption
  · rw [Tr.get_big t j hj]; trivial
theorem Tr.under_ent {n : Nat} {t : Tr} (h : Tr.under n t) (hc : t.ent.cond = true) : t.ent.v.under n := by
  cases t with
  | nil => cases hc
  | node => cases hc
  | leaf e => rcases h with h | h
              · simp only [Tr.ent] at hc; rw [h] at hc; cases hc
              · exact h

/-- a state that says no more than another one -/
def LessE (E : Env) (σ : List OB) (E' : Env) (τ : List OB) : Prop :=
  (E.n = E'.n ∧ E.na = E'.na) ∧ Tr.le E.t E'.t ∧ (∃ ρ, σ = τ ++ ρ) ∧ E.na ≤ τ.length ∧ obsBelow τ.length τ ∧ Tr.under τ.length E'.t

theorem LessE.sim {G : Gh} {E E' : Env} {σ τ : List OB} {a : Act} {w : World} (h : LessE E σ E' τ) (hs : Sim G E σ a w) :
    ∃ G', Gle G G' ∧ Sim G' E' τ a w := by
  obtain ⟨⟨hn, hna'⟩, hk, ⟨ρ, rfl⟩, hna, hob, hsl⟩ := h
  refine ⟨{ G with own := G.own.take τ.length }, ⟨⟨fun _ _ h => h, rfl, rfl, rfl⟩, ?_⟩, hs.inv.drop hob, hs.defers, by rw [← hn]; exact hs.size, by rw [← hna']; exact hs.na, fun i hc => ?_⟩
  · intro b oo hb hoo
    refine ⟨oo, ?_, fun o' e => ⟨o', e, .inl rfl⟩⟩
    rw [hs.na] at hb
    simp only
    rw [List.getElem?_take_of_lt (by omega)]; exact hoo
  · have hE : E.get i = E'.get i := Tr.le_ent (Tr.le_get (Tr.le_get (Tr.le_get hk _) _) _) hc
    have hu : (E'.get i).v.under τ.length := Tr.under_ent (Tr.under_get (Tr.under_get (Tr.under_get hsl _) _) _) hc
    have hr := hs.slot i (by rw [hE]; exact hc)
    rw [hE] at hr
    exact RepP.drop (G := G) (G' := { G with own := G.own.take τ.length }) rfl rfl hu hr

def Env.erase (E : Env) (i : Nat) : Env := ⟨E.n, E.na, E.t.put (i / 64) ((E.t.get (i / 64)).put (i / 8 % 8) (((E.t.get (i / 64)).get (i / 8 % 8)).put (i % 8) .nil))⟩
def Env.forget (E : Env) : List Nat → Env
  | [] => E
  | i :: r => Env.forget (E.erase i) r
def Env.puts (E : Env) : List (Nat × PV) → Env
  | [] => E
  | (i, p) :: r => Env.puts (E.put i ⟨true, p⟩) r
/-- the state E, but for the slots ms, of which these are known -/
def Env.over (E : Env) (ms : List Nat) (l : List (Nat × PV)) : Env := (E.forget ms).puts l

section
variable {P : Program} {K : Kt} {E E0 : Env} {σ : List OB}

/-- a round's end -/
def KRoundE {α : Type} (E0 : Env) (ms : List Nat) (slots : α → List (Nat × PV)) (heap : α → List OB) (inv : α → Prop) (μ : α → Nat) (x : α) (K : Kt) : Kt
  | .normal, E, σ => ∃ y, inv y ∧ μ y < μ x ∧ LessE E σ (E0.over ms (slots y)) (heap y)
  | e, E, σ => K e E σ

theorem W_loopE {α : Type} {c : Code} (ms : List Nat) (slots : α → List (Nat × PV)) (heap : α → List OB) (inv : α → Prop) (μ : α → Nat) (x0 : α) (h0 : inv x0) (hl : LessE E σ (E.over ms (slots x0)) (heap x0))
    (round : ∀ x, inv x → W P c (KRoundE E ms slots heap inv μ x K) (E.over ms (slots x)) (heap x)) : W P (.loop c) K E σ := fun G a w hs => by
  obtain ⟨G0, hg0, hs0⟩ := hl.sim hs
  refine Code.wp_mono (fun _ _ _ hq => PostX.back hg0 hq) ?_
  intro b k cs
  have key : ∀ (m : Nat) (x : α) (G : Gh) (a : Act) (w : World), μ x = m → inv x → Gle G0 G → Sim G (E.over ms (slots x)) (heap x) a w →
      ∃ e a' w', PostX G0 K e a' w' ∧ Arrives P (lone (b.at a (.code c :: .inLoop c :: k)) cs w) b k cs e a' w' := by
    intro m
    induction m using Nat.strongRecOn with
    | _ m ih =>
      intro x G a w hm hinv hG hs
      have hr := round x hinv G a w hs
      obtain ⟨e, a₁, w₁, hq, harr⟩ := hr b (.inLoop c :: k) cs
      obtain ⟨G', E', σ', px, g1, g2, g3, g4⟩ := hq
      cases px with
      | normal =>
        cases g3
        obtain ⟨y, hy, hlt, hless⟩ := g4
        obtain ⟨G'', q1, q2⟩ := hless.sim g2
        obtain ⟨e₂, a₂, w₂, hq₂, harr₂⟩ := ih (μ y) (hm ▸ hlt) y G'' a₁ w₁ rfl hy (hG.trans (g1.trans q1)) q2
        exact ⟨e₂, a₂, w₂, hq₂, .of_steps (Steps.trans harr (.one step_inLoop)) harr₂⟩
      | exit id => exact ⟨e, a₁, w₁, PostX.back hG ⟨G', E', σ', .exit id, g1, g2, g3, g4⟩, by cases g3; exact .pass (x := .inLoop c) rfl (fun _ _ => .inl (by simp)) harr⟩
      | ret => exact ⟨e, a₁, w₁, PostX.back hG ⟨G', E', σ', .ret, g1, g2, g3, g4⟩, by cases g3; exact .pass (x := .inLoop c) rfl (fun _ _ => .inl (by simp)) harr⟩
      | panic p => exact ⟨e, a₁, w₁, PostX.back hG ⟨G', E', σ', .panic p, g1, g2, g3, g4⟩, by obtain ⟨v, rfl, hv⟩ := g3; exact .pass (x := .inLoop c) rfl (fun _ _ => .inl (by simp)) harr⟩
  obtain ⟨e, a', w', hq, harr⟩ := key _ x0 G0 a w rfl h0 (Gle.refl _) hs0
  exact ⟨e, a', w', hq, .of_steps (.one step_loop) harr⟩

/-- a cut: behind the first piece the state is of this form -/
def KCut {α : Type} (E0 : Env) (ms : List Nat) (slots : α → List (Nat × PV)) (heap : α → List OB) (inv : α → Prop) (K : Kt) : Kt
  | .normal, E, σ => ∃ y, inv y ∧ LessE E σ (E0.over ms (slots y)) (heap y)
  | e, E, σ => K e E σ

theorem W_lessE {c : Code} {E' : Env} {τ : List OB} (h : LessE E σ E' τ) (hw : W P c K E' τ) : W P c K E σ := fun G a w hs => by
  obtain ⟨G', h1, h2⟩ := h.sim hs
  exact Code.wp_mono (fun _ _ _ hq => PostX.back h1 hq) (hw G' a w h2)

theorem W_cutE {α : Type} {c d : Code} (ms : List Nat) (slots : α → List (Nat × PV)) (heap : α → List OB) (inv : α → Prop)
    (first : W P c (KCut E ms slots heap inv K) E σ) (rest : ∀ x, inv x → W P d K (E.over ms (slots x)) (heap x)) : W P (.seq c d) K E σ :=
  W_seq (W.mono (fun x E' σ' h => by
    cases x with
    | normal => obtain ⟨y, h1, h2⟩ := h; exact W_lessE h2 (rest y h1)
    | exit id => exact h
    | ret => exact h
    | panic p => exact h) first)

theorem Tr.get_erase (t : Tr) (i j : Nat) (x : Tr) : (t.put i x).get j = .nil ∨ (t.put i x).get j = t.get j ∨ (j = i ∧ (t.put i x).get j = x) := by
  rcases Nat.lt_or_ge i 8 with hi | hi
  · rw [Tr.get_put t i j x hi]
    by_cases e : j = i
    · subst e; simp
    · simp [e]
  · rcases Tr.put_big t i j x hi with h | h
    · exact .inr (.inl h)
    · exact .inl h
theorem Env.erase_get (E : Env) (i j : Nat) (h : ((E.erase i).get j).cond = true) : (E.erase i).get j = E.get j := by
  unfold Env.erase Env.get at *
  simp only at *
  have nil1 : ∀ k, (Tr.nil.get k) = .nil := fun _ => rfl
  rcases Tr.get_erase E.t (i / 64) (j / 64) ((E.t.get (i / 64)).put (i / 8 % 8) (((E.t.get (i / 64)).get (i / 8 % 8)).put (i % 8) .nil)) with e | e | ⟨e0, e⟩
  · rw [e] at h; simp [nil1, Tr.ent] at h
  · rw [e]
  · rw [e] at h ⊢
    rcases Tr.get_erase (E.t.get (i / 64)) (i / 8 % 8) (j / 8 % 8) (((E.t.get (i / 64)).get (i / 8 % 8)).put (i % 8) .nil) with f | f | ⟨f0, f⟩
    · rw [f] at h; simp [nil1, Tr.ent] at h
    · rw [f, e0]
    · rw [f] at h ⊢
      rcases Tr.get_erase ((E.t.get (i / 64)).get (i / 8 % 8)) (i % 8) (j % 8) .nil with g | g | ⟨g0, g⟩
      · rw [g] at h; simp [Tr.ent] at h
      · rw [g, e0, f0]
      · rw [g] at h; simp [Tr.ent] at h
theorem Env.erase_sim {G : Gh} {E : Env} {σ : List OB} {a : Act} {w : World} (h : Sim G E σ a w) (i : Nat) : Sim G (E.erase i) σ a w :=
  ⟨h.inv, h.defers, h.size, h.na, fun j hc => by have e := Env.erase_get E i j hc; rw [e] at hc ⊢; exact h.slot j hc⟩
theorem Env.forget_sim {G : Gh} {σ : List OB} {a : Act} {w : World} : ∀ (ms : List Nat) {E : Env}, Sim G E σ a w → Sim G (E.forget ms) σ a w
  | [], _, h => h
  | i :: r, _, h => Env.forget_sim r (Env.erase_sim h i)
theorem W_forget {c : Code} (ms : List Nat) (h : W P c K (E.forget ms) σ) : W P c K E σ := fun G a w hs => h G a w (Env.forget_sim ms hs)
/-- a region, and some slots forgotten behind it -/
theorem W_regF {id : Nat} {l : List Oper} {y : Code} (ms : List Nat)
    (h : ∀ (k : Env → List OB → Prop) (kp : PV → Env → List OB → Prop), (∀ E σ, W P y K E σ → k E σ) → (∀ p E σ, K (.panic p) E σ → kp p E σ) → runOps P l.toArray l E σ (fun E σ => k (E.forget ms) σ) kp) :
    W P (.seq (.region id l.toArray false) y) K E σ := W_seq fun G a w hs =>
  wp_region_lit (wpList_mono (fun _ _ _ hp => PostX.mono (fun x E σ hk => by
      cases x with
      | normal => exact W_forget ms hk
      | exit id => exact hk.elim
      | ret => exact hk.elim
      | panic p => exact hk) hp)
    l a w (runOps_ok l E σ _ _ (h (W P y K) (fun p => K (.panic p)) (fun _ _ h => h) (fun _ _ _ h => h)) G a w hs))
theorem W_anyF {id : Nat} {l : List Oper} {y : Code} (ms : List Nat) (hm : P.follows .mixedOrders = true) (masks : List Nat) (bs : List Bool) (hc : chk l.toArray l masks bs = true)
    (h : ∀ (k : Env → List OB → Prop), (∀ E σ, W P y K E σ → k E σ) → anyOps P l.toArray l bs E σ (fun E σ => k (E.forget ms) σ)) : W P (.seq (.region id l.toArray true) y) K E σ :=
  W_seq (W_anyT hm masks bs hc (by
    obtain ⟨tr, h1, h2⟩ := anyOps_ok l bs E σ _ (h (W P y K) fun _ _ h => h)
    exact ⟨tr, h1, W_forget ms h2⟩))
theorem KThen_n {k : Env → List OB → Prop} (h : k E σ) : KThen k K .normal E σ := h
theorem KThen_x {k : Env → List OB → Prop} {i : Nat} (h : K (.exit i) E σ) : KThen k K (.exit i) E σ := h
theorem KThen_r {k : Env → List OB → Prop} (h : K .ret E σ) : KThen k K .ret E σ := h
theorem KThen_p {k : Env → List OB → Prop} {p : PV} (h : K (.panic p) E σ) : KThen k K (.panic p) E σ := h
theorem KBlock_n {i : Nat} (h : K .normal E σ) : KBlock i K .normal E σ := h
theorem KBlock_hit {i : Nat} (h : K .normal E σ) : KBlock i K (.exit i) E σ := by simp only [KBlock, if_true]; exact h
theorem KBlock_x {i j : Nat} (hj : j ≠ i) (h : K (.exit j) E σ) : KBlock i K (.exit j) E σ := by simp only [KBlock, if_neg hj]; exact h
theorem KBlock_r {i : Nat} (h : K .ret E σ) : KBlock i K .ret E σ := h
theorem KBlock_p {i : Nat} {p : PV} (h : K (.panic p) E σ) : KBlock i K (.panic p) E σ := h
section
variable {α : Type} {ms : List Nat} {slots : α → List (Nat × PV)} {heap : α → List OB} {inv : α → Prop} {μ : α → Nat} {x : α}
theorem KRound_n (y : α) (hi : inv y) (hm : μ y < μ x) (hl : LessE E σ (E0.over ms (slots y)) (heap y)) : KRoundE E0 ms slots heap inv μ x K .normal E σ := ⟨y, hi, hm, hl⟩
theorem KRound_x {i : Nat} (h : K (.exit i) E σ) : KRoundE E0 ms slots heap inv μ x K (.exit i) E σ := h
theorem KRound_r (h : K .ret E σ) : KRoundE E0 ms slots heap inv μ x K .ret E σ := h
theorem KRound_p {p : PV} (h : K (.panic p) E σ) : KRoundE E0 ms slots heap inv μ x K (.panic p) E σ := h
theorem KCut_n (y : α) (hi : inv y) (hl : LessE E σ (E0.over ms (slots y)) (heap y)) : KCut E0 ms slots heap inv K .normal E σ := ⟨y, hi, hl⟩
theorem KCut_x {i : Nat} (h : K (.exit i) E σ) : KCut E0 ms slots heap inv K (.exit i) E σ := h
theorem KCut_r (h : K .ret E σ) : KCut E0 ms slots heap inv K .ret E σ := h
theorem KCut_p {p : PV} (h : K (.panic p) E σ) : KCut E0 ms slots heap inv K (.panic p) E σ := h
end
theorem W_condt {c : Operand} {x y : Code} {X : Bool} (hc : ev E c = ⟨true, .c (.bool X)⟩) (hX : X = true) (h : W P x K E σ) : W P (.cond c x y) K E σ :=
  W_cond hc (fun _ => h) (fun h' => by rw [hX] at h'; cases h')
theorem W_condf {c : Operand} {x y : Code} {X : Bool} (hc : ev E c = ⟨true, .c (.bool X)⟩) (hX : X = false) (h : W P y K E σ) : W P (.cond c x y) K E σ :=
  W_cond hc (fun h' => by rw [hX] at h'; cases h') (fun _ => h)
end

def OBpre : List OB → List OB → Prop
  | [], _ => True
  | a :: as, b :: bs => a = b ∧ OBpre as bs
  | _ :: _, [] => False
theorem OBpre_ex : ∀ {τ σ : List OB}, OBpre τ σ → ∃ ρ, σ = τ ++ ρ
  | [], σ, _ => ⟨σ, rfl⟩
  | a :: as, b :: bs, h => by obtain ⟨ρ, hr⟩ := OBpre_ex h.2; exact ⟨ρ, by rw [h.1, hr]; rfl⟩
theorem OBpre_app (τ ρ : List OB) : OBpre τ (τ ++ ρ) := by
  induction τ with
  | nil => trivial
  | cons a as ih => exact ⟨rfl, ih⟩
/-- what is known of slots, rule by rule -/
theorem s_less :
    ((∀ E σ E' τ, LessE E σ E' τ = ((E.n = E'.n ∧ E.na = E'.na) ∧ Tr.le E.t E'.t ∧ OBpre τ σ ∧ E.na ≤ τ.length ∧ obsBelow τ.length τ ∧ Tr.under τ.length E'.t)) ∧
     (∀ τ, OBpre [] τ = True) ∧ (∀ a as b bs, OBpre (a :: as) (b :: bs) = (a = b ∧ OBpre as bs)) ∧ (∀ a as, OBpre (a :: as) [] = False) ∧
     (∀ t, Tr.le t .nil = True) ∧ (∀ e t, Tr.le t (.leaf ⟨false, e⟩) = True) ∧ (∀ c v v', Tr.le (.leaf ⟨c, v⟩) (.leaf ⟨true, v'⟩) = (c = true ∧ v = v')) ∧
     (∀ b0 b1 b2 b3 b4 b5 b6 b7, Tr.le .nil (.node b0 b1 b2 b3 b4 b5 b6 b7) = (Tr.le .nil b0 ∧ Tr.le .nil b1 ∧ Tr.le .nil b2 ∧ Tr.le .nil b3 ∧ Tr.le .nil b4 ∧ Tr.le .nil b5 ∧ Tr.le .nil b6 ∧ Tr.le .nil b7)) ∧
     (∀ a0 a1 a2 a3 a4 a5 a6 a7 b0 b1 b2 b3 b4 b5 b6 b7, Tr.le (.node a0 a1 a2 a3 a4 a5 a6 a7) (.node b0 b1 b2 b3 b4 b5 b6 b7) = (Tr.le a0 b0 ∧ Tr.le a1 b1 ∧ Tr.le a2 b2 ∧ Tr.le a3 b3 ∧ Tr.le a4 b4 ∧ Tr.le a5 b5 ∧ Tr.le a6 b6 ∧ Tr.le a7 b7))) ∧
    ((∀ n, Tr.under n .nil = True) ∧ (∀ n v, Tr.under n (.leaf ⟨false, v⟩) = True) ∧ (∀ n v, Tr.under n (.leaf ⟨true, v⟩) = v.under n) ∧
     (∀ n a0 a1 a2 a3 a4 a5 a6 a7, Tr.under n (.node a0 a1 a2 a3 a4 a5 a6 a7) = (Tr.under n a0 ∧ Tr.under n a1 ∧ Tr.under n a2 ∧ Tr.under n a3 ∧ Tr.under n a4 ∧ Tr.under n a5 ∧ Tr.under n a6 ∧ Tr.under n a7))) ∧
    ((∀ E ms l, Env.over E ms l = (E.forget ms).puts l) ∧      (∀ E, Env.puts E [] = E) ∧ (∀ E i p r, Env.puts E ((i, p) :: r) = Env.puts (E.put i ⟨true, p⟩) r)) ∧
    ((∀ n, obsBelow n [] = True) ∧ (∀ n o r, obsBelow n (o :: r) = (o.under n ∧ obsBelow n r)) ∧ (∀ n cs, OB.under n (.box cs) = cvsBelow n cs) ∧ (∀ n, OB.under n .dead = True) ∧ (∀ n s v T es, OB.under n (.arr s v T es) = True) ∧
     (∀ n, cvsBelow n [] = True) ∧ (∀ n c r, cvsBelow n (c :: r) = (c.under n ∧ cvsBelow n r)) ∧ (∀ n y, PV.under n (.c y) = y.under n) ∧ (∀ n ys, PV.under n (.a ys) = cvsBelow n ys) ∧ (∀ n, PV.under n .x = True)) ∧
    ((∀ n b, CV.under n (.bool b) = True) ∧ (∀ n k m, CV.under n (.int k m) = True) ∧ (∀ n s, CV.under n (.str s) = True) ∧ (∀ n s es, CV.under n (.tree s es) = True) ∧ (∀ n s es i j, CV.under n (.tptr s es i j) = True) ∧
     (∀ n, CV.under n .nilp = True) ∧ (∀ n, CV.under n .nils = True) ∧ (∀ n, CV.under n .nilf = True) ∧ (∀ n, CV.under n .nili = True) ∧ (∀ n, CV.under n .emp = True) ∧ (∀ n, CV.under n .emn = True) ∧ (∀ n, CV.under n .junk = True) ∧
     (∀ n b off, CV.under n (.optr b off) = (b < n)) ∧ (∀ n b v l k, CV.under n (.osl b v l k) = (b < n)) ∧ (∀ n b v i j, CV.under n (.oel b v i j) = (b < n)) ∧ (∀ n f, CV.under n (.fn f []) = True) ∧ (∀ n t g cs, CV.under n (.ifc t g cs) = True)) := by
  refine ⟨⟨?_, ?_, ?_, ?_, ?_, ?_, ?_, ?_, ?_⟩, ⟨?_, ?_, ?_, ?_⟩, ⟨?_, ?_, ?_⟩, ⟨?_, ?_, ?_, ?_, ?_, ?_, ?_, ?_, ?_, ?_⟩, ?_, ?_, ?_, ?_, ?_, ?_, ?_, ?_, ?_, ?_, ?_, ?_, ?_, ?_, ?_, ?_, ?_⟩
  all_goals first
    | (intros; rfl)
    | (intro E σ E' τ; unfold LessE; exact propext ⟨fun ⟨h1, h2, ⟨ρ, h3⟩, h4⟩ => ⟨h1, h2, by rw [h3]; exact OBpre_app τ ρ, h4⟩, fun ⟨h1, h2, h3, h4⟩ => ⟨h1, h2, OBpre_ex h3, h4⟩⟩)
    | (intro t; cases t <;> rfl)
    | (intro e t; cases t <;> simp [Tr.le]; done)
    | (intros; simp [Tr.le]; done)
    | (intros; simp [Tr.under]; done)
    | (intros; simp [CV.under]; done)
theorem W_eqE {P : Program} {c : Code} {K : Kt} {E E' : Env} {σ σ' : List OB} (hE : E = E') (hσ : σ = σ') (h : W P c K E' σ') : W P c K E σ := by subst hE hσ; exact h
/-- injections of what cells and blocks hold -/
theorem s_inj :
    ((∀ x y, (PV.c x = PV.c y) = (x = y)) ∧ (∀ x y, (PV.a x = PV.a y) = (x = y)) ∧ (∀ x y, (PV.t x = PV.t y) = (x = y)) ∧ (∀ k n k' n', (CV.int k n = CV.int k' n') = (k = k' ∧ n = n')) ∧ (∀ b b', (CV.bool b = CV.bool b') = (b = b')) ∧ (∀ b b', (CV.str b = CV.str b') = (b = b'))) ∧
    ((∀ s es s' es', (CV.tree s es = CV.tree s' es') = (s = s' ∧ es = es')) ∧ (∀ s es i j s' es' i' j', (CV.tptr s es i j = CV.tptr s' es' i' j') = (s = s' ∧ es = es' ∧ i = i' ∧ j = j')) ∧
     (∀ b o b' o', (CV.optr b o = CV.optr b' o') = (b = b' ∧ o = o')) ∧ (∀ b v l n b' v' l' n', (CV.osl b v l n = CV.osl b' v' l' n') = (b = b' ∧ v = v' ∧ l = l' ∧ n = n')) ∧ (∀ b v l n b' v' l' n', (CV.oel b v l n = CV.oel b' v' l' n') = (b = b' ∧ v = v' ∧ l = l' ∧ n = n'))) ∧
    ((∀ cs cs', (OB.box cs = OB.box cs') = (cs = cs')) ∧ (∀ s v T es s' v' T' es', (OB.arr s v T es = OB.arr s' v' T' es') = (s = s' ∧ v = v' ∧ T = T' ∧ es = es')) ∧
     (∀ {α : Type} (a : α) as b bs, (a :: as = b :: bs) = (a = b ∧ as = bs)) ∧ (∀ {α β : Type} (a : α) (b : β) a' b', ((a, b) = (a', b')) = (a = a' ∧ b = b'))) := by
  refine ⟨⟨?_, ?_, ?_, ?_, ?_, ?_⟩, ⟨?_, ?_, ?_, ?_, ?_⟩, ?_, ?_, ?_, ?_⟩ <;> (intros; simp)
/-- a function's end -/
theorem s_end :
    ((∀ P rs post pp E σ, KBody P rs post pp .ret E σ = (match resAll P E σ rs with | some (C, ps) => C ∧ ps.all PV.isV = true ∧ post (resOne ps) σ | none => False)) ∧
     (∀ P rs post pp E σ, KBody P rs post pp .normal E σ = (match resAll P E σ rs with | some (C, ps) => C ∧ ps.all PV.isV = true ∧ post (resOne ps) σ | none => False)) ∧
     (∀ P rs post pp p E σ, KBody P rs post pp (.panic p) E σ = pp p σ)) ∧
    ((∀ P E σ, resAll P E σ [] = some (True, [])) ∧ (∀ P E σ r rs, resAll P E σ (r :: rs) = (match resV P E σ r, resAll P E σ rs with | some (C, p), some (C', ps) => some (C ∧ C', p :: ps) | _, _ => none)) ∧
     (∀ P E σ t, resV P E σ (.tmp t) = some ((E.get t).cond = true, (E.get t).v)) ∧ (∀ P E σ t T, resV P E σ (.cell t T) = (match loadR P true σ T (E.get t) with | .ok C v => some (C, v) | _ => none))) ∧
    ((∀ p, resOne [p] = p) ∧ (resOne [] = .t []) ∧ (∀ p q r, resOne (p :: q :: r) = .t (p :: q :: r)) ∧ (∀ y, PV.isV (.c y) = true) ∧ (∀ y, PV.isV (.a y) = true) ∧ (PV.isV .x = true)) := by
  refine ⟨⟨?_, ?_, ?_⟩, ⟨?_, ?_, ?_, ?_⟩, ?_, ?_, ?_, ?_, ?_, ?_⟩ <;> (intros; rfl)
/-- slots that are forgotten -/
theorem s_fg : (∀ E, Env.forget E [] = E) ∧ (∀ E i r, Env.forget E (i :: r) = Env.forget (E.erase i) r) ∧ (∀ n na t i, Env.erase ⟨n, na, t⟩ i = ⟨n, na, t.put (i / 64) ((t.get (i / 64)).put (i / 8 % 8) (((t.get (i / 64)).get (i / 8 % 8)).put (i % 8) .nil))⟩) :=
  ⟨fun _ => rfl, fun _ _ _ => rfl, fun _ _ _ _ => rfl⟩
/-- guards and choices -/
theorem s_gd : ((∀ b : Bool, (b = false → (b == false) = true) = True) ∧ (∀ b : Bool, (b = true → (b == true) = true) = True) ∧ (∀ c b : Bool, (if c = true then true else b) = (c || b)) ∧ (∀ c b : Bool, (if c = true then b else false) = (c && b))) ∧
    ((∀ c : Bool, (c == true) = c) ∧ (∀ c : Bool, (c == false) = !c) ∧ (∀ b : Bool, (b = false → (!b) = true) = True) ∧ (∀ b : Bool, (b = true → b = true) = True)) := by
  refine ⟨⟨?_, ?_, ?_, ?_⟩, ?_, ?_, ?_, ?_⟩ <;> (intro b; first | (intro c; cases b <;> cases c <;> rfl) | (cases b <;> simp))
/-- truths -/
theorem s_b :
    ((∀ p [Decidable p], (decide p = true) = p) ∧ (∀ p [Decidable p], (decide p = false) = ¬ p) ∧ (∀ a b : Bool, ((a && b) = true) = (a = true ∧ b = true)) ∧ (∀ a b : Bool, ((a || b) = true) = (a = true ∨ b = true)) ∧
     (∀ a b : Bool, ((a && b) = false) = (a = false ∨ b = false)) ∧ (∀ a b : Bool, ((a || b) = false) = (a = false ∧ b = false)) ∧ (∀ a : Bool, ((!a) = true) = (a = false)) ∧ (∀ a : Bool, ((!a) = false) = (a = true))) ∧
    ((∀ a b : Int, ((a == b) = true) = (a = b)) ∧ (∀ a b : Int, ((a == b) = false) = ¬ (a = b)) ∧ (∀ a b : Int, ((a != b) = true) = ¬ (a = b)) ∧ (∀ a b : Int, ((a != b) = false) = (a = b)) ∧
     (∀ a b : List UInt8, ((a == b) = true) = (a = b)) ∧ (∀ a b : List UInt8, ((a == b) = false) = ¬ (a = b))) ∧
    ((∀ c b : Bool, ((if c = true then true else b) = true) = (c = true ∨ b = true)) ∧ (∀ c b : Bool, ((if c = true then true else b) = false) = (c = false ∧ b = false)) ∧
     (∀ c b : Bool, ((if c = true then b else false) = true) = (c = true ∧ b = true)) ∧ (∀ c b : Bool, ((if c = true then b else false) = false) = (c = false ∨ b = false))) := by
  refine ⟨⟨?_, ?_, ?_, ?_, ?_, ?_, ?_, ?_⟩, ⟨?_, ?_, ?_, ?_, ?_, ?_⟩, ?_, ?_, ?_, ?_⟩
  all_goals first
    | (intro a b; cases a <;> cases b <;> simp; done)
    | (intro a; cases a <;> simp; done)
    | (intros; simp)
end Pam

/- A contract's end: own blocks that nothing speaks of any more are let go. -/
namespace Pam
open Go

def psUnderV (n : Nat) : List PV → Prop
  | [] => True
  | p :: r => p.under n ∧ psUnderV n r
/-- no reference to own blocks from n on, a tuple's too -/
def PV.underP (n : Nat) : PV → Prop
  | .t ps => psUnderV n ps
  | p => p.under n

theorem RepV.drop {G G' : Gh} {n : Nat} (hH : G'.H = G.H) (ho : G'.own = G.own.take n) {p : PV} {v : Value} (hb : p.under n) (h : RepV G p v) : RepV G' p v := by
  cases p with
  | x => trivial
  | c y => exact Rep.drop hH ho hb h
  | a ys => obtain ⟨vs, rfl, h2⟩ := h; exact ⟨vs, rfl, All2.under hH ho hb h2⟩
  | t ps => exact hb.elim

theorem RepP.dropP {G G' : Gh} {n : Nat} (hH : G'.H = G.H) (ho : G'.own = G.own.take n) {p : PV} {v : Value} (hb : p.underP n) (h : RepP G p v) : RepP G' p v := by
  cases p with
  | x => trivial
  | c y => exact RepP.drop (p := .c y) hH ho hb h
  | a ys => exact RepP.drop (p := .a ys) hH ho hb h
  | t ps =>
    obtain ⟨vs, rfl, h2⟩ := h
    refine ⟨vs, rfl, ?_⟩
    have hb' : psUnderV n ps := hb
    clear hb
    induction ps generalizing vs with
    | nil => cases vs <;> simp_all [All2]
    | cons p ps ih =>
      cases vs with
      | nil => simp [All2] at h2
      | cons v vs => exact ⟨RepV.drop hH ho hb'.1 h2.1, ih vs h2.2 hb'.2⟩

/-- what a contract leaves may be less -/
def Left (n : Nat) (post : PV → List OB → Prop) (p : PV) (σ : List OB) : Prop :=
  ∃ τ, OBpre τ σ ∧ n ≤ τ.length ∧ obsBelow τ.length τ ∧ p.underP τ.length ∧ post p τ

theorem Spec.drop {P : Program} {f : FuncId} {args : List PV} {σ : List OB} {post pp : PV → List OB → Prop} (h : Spec P f args σ (Left σ.length post) pp) : Spec P f args σ post pp := by
  refine ⟨h.1, fun G w vs hna hi ha => (h.2 G w vs hna hi ha).mono fun e w' hr => ?_⟩
  obtain ⟨G', σ', p, v, h1, h2, h3, h4⟩ := hr
  rcases h4 with ⟨rfl, τ, k1, k2, k3, k4, k5⟩ | h4
  · obtain ⟨ρ, rfl⟩ := OBpre_ex k1
    refine ⟨{ G' with own := G'.own.take τ.length }, τ, p, v, ⟨⟨h1.le.H, h1.le.F, h1.le.w0, h1.le.na⟩, ?_⟩, h2.drop k3, RepP.dropP (G := G') (G' := { G' with own := G'.own.take τ.length }) rfl rfl k4 h3, .inl ⟨rfl, k5⟩⟩
    intro b oo hb hoo
    obtain ⟨oo', q1, q2⟩ := h1.own b oo hb hoo
    refine ⟨oo', ?_, q2⟩
    simp only
    rw [List.getElem?_take_of_lt (by omega)]; exact q1
  · exact ⟨G', σ', p, v, h1, h2, h3, .inr h4⟩

theorem Spec_ofD {P : Program} {σ : List OB} {f : FuncId} {fn : Func} {c : Code} {args : List PV} {post pp : PV → List OB → Prop} (n : Nat) (rs : List ResultVar) (hf : P.funcs[f]? = some fn) (hb : fn.body = some c) (hn : fn.ntmps = n) (hr : fn.results.toList = rs)
    (hname : (fn.name == "runtime.NumGoroutine") = false) (hlen : args.length ≤ n)
    (h : W P c (KBody P rs (Left σ.length post) pp) (Env.ofList n σ.length (argSlots 0 args)) σ) : Spec P f args σ post pp :=
  Spec.drop (Spec_of n rs hf hb hn hr hname hlen h)

theorem Left_mk {n : Nat} {post : PV → List OB → Prop} {p : PV} {σ : List OB} (τ : List OB) (h : OBpre τ σ ∧ n ≤ τ.length ∧ obsBelow τ.length τ ∧ p.underP τ.length ∧ post p τ) : Left n post p σ := ⟨τ, h⟩
theorem s_under : ((∀ n ps, PV.underP n (.t ps) = psUnderV n ps) ∧ (∀ n y, PV.underP n (.c y) = y.under n) ∧ (∀ n ys, PV.underP n (.a ys) = cvsBelow n ys) ∧ (∀ n, PV.underP n .x = True)) ∧
    ((∀ n, psUnderV n [] = True) ∧ (∀ n p r, psUnderV n (p :: r) = (p.under n ∧ psUnderV n r))) := by
  refine ⟨⟨?_, ?_, ?_, ?_⟩, ?_, ?_⟩ <;> (intros; rfl)

/-- the end of a body, the own blocks that stay named -/
theorem KBody_ret {P : Program} {rs : List ResultVar} {n : Nat} {post pp : PV → List OB → Prop} {E : Env} {σ : List OB} (τ : List OB)
    (h : match resAll P E σ rs with | some (C, ps) => C ∧ ps.all PV.isV = true ∧ (OBpre τ σ ∧ n ≤ τ.length ∧ obsBelow τ.length τ ∧ (resOne ps).underP τ.length ∧ post (resOne ps) τ) | none => False) : KBody P rs (Left n post) pp .ret E σ := by
  simp only [KBody]
  split at h
  · rename_i C ps e
    rw [e]
    exact ⟨h.1, h.2.1, τ, h.2.2⟩
  · exact h.elim
theorem KBody_nrm {P : Program} {rs : List ResultVar} {n : Nat} {post pp : PV → List OB → Prop} {E : Env} {σ : List OB} (τ : List OB)
    (h : match resAll P E σ rs with | some (C, ps) => C ∧ ps.all PV.isV = true ∧ (OBpre τ σ ∧ n ≤ τ.length ∧ obsBelow τ.length τ ∧ (resOne ps).underP τ.length ∧ post (resOne ps) τ) | none => False) : KBody P rs (Left n post) pp .normal E σ := by
  simp only [KBody]
  split at h
  · rename_i C ps e
    rw [e]
    exact ⟨h.1, h.2.1, τ, h.2.2⟩
  · exact h.elim
end Pam

/- Ghost steps: an own array becomes a tree that stays. -/
namespace Pam
open Go

/-- what was known is known in another form, in the same world -/
def Ghost (E : Env) (σ : List OB) (E' : Env) (σ' : List OB) : Prop :=
  ∀ (G : Gh) (a : Act) (w : World), Sim G E σ a w → ∃ G', Gle G G' ∧ Sim G' E' σ' a w

theorem W_ghost {P : Program} {c : Code} {K : Kt} {E E' : Env} {σ σ' : List OB} (hg : Ghost E σ E' σ') (h : W P c K E' σ') : W P c K E σ := fun G a w hs => by
  obtain ⟨G', h1, h2⟩ := hg G a w hs
  exact Code.wp_mono (fun _ _ _ hq => PostX.back h1 hq) (h G' a w h2)

theorem RunCall_ghost {P : Program} {ops : Array Oper} {γ : Bool} {C C' : Prop} {f f' : FuncId} {args args' : List PV} {o : Oper} {r : List Oper} {E E' : Env} {σ σ' : List OB} {k : Env → List OB → Prop} {kp : PV → Env → List OB → Prop}
    (hg : Ghost E σ E' σ') (hguard : guardOf ops E' o.guard = some γ) (hrun : run1 P γ E' σ' o.op = .call C' f' args') (h : RunCall P ops γ C' f' args' o r E' σ' k kp) : RunCall P ops γ C f args o r E σ k kp := by
  intro _ _ G a w hs
  obtain ⟨G', h1, h2⟩ := hg G a w hs
  exact wpList_mono (fun _ _ _ hq => PostX.back h1 hq) _ _ _ (h hrun hguard G' a w h2)

/-- the operations that are left, from another form of what is known -/
theorem RunCall_turn {P : Program} {ops : Array Oper} {γ : Bool} {C : Prop} {f : FuncId} {args : List PV} {o : Oper} {r : List Oper} {E E' : Env} {σ σ' : List OB} {k : Env → List OB → Prop} {kp : PV → Env → List OB → Prop}
    (hg : Ghost E σ E' σ') (h : runOps P ops (o :: r) E' σ' k kp) : RunCall P ops γ C f args o r E σ k kp := by
  intro _ _ G a w hs
  obtain ⟨G', h1, h2⟩ := hg G a w hs
  exact wpList_mono (fun _ _ _ hq => PostX.back h1 hq) _ _ _ (runOps_ok _ _ _ _ _ h G' a w h2)

/-- a reference to the own array b, when that has become a tree -/
def CV.frO (b ver s : Nat) (es : List (List CV)) : CV → CV
  | .osl b' v lo len => if b' = b then (if v = ver ∧ lo + len ≤ es.length then .tree s ((es.drop lo).take len) else .junk) else .osl b' v lo len
  | .oel b' v i j => if b' = b then .junk else .oel b' v i j
  | .optr b' off => if b' = b then .junk else .optr b' off
  | .fn f caps => .fn f caps
  | .junk => .junk
  | .bool x => .bool x
  | .int k n => .int k n
  | .str x => .str x
  | .nilp => .nilp
  | .nils => .nils
  | .nilf => .nilf
  | .nili => .nili
  | .emp => .emp
  | .emn => .emn
  | .tree s' es' => .tree s' es'
  | .tptr s' es' i j => .tptr s' es' i j
  | .ifc T g cs => .ifc T g cs
def CV.fr (b ver s : Nat) (es : List (List CV)) : CV → CV
  | .fn f caps => .fn f (caps.map (CV.frO b ver s es))
  | c => c.frO b ver s es
def PV.fr (b ver s : Nat) (es : List (List CV)) : PV → PV
  | .x => .x
  | .c y => .c (y.fr b ver s es)
  | .a ys => .a (ys.map (CV.fr b ver s es))
  | .t _ => .x
def OB.fr (b ver s : Nat) (es : List (List CV)) : OB → OB
  | .box cs => .box (cs.map (CV.fr b ver s es))
  | .arr s' v T e => .arr s' v T e
  | .dead => .dead
def Tr.fr (b ver s : Nat) (es : List (List CV)) : Tr → Tr
  | .nil => .nil
  | .leaf e => .leaf ⟨e.cond && (match e.v with | .t _ => false | _ => true), e.v.fr b ver s es⟩
  | .node a0 a1 a2 a3 a4 a5 a6 a7 => .node (a0.fr b ver s es) (a1.fr b ver s es) (a2.fr b ver s es) (a3.fr b ver s es) (a4.fr b ver s es) (a5.fr b ver s es) (a6.fr b ver s es) (a7.fr b ver s es)
def Env.fr (b ver s : Nat) (es : List (List CV)) (E : Env) : Env := ⟨E.n, E.na, E.t.fr b ver s es⟩

theorem Tr.fr_get (b ver s : Nat) (es : List (List CV)) (t : Tr) (j : Nat) : (t.fr b ver s es).get j = (t.get j).fr b ver s es := by
  rcases Nat.lt_or_ge j 8 with hj | hj
  · have hj' : j = 0 ∨ j = 1 ∨ j = 2 ∨ j = 3 ∨ j = 4 ∨ j = 5 ∨ j = 6 ∨ j = 7 := by omega
    cases t <;> rcases hj' with rfl | rfl | rfl | rfl | rfl | rfl | rfl | rfl <;> rfl
  · rw [Tr.get_big _ _ hj, Tr.get_big _ _ hj]; rfl
theorem Tr.fr_ent (b ver s : Nat) (es : List (List CV)) (t : Tr) : (t.fr b ver s es).ent = ⟨t.ent.cond && (match t.ent.v with | .t _ => false | _ => true), t.ent.v.fr b ver s es⟩ := by
  cases t <;> rfl

/-- the ghost, when the own array b at o has become a tree -/
def frG (G : Gh) (w : World) (b : Nat) (o : OG) : Gh :=
  { G with H := fun x => if o.has = true ∧ x = o.blk then w.heap[x]? else G.H x, own := G.own.set b none }

section
variable {G : Gh} {σ : List OB} {w : World} {b s ver : Nat} {T : TypeId} {es : List (List CV)} {o : OG}

theorem frG_H (hi : Inv G σ w) (ho : G.own[b]? = some (some o)) : ∀ x y, G.H x = some y → (frG G w b o).H x = some y := by
  intro x y h
  simp only [frG]
  split
  · rename_i hc
    have := (hi.sep b o ho hc.1).1
    rw [hc.2] at h; rw [this] at h; cases h
  · exact h

theorem frG_own (ho : G.own[b]? = some (some o)) : OwnLe G.own (G.own.set b none) := by
  intro x oo h
  by_cases e : x = b
  · subst e
    have hlt : x < G.own.length := (List.getElem?_eq_some_iff.1 h).1
    exact ⟨none, by simp [hlt], fun o' ho' => by cases ho'⟩
  · exact ⟨oo, by rw [List.getElem?_set_ne (Ne.symm e)]; exact h, fun o' ho' => ⟨o', ho', .inl rfl⟩⟩

theorem frRepO (hi : Inv G σ w) (hσ : σ[b]? = some (.arr s ver T es)) (ho : G.own[b]? = some (some o)) {c : CV} {v : Value} (h : RepO G c v) : RepO (frG G w b o) (c.frO b ver s es) v := by
  have h1 : v.oneCell' = true := RepO.one h
  have hm : ∀ {c}, RepO G c v → RepO (frG G w b o) c v := fun h => RepO.mono (frG_H hi ho) (frG_own ho) h
  have junk : RepO (frG G w b o) .junk v := .junk v h1
  cases c <;> simp only [CV.frO] <;> try exact hm h
  case optr b' off =>
    split
    · exact junk
    · exact hm h
  case oel b' v' i j =>
    split
    · exact junk
    · exact hm h
  case osl b' v' lo len =>
    split
    · rename_i e
      subst e
      split
      · rename_i hc
        obtain ⟨rfl, hle⟩ := hc
        obtain ⟨_, oo, k1, k2⟩ := h
        rw [ho] at k1
        simp only [Option.some.injEq] at k1
        obtain ⟨o', g1, g2, g3, g4, g5, g6, g7, g8, g9⟩ := hi.own b' _ hσ
        rw [ho] at g1
        simp only [Option.some.injEq] at g1
        subst g1
        obtain ⟨q1, q2⟩ := k2 o k1.symm
        obtain ⟨q3, a, rfl, q4⟩ := q2 g2.symm
        have hlen : ((es.drop lo).take len).length = len := by simp; omega
        show RepT _ _ _
        rcases Nat.eq_zero_or_pos len with e0 | e0
        · subst e0
          simp only [List.take_zero]
          exact .tree0 s a _ (fun h => by
            cases hh : o.has with
            | true => obtain ⟨a', e, _⟩ := q4 hh; rw [h] at e; cases e
            | false => have := g8 hh; omega)
        · have hh : o.has = true := by
            cases hh : o.has with
            | true => rfl
            | false => have := g8 hh; omega
          obtain ⟨a', rfl, q5⟩ := q4 hh
          have := q5 (by omega)
          subst this
          obtain ⟨c, fz, r1, r2, r3, r4⟩ := g9 hh
          have hget : ∀ (i : Nat) (e : List CV), ((es.drop lo).take len)[i]? = some e → es[lo + i]? = some e := by
            intro i e h
            rw [List.getElem?_take] at h
            split at h
            · rwa [List.getElem?_drop] at h
            · cases h
          have hr := RepT.tree (H := (frG G w b' o).H) s ((es.drop lo).take len) o.blk (lo * o.sz) (o.cap - lo) c T fz (fun i j => (c[lo * o.sz + i * s + j]?).getD undef) (by simp [frG, hh, r1]) (by omega)
            (fun i e h => g7 e (List.mem_of_getElem? (hget i e h)))
            (fun i j e x h1 h2 => by
              obtain ⟨v, r5, _⟩ := r4 (lo + i) j e x (hget i e h1) h2
              have : lo * o.sz + i * s + j = (lo + i) * s + j := by rw [g3, Nat.add_mul]
              rw [this, r5]; rfl)
            (fun i j e x h1 h2 => by
              obtain ⟨v, r5, r6⟩ := r4 (lo + i) j e x (hget i e h1) h2
              have : lo * o.sz + i * s + j = (lo + i) * s + j := by rw [g3, Nat.add_mul]
              rw [this, r5]
              exact RepT.mono (frG_H hi ho) r6)
          rw [hlen] at hr
          exact hr
      · exact junk
    · exact hm h

theorem frRep (hi : Inv G σ w) (hσ : σ[b]? = some (.arr s ver T es)) (ho : G.own[b]? = some (some o)) {c : CV} {v : Value} (h : Rep G c v) : Rep (frG G w b o) (c.fr b ver s es) v := by
  cases c
  case fn f caps =>
    obtain ⟨vs, rfl, h2⟩ := h
    refine ⟨vs, rfl, ?_⟩
    induction caps generalizing vs with
    | nil => cases vs <;> simp_all [All2]
    | cons c cs ih =>
      cases vs with
      | nil => simp [All2] at h2
      | cons v vs => exact ⟨frRepO hi hσ ho h2.1, ih vs h2.2⟩
  all_goals first
    | exact frRepO hi hσ ho (c := .junk) h
    | exact frRepO hi hσ ho (c := .bool _) h
    | exact frRepO hi hσ ho (c := .int _ _) h
    | exact frRepO hi hσ ho (c := .str _) h
    | exact frRepO hi hσ ho (c := .nilp) h
    | exact frRepO hi hσ ho (c := .nils) h
    | exact frRepO hi hσ ho (c := .nilf) h
    | exact frRepO hi hσ ho (c := .nili) h
    | exact frRepO hi hσ ho (c := .emp) h
    | exact frRepO hi hσ ho (c := .emn) h
    | exact frRepO hi hσ ho (c := .tree _ _) h
    | exact frRepO hi hσ ho (c := .tptr _ _ _ _) h
    | exact frRepO hi hσ ho (c := .ifc _ _ _) h
    | skip
  case optr b' off =>
    have := frRepO hi hσ ho (c := .optr b' off) h
    simp only [CV.fr]
    by_cases e : b' = b <;> simp only [CV.frO, e, if_true, if_false] at this ⊢ <;> exact this
  case osl b' v' lo len =>
    have := frRepO hi hσ ho (c := .osl b' v' lo len) h
    simp only [CV.fr]
    by_cases e : b' = b
    · by_cases e2 : v' = ver ∧ lo + len ≤ es.length <;> simp only [CV.frO, e, e2, if_true, if_false] at this ⊢ <;> exact this
    · simp only [CV.frO, e, if_false] at this ⊢; exact this
  case oel b' v' i j =>
    have := frRepO hi hσ ho (c := .oel b' v' i j) h
    simp only [CV.fr]
    by_cases e : b' = b <;> simp only [CV.frO, e, if_true, if_false] at this ⊢ <;> exact this

theorem frAll (hi : Inv G σ w) (hσ : σ[b]? = some (.arr s ver T es)) (ho : G.own[b]? = some (some o)) : ∀ {cs : List CV} {vs : List Value}, All2 (Rep G) cs vs → All2 (Rep (frG G w b o)) (cs.map (CV.fr b ver s es)) vs
  | [], [], _ => trivial
  | _ :: _, _ :: _, h => ⟨frRep hi hσ ho h.1, frAll hi hσ ho h.2⟩

theorem frInv (hi : Inv G σ w) (hσ : σ[b]? = some (.arr s ver T es)) (ho : G.own[b]? = some (some o)) : Inv (frG G w b o) ((σ.set b .dead).map (OB.fr b ver s es)) w := by
  have hH := frG_H (b := b) hi ho
  have hblt : b < G.own.length := (List.getElem?_eq_some_iff.1 ho).1
  have hne : ∀ (x : Nat) (o' : OG), (G.own.set b none)[x]? = some (some o') → x ≠ b ∧ G.own[x]? = some (some o') := by
    intro x o' h
    by_cases e : x = b
    · subst e; simp [hblt] at h
    · rw [List.getElem?_set_ne (Ne.symm e)] at h; exact ⟨e, h⟩
  refine ⟨?_, hi.hF, ?_, by simp [frG, hi.len], ?_, fun x x' o1 o2 h1 h2 => hi.inj x x' o1 o2 (hne _ _ h1).2 (hne _ _ h2).2, ?_, hi.os, hi.tape, hi.output, hi.grow⟩
  · intro x y h
    simp only [frG] at h
    split at h
    · exact h
    · exact hi.hH x y h
  · intro x y h
    simp only [frG]
    split
    · rename_i hc
      have := (hi.sep b o ho hc.1).2
      have h : G.F x = some y := h
      rw [hc.2] at h; rw [this] at h; cases h
    · exact hi.HF x y h
  · intro x ob h
    rw [List.getElem?_map, Option.map_eq_some_iff] at h
    obtain ⟨ob', h1, rfl⟩ := h
    by_cases e : x = b
    · subst e
      have hlt : x < σ.length := (List.getElem?_eq_some_iff.1 hσ).1
      simp only [List.getElem?_set_self hlt, Option.some.injEq] at h1
      subst h1
      simp [OB.fr, OwnOk, frG, hblt]
    · rw [List.getElem?_set_ne (Ne.symm e)] at h1
      have hx : (frG G w b o).own[x]? = G.own[x]? := by simp only [frG]; exact List.getElem?_set_ne (Ne.symm e)
      have hok := hi.own x ob' h1
      cases ob' with
      | dead => simpa [OB.fr, OwnOk, hx] using hok
      | box cs =>
        obtain ⟨o', c, T', g1, g2, g3, g4, g5⟩ := hok
        exact ⟨o', c, T', hx.trans g1, g2, g3, g4, frAll hi hσ ho g5⟩
      | arr s' v' T' e' =>
        obtain ⟨o', g1, g2, g3, g4, g5, g6, g7, g8, g9⟩ := hok
        refine ⟨o', hx.trans g1, g2, g3, g4, g5, g6, g7, g8, fun hh => ?_⟩
        obtain ⟨c, fz, r1, r2, r3, r4⟩ := g9 hh
        exact ⟨c, fz, r1, r2, r3, fun i j e y p1 p2 => by obtain ⟨v, p3, p4⟩ := r4 i j e y p1 p2; exact ⟨v, p3, RepT.mono hH p4⟩⟩
  · intro x o' h hh
    obtain ⟨e, h'⟩ := hne _ _ h
    obtain ⟨s1, s2⟩ := hi.sep x o' h' hh
    refine ⟨?_, s2⟩
    simp only [frG]
    split
    · rename_i hc
      exact (e (hi.inj x b o' o h' ho hh hc.1 hc.2)).elim
    · exact s1
end

/-- an own array becomes a tree -/
theorem Ghost_fr {E : Env} {σ : List OB} (b : Nat) {s ver : Nat} {T : TypeId} {es : List (List CV)} (hσ : σ[b]? = some (.arr s ver T es)) : Ghost E σ (E.fr b ver s es) ((σ.set b .dead).map (OB.fr b ver s es)) := by
  intro G a w hs
  have hi := hs.inv
  obtain ⟨o, ho, _⟩ := hi.own b _ hσ
  refine ⟨frG G w b o, .mk' ⟨frG_H hi ho, rfl, rfl, rfl⟩ (frG_own ho), frInv hi hσ ho, hs.defers, hs.size, hs.na, fun i hc => ?_⟩
  have hget : (E.fr b ver s es).get i = ⟨(E.get i).cond && (match (E.get i).v with | .t _ => false | _ => true), (E.get i).v.fr b ver s es⟩ := by
    unfold Env.get Env.fr
    simp only
    rw [Tr.fr_get, Tr.fr_get, Tr.fr_get, Tr.fr_ent]
  rw [hget] at hc ⊢
  simp only [Bool.and_eq_true] at hc
  have hr := hs.slot i hc.1
  cases hv : (E.get i).v with
  | x => trivial
  | c y => rw [hv] at hr; exact frRep hi hσ ho hr
  | a ys => rw [hv] at hr; obtain ⟨vs, e, h2⟩ := hr; exact ⟨vs, e, frAll hi hσ ho h2⟩
  | t ps => rw [hv] at hc; simp at hc
/-- rules for that -/
theorem s_fr :
    ((∀ b v s es n na t, Env.fr b v s es ⟨n, na, t⟩ = ⟨n, na, t.fr b v s es⟩) ∧ (∀ b v s es, Tr.fr b v s es .nil = .nil) ∧ (∀ b v s es c y, Tr.fr b v s es (.leaf ⟨c, .c y⟩) = .leaf ⟨c, .c (y.fr b v s es)⟩) ∧ (∀ b v s es c ys, Tr.fr b v s es (.leaf ⟨c, .a ys⟩) = .leaf ⟨c, .a (ys.map (CV.fr b v s es))⟩) ∧
     (∀ b v s es c ps, Tr.fr b v s es (.leaf ⟨c, .t ps⟩) = .leaf ⟨false, .x⟩) ∧ (∀ b v s es c, Tr.fr b v s es (.leaf ⟨c, .x⟩) = .leaf ⟨c, .x⟩) ∧
     (∀ b v s es a0 a1 a2 a3 a4 a5 a6 a7, Tr.fr b v s es (.node a0 a1 a2 a3 a4 a5 a6 a7) = .node (a0.fr b v s es) (a1.fr b v s es) (a2.fr b v s es) (a3.fr b v s es) (a4.fr b v s es) (a5.fr b v s es) (a6.fr b v s es) (a7.fr b v s es))) ∧
    ((∀ b v s es, OB.fr b v s es .dead = .dead) ∧ (∀ b v s es cs, OB.fr b v s es (.box cs) = .box (cs.map (CV.fr b v s es))) ∧ (∀ b v s es s' v' T e, OB.fr b v s es (.arr s' v' T e) = .arr s' v' T e)) ∧
    ((∀ b v s es x, CV.fr b v s es (.bool x) = .bool x) ∧ (∀ b v s es k n, CV.fr b v s es (.int k n) = .int k n) ∧ (∀ b v s es x, CV.fr b v s es (.str x) = .str x) ∧ (∀ b v s es, CV.fr b v s es .nilp = .nilp) ∧ (∀ b v s es, CV.fr b v s es .nils = .nils) ∧
     (∀ b v s es, CV.fr b v s es .nilf = .nilf) ∧ (∀ b v s es, CV.fr b v s es .nili = .nili) ∧ (∀ b v s es, CV.fr b v s es .emp = .emp) ∧ (∀ b v s es, CV.fr b v s es .emn = .emn) ∧ (∀ b v s es, CV.fr b v s es .junk = .junk) ∧ (∀ b v s es s' e', CV.fr b v s es (.tree s' e') = .tree s' e') ∧
     (∀ b v s es s' e' i j, CV.fr b v s es (.tptr s' e' i j) = .tptr s' e' i j) ∧ (∀ b v s es T g cs, CV.fr b v s es (.ifc T g cs) = .ifc T g cs)) ∧
    ((∀ b v s es b' v' lo len, CV.fr b v s es (.osl b' v' lo len) = if b' = b then (if v' = v ∧ lo + len ≤ es.length then .tree s ((es.drop lo).take len) else .junk) else .osl b' v' lo len) ∧
     (∀ b v s es b' v' i j, CV.fr b v s es (.oel b' v' i j) = if b' = b then .junk else .oel b' v' i j) ∧ (∀ b v s es b' off, CV.fr b v s es (.optr b' off) = if b' = b then .junk else .optr b' off) ∧
     (∀ b v s es f caps, CV.fr b v s es (.fn f caps) = .fn f (caps.map (CV.frO b v s es)))) := by
  refine ⟨⟨?_, ?_, ?_, ?_, ?_, ?_, ?_⟩, ⟨?_, ?_, ?_⟩, ⟨?_, ?_, ?_, ?_, ?_, ?_, ?_, ?_, ?_, ?_, ?_, ?_, ?_⟩, ?_, ?_, ?_, ?_⟩
  all_goals intros
  all_goals first | rfl | (simp [Tr.fr, PV.fr]; done)
/-- captured cells -/
theorem s_cap : (∀ n f, CV.under n (.fn f []) = True) ∧ (∀ n f b off r, CV.under n (.fn f (.optr b off :: r)) = (b < n ∧ CV.under n (.fn f r))) ∧ (∀ n f b v lo k r, CV.under n (.fn f (.osl b v lo k :: r)) = (b < n ∧ CV.under n (.fn f r))) ∧
    (∀ n f k i r, CV.under n (.fn f (.int k i :: r)) = CV.under n (.fn f r)) ∧ (∀ n f k i r, CV.under n (.fn f (.tree k i :: r)) = CV.under n (.fn f r)) ∧ (∀ n f s r, CV.under n (.fn f (.str s :: r)) = CV.under n (.fn f r)) ∧ (∀ n f s r, CV.under n (.fn f (.bool s :: r)) = CV.under n (.fn f r)) := by
  refine ⟨?_, ?_, ?_, ?_, ?_, ?_, ?_⟩ <;> intros <;> simp [CV.under]
theorem dst_ok {E : Env} {d : Nat} (h : Nat.ble (d + 1) E.n = true) : dstOk E (some d) := Nat.le_of_ble_eq_true h
def PV.ren1 (r : Nat → Nat) : PV → PV
  | .c y => .c (y.ren r)
  | .a ys => .a (ys.map (CV.ren r))
  | q => q
/-- references that are carried over a call -/
theorem s_ren :
    ((∀ r y, PV.ren r (.c y) = .c (y.ren r)) ∧ (∀ r ys, PV.ren r (.a ys) = .a (ys.map (CV.ren r))) ∧ (∀ r, PV.ren r .x = .x) ∧ (∀ r ps, PV.ren r (.t ps) = .t (ps.map (PV.ren1 r))) ∧ (∀ r y, PV.ren1 r (.c y) = .c (y.ren r)) ∧ (∀ r ys, PV.ren1 r (.a ys) = .a (ys.map (CV.ren r)))) ∧
    ((∀ r cs, OB.ren r (.box cs) = .box (cs.map (CV.ren r))) ∧ (∀ r, OB.ren r .dead = .dead) ∧ (∀ r s v T es, OB.ren r (.arr s v T es) = .arr s v T es)) ∧
    ((∀ r x, CV.ren r (.bool x) = .bool x) ∧ (∀ r k n, CV.ren r (.int k n) = .int k n) ∧ (∀ r x, CV.ren r (.str x) = .str x) ∧ (∀ r, CV.ren r .nilp = .nilp) ∧ (∀ r, CV.ren r .nils = .nils) ∧ (∀ r, CV.ren r .nilf = .nilf) ∧ (∀ r, CV.ren r .nili = .nili) ∧ (∀ r, CV.ren r .emp = .emp) ∧ (∀ r, CV.ren r .emn = .emn) ∧ (∀ r, CV.ren r .junk = .junk) ∧
     (∀ r s es, CV.ren r (.tree s es) = .tree s es) ∧ (∀ r s es i j, CV.ren r (.tptr s es i j) = .tptr s es i j) ∧ (∀ r T g cs, CV.ren r (.ifc T g cs) = .ifc T g cs)) ∧
    ((∀ r b off, CV.ren r (.optr b off) = .optr (r b) off) ∧ (∀ r b v lo n, CV.ren r (.osl b v lo n) = .osl (r b) v lo n) ∧ (∀ r b v i j, CV.ren r (.oel b v i j) = .oel (r b) v i j) ∧ (∀ r f caps, CV.ren r (.fn f caps) = .fn f (caps.map (CV.ren0 r))) ∧
     (∀ r b off, CV.ren0 r (.optr b off) = .optr (r b) off) ∧ (∀ r b v lo n, CV.ren0 r (.osl b v lo n) = .osl (r b) v lo n) ∧ (∀ r k n, CV.ren0 r (.int k n) = .int k n) ∧ (∀ r s es, CV.ren0 r (.tree s es) = .tree s es) ∧ (∀ r x, CV.ren0 r (.str x) = .str x) ∧ (∀ r x, CV.ren0 r (.bool x) = .bool x)) ∧
    ((∀ n ρ k, back n ρ k = if k < ρ.length then ρ.getD k 0 else n + (k - ρ.length)) ∧ (∀ {α : Type} (σ xs : List α), place σ [] xs = σ ++ xs) ∧ (∀ {α : Type} (σ xs : List α) b ρ x, place σ (b :: ρ) (x :: xs) = place (σ.set b x) ρ xs)) := by
  refine ⟨⟨?_, ?_, ?_, ?_, ?_, ?_⟩, ⟨?_, ?_, ?_⟩, ⟨?_, ?_, ?_, ?_, ?_, ?_, ?_, ?_, ?_, ?_, ?_, ?_, ?_⟩, ⟨?_, ?_, ?_, ?_, ?_, ?_, ?_, ?_, ?_, ?_⟩, ?_, ?_, ?_⟩ <;> intros <;> first | rfl | simp [place]
end Pam

/- Loops as functions: what is computed is read off a plain function that may fail; the walk follows it. -/
namespace Pam
open Go

/-- so many rounds -/
def iter {S O : Type} (body : S → Option (S ⊕ O)) : Nat → S → Option O
  | 0, _ => none
  | n + 1, s => match body s with
    | none => none
    | some (.inl s') => iter body n s'
    | some (.inr o) => some o

theorem iter_more {S O : Type} {body : S → Option (S ⊕ O)} : ∀ {n : Nat} {s : S} {o : O}, iter body n s = some o → iter body (n + 1) s = some o
  | 0, _, _, h => by cases h
  | n + 1, s, o, h => by
    unfold iter at h ⊢
    cases hb : body s with
    | none => rw [hb] at h; cases h
    | some r => cases r with
      | inl s' => rw [hb] at h; exact iter_more h
      | inr o' => rw [hb] at h; exact h
theorem iter_le {S O : Type} {body : S → Option (S ⊕ O)} {n m : Nat} {s : S} {o : O} (h : iter body n s = some o) (hm : n ≤ m) : iter body m s = some o := by
  induction hm with
  | refl => exact h
  | step _ ih => exact iter_more ih

open Classical in
/-- as many rounds as it takes -/
noncomputable def loop {S O : Type} (body : S → Option (S ⊕ O)) (s : S) : Option O :=
  if h : ∃ n o, iter body n s = some o then some (Classical.choose (Classical.choose_spec h)) else none

theorem loop_iter {S O : Type} {body : S → Option (S ⊕ O)} {s : S} {o : O} (h : loop body s = some o) : ∃ n, iter body n s = some o := by
  unfold loop at h
  split at h
  · rename_i hx
    simp only [Option.some.injEq] at h
    exact ⟨_, h ▸ Classical.choose_spec (Classical.choose_spec hx)⟩
  · cases h
theorem loop_of_iter {S O : Type} {body : S → Option (S ⊕ O)} {s : S} {o : O} {n : Nat} (h : iter body n s = some o) : loop body s = some o := by
  have hx : ∃ n o, iter body n s = some o := ⟨n, o, h⟩
  cases hl : loop body s with
  | none => unfold loop at hl; rw [dif_pos hx] at hl; cases hl
  | some o' =>
    obtain ⟨m, hm⟩ := loop_iter hl
    have h1 := iter_le h (Nat.le_max_left n m)
    have h2 := iter_le hm (Nat.le_max_right n m)
    rw [h1] at h2; exact h2.symm
/-- one round -/
theorem loop_eq {S O : Type} (body : S → Option (S ⊕ O)) (s : S) : loop body s = match body s with
    | none => none
    | some (.inl s') => loop body s'
    | some (.inr o) => some o := by
  cases hb : body s with
  | none =>
    cases hl : loop body s with
    | none => rfl
    | some o =>
      obtain ⟨n, hn⟩ := loop_iter hl
      cases n with
      | zero => cases hn
      | succ n => simp [iter, hb] at hn
  | some r =>
    cases r with
    | inr o => exact loop_of_iter (n := 1) (by simp [iter, hb])
    | inl s' =>
      show loop body s = loop body s'
      cases hl : loop body s with
      | some o =>
        obtain ⟨n, hn⟩ := loop_iter hl
        cases n with
        | zero => cases hn
        | succ n => exact (loop_of_iter (n := n) (by simpa [iter, hb] using hn)).symm
      | none =>
        cases hl' : loop body s' with
        | none => rfl
        | some o =>
          obtain ⟨n, hn⟩ := loop_iter hl'
          have := loop_of_iter (body := body) (s := s) (n := n + 1) (o := o) (by simpa [iter, hb] using hn)
          rw [this] at hl; cases hl
theorem loop_next {S O : Type} {body : S → Option (S ⊕ O)} {s s' : S} (h : body s = some (.inl s')) : loop body s = loop body s' := by rw [loop_eq, h]
theorem loop_done {S O : Type} {body : S → Option (S ⊕ O)} {s : S} {o : O} (h : body s = some (.inr o)) : loop body s = some o := by rw [loop_eq, h]
/-- a loop ends, and of its end this holds -/
theorem loop_ends {S O : Type} {body : S → Option (S ⊕ O)} (inv : S → Prop) (μ : S → Nat) (post : O → Prop)
    (step : ∀ s, inv s → (∃ s', body s = some (.inl s') ∧ inv s' ∧ μ s' < μ s) ∨ (∃ o, body s = some (.inr o) ∧ post o)) (s : S) (h : inv s) : ∃ o, loop body s = some o ∧ post o := by
  have key : ∀ (m : Nat) (s : S), μ s = m → inv s → ∃ o, loop body s = some o ∧ post o := by
    intro m
    induction m using Nat.strongRecOn with
    | _ m ih =>
      intro s hm hs
      rcases step s hs with ⟨s', h1, h2, h3⟩ | ⟨o, h1, h2⟩
      · rw [loop_next h1]; exact ih (μ s') (hm ▸ h3) s' rfl h2
      · exact ⟨o, loop_done h1, h2⟩
  exact key _ s rfl h

theorem gd {α : Type} {p : Prop} [Decidable p] {m : Option α} {r : α} (h : (if p then m else none) = some r) : p ∧ m = some r := by
  split at h
  · exact ⟨by assumption, h⟩
  · cases h
theorem bd {α β : Type} {o : Option α} {f : α → Option β} {r : β} (h : o.bind f = some r) : ∃ y, o = some y ∧ f y = some r := by
  cases o with
  | none => cases h
  | some y => exact ⟨y, rfl, h⟩
/-- room for so many elements of so many bytes -/
def room (n b : Nat) : Prop := n * b ≤ 140737488355328 ∧ n ≤ maxLen
instance (n b : Nat) : Decidable (room n b) := inferInstanceAs (Decidable (_ ∧ _))

def eK (k : IntKind) (n : Int) : List CV := [.int k n]
def eB (b : Bool) : List CV := [.bool b]
def eS (s : List UInt8) : List CV := [.str s]
def eL {α : Type} (s : Nat) (f : α → List CV) (l : List α) : List CV := [.tree s (l.map f)]

section
variable {P : Program} {K : Kt} {E E0 : Env} {σ : List OB}

theorem Ghost.refl (E : Env) (σ : List OB) : Ghost E σ E σ := fun G _ _ hs => ⟨G, Gle.refl G, hs⟩
theorem Ghost.trans {E E' E'' : Env} {σ σ' σ'' : List OB} (h : Ghost E σ E' σ') (h' : Ghost E' σ' E'' σ'') : Ghost E σ E'' σ'' := fun G a w hs => by
  obtain ⟨G', g1, hs'⟩ := h G a w hs
  obtain ⟨G'', g2, hs''⟩ := h' G' a w hs'
  exact ⟨G'', g1.trans g2, hs''⟩

/-- a round's end, a ghost step ahead of it -/
def KRoundG {α : Type} (E0 : Env) (ms : List Nat) (slots : α → List (Nat × PV)) (heap : α → List OB) (inv : α → Prop) (μ : α → Nat) (x : α) (K : Kt) : Kt
  | .normal, E, σ => ∃ y E' σ', Ghost E σ E' σ' ∧ inv y ∧ μ y < μ x ∧ LessE E' σ' (E0.over ms (slots y)) (heap y)
  | e, E, σ => K e E σ

theorem W_loopG {α : Type} {c : Code} (ms : List Nat) (slots : α → List (Nat × PV)) (heap : α → List OB) (inv : α → Prop) (μ : α → Nat) (x0 : α) (h0 : inv x0) (hl : LessE E σ (E.over ms (slots x0)) (heap x0))
    (round : ∀ x, inv x → W P c (KRoundG E ms slots heap inv μ x K) (E.over ms (slots x)) (heap x)) : W P (.loop c) K E σ := fun G a w hs => by
  obtain ⟨G0, hg0, hs0⟩ := hl.sim hs
  refine Code.wp_mono (fun _ _ _ hq => PostX.back hg0 hq) ?_
  intro b k cs
  have key : ∀ (m : Nat) (x : α) (G : Gh) (a : Act) (w : World), μ x = m → inv x → Gle G0 G → Sim G (E.over ms (slots x)) (heap x) a w →
      ∃ e a' w', PostX G0 K e a' w' ∧ Arrives P (lone (b.at a (.code c :: .inLoop c :: k)) cs w) b k cs e a' w' := by
    intro m
    induction m using Nat.strongRecOn with
    | _ m ih =>
      intro x G a w hm hinv hG hs
      have hr := round x hinv G a w hs
      obtain ⟨e, a₁, w₁, hq, harr⟩ := hr b (.inLoop c :: k) cs
      obtain ⟨G', E', σ', px, g1, g2, g3, g4⟩ := hq
      cases px with
      | normal =>
        cases g3
        obtain ⟨y, E2, σ2, hgh, hy, hlt, hless⟩ := g4
        obtain ⟨G1, p1, p2⟩ := hgh G' a₁ w₁ g2
        obtain ⟨G'', q1, q2⟩ := hless.sim p2
        obtain ⟨e₂, a₂, w₂, hq₂, harr₂⟩ := ih (μ y) (hm ▸ hlt) y G'' a₁ w₁ rfl hy (hG.trans (g1.trans (p1.trans q1))) q2
        exact ⟨e₂, a₂, w₂, hq₂, .of_steps (Steps.trans harr (.one step_inLoop)) harr₂⟩
      | exit id => exact ⟨e, a₁, w₁, PostX.back hG ⟨G', E', σ', .exit id, g1, g2, g3, g4⟩, by cases g3; exact .pass (x := .inLoop c) rfl (fun _ _ => .inl (by simp)) harr⟩
      | ret => exact ⟨e, a₁, w₁, PostX.back hG ⟨G', E', σ', .ret, g1, g2, g3, g4⟩, by cases g3; exact .pass (x := .inLoop c) rfl (fun _ _ => .inl (by simp)) harr⟩
      | panic p => exact ⟨e, a₁, w₁, PostX.back hG ⟨G', E', σ', .panic p, g1, g2, g3, g4⟩, by obtain ⟨v, rfl, hv⟩ := g3; exact .pass (x := .inLoop c) rfl (fun _ _ => .inl (by simp)) harr⟩
  obtain ⟨e, a', w', hq, harr⟩ := key _ x0 G0 a w rfl h0 (Gle.refl _) hs0
  exact ⟨e, a', w', hq, .of_steps (.one step_loop) harr⟩

/-- a round's end -/
def KLoopM {S V O : Type} (E0 : Env) (ms : List Nat) (slots : S → V → List (Nat × PV)) (heap : S → V → List OB) (r : S ⊕ O) (K : Kt) : Kt
  | .normal, E, σ => ∃ s v E' σ', Ghost E σ E' σ' ∧ r = .inl s ∧ LessE E' σ' (E0.over ms (slots s v)) (heap s v)
  | e, E, σ => K e E σ

theorem W_loopM {S V O : Type} {c : Code} (ms : List Nat) (slots : S → V → List (Nat × PV)) (heap : S → V → List OB) (body : S → Option (S ⊕ O)) (s0 : S) (v0 : V) {o : O} (ho : loop body s0 = some o)
    (hl : LessE E σ (E.over ms (slots s0 v0)) (heap s0 v0))
    (round : ∀ s v r, body s = some r → (∀ o', r = .inr o' → o' = o) → W P c (KLoopM E ms slots heap r K) (E.over ms (slots s v)) (heap s v)) : W P (.loop c) K E σ := by
  obtain ⟨n, hn⟩ := loop_iter ho
  refine W_loopG (α := S × V × Nat) ms (fun x => slots x.1 x.2.1) (fun x => heap x.1 x.2.1) (fun x => iter body x.2.2 x.1 = some o) (fun x => x.2.2) (s0, v0, n) hn hl ?_
  rintro ⟨s, v, n⟩ hs
  cases n with
  | zero => cases hs
  | succ n =>
    simp only [iter] at hs
    cases hb : body s with
    | none => rw [hb] at hs; cases hs
    | some r =>
      rw [hb] at hs
      refine W.mono (fun x E' σ' h => ?_) (round s v r hb ?_)
      · cases x with
        | normal => obtain ⟨s', v', E2, σ2, hgh, e, hl'⟩ := h; subst e; exact ⟨(s', v', n), E2, σ2, hgh, hs, Nat.lt_succ_self _, hl'⟩
        | exit i => exact h
        | ret => exact h
        | panic p => exact h
      · rintro o' rfl; simpa using hs

/-- where ways meet -/
def KJoinM {S V : Type} (E0 : Env) (ms : List Nat) (slots : S → V → List (Nat × PV)) (heap : S → V → List OB) (J : S → Prop) (K : Kt) : Kt
  | .normal, E, σ => ∃ s v E' σ', Ghost E σ E' σ' ∧ J s ∧ LessE E' σ' (E0.over ms (slots s v)) (heap s v)
  | e, E, σ => K e E σ
theorem W_joinM {S V : Type} {c d : Code} (ms : List Nat) (slots : S → V → List (Nat × PV)) (heap : S → V → List OB) (J : S → Prop)
    (first : W P c (KJoinM E ms slots heap J K) E σ) (rest : ∀ s v, J s → W P d K (E.over ms (slots s v)) (heap s v)) : W P (.seq c d) K E σ :=
  W_seq (W.mono (fun x E' σ' h => by
    cases x with
    | normal => obtain ⟨s, v, E2, σ2, hg, h1, h2⟩ := h; exact W_ghost hg (W_lessE h2 (rest s v h1))
    | exit id => exact h
    | ret => exact h
    | panic p => exact h) first)
section
variable {S V O : Type} {ms : List Nat} {slots : S → V → List (Nat × PV)} {heap : S → V → List OB} {r : S ⊕ O} {J : S → Prop}
theorem KLoopM_n (s : S) (v : V) (hr : some (Sum.inl s) = some r) (hl : LessE E σ (E0.over ms (slots s v)) (heap s v)) : KLoopM E0 ms slots heap r K .normal E σ := ⟨s, v, E, σ, Ghost.refl E σ, (Option.some.inj hr).symm, hl⟩
theorem KLoopM_g {E1 : Env} {σ1 : List OB} (hg : Ghost E σ E1 σ1) (h : KLoopM E0 ms slots heap r K .normal E1 σ1) : KLoopM E0 ms slots heap r K .normal E σ := by
  obtain ⟨s, v, E2, σ2, g, h1, h2⟩ := h; exact ⟨s, v, E2, σ2, hg.trans g, h1, h2⟩
theorem KLoopM_x {i : Nat} (h : K (.exit i) E σ) : KLoopM E0 ms slots heap r K (.exit i) E σ := h
theorem KLoopM_r (h : K .ret E σ) : KLoopM E0 ms slots heap r K .ret E σ := h
theorem KLoopM_p {p : PV} (h : K (.panic p) E σ) : KLoopM E0 ms slots heap r K (.panic p) E σ := h
theorem KJoinM_n (s : S) (v : V) (hj : J s) (hl : LessE E σ (E0.over ms (slots s v)) (heap s v)) : KJoinM E0 ms slots heap J K .normal E σ := ⟨s, v, E, σ, Ghost.refl E σ, hj, hl⟩
theorem KJoinM_g {E1 : Env} {σ1 : List OB} (hg : Ghost E σ E1 σ1) (h : KJoinM E0 ms slots heap J K .normal E1 σ1) : KJoinM E0 ms slots heap J K .normal E σ := by
  obtain ⟨s, v, E2, σ2, g, h1, h2⟩ := h; exact ⟨s, v, E2, σ2, hg.trans g, h1, h2⟩
theorem KJoinM_x {i : Nat} (h : K (.exit i) E σ) : KJoinM E0 ms slots heap J K (.exit i) E σ := h
theorem KJoinM_r (h : K .ret E σ) : KJoinM E0 ms slots heap J K .ret E σ := h
theorem KJoinM_p {p : PV} (h : K (.panic p) E σ) : KJoinM E0 ms slots heap J K (.panic p) E σ := h
theorem out_eq {o o' : O} (h : some (Sum.inr o') = some r) (hr : ∀ o', r = .inr o' → o' = o) : o' = o := hr _ (Option.some.inj h).symm
end

/-- an own array that is not there yet -/
theorem Inv.nil {G : Gh} {σ : List OB} {w : World} (hi : Inv G σ w) (s : Nat) (T : TypeId) (hs : 0 < s) :
    Inv { G with own := G.own ++ [some ⟨0, s, 0, 0, false⟩] } (σ ++ [.arr s 0 T []]) w := by
  refine hi.push (.arr s 0 T []) ⟨0, s, 0, 0, false⟩ (Nat.le_refl _) (fun _ _ => rfl) (fun h => by cases h) rfl rfl rfl ?_
  have hlast : (G.own ++ [some (⟨0, s, 0, 0, false⟩ : OG)])[σ.length]? = some (some ⟨0, s, 0, 0, false⟩) := by rw [← hi.len]; simp
  exact ⟨_, hlast, rfl, rfl, hs, Nat.le_refl _, Nat.zero_le _, (fun e he => nomatch he), fun _ => rfl, fun h => absurd h (by simp)⟩
theorem nil_osl {G : Gh} {σ : List OB} {w : World} (hi : Inv G σ w) (s : Nat) {v : Value} (hv : RepT G.H .nils v) :
    RepO { G with own := G.own ++ [some ⟨0, s, 0, 0, false⟩] } (.osl σ.length 0 0 0) v := by
  have hlast : (G.own ++ [some (⟨0, s, 0, 0, false⟩ : OG)])[σ.length]? = some (some ⟨0, s, 0, 0, false⟩) := by rw [← hi.len]; simp
  cases hv
  exact ⟨rfl, _, hlast, fun o e => by
    simp only [Option.some.injEq] at e; subst e
    exact ⟨Nat.le_refl _, fun _ => ⟨Nat.le_refl _, none, rfl, fun h => by cases h⟩⟩⟩

theorem nil_tree {H : Nat → Option Obj} (s : Nat) {v : Value} (h : RepT H .nils v) : RepT H (.tree s []) v := by
  cases h
  exact .tree0 s none 0 (fun _ => rfl)

/-- a slot that holds nil is an own array without elements -/
theorem Ghost_nil (i s : Nat) (T : TypeId) (hs : 0 < s) (hE : E.get i = ⟨true, .c .nils⟩) (hin : i < E.n) : Ghost E σ (E.put i ⟨true, .c (.osl σ.length 0 0 0)⟩) (σ ++ [.arr s 0 T []]) := by
  intro G a w hs'
  refine ⟨{ G with own := G.own ++ [some ⟨0, s, 0, 0, false⟩] }, .mk' ⟨fun _ _ h => h, rfl, rfl, rfl⟩ (OwnLe.append _ _), hs'.inv.nil s T hs, hs'.defers, hs'.size, hs'.na, fun j hc => ?_⟩
  have hg := Env.get_put E i j _ hc
  rw [hg] at hc ⊢
  by_cases hj : j = i
  · subst hj
    rw [if_pos rfl]
    have := hs'.slot j (by rw [hE])
    rw [hE] at this
    exact nil_osl hs'.inv s this
  · rw [if_neg hj] at hc ⊢
    exact RepP.mono (G := G) (G' := { G with own := G.own ++ [some ⟨0, s, 0, 0, false⟩] }) (fun _ _ h => h) (OwnLe.append _ _) (hs'.slot j hc)

/-- a slot that holds nil holds a tree without elements -/
theorem Ghost_tree (i s : Nat) (hE : E.get i = ⟨true, .c .nils⟩) : Ghost E σ (E.put i ⟨true, .c (.tree s [])⟩) σ := by
  intro G a w hs'
  refine ⟨G, Gle.refl G, hs'.inv, hs'.defers, hs'.size, hs'.na, fun j hc => ?_⟩
  have hg := Env.get_put E i j _ hc
  rw [hg] at hc ⊢
  by_cases hj : j = i
  · subst hj
    rw [if_pos rfl]
    have := hs'.slot j (by rw [hE])
    rw [hE] at this
    have h' : RepT G.H .nils (a.tmps.getD j undef) := this
    show RepT G.H (.tree s []) _
    exact nil_tree s h'
  · rw [if_neg hj] at hc ⊢
    exact hs'.slot j hc
end

theorem W_joinA {P : Program} {K : Kt} {E : Env} {σ : List OB} {S V : Type} {a b d : Code} (ms : List Nat) (slots : S → V → List (Nat × PV)) (heap : S → V → List OB) (J : S → Prop)
    (first : ∀ k : Env → List OB → Prop, (∀ E' σ', W P b (KJoinM E ms slots heap J K) E' σ' → k E' σ') → W P a (KThen k (KJoinM E ms slots heap J K)) E σ)
    (rest : ∀ s v, J s → W P d K (E.over ms (slots s v)) (heap s v)) : W P (.seq a (.seq b d)) K E σ :=
  W_seq (W.mono (fun x E' σ' h => by
    cases x with
    | normal =>
      refine W_seq (W.mono (fun x E'' σ'' h' => ?_) h)
      cases x with
      | normal => obtain ⟨s, v, E2, σ2, hg, h1, h2⟩ := h'; exact W_ghost hg (W_lessE h2 (rest s v h1))
      | exit id => exact h'
      | ret => exact h'
      | panic p => exact h'
    | exit id => exact h
    | ret => exact h
    | panic p => exact h) (first _ fun _ _ h => h))

/-- truths that are the same -/
theorem s_beq : ((true == true) = true ∧ (true == false) = false ∧ (false == true) = false ∧ (false == false) = true) ∧ ((!true) = false ∧ (!false) = true) := by decide
/-- pieces of lists of elements -/
theorem s_maps :
    ((∀ {α β : Type} (f : α → β) (l : List α) (n : Nat), (l.map f).take n = (l.take n).map f) ∧ (∀ {α β : Type} (f : α → β) (l : List α) (n : Nat), (l.map f).drop n = (l.drop n).map f) ∧
     (∀ {α β : Type} (f : α → β) (l l' : List α), l.map f ++ l'.map f = (l ++ l').map f) ∧ (∀ {α : Type} (l : List α), l.take l.length = l)) := by
  refine ⟨?_, ?_, ?_, ?_⟩ <;> intros <;> simp
theorem s_frz : (∀ {α : Type} (l : List α) (n : Nat), l.length ≤ n → l.take n = l) ∧ (∀ {α : Type} (l l' : List α), (l ++ l').length = l.length + l'.length) ∧
    (∀ {α : Type} (l : List α) (i : Nat) (x : α), (l.set i x).length = l.length) ∧ (∀ {α : Type} (n : Nat) (x : α), (List.replicate n x).length = n) := by
  refine ⟨fun l n h => List.take_of_length_le h, ?_, ?_, ?_⟩ <;> intros <;> simp

/-- a list of elements, written out -/
def lit {α : Type} (l : List α) : List α := l
theorem len_lit {α : Type} (l : List α) : (lit l).length = l.length := rfl

/-- nil is a tree without elements -/
def NT : CV → CV → Prop
  | .nils, .tree _ [] => True
  | .emp, .tree _ [] => True
  | .emn, .tree _ [] => True
  | c, c' => c = c'
def NTs : List CV → List CV → Prop
  | [], [] => True
  | a :: as, b :: bs => NT a b ∧ NTs as bs
  | _, _ => False
theorem NT.rep {G : Gh} {c c' : CV} {v : Value} (h : NT c c') (hr : Rep G c v) : Rep G c' v := by
  unfold NT at h
  split at h
  · exact nil_tree _ (show RepT G.H .nils v from hr)
  · have h' : RepT G.H .emp v := hr
    show RepT G.H (.tree _ []) v
    cases h'
    exact .tree0 _ _ 0 (fun _ => rfl)
  · have h' : RepT G.H .emn v := hr
    show RepT G.H (.tree _ []) v
    cases h'
    exact .tree0 _ _ _ (fun h => by cases h)
  · subst h; exact hr
theorem NTs.rep {G : Gh} : ∀ {cs cs' : List CV} {vs : List Value}, NTs cs cs' → All2 (Rep G) cs vs → All2 (Rep G) cs' vs
  | [], [], _, _, h => h
  | _ :: _, _ :: _, _ :: _, ⟨h1, h2⟩, ⟨k1, k2⟩ => ⟨NT.rep h1 k1, NTs.rep h2 k2⟩
def NTp : PV → PV → Prop
  | .c y, .c y' => NT y y'
  | .a ys, .a ys' => NTs ys ys'
  | _, _ => False
theorem Ghost_ntS {E : Env} {σ : List OB} (i : Nat) {p : PV} (p' : PV) (hE : E.get i = ⟨true, p⟩) (h : NTp p p') : Ghost E σ (E.put i ⟨true, p'⟩) σ := by
  intro G a w hs'
  refine ⟨G, Gle.refl G, hs'.inv, hs'.defers, hs'.size, hs'.na, fun j hc => ?_⟩
  have hg := Env.get_put E i j _ hc
  rw [hg] at hc ⊢
  by_cases hj : j = i
  · subst hj
    rw [if_pos rfl]
    have := hs'.slot j (by rw [hE])
    rw [hE] at this
    cases p <;> cases p' <;> try exact h.elim
    · exact NT.rep (G := G) h this
    · obtain ⟨vs, e, h2⟩ := this; exact ⟨vs, e, NTs.rep h h2⟩
  · rw [if_neg hj] at hc ⊢
    exact hs'.slot j hc
theorem Ghost_ntB {E : Env} {σ : List OB} (b : Nat) {cs : List CV} (cs' : List CV) (hσ : σ[b]? = some (.box cs)) (h : NTs cs cs') : Ghost E σ E (σ.set b (.box cs')) := by
  intro G a w hs'
  refine ⟨G, Gle.refl G, ?_, hs'.defers, hs'.size, hs'.na, hs'.slot⟩
  have hi := hs'.inv
  have hlt : b < σ.length := (List.getElem?_eq_some_iff.1 hσ).1
  refine ⟨hi.hH, hi.hF, hi.HF, by simpa using hi.len, fun k ob hk => ?_, hi.inj, hi.sep, hi.os, hi.tape, hi.output, hi.grow⟩
  by_cases hkb : k = b
  · subst hkb
    rw [List.getElem?_set_self hlt] at hk
    simp only [Option.some.injEq] at hk; subst hk
    obtain ⟨o, c, T, h1, h2, h3, h4, h5⟩ := hi.own k _ hσ
    exact ⟨o, c, T, h1, h2, h3, h4, NTs.rep h h5⟩
  · rw [List.getElem?_set_ne (Ne.symm hkb)] at hk
    exact hi.own k ob hk

/-- what readings are known to keep, and how much they hold -/
def okI (k : IntKind) (n : Int) : Prop := k.min ≤ n ∧ n ≤ k.max
def okT {α : Type} (_ : α) : Prop := True
def okL {α : Type} (p : α → Prop) (l : List α) : Prop := ∀ y ∈ l, p y
def szI {α : Type} (_ : α) : Nat := 1
def szS (s : List UInt8) : Nat := s.length + 1
def szL {α : Type} (f : α → Nat) (l : List α) : Nat := (l.map f).sum + 1
theorem okI_i64 {n : Int} (h : okI .i64 n) : -9223372036854775808 ≤ n ∧ n ≤ 9223372036854775807 := h
theorem szL_len {α : Type} {f : α → Nat} (hf : ∀ x, 1 ≤ f x) (l : List α) : l.length + 1 ≤ szL f l := by
  unfold szL
  induction l with
  | nil => simp
  | cons x l ih => have := hf x; simp at ih ⊢; omega
theorem szL_mem {α : Type} {f : α → Nat} {l : List α} {x : α} (h : x ∈ l) : f x + 1 ≤ szL f l := by
  unfold szL
  induction l with
  | nil => cases h
  | cons y l ih =>
    simp only [List.map_cons, List.sum_cons]
    rcases List.mem_cons.1 h with rfl | h
    · omega
    · have := ih h; omega

/-- operations that are still to come -/
def RunRest (P : Program) (ops : Array Oper) (l : List Oper) (E : Env) (σ : List OB) (k : Env → List OB → Prop) (kp : PV → Env → List OB → Prop) : Prop := WL P ops l E σ (KR k kp)
section
variable {P : Program} {ops : Array Oper} {E E' : Env} {σ σ' : List OB} {k : Env → List OB → Prop} {kp : PV → Env → List OB → Prop} {l : List Oper}
theorem RunRest_ops (h : runOps P ops l E σ k kp) : RunRest P ops l E σ k kp := runOps_ok l E σ k kp h
theorem RunRest_ghost (hg : Ghost E σ E' σ') (h : RunRest P ops l E' σ' k kp) : RunRest P ops l E σ k kp := fun G a w hs => by
  obtain ⟨G', h1, h2⟩ := hg G a w hs
  exact wpList_mono (fun _ _ _ hq => PostX.back h1 hq) _ _ _ (h G' a w h2)
theorem wpList_app {Q Q1 : Exit → Act → World → Prop} {l2 : List Oper} (h1 : ∀ a w, Q1 .normal a w → wpList P ops Q l2 a w) (h2 : ∀ e a w, e ≠ .normal → Q1 e a w → Q e a w) :
    ∀ (l : List Oper) (a : Act) (w : World), wpList P ops Q1 l a w → wpList P ops Q (l ++ l2) a w
  | [], a, w, h => h1 a w h
  | o :: r, a, w, h => by
    rw [List.cons_append]
    unfold wpList at h ⊢
    have hl : LetsOut Q1 → LetsOut Q := fun ⟨a, w, h⟩ => ⟨a, w, h2 _ _ _ (by simp) h⟩
    split at h
    · rename_i hw
      rw [if_pos hw]
      rcases h with h | ⟨h3, h4⟩
      · left
        unfold Oper.wp at h ⊢
        generalize (execOp a.eval o).run P w = res at h
        have ih := fun a w h => wpList_app h1 h2 r a w h
        cases res with
        | ok nx w' =>
          cases nx <;> first
            | exact h.elim
            | exact ih _ _ h
            | (refine Calls.mono h fun e w'' hh => ?_
               cases e with
               | returned v => exact ih _ _ hh
               | panicked ch => exact h2 _ _ _ (by simp) hh
               | outgrown => exact hl hh)
            | exact Rows.mono h fun v w'' hh => ih _ _ hh
        | halt hh w' => cases hh <;> first | exact h.elim | exact h2 _ _ _ (by simp) h
      · exact .inr ⟨h3, hl h4⟩
    · rename_i hw
      rw [if_neg hw]
      exact wpList_app h1 h2 r _ _ h
theorem RunRest_cut (n : Nat) (h : runOps P ops (l.take n) E σ (fun E' σ' => RunRest P ops (l.drop n) E' σ' k kp) kp) : RunRest P ops l E σ k kp := fun G a w hs => by
  have h1 := runOps_ok _ _ _ _ _ h G a w hs
  have h2 := wpList_app (Q := PostX G (KR k kp)) (l2 := l.drop n) (fun a w hq => ?_) (fun e a w he hq => ?_) _ _ _ h1
  · rwa [List.take_append_drop] at h2
  · obtain ⟨G', E1, σ1, x, q1, q2, q3, q4⟩ := hq
    cases x <;> simp only [XRel] at q3
    · exact wpList_mono (fun _ _ _ hq => PostX.back q1 hq) _ _ _ (q4 G' a w q2)
    · cases q3
    · cases q3
    · obtain ⟨v, hv, _⟩ := q3; cases hv
  · obtain ⟨G', E1, σ1, x, q1, q2, q3, q4⟩ := hq
    cases x
    · exact (he q3).elim
    · exact q4.elim
    · exact q4.elim
    · exact ⟨G', E1, σ1, _, q1, q2, q3, q4⟩
theorem W_regG {K : Kt} {id : Nat} {y : Code} (ms : List Nat)
    (h : ∀ (k : Env → List OB → Prop) (kp : PV → Env → List OB → Prop), (∀ E σ, W P y K E σ → k E σ) → (∀ p E σ, K (.panic p) E σ → kp p E σ) → RunRest P l.toArray l E σ (fun E σ => k (E.forget ms) σ) kp) :
    W P (.seq (.region id l.toArray false) y) K E σ := W_seq fun G a w hs =>
  wp_region_lit (wpList_mono (fun _ _ _ hp => PostX.mono (fun x E σ hk => by
      cases x with
      | normal => exact W_forget ms hk
      | exit id => exact hk.elim
      | ret => exact hk.elim
      | panic p => exact hk) hp)
    l a w (h (W P y K) (fun p => K (.panic p)) (fun _ _ h => h) (fun _ _ _ h => h) G a w hs))
theorem W_regionG {K : Kt} {id : Nat} (h : ∀ (k : Env → List OB → Prop) (kp : PV → Env → List OB → Prop), (∀ E σ, K .normal E σ → k E σ) → (∀ p E σ, K (.panic p) E σ → kp p E σ) → RunRest P l.toArray l E σ k kp) :
    W P (.region id l.toArray false) K E σ := fun G a w hs =>
  wp_region_lit (wpList_mono (fun _ _ _ hp => PostX.mono (fun x E σ hk => by cases x <;> first | exact hk | exact hk.elim) hp)
    l a w (h (K .normal) (fun p => K (.panic p)) (fun _ _ h => h) (fun _ _ _ h => h) G a w hs))
end

/-- a slot's empty slice: nil, or none -/
theorem W_nilcase {P : Program} {K : Kt} {E : Env} {σ : List OB} {c : Code} (i : Nat) {s : Nat} (hE : E.get i = ⟨true, .c (.tree s [])⟩) (h1 : W P c K (E.put i ⟨true, .c .nils⟩) σ) (h2 : W P c K (E.put i ⟨true, .c .emn⟩) σ) : W P c K E σ := fun G a w hs => by
  have hr := hs.slot i (by rw [hE])
  rw [hE] at hr
  have hr' : RepT G.H (.tree s []) (a.tmps.getD i undef) := hr
  have put : ∀ y : CV, RepT G.H y (a.tmps.getD i undef) → Sim G (E.put i ⟨true, .c y⟩) σ a w := fun y hy => by
    refine ⟨hs.inv, hs.defers, hs.size, hs.na, fun j hc => ?_⟩
    have hg := Env.get_put E i j _ hc
    rw [hg] at hc ⊢
    by_cases hj : j = i
    · subst hj; rw [if_pos rfl]; exact RepT.rep hy
    · rw [if_neg hj] at hc ⊢; exact hs.slot j hc
  have key : RepT G.H .nils (a.tmps.getD i undef) ∨ RepT G.H .emn (a.tmps.getD i undef) := by
    generalize a.tmps.getD i undef = v at hr'
    cases hr' with
    | tree0 _ ad cap hc =>
      cases ad with
      | some ad => exact .inr (.emn _ _)
      | none => have := hc rfl; subst this; exact .inl .nils
    | tree => exact .inr (.emn _ _)
  rcases key with h | h
  · exact h1 G a w (put _ h)
  · exact h2 G a w (put _ h)

/-- an own block that nothing needs any more is let go -/
theorem Ghost_dead {E : Env} {σ : List OB} (b : Nat) (hb : b < σ.length) : Ghost E σ E (σ.set b .dead) := by
  intro G a w hs
  have hi := hs.inv
  have hblt : b < G.own.length := by rw [hi.len]; exact hb
  have hle : OwnLe G.own (G.own.set b none) := by
    intro x oo h
    by_cases e : x = b
    · subst e
      exact ⟨none, by simp [hblt], fun o' ho' => by cases ho'⟩
    · exact ⟨oo, by rw [List.getElem?_set_ne (Ne.symm e)]; exact h, fun o' ho' => ⟨o', ho', .inl rfl⟩⟩
  have hne : ∀ (x : Nat) (o' : OG), (G.own.set b none)[x]? = some (some o') → x ≠ b ∧ G.own[x]? = some (some o') := by
    intro x o' h
    by_cases e : x = b
    · subst e; simp [hblt] at h
    · rw [List.getElem?_set_ne (Ne.symm e)] at h; exact ⟨e, h⟩
  refine ⟨{ G with own := G.own.set b none }, .mk' ⟨fun _ _ h => h, rfl, rfl, rfl⟩ hle, ?_, hs.defers, hs.size, hs.na, fun j hc => RepP.mono (G := G) (G' := { G with own := G.own.set b none }) (fun _ _ h => h) hle (hs.slot j hc)⟩
  refine ⟨hi.hH, hi.hF, hi.HF, by simp [hi.len], ?_, fun x x' o1 o2 h1 h2 => hi.inj x x' o1 o2 (hne _ _ h1).2 (hne _ _ h2).2, fun x o' h hh => hi.sep x o' (hne _ _ h).2 hh, hi.os, hi.tape, hi.output, hi.grow⟩
  intro x ob h
  by_cases e : x = b
  · subst e
    simp only [List.getElem?_set_self hb, Option.some.injEq] at h
    subst h
    simp [OwnOk, hblt]
  · rw [List.getElem?_set_ne (Ne.symm e)] at h
    exact (hi.own x ob h).keep (G' := { G with own := G.own.set b none }) (fun _ _ h => h) hle (List.getElem?_set_ne (Ne.symm e)) (fun _ _ _ => rfl)
end Pam
