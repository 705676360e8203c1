/- Spans: the program's table. -/
import Derived.Test.YtpfekllhlfodiaaOabcdPlain1
import Derived.Test.YtpfekllhlfodiaaOabFun1
set_option linter.all false
namespace Pam
open Go
def ca (s : af) (v : Nat) : Nat → aC
 | 0 => if (v : Int) ∈ s.in_ then ⟨-1, -1⟩ else ⟨0, -1⟩
 | i + 1 => if (s.rules.getD i default).out_ = (v : Int) then ⟨(i : Int), (i : Int)⟩ else ca s v i
def toN (s : af) (v : Nat) : Nat → Int
 | 0 => (ca s v s.rules.length).to
 | i + 1 => if (v : Int) ∈ aM (s.rules.getD i default) then (if (i : Int) > toN s v i then (i : Int) else toN s v i) else toN s v i
def rS (s : af) (v : Nat) (i : Nat) : Prop := ∃ k, k < i ∧ (s.rules.getD k default).op = 13 ∧ (s.rules.getD k default).a.getD 1 default = (v : Int)
theorem uV (s : af) (v i : Nat) : rS s v (i + 1) ↔ rS s v i ∨ ((s.rules.getD i default).op = 13 ∧ (s.rules.getD i default).a.getD 1 default = (v : Int)) := by
 constructor
 ·rintro ⟨k, hk, h⟩
  by_cases e : k = i
  ·subst e; exact .inr h
  ·exact .inl ⟨k, by omega, h⟩
 ·rintro (⟨k, hk, h⟩ | h)
  ·exact ⟨k, by omega, h⟩
  ·exact ⟨i, by omega, h⟩
open Classical in
noncomputable def lh (s : af) (v : Nat) (i : Nat) : Int := if rS s v i then (s.rules.length : Int) else toN s v i
open Classical in
noncomputable def fI (s : af) (v : Nat) : aC := ⟨(ca s v s.rules.length).from_, if (v : Int) ∈ s.out_ ∨ rS s v s.rules.length then (s.rules.length : Int) else toN s v s.rules.length⟩
noncomputable def fJ (s : af) : List aC := ce s.vars.length (fI s)
theorem tM (s : af) (v : Nat) : ∀ i, (ca s v i).to < (i : Int) ∧ (ca s v i).to ≤ (ca s v i).from_ ∧ -1 ≤ (ca s v i).to
 | 0 => by unfold ca; split <;> simp
 | i + 1 => by
  unfold ca
  have := tM s v i
  split
  ·simp; omega
  ·omega
theorem xi (s : af) (v : Nat) : ∀ i, i ≤ s.rules.length → toN s v i ≤ (s.rules.length : Int)
 | 0, _ => by unfold toN; have := tM s v s.rules.length; omega
 | i + 1, h => by
  unfold toN
  have := xi s v i (by omega)
  split
  ·split <;> omega
  ·exact this
theorem vI (v : Int) (s : af) (h : inV s v) : ((v.toNat : Nat) : Int) = v ∧ v.toNat < s.vars.length := by unfold inV at h; omega
theorem tN {s : af} {g : Nat → aC} {v : Int} {at_ : Int} (h : inV s v) :
  iQ v at_ (ce s.vars.length g) = some (ce s.vars.length (fun u => if (u : Int) = v then ⟨(g u).from_, if at_ > (g u).to then at_ else (g u).to⟩ else g u)) := by
 obtain ⟨h1, h2⟩ := vI v s h
 have h' := h
 unfold inV at h'
 unfold iQ
 rw [il, if_pos h', n7 h2, lU]
 congr 1
 apply cA
 intro u hu
 by_cases e : u = v.toNat
 ·subst e; rw [if_pos rfl, if_pos h1]
 ·rw [if_neg e, if_neg (by omega)]
theorem xj {s : af} {g : Nat → aC} {l : List Int} {i : Nat} (hu : ∀ x ∈ l, inV s x) (hl : l.length ≤ 1000) :
  aT (fun (x : List aC × Int) => dA (i : Int) l x.1 x.2) (ce s.vars.length g, 0) =
   some (ce s.vars.length (fun u => if (u : Int) ∈ l then ⟨(g u).from_, if (i : Int) > (g u).to then (i : Int) else (g u).to⟩ else g u)) := by
 have := b9 (S := List aC × Int) (T := List aC) (fun k => (ce s.vars.length (fun u => if (u : Int) ∈ l.take k then (⟨(g u).from_, if (i : Int) > (g u).to then (i : Int) else (g u).to⟩ : aC) else g u), (k : Int)))
  (body := fun x => dA (i : Int) l x.1 x.2) l.length (ce s.vars.length (fun u => if (u : Int) ∈ l then ⟨(g u).from_, if (i : Int) > (g u).to then (i : Int) else (g u).to⟩ else g u))
  (by
   intro k hk
   show dA (i : Int) l (ce s.vars.length _) (k : Int) = _
   unfold dA
   rw [if_pos (ltI hk), if_pos (inI hk)]
   simp only [Int.toNat_natCast]
   rw [tN (hu _ (bi hk)), wrs k (by omega)]
   simp only [Option.bind_some]
   congr 3
   apply cA
   intro u hu
   rw [bD _ hk]
   simp only [List.mem_append, List.mem_singleton]
   by_cases h1 : (u : Int) = l.getD k default
   ·rw [if_pos h1, if_pos (Or.inr h1)]
    by_cases h2 : (u : Int) ∈ l.take k
    ·rw [if_pos h2]
     simp only
     congr 1
     split <;> first | rfl | omega | (split <;> omega)
    ·rw [if_neg h2]
   ·rw [if_neg h1]
    by_cases h2 : (u : Int) ∈ l.take k
    ·rw [if_pos h2, if_pos (Or.inl h2)]
    ·rw [if_neg h2, if_neg (fun h => h.elim h2 h1)])
  (by
   show dA (i : Int) l (ce s.vars.length _) (l.length : Int) = _
   unfold dA
   rw [if_neg (aX _), List.take_length])
 simp only [List.take_zero, List.not_mem_nil, if_false] at this
 exact this
theorem zA (s : af) (hn : s.vars.length ≤ 1000) : aT (fun (x : List aC × Int) => dE s x.1 x.2) (List.replicate s.vars.length (aC.mk 0 0), 0) = some (ce s.vars.length (fun _ => ⟨0, -1⟩)) := by
 have := b9 (S := List aC × Int) (T := List aC) (fun k => (ce s.vars.length (fun u => if u < k then (⟨0, -1⟩ : aC) else ⟨0, 0⟩), (k : Int)))
  (body := fun x => dE s x.1 x.2) s.vars.length (ce s.vars.length (fun _ => ⟨0, -1⟩))
  (by
   intro k hk
   show dE s (ce s.vars.length _) (k : Int) = _
   unfold dE
   rw [if_pos (ltI hk), il, if_pos (inI hk), wrs k (by omega)]
   simp only [Int.toNat_natCast]
   rw [lU]
   congr 3
   apply cA
   intro u hu
   by_cases h : u = k
   ·subst h; rw [if_pos rfl, if_pos (by omega)]
   ·rw [if_neg h]
    by_cases h2 : u < k
    ·rw [if_pos h2, if_pos (by omega)]
    ·rw [if_neg h2, if_neg (by omega)])
  (by
   show dE s (ce s.vars.length _) (s.vars.length : Int) = _
   unfold dE
   rw [if_neg (aX _)]
   congr 2
   apply cA
   intro u hu
   rw [if_pos hu])
 simp only [Nat.not_lt_zero, if_false] at this
 rw [← tE] at this
 exact this
theorem zB {s : af} (g : lV s) : aT (fun (x : List aC × Int) => dD s x.1 x.2) (ce s.vars.length (fun _ => ⟨0, -1⟩), 0) = some (ce s.vars.length (fun u => ca s u 0)) := by
 have hni := g.ni
 have := b9 (S := List aC × Int) (T := List aC) (fun k => (ce s.vars.length (fun u => if (u : Int) ∈ s.in_.take k then (⟨-1, -1⟩ : aC) else ⟨0, -1⟩), (k : Int)))
  (body := fun x => dD s x.1 x.2) s.in_.length (ce s.vars.length (fun u => ca s u 0))
  (by
   intro k hk
   show dD s (ce s.vars.length _) (k : Int) = _
   have gi := g.i _ (bi hk)
   obtain ⟨v1, v2⟩ := vI _ s gi
   have gi' := gi
   unfold inV at gi'
   unfold dD
   rw [if_pos (ltI hk), if_pos (inI hk)]
   simp only [Int.toNat_natCast]
   rw [il, if_pos gi', lU, wrs k (by omega)]
   congr 3
   apply cA
   intro u hu
   rw [bD _ hk]
   simp only [List.mem_append, List.mem_singleton]
   by_cases h : u = (s.in_.getD k default).toNat
   ·subst h; rw [if_pos rfl, if_pos (Or.inr v1)]
   ·rw [if_neg h]
    by_cases h2 : (u : Int) ∈ s.in_.take k
    ·rw [if_pos h2, if_pos (Or.inl h2)]
    ·rw [if_neg h2, if_neg (fun hc => hc.elim h2 (fun he => h (by omega)))])
  (by
   show dD s (ce s.vars.length _) (s.in_.length : Int) = _
   unfold dD
   rw [if_neg (aX _), List.take_length]
   rfl)
 simp only [List.take_zero, List.not_mem_nil, if_false] at this
 exact this
theorem zC {s : af} (g : co s) : aT (fun (x : List aC × Int) => dC s x.1 x.2) (ce s.vars.length (fun u => ca s u 0), 0) = some (ce s.vars.length (fun u => ca s u s.rules.length)) := by
 have hnr := g.h.nr
 have := b9 (S := List aC × Int) (T := List aC) (fun k => (ce s.vars.length (fun u => ca s u k), (k : Int)))
  (body := fun x => dC s x.1 x.2) s.rules.length (ce s.vars.length (fun u => ca s u s.rules.length))
  (by
   intro k hk
   show dC s (ce s.vars.length _) (k : Int) = _
   have gi := (g.rule hk).1.o
   obtain ⟨v1, v2⟩ := vI _ s gi
   have gi' := gi
   unfold inV at gi'
   unfold dC
   rw [if_pos (ltI hk), if_pos (inI hk)]
   simp only [Int.toNat_natCast]
   rw [il, if_pos gi', lU, wrs k (by omega)]
   congr 3
   apply cA
   intro u hu
   show _ = if (s.rules.getD k default).out_ = (u : Int) then _ else _
   by_cases h : u = (s.rules.getD k default).out_.toNat
   ·rw [if_pos h, if_pos (by omega)]
   ·rw [if_neg h, if_neg (by omega)])
  (by
   show dC s (ce s.vars.length _) (s.rules.length : Int) = _
   unfold dC
   rw [if_neg (aX _)])
 exact this
theorem sQ {s : af} (g : co s) {k : Nat} (hk : k < s.rules.length) (h : (s.rules.getD k default).op = 13) : (s.rules.getD k default).a.length = 2 := by
 have := (g.rule hk).2.2.2.2.2
 rw [h] at this
 have e : cd 13 = 2 := rfl
 omega
theorem xT {s : af} (g : co s) {k : Nat} (hk : k < s.rules.length) (h : (s.rules.getD k default).op = 13) : inV s ((s.rules.getD k default).a.getD 1 default) :=
 (g.rule hk).1.a _ (bi (by rw [sQ g hk h]; omega))
theorem tO {s : af} {v i : Nat} (hi : i < s.rules.length) : lh s v (i + 1) =
  if (s.rules.getD i default).op = 13 ∧ (s.rules.getD i default).a.getD 1 default = (v : Int) then (s.rules.length : Int)
  else if (v : Int) ∈ aM (s.rules.getD i default) then (if (i : Int) > lh s v i then (i : Int) else lh s v i) else lh s v i := by
 unfold lh
 have e : toN s v (i + 1) = if (v : Int) ∈ aM (s.rules.getD i default) then (if (i : Int) > toN s v i then (i : Int) else toN s v i) else toN s v i := rfl
 rw [e]
 have hps := uV s v i
 by_cases h1 : (s.rules.getD i default).op = 13 ∧ (s.rules.getD i default).a.getD 1 default = (v : Int)
 ·rw [if_pos h1, if_pos (hps.2 (.inr h1))]
 ·rw [if_neg h1]
  by_cases h2 : rS s v i
  ·rw [if_pos (hps.2 (.inl h2)), if_pos h2]
   split
   ·rw [if_neg (by omega)]
   ·rfl
  ·rw [if_neg (fun h => (hps.1 h).elim h2 h1), if_neg h2]
theorem wq (s : af) (v : Nat) {i : Nat} (h : i ≤ s.rules.length) : lh s v i ≤ (s.rules.length : Int) := by
 unfold lh
 split
 ·omega
 ·exact xi s v i h
theorem zD {s : af} (g : co s) : aT (fun (x : List aC × Int) => dB s x.1 x.2) (ce s.vars.length (fun u => ca s u s.rules.length), 0) =
  some (ce s.vars.length (fun u => ⟨(ca s u s.rules.length).from_, lh s u s.rules.length⟩)) := by
 have hnr := g.h.nr
 have := b9 (S := List aC × Int) (T := List aC) (fun k => (ce s.vars.length (fun u => (⟨(ca s u s.rules.length).from_, lh s u k⟩ : aC)), (k : Int)))
  (body := fun x => dB s x.1 x.2) s.rules.length (ce s.vars.length (fun u => ⟨(ca s u s.rules.length).from_, lh s u s.rules.length⟩))
  (by
   intro k hk
   show dB s (ce s.vars.length _) (k : Int) = _
   obtain ⟨gr, hu, ha, _⟩ := g.rule hk
   have he := gr.e
   unfold dB
   rw [if_pos (ltI hk), if_pos (inI hk)]
   simp only [Int.toNat_natCast]
   rw [pA _ (by omega) (by omega)]
   simp only [Option.bind_some]
   have hnl := eX (s.rules.getD k default)
   show (aT (fun (x : List aC × Int) => dA (k : Int) (aM (s.rules.getD k default)) x.1 x.2) (ce s.vars.length _, 0)).bind (fun z49 => gV s (k : Int) z49) = _
   rw [xj (fun x hx => hu x (iY hx)) (by omega)]
   simp only [Option.bind_some]
   unfold gV
   simp only [Int.toNat_natCast]
   by_cases h13 : (s.rules.getD k default).op = 13
   ·rw [if_pos h13, if_pos (by rw [sQ g hk h13]; omega), tN (xT g hk h13)]
    simp only [Option.bind_some]
    unfold gU
    rw [wrs k (by omega)]
    congr 3
    apply cA
    intro u hu
    rw [tO hk]
    have htl := wq s u (i := k) (by omega)
    by_cases h1 : (u : Int) = (s.rules.getD k default).a.getD 1 default
    ·have hp : (s.rules.getD k default).op = 13 ∧ (s.rules.getD k default).a.getD 1 default = (u : Int) := ⟨h13, h1.symm⟩
     rw [if_pos h1, if_pos hp]
     split <;> (simp only; congr 1; split <;> first | rfl | omega | (split <;> omega))
    ·have hp : ¬ ((s.rules.getD k default).op = 13 ∧ (s.rules.getD k default).a.getD 1 default = (u : Int)) := fun h => h1 h.2.symm
     rw [if_neg h1, if_neg hp]
     split <;> rfl
   ·rw [if_neg h13]
    unfold gU
    rw [wrs k (by omega)]
    congr 3
    apply cA
    intro u hu
    have hp : ¬ ((s.rules.getD k default).op = 13 ∧ (s.rules.getD k default).a.getD 1 default = (u : Int)) := fun h => h13 h.1
    rw [tO hk, if_neg hp]
    split <;> rfl)
  (by
   show dB s (ce s.vars.length _) (s.rules.length : Int) = _
   unfold dB
   rw [if_neg (aX _)])
 have e0 : ∀ u, lh s u 0 = (ca s u s.rules.length).to := by
  intro u
  unfold lh
  rw [if_neg (fun ⟨k, hk, _⟩ => by omega)]
  rfl
 simp only [e0] at this
 exact this
theorem zE {s : af} (g : co s) : aT (fun (x : List aC × Int) => dz s x.1 x.2) (ce s.vars.length (fun u => ⟨(ca s u s.rules.length).from_, lh s u s.rules.length⟩), 0) = some (fJ s) := by
 have hno := g.h.no
 have := b9 (S := List aC × Int) (T := List aC) (fun k => (ce s.vars.length (fun u => (⟨(ca s u s.rules.length).from_, if (u : Int) ∈ s.out_.take k then (s.rules.length : Int) else lh s u s.rules.length⟩ : aC)), (k : Int)))
  (body := fun x => dz s x.1 x.2) s.out_.length (fJ s)
  (by
   intro k hk
   show dz s (ce s.vars.length _) (k : Int) = _
   unfold dz
   rw [if_pos (ltI hk), if_pos (inI hk)]
   simp only [Int.toNat_natCast]
   rw [tN (g.h.o _ (bi hk)), wrs k (by omega)]
   simp only [Option.bind_some]
   congr 3
   apply cA
   intro u hu
   have htl := wq s u (Nat.le_refl s.rules.length)
   rw [bD _ hk]
   simp only [List.mem_append, List.mem_singleton]
   by_cases h1 : (u : Int) = s.out_.getD k default
   ·rw [if_pos h1, if_pos (Or.inr h1)]
    congr 1
    by_cases h2 : (u : Int) ∈ s.out_.take k
    ·rw [if_pos h2, if_neg (by omega)]
    ·rw [if_neg h2]; split <;> omega
   ·rw [if_neg h1]
    by_cases h2 : (u : Int) ∈ s.out_.take k
    ·rw [if_pos h2, if_pos (Or.inl h2)]
    ·rw [if_neg h2, if_neg (fun hc => hc.elim h2 h1)])
  (by
   show dz s (ce s.vars.length _) (s.out_.length : Int) = _
   unfold dz
   rw [if_neg (aX _), List.take_length]
   unfold fJ
   congr 2
   apply cA
   intro u hu
   unfold fI lh
   congr 1
   by_cases h1 : (u : Int) ∈ s.out_
   ·rw [if_pos h1, if_pos (Or.inl h1)]
   ·rw [if_neg h1]
    by_cases h2 : rS s u s.rules.length
    ·rw [if_pos h2, if_pos (Or.inr h2)]
    ·rw [if_neg h2, if_neg (fun hc => hc.elim h1 h2)])
 simp only [List.take_zero, List.not_mem_nil, if_false] at this
 exact this
theorem ro (s : af) : iR s = some (if (cD s).code = 0 then (if fP s then (fJ s, au.mk 0 0) else ([], au.mk 15 (-1))) else ([], cD s)) := by
 unfold iR
 rw [pz]
 simp only [Option.bind_some]
 by_cases h : (cD s).code = 0
 ·simp only [h, not_true_eq_false, if_false, if_true]
  obtain ⟨g, _⟩ := fH h
  have hnv := g.h.nv
  rw [rR g]
  simp only [Option.bind_some]
  by_cases hs : fP s
  ·simp only [hs, decide_true, if_true]
   have hm : maxLen = 9223372036854775807 := rfl
   rw [if_pos ⟨by omega, by unfold dy; omega⟩]
   show (aT (fun (x : List aC × Int) => dE s x.1 x.2) (List.replicate s.vars.length (aC.mk 0 0), 0)).bind (fun z80 => gY s z80) = _
   rw [zA s (by omega)]
   simp only [Option.bind_some]
   unfold gY
   show (aT (fun (x : List aC × Int) => dD s x.1 x.2) (ce s.vars.length (fun _ => ⟨0, -1⟩), 0)).bind (fun z70 => gX s z70) = _
   rw [zB g.h]
   simp only [Option.bind_some]
   unfold gX
   show (aT (fun (x : List aC × Int) => dC s x.1 x.2) (ce s.vars.length (fun u => ca s u 0), 0)).bind (fun z60 => gW s z60) = _
   rw [zC g]
   simp only [Option.bind_some]
   unfold gW
   show (aT (fun (x : List aC × Int) => dB s x.1 x.2) (ce s.vars.length (fun u => ca s u s.rules.length), 0)).bind (fun z50 => gT s z50) = _
   rw [zD g]
   simp only [Option.bind_some]
   unfold gT
   show (aT (fun (x : List aC × Int) => dz s x.1 x.2) (ce s.vars.length _, 0)).bind (fun z23 => jg z23) = _
   rw [zE g]
   rfl
  ·simp only [hs, decide_false, Bool.false_eq_true, if_false]
 ·simp only [h, not_false_eq_true, if_true, if_false]
end Pam

namespace Pam
open Go
theorem xk {s : af} (v : Nat) (hn : s.rules.length ≤ 1000) : aT (fun (x : Int × Int × Int) => dc s (v : Int) x.1 x.2.1 x.2.2) ((ca s v 0).from_, (ca s v 0).to, 0) = some ((ca s v s.rules.length).from_, (ca s v s.rules.length).to) := by
 have := b9 (S := Int × Int × Int) (T := Int × Int) (fun k => ((ca s v k).from_, (ca s v k).to, (k : Int))) (body := fun x => dc s (v : Int) x.1 x.2.1 x.2.2) s.rules.length ((ca s v s.rules.length).from_, (ca s v s.rules.length).to)
  (by
   intro k hk
   show dc s (v : Int) _ _ (k : Int) = _
   unfold dc
   rw [if_pos (ltI hk), if_pos (inI hk)]
   simp only [Int.toNat_natCast]
   rw [wrs k (by omega)]
   have e : ca s v (k + 1) = if (s.rules.getD k default).out_ = (v : Int) then ⟨(k : Int), (k : Int)⟩ else ca s v k := rfl
   rw [e]
   by_cases h : (s.rules.getD k default).out_ = (v : Int)
   ·rw [if_pos h, if_pos h]
   ·rw [if_neg h, if_neg h])
  (by
   show dc s (v : Int) _ _ (s.rules.length : Int) = _
   unfold dc
   rw [if_neg (aX _)])
 exact this
theorem xl {s : af} (g : co s) (v : Nat) : aT (fun (x : Int × Int) => db s (v : Int) x.1 x.2) ((ca s v s.rules.length).to, 0) = some (toN s v s.rules.length) := by
 have hnr := g.h.nr
 have := b9 (S := Int × Int) (T := Int) (fun k => (toN s v k, (k : Int))) (body := fun x => db s (v : Int) x.1 x.2) s.rules.length (toN s v s.rules.length)
  (by
   intro k hk
   show db s (v : Int) (toN s v k) (k : Int) = _
   obtain ⟨gr, hu, ha, _⟩ := g.rule hk
   have he := gr.e
   unfold db
   rw [if_pos (ltI hk), if_pos (inI hk)]
   simp only [Int.toNat_natCast]
   have hnl := eX (s.rules.getD k default)
   rw [jJ _ (by omega) (by omega)]
   simp only [Option.bind_some]
   rw [d3 _ _ (by omega)]
   simp only [Option.bind_some]
   rw [wrs k (by omega)]
   have e : toN s v (k + 1) = if (v : Int) ∈ aM (s.rules.getD k default) then (if (k : Int) > toN s v k then (k : Int) else toN s v k) else toN s v k := rfl
   rw [e]
   by_cases h : (v : Int) ∈ aM (s.rules.getD k default)
   ·rw [if_pos (List.contains_iff_mem.2 h), if_pos h]
    by_cases h2 : toN s v k < (k : Int)
    ·rw [if_pos h2, if_pos (by omega)]
    ·rw [if_neg h2, if_neg (by omega)]
   ·rw [if_neg (fun hc => h (List.contains_iff_mem.1 hc)), if_neg h])
  (by
   show db s (v : Int) _ (s.rules.length : Int) = _
   unfold db
   rw [if_neg (aX _)])
 exact this
theorem xm {s : af} (g : co s) (v : Nat) : aT (fun (x : Int × Int) => da s (v : Int) x.1 x.2) (toN s v s.rules.length, 0) = some (lh s v s.rules.length) := by
 have hnr := g.h.nr
 open Classical in
 have := b9 (S := Int × Int) (T := Int) (fun k => (if rS s v k then (s.rules.length : Int) else toN s v s.rules.length, (k : Int))) (body := fun x => da s (v : Int) x.1 x.2) s.rules.length (lh s v s.rules.length)
  (by
   intro k hk
   show da s (v : Int) (if rS s v k then (s.rules.length : Int) else toN s v s.rules.length) (k : Int) = _
   unfold da
   rw [if_pos (ltI hk), if_pos (inI hk)]
   simp only [Int.toNat_natCast]
   rw [wrs k (by omega)]
   have hps := uV s v k
   by_cases h13 : (s.rules.getD k default).op = 13
   ·rw [if_pos h13, if_pos (by rw [sQ g hk h13]; omega)]
    by_cases h1 : (s.rules.getD k default).a.getD 1 default = (v : Int)
    ·rw [if_pos h1, if_pos (hps.2 (Or.inr ⟨h13, h1⟩))]
    ·rw [if_neg h1]
     by_cases h2 : rS s v k
     ·rw [if_pos h2, if_pos (hps.2 (Or.inl h2))]
     ·rw [if_neg h2, if_neg (fun hc => (hps.1 hc).elim h2 (fun h => h1 h.2))]
   ·rw [if_neg h13]
    by_cases h2 : rS s v k
    ·rw [if_pos h2, if_pos (hps.2 (Or.inl h2))]
    ·rw [if_neg h2, if_neg (fun hc => (hps.1 hc).elim h2 (fun h => h13 h.1))])
  (by
   show da s (v : Int) _ (s.rules.length : Int) = _
   unfold da
   rw [if_neg (aX _)]
   rfl)
 have e0 : ¬ rS s v 0 := fun ⟨k, hk, _⟩ => by omega
 simp only [if_neg e0] at this
 exact this
theorem sy {s : af} (g : co s) : kD s = some (fJ s) := by
 unfold kD
 have hnv := g.h.nv
 have hnr := g.h.nr
 have hm : maxLen = 9223372036854775807 := rfl
 have := b9 (S := List aC × Int) (T := List aC) (fun k => (ce k (fI s), (k : Int))) (body := fun x => dR s x.1 x.2) s.vars.length (fJ s)
  (by
   intro k hk
   show dR s (ce k (fI s)) (k : Int) = _
   have hlen := il k (fI s)
   have j3 : fF s (ce k (fI s)) (k : Int) (ca s k 0).from_ = some (.inl (ce (k + 1) (fI s), ((k + 1 : Nat) : Int))) := by
    have eb : (ca s k 0).to = -1 := by unfold ca; split <;> rfl
    unfold fF
    have hl4 := xk (s := s) k (by omega)
    rw [eb] at hl4
    show (aT (fun (x : Int × Int × Int) => dc s (k : Int) x.1 x.2.1 x.2.2) ((ca s k 0).from_, -1, 0)).bind (fun z => fE s (ce k (fI s)) (k : Int) z.1 z.2) = _
    rw [hl4]
    simp only [Option.bind_some]
    unfold fE
    show (aT (fun (x : Int × Int) => db s (k : Int) x.1 x.2) ((ca s k s.rules.length).to, 0)).bind _ = _
    rw [xl g]
    simp only [Option.bind_some]
    unfold ii
    show (aT (fun (x : Int × Int) => da s (k : Int) x.1 x.2) (toN s k s.rules.length, 0)).bind _ = _
    rw [xm g]
    simp only [Option.bind_some]
    unfold ig
    rw [d3 _ _ (by have := g.h.no; omega)]
    simp only [Option.bind_some]
    rw [if_pos (show dy ((ce k (fI s)).length + 1) 16 by unfold dy; omega), if_pos (show dy ((ce k (fI s)).length + 1) 16 by unfold dy; omega)]
    unfold ie
    rw [wrs k (by omega), rN]
    unfold fI lh
    by_cases ho : (k : Int) ∈ s.out_
    ·rw [if_pos (List.contains_iff_mem.2 ho), if_pos (Or.inl ho)]; rfl
    ·rw [if_neg (fun hc => ho (List.contains_iff_mem.1 hc))]
     by_cases hp : rS s k s.rules.length
     ·rw [if_pos hp, if_pos (Or.inr hp)]; rfl
     ·rw [if_neg hp, if_neg (fun hc => hc.elim ho hp)]; rfl
   unfold dR
   rw [if_pos (ltI hk), d3 _ _ (by have := g.h.ni; omega)]
   simp only [Option.bind_some]
   by_cases hi : (k : Int) ∈ s.in_
   ·have eb : (ca s k 0).from_ = -1 := by unfold ca; rw [if_pos hi]
    rw [eb] at j3
    rw [if_pos (List.contains_iff_mem.2 hi), j3]
   ·have eb : (ca s k 0).from_ = 0 := by unfold ca; rw [if_neg hi]
    rw [eb] at j3
    rw [if_neg (fun hc => hi (List.contains_iff_mem.1 hc)), j3])
  (by
   show dR s (ce s.vars.length (fI s)) (s.vars.length : Int) = _
   unfold dR
   rw [if_neg (aX _)]
   rfl)
 show (aT (fun (x : List aC × Int) => dR s x.1 x.2) ([], 0)).bind (fun z90 => ib z90) = _
 rw [show ce 0 (fI s) = [] from rfl, show ((0 : Nat) : Int) = 0 from rfl] at this
 rw [this]
 rfl
def kt (s : af) (l : List aC) (at_ : Int) : Nat → Int
 | 0 => 0
 | v + 1 => if (l.getD v default).from_ ≤ at_ ∧ at_ ≤ (l.getD v default).to then kt s l at_ v + fG (s.vars.getD v default).n else kt s l at_ v
def lW (s : af) (l : List aC) : Nat → Int
 | 0 => 0
 | k + 1 => if kt s l (-1 + (k : Int)) s.vars.length > lW s l k then kt s l (-1 + (k : Int)) s.vars.length else lW s l k
theorem lA {s : af} (g : lV s) {v : Nat} (h : v < s.vars.length) : 1 ≤ fG (s.vars.getD v default).n ∧ fG (s.vars.getD v default).n ≤ 300 := by
 have := g.v.n _ (bi h)
 unfold fG
 split <;> omega
theorem vA {s : af} (g : lV s) (l : List aC) (at_ : Int) : ∀ v, v ≤ s.vars.length → 0 ≤ kt s l at_ v ∧ kt s l at_ v ≤ 300 * (v : Int)
 | 0, _ => by unfold kt; omega
 | v + 1, h => by
  have := vA g l at_ v (by omega)
  have := lA g (v := v) (by omega)
  unfold kt
  split <;> omega
theorem yD {s : af} (g : lV s) (l : List aC) (hl : l.length = s.vars.length) (f : au) (at_ : Int) :
  aT (fun (x : Int × Int) => ez s (l, f) at_ x.1 x.2) (0, 0) = some (kt s l at_ s.vars.length) := by
 have hnv := g.nv
 have := b9 (S := Int × Int) (T := Int) (fun k => (kt s l at_ k, (k : Int))) (body := fun x => ez s (l, f) at_ x.1 x.2) s.vars.length (kt s l at_ s.vars.length)
  (by
   intro k hk
   show ez s (l, f) at_ (kt s l at_ k) (k : Int) = _
   have h1 := vA g l at_ k (by omega)
   have h2 := lA g hk
   unfold ez
   simp only [Int.toNat_natCast, hl, AC]
   rw [if_pos (ltI hk), if_pos (inI hk), wrs k (by omega), wr (by omega) (by omega)]
   have e : kt s l at_ (k + 1) = if (l.getD k default).from_ ≤ at_ ∧ at_ ≤ (l.getD k default).to then kt s l at_ k + fG (s.vars.getD k default).n else kt s l at_ k := rfl
   rw [e]
   by_cases h3 : (l.getD k default).from_ ≤ at_
   ·rw [if_pos h3]
    by_cases h4 : at_ ≤ (l.getD k default).to
    ·rw [if_pos h4, if_pos (inI hk), if_pos (And.intro h3 h4)]
    ·rw [if_neg h4, if_neg (fun h => h4 h.2)]
   ·rw [if_neg h3, if_neg (fun h => h3 h.1)])
  (by
   show ez s (l, f) at_ _ (s.vars.length : Int) = _
   unfold ez
   simp only [hl]
   rw [if_neg (aX _)])
 exact this
theorem vB {s : af} (g : lV s) (l : List aC) (hl : l.length = s.vars.length) (at_ : Int) :
  aT (fun (x : Int × Int) => dF s l at_ x.1 x.2) (0, 0) = some (kt s l at_ s.vars.length) := by
 have hnv := g.nv
 have := b9 (S := Int × Int) (T := Int) (fun k => (kt s l at_ k, (k : Int))) (body := fun x => dF s l at_ x.1 x.2) s.vars.length (kt s l at_ s.vars.length)
  (by
   intro k hk
   show dF s l at_ (kt s l at_ k) (k : Int) = _
   have h1 := vA g l at_ k (by omega)
   have h2 := lA g hk
   unfold dF
   simp only [Int.toNat_natCast, hl, jH, Option.bind_some]
   rw [if_pos (ltI hk), if_pos (inI hk), wrs k (by omega), wr (by omega) (by omega)]
   have e : kt s l at_ (k + 1) = if (l.getD k default).from_ ≤ at_ ∧ at_ ≤ (l.getD k default).to then kt s l at_ k + fG (s.vars.getD k default).n else kt s l at_ k := rfl
   rw [e]
   by_cases h3 : (l.getD k default).from_ ≤ at_
   ·rw [if_pos h3]
    by_cases h4 : at_ ≤ (l.getD k default).to
    ·rw [if_pos (show (l.getD k default).to ≥ at_ from h4), if_pos (inI hk), if_pos (And.intro h3 h4)]
    ·rw [if_neg (show ¬ (l.getD k default).to ≥ at_ from h4), if_neg (fun h => h4 h.2)]
   ·rw [if_neg h3, if_neg (fun h => h3 h.1)])
  (by
   show dF s l at_ _ (s.vars.length : Int) = _
   unfold dF
   simp only [hl]
   rw [if_neg (aX _)])
 exact this
theorem wrM (k : Nat) (h : k ≤ 100000) : IntKind.wrap .i64 (-1 + (k : Int) + 1) = -1 + ((k + 1 : Nat) : Int) := by rw [wr (by omega) (by omega)]; omega
theorem yE {s : af} (g : lV s) (l : List aC) (hl : l.length = s.vars.length) (f : au) :
  aT (fun (x : Int × Int) => eA s (l, f) x.1 x.2) (0, -1) = some (lW s l (s.rules.length + 2)) := by
 have hnr := g.nr
 have := b9 (S := Int × Int) (T := Int) (fun k => (lW s l k, -1 + (k : Int))) (body := fun x => eA s (l, f) x.1 x.2) (s.rules.length + 2) (lW s l (s.rules.length + 2))
  (by
   intro k hk
   show eA s (l, f) (lW s l k) (-1 + (k : Int)) = _
   unfold eA
   rw [if_pos (by omega)]
   show (aT (fun (x : Int × Int) => ez s (l, f) (-1 + (k : Int)) x.1 x.2) (0, 0)).bind _ = _
   rw [yD g l hl]
   simp only [Option.bind_some]
   unfold jZ kQ
   rw [wrM k (by omega)]
   rfl)
  (by
   show eA s (l, f) _ (-1 + ((s.rules.length + 2 : Nat) : Int)) = _
   unfold eA
   rw [if_neg (by omega)])
 exact this
theorem vC {s : af} (g : lV s) (l : List aC) (hl : l.length = s.vars.length) :
  aT (fun (x : Int × Int) => dG s l x.1 x.2) (0, -1) = some (lW s l (s.rules.length + 2)) := by
 have hnr := g.nr
 have := b9 (S := Int × Int) (T := Int) (fun k => (lW s l k, -1 + (k : Int))) (body := fun x => dG s l x.1 x.2) (s.rules.length + 2) (lW s l (s.rules.length + 2))
  (by
   intro k hk
   show dG s l (lW s l k) (-1 + (k : Int)) = _
   unfold dG
   rw [if_pos (by omega)]
   show (aT (fun (x : Int × Int) => dF s l (-1 + (k : Int)) x.1 x.2) (0, 0)).bind _ = _
   rw [vB g l hl]
   simp only [Option.bind_some]
   unfold jk jj
   rw [wrM k (by omega)]
   have e : lW s l (k + 1) = if kt s l (-1 + (k : Int)) s.vars.length > lW s l k then kt s l (-1 + (k : Int)) s.vars.length else lW s l k := rfl
   rw [e]
   by_cases h : kt s l (-1 + (k : Int)) s.vars.length > lW s l k
   ·rw [if_pos h, if_pos h]
   ·rw [if_neg h, if_neg h])
  (by
   show dG s l _ (-1 + ((s.rules.length + 2 : Nat) : Int)) = _
   unfold dG
   rw [if_neg (by omega)])
 exact this
theorem jK (s : af) : (fJ s).length = s.vars.length := il _ _
noncomputable def xU (s : af) : Int := lW s (fJ s) (s.rules.length + 2)
theorem xV (s : af) : mB s = some (if (cD s).code = 0 then (if fP s then (xU s, au.mk 0 0) else (0, au.mk 15 (-1))) else (0, cD s)) := by
 unfold mB
 rw [ro]
 simp only [Option.bind_some]
 by_cases h : (cD s).code = 0
 ·obtain ⟨g, _⟩ := fH h
  simp only [h, if_true]
  by_cases hs : fP s
  ·simp only [hs, if_true, not_true_eq_false, if_false]
   show (aT (fun (x : Int × Int) => eA s (fJ s, au.mk 0 0) x.1 x.2) (0, -1)).bind _ = _
   rw [yE g.h _ (jK s)]
   rfl
  ·simp only [hs, if_false]
   rw [if_pos (by decide)]
 ·simp only [h, if_false, not_false_eq_true, if_true]
theorem xn {s : af} (g : co s) : mW s = some (xU s) := by
 unfold mW
 rw [sy g]
 simp only [Option.bind_some]
 show (aT (fun (x : Int × Int) => dG s (fJ s) x.1 x.2) (0, -1)).bind _ = _
 rw [vC g.h _ (jK s)]
 rfl
end Pam

namespace Pam
open Go
theorem tP (l : List aC) (hl : l.length ≤ 9000000) : kg l l = some true := by
 unfold kg
 rw [if_neg (by simp), br l.length (fun _ => none) ()]
 ·rw [cS (fun _ _ => rfl)]; rfl
 ·intro i hi
  unfold ik
  rw [if_pos (ltI hi), if_pos ⟨inI hi, inI hi⟩, if_pos (by simp), wrs i (by omega)]
 ·unfold ik; rw [if_neg (aX _)]
def sL : af := af.mk (lit ([(ak.mk 105 0), (ak.mk 105 0), (ak.mk 105 0)] : List ak)) (lit ([0] : List Int)) (lit ([2] : List Int)) (lit ([(ae.mk 3 13 1 0 (lit ([0] : List Int)) []), (ae.mk 2 0 2 0 (lit ([1] : List Int)) [])] : List ae))
theorem AM : aE sL (ae.mk 3 13 1 0 (lit ([0] : List Int)) []) = some true := by
 rw [cw (by decide) (by decide) (by decide)]
 unfold aV
 rw [cC]
 simp only [Option.bind_some]
 rfl
theorem AN : aE sL (ae.mk 2 0 2 0 (lit ([1] : List Int)) []) = some true := by
 rw [cw (by decide) (by decide) (by decide)]
 unfold aV
 rw [cC]
 simp only [Option.bind_some]
 rfl
theorem zF : ∀ i, i < sL.rules.length → jI sL i = none := by
 intro i hi
 have : i = 0 ∨ i = 1 := by
  have : sL.rules.length = 2 := rfl
  omega
 rcases this with rfl | rfl
 ·have : jc sL (bz sL 0) (ae.mk 3 13 1 0 (lit ([0] : List Int)) []) = 0 := by
   unfold jc
   rw [if_neg (by decide), if_neg (by decide), if_neg (by decide), if_neg (by decide), if_neg (by decide), if_pos AM]
  unfold jI
  show (if jc sL (bz sL 0) (ae.mk 3 13 1 0 (lit ([0] : List Int)) []) = 0 then none else _) = none
  rw [if_pos this]
 ·have : jc sL (bz sL 1) (ae.mk 2 0 2 0 (lit ([1] : List Int)) []) = 0 := by
   unfold jc
   rw [if_neg (by decide), if_neg (by decide), if_neg (by decide), if_neg (by decide), if_neg (by decide), if_pos AN]
  unfold jI
  show (if jc sL (bz sL 1) (ae.mk 2 0 2 0 (lit ([1] : List Int)) []) = 0 then none else _) = none
  rw [if_pos this]
theorem zG : cD sL = au.mk 0 0 := by
 have h0 : (lT sL).code = 0 := by rfl
 unfold cD
 simp only [h0, not_true_eq_false, if_false]
 rw [cS zF]
 have h1 : d2 sL.rules.length (lg sL) () = .inl () := cS (fun i hi => by
  have : i = 0 ∨ i = 1 := by
   have : sL.rules.length = 2 := rfl
   omega
  rcases this with rfl | rfl <;> (unfold lg; rw [if_neg (by decide)]))
 have h2 : d2 sL.out_.length (qG sL) () = .inl () := cS (fun i hi => by
  have : i = 0 := by
   have : sL.out_.length = 1 := rfl
   omega
  subst this
  unfold qG
  rw [if_pos (by decide)])
 simp only [h1, h2]
theorem yF : fP sL := by decide
theorem BP : ∀ v, ¬ rS sL v sL.rules.length := by
 rintro v ⟨k, hk, h1, _⟩
 have : k = 0 ∨ k = 1 := by
  have : sL.rules.length = 2 := rfl
  omega
 rcases this with rfl | rfl
 ·exact absurd h1 (by decide)
 ·exact absurd h1 (by decide)
theorem pD : jh = some true := by
 unfold jh
 have hc := zG
 have hsp := ro sL
 rw [hc] at hsp
 simp only [yF, if_true] at hsp
 show (iR sL).bind _ = _
 rw [hsp]
 simp only [Option.bind_some, if_true]
 have hl : (fJ sL).length = 3 := jK sL
 have e0 : (fJ sL).getD 0 default = ⟨-1, 0⟩ := by
  unfold fJ
  rw [n7 (by decide)]
  unfold fI
  rw [if_neg (fun h => h.elim (by decide) (BP 0))]
  rfl
 have e2 : (fJ sL).getD 2 default = ⟨1, 2⟩ := by
  unfold fJ
  rw [n7 (by decide)]
  unfold fI
  rw [if_pos (Or.inl (by decide))]
  rfl
 simp only [hl, e0, e2]
 decide
theorem rq (s : af) (_ : s.ok) (_ : s.sz ≤ 1048576) : mr s = some true := by
 unfold mr
 rw [pD]
 simp only [Option.bind_some, if_true]
 obtain ⟨b, hb, hf⟩ := rp s 150 (by omega)
 rw [show ((150 : Nat) : Int) = 150 from rfl] at hb
 rw [hb]
 cases b
 ·have hng := hf rfl
  simp only [Option.bind_some, Bool.false_eq_true, if_false]
  rw [xW hng (by omega)]
  simp only [Option.bind_some]
  rw [ro, xV, nm]
  simp only [Option.bind_some]
  by_cases hc : (cD s).code = 0
  ·obtain ⟨g, hz⟩ := fH hc
   simp only [hc, if_true]
   rw [rn g]
   simp only [Option.bind_some]
   by_cases hs : fP s
   ·simp only [hs, decide_true, if_true]
    unfold dk
    rw [hz, if_pos ⟨rfl, rfl⟩, if_pos ⟨rfl, rfl⟩, gO hng (by omega)]
    simp only [Option.bind_some, if_true, not_true_eq_false, if_false]
    rw [sy g]
    simp only [Option.bind_some]
    rw [tP _ (by rw [jK]; have := hng.nv; omega)]
    simp only [Option.bind_some, if_true]
    rw [xn g]
    simp
   ·simp only [hs, decide_false, Bool.false_eq_true, if_false, xg, Option.bind_some]
    unfold dk
    rw [if_pos ⟨rfl, rfl⟩, if_pos ⟨rfl, rfl⟩, gO hng (by omega)]
    rfl
  ·simp only [hc, if_false]
   unfold dk
   rw [if_pos ⟨rfl, rfl⟩, if_pos ⟨rfl, rfl⟩, gO hng (by omega)]
   simp only [Option.bind_some, if_true, hc, not_false_eq_true]
   rfl
 ·rfl
end Pam
