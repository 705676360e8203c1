/- the walk of slices_Clone_int_int, printed by a program of ours -/
import Derived.Test.YtbkohebnociapaaABase2
import Derived.Test.YtbkohebnociapaaAaFun1
import Derived.Test.YtbkohebnociapaaATypes1
import Derived.Test.YtbkohebnociapaaABase3
set_option linter.all false
namespace Pam
open Go Go.Proofs
set_option maxRecDepth 100000 in
set_option maxHeartbeats 1000000 in
theorem dU (p1 : List Int) (r : (List Int)) (hm : bw p1 = some r) : e7 Try.prog 61 [.c (.tree 1 (p1.map (eK .i64)))] [] (fun p σ => (p = .c (.osl 0 1 0 r.length) ∧ σ = [.arr 1 1 3 (r.map (eK .i64))])) (fun _ _ => False) := by
 refine aL 8 [.tmp 2] Try.func61 rfl rfl rfl (by kernel_rfl) (by simp) ?_;refine bJ ?_;unfold bw at hm;refine ao [2] ?_;refine aq fun k1 hk1 => ?_
 by_cases h1 : p1 = []
 ·rw [if_pos h1] at hm;refine nQ 0 (s := 1) (by rw [h1]; rfl) ?_ ?_
  ·refine nb ?_;refine ao [3] ?_;refine aj rfl rfl ?_;refine ao [0, 4] ?_;refine dA (gG 2 1 3 (by decide) rfl (Nat.le_of_ble_eq_true rfl)) ?_;refine nc ?_;refine dA (l5 1 3 (by decide)) ?_;simp only [bZ, bL, reduceIte, ↓reduceIte, reduceCtorEq, Int.reduceToNat, Nat.reduceDiv, Nat.reduceMod, Nat.reduceLT, Nat.reduceLeDiff, Nat.reduceAdd, Nat.reduceSub, Nat.reduceMul, Nat.reduceEqDiff, Nat.reduceBEq, Nat.reduceBNe, Nat.reduceGT, List.length_cons, List.length_nil, List.length_append, List.cons_append, List.nil_append];refine fX (m8 1 0 (by decide) rfl rfl) ?_;refine fX (lz 0 1 (by decide) (Nat.le_of_ble_eq_true rfl) (Nat.le_of_ble_eq_true rfl) rfl rfl) ?_;refine am ?_;refine ah ?_;refine aa [.arr 1 1 3 ([].map (eK .i64))] ?_;obtain rfl := Option.some.inj hm;exact en
  ·refine nb ?_;refine ao [3] ?_;refine ak rfl rfl ?_;refine au ?_;refine ap (hk1 _ _ ?_);refine ao [0, 4, 5, 6, 7] ?_;refine eh [.arr 1 1 3 ([].map (eK .i64))] ?_;refine am ?_;refine aa [.arr 1 1 3 ([].map (eK .i64))] ?_;obtain rfl := Option.some.inj hm;exact en
 ·rw [if_neg h1] at hm;refine ao [3] ?_;refine ak rfl rfl ?_;refine au ?_;refine ap (hk1 _ _ ?_);obtain ⟨⟨hg2ax, hg2ay⟩, hm⟩ := gd hm;refine ao [0, 4, 5, 6, 7] ?_;refine eh [.arr 1 1 3 (p1.map (eK .i64))] ?_;refine am ?_;refine aa [.arr 1 1 3 (p1.map (eK .i64))] ?_;obtain rfl := Option.some.inj hm;exact en
end Pam

namespace Pam
open Go Go.Proofs
theorem kR (p1 : List Int) (v0_ : Nat) (r : List Int) (hm : dY p1 = some r) : e7 Try.prog 111 [.c (.osl 0 v0_ 0 p1.length)] [.arr 1 v0_ 3 (p1.map (eK .i64))] (fun p σ => (p = .t [] ∧ σ = [.arr 1 v0_ 3 (r.map (eK .i64))])) (fun _ _ => False) := by
 unfold dY at hm
 split at hm
 ·rename_i h
  simp only [Option.some.injEq] at hm;subst hm;exact tQ tR rfl ⟨_, Try.func111, rfl, by kernel_rfl⟩ 3 v0_ p1 h
 ·cases hm
end Pam

namespace Pam
open Go Go.Proofs
theorem jW (p0 : Nat) (p1 : List Int) (v0_ : Nat) (r : List Int) (hm : dd p0 p1 = some r) : e7 Try.prog 112 [.c (.osl 0 v0_ 0 p0)] [.arr 1 v0_ 3 (p1.map (eK .i64))] (fun p σ => (p = .c (.osl 0 v0_ 0 r.length) ∧ σ = [.arr 1 v0_ 3 (r.map (eK .i64))])) (fun _ _ => False) := by
 unfold dd at hm
 split at hm
 ·rename_i h
  simp only [Option.some.injEq] at hm;subst hm;obtain ⟨rfl, h⟩ := h;exact rm ro rfl ⟨_, Try.func112, rfl, by kernel_rfl⟩ 3 v0_ p1 h
 ·cases hm
end Pam

namespace Pam
open Go Go.Proofs
set_option maxRecDepth 100000 in
set_option maxHeartbeats 1000000 in
theorem lE (p1 : ae) (r : (List Int)) (hm : jI p1 = some r) : cD Try.prog 62 [.a [.int .i64 p1.op, .int .i64 p1.k, .int .i64 p1.out_, .int .i64 p1.n, .tree 1 (p1.a.map (eK .i64)), .tree 4 (p1.e.map aD.enc)]] (.c (.tree 1 (r.map (eK .i64)))) := by
 refine aL 32 [.tmp 2] Try.func62 rfl rfl rfl (by kernel_rfl) (by simp) ?_;refine bJ ?_;unfold jI at hm;refine ao [0, 2] ?_;refine aH [6, 7, 8] fun k kp hk hp => ?_;refine go ?_;obtain ⟨y1, hc1, hm⟩ := bd hm;refine RA (dU p1.a  _ hc1) [] ?_;rintro p σ' ⟨rfl, rfl⟩ _;refine ab ?_;refine go ?_;refine hk _ _ ?_;clear hk hp k kp;refine aP (S := (List Int)) (V := Nat) [1, 3, 5, 9, 10, 11, 12, 13, 14, 15, 16, 17, 18, 19, 20, 21, 22, 23, 24, 25, 26, 27] (fun l4 v5 => [(3, .c (.osl 1 v5 0 l4.length))]) (fun l4 v5 => [.box [.int .i64 p1.op, .int .i64 p1.k, .int .i64 p1.out_, .int .i64 p1.n, .tree 1 (p1.a.map (eK .i64)), .tree 4 (p1.e.map aD.enc)], .arr 1 v5 3 (l4.map (eK .i64))]) (fun l4 => hP l4 = some r) ?_ ?_
 ·skip;refine ao [1, 9] ?_
  refine az ?_;obtain ⟨o1, hl1, hm1⟩ := bd hm;refine bf (S := ((List Int) × Int)) (V := Nat) (O := (List Int)) [3, 5, 12, 13, 14, 15, 16, 17, 18, 19, 20, 21, 22, 23, 24, 25, 26, 27] (fun (l20, x22) v21 => [(3, .c (.osl 1 v21 0 l20.length)), (12, .c (.int .i64 x22))]) (fun (l20, x22) v21 => [.box [.int .i64 p1.op, .int .i64 p1.k, .int .i64 p1.out_, .int .i64 p1.n, .tree 1 (p1.a.map (eK .i64)), .tree 4 (p1.e.map aD.enc)], .arr 1 v21 3 (l20.map (eK .i64))]) _ _ 1 hl1 ?_ ?_
  ·exact ls
  ·rintro ⟨l20, x22⟩ v21 r1 hm hr1;replace hm : eH p1 l20 x22 = some r1 := hm;refine aN ?_;unfold eH at hm;refine ao [] ?_;refine aq fun k1 hk1 => ?_
   by_cases h7 : x22 < (p1.e.length : Int)
   ·rw [if_pos h7] at hm;refine aj rfl (decide_eq_true h7) ?_;refine au ?_;refine ap (hk1 _ _ ?_);refine aq fun k2 hk2 => ?_;refine az ?_;obtain ⟨hg8a, hm⟩ := gd hm;refine bj (em aD.enc p1.e x22.toNat) [13, 14, 15] ?_;refine ao [16] ?_;refine az ?_;refine aP (S := Bool) (V := Nat) [3, 17, 18, 19, 20, 21] (fun b25 v24 => [(3, .c (.osl 1 v24 0 l20.length)), (18, .c (.bool b25))]) (fun b25 v24 => [.box [.int .i64 p1.op, .int .i64 p1.k, .int .i64 p1.out_, .int .i64 p1.n, .tree 1 (p1.a.map (eK .i64)), .tree 4 (p1.e.map aD.enc)], .arr 1 v24 3 (l20.map (eK .i64)), .box [.int .i64 ((p1.e.getD x22.toNat default).op), .int .i64 ((p1.e.getD x22.toNat default).k), .int .i64 ((p1.e.getD x22.toNat default).v), .int .i64 ((p1.e.getD x22.toNat default).n)]]) (fun b25 => ft p1 l20 x22 b25 = some r1) ?_ ?_
    ·skip;refine ao [19] ?_
     by_cases h11 : ((p1.e.getD x22.toNat default).op) = 2
     ·rw [if_pos h11] at hm;refine aj rfl (beq_iff_eq.2 h11) ?_;refine au ?_;refine ay (((p1.e.getD x22.toNat default).op) == 2) v21 hm ?_;exact ls
     ·rw [if_neg h11] at hm;refine ak rfl (beq_eq_false_iff_ne.2 h11) ?_;refine ao [20] ?_
      by_cases h12 : ((p1.e.getD x22.toNat default).op) = 3
      ·rw [if_pos h12] at hm;refine aj rfl (beq_iff_eq.2 h12) ?_;refine au ?_;refine ay (((p1.e.getD x22.toNat default).op) == 3) v21 hm ?_;exact ls
      ·rw [if_neg h12] at hm;refine ak rfl (beq_eq_false_iff_ne.2 h12) ?_;refine bQ ?_;refine ay (((p1.e.getD x22.toNat default).op) == 8) v21 hm ?_;exact ls
    ·rintro b25 v24 hm;replace hm : ft p1 l20 x22 b25 = some r1 := hm;refine aN ?_;unfold ft at hm
     by_cases h9 : b25 = true
     ·rw [if_pos h9] at hm;refine aj rfl (h9) ?_;obtain ⟨⟨hg10ax, hg10ay⟩, hm⟩ := gd hm;refine bQ ?_;refine aA ?_;refine aA ?_;refine ap (hk2 _ _ ?_);refine bQ ?_;refine aJ ((l20 ++ (lit ([(p1.e.getD x22.toNat default).v] : List Int))), (IntKind.wrap .i64 (x22 + 1))) (v24 + 1) hm ?_;exact ls
     ·rw [if_neg h9] at hm;refine ak rfl (Bool.eq_false_iff.2 h9) ?_;refine au ?_;refine aA ?_;refine aA ?_;refine ap (hk2 _ _ ?_);refine bQ ?_;refine aJ (l20, (IntKind.wrap .i64 (x22 + 1))) v24 hm ?_;exact ls
   ·rw [if_neg h7] at hm;refine ak rfl (decide_eq_false h7) ?_;refine bz ?_;have ho13 := aB hm hr1;subst ho13;replace hm : hP l20 = some r := hm1;refine bh ?_;refine aV ?_;refine aI ?_;refine ay l20 v21 hm ?_;exact ls
 ·rintro l4 v5 hm;replace hm : hP l4 = some r := hm;refine aN ?_;unfold hP at hm;refine aH [28, 29] fun k kp hk hp => ?_;refine go ?_;obtain ⟨y6, hc3, hm⟩ := bd hm;refine RA (kR l4 v5 _ hc3) [1] ?_;rintro p σ' ⟨rfl, rfl⟩ _;refine ab ?_;refine go ?_;refine hk _ _ ?_;clear hk hp k kp;refine aH [3, 30, 31] fun k kp hk hp => ?_;refine go ?_;obtain ⟨y7, hc5, hm⟩ := bd hm;refine RA (jW l4.length y6 v5 _ hc5) [1] ?_;rintro p σ' ⟨rfl, rfl⟩ _;refine ab ?_;refine go ?_;refine hk _ _ ?_;clear hk hp k kp;refine fX (bD 1 rfl) ?_;refine am ?_;refine aa [] ?_;obtain rfl := Option.some.inj hm;exact en
end Pam

namespace Pam
open Go Go.Proofs
set_option maxRecDepth 100000 in
set_option maxHeartbeats 1000000 in
theorem jM (p1 : ae) (r : (List Int)) (hm : gg p1 = some r) : cD Try.prog 16 [.a [.int .i64 p1.op, .int .i64 p1.k, .int .i64 p1.out_, .int .i64 p1.n, .tree 1 (p1.a.map (eK .i64)), .tree 4 (p1.e.map aD.enc)]] (.c (.tree 1 (r.map (eK .i64)))) := by
 refine aL 23 [.tmp 2] Try.func16 rfl rfl rfl (by kernel_rfl) (by simp) ?_;refine bJ ?_;unfold gg at hm;refine ao [0, 2] ?_;refine aP (S := Unit) (V := Unit) [2, 3, 4, 5, 6, 7, 8, 9, 10, 11, 12, 13, 14, 15, 16] (fun _ _ => []) (fun _ _ => [.box [.int .i64 p1.op, .int .i64 p1.k, .int .i64 p1.out_, .int .i64 p1.n, .tree 1 (p1.a.map (eK .i64)), .tree 4 (p1.e.map aD.enc)]]) (fun _ => ef p1 = some r) ?_ ?_
 ·skip;refine cd [3, 4, 5, 6, 7, 8, 9, 10] fun k kp hk hp => ?_
  refine an 4 ?_;refine go ?_
  by_cases h3 : p1.op = 13
  ·rw [if_pos h3] at hm;have h3b := beq_iff_eq.2 h3;refine ab ?_;refine gox h3b ?_;refine hk _ _ ?_;clear hk hp k kp
   by_cases h4 : (p1.a.length : Int) = 2
   ·rw [if_pos h4] at hm;refine aj rfl (beq_iff_eq.2 h4) ?_;obtain ⟨hg5a, hm⟩ := gd hm;refine bj (em (eK .i64) p1.a 0) [1, 11, 12, 13, 14, 15, 16] ?_;refine eh [.box [.int .i64 p1.op, .int .i64 p1.k, .int .i64 p1.out_, .int .i64 p1.n, .tree 1 (p1.a.map (eK .i64)), .tree 4 (p1.e.map aD.enc)], .arr 1 0 3 ((lit ([(p1.a.getD 0 default)] : List Int)).map (eK .i64))] ?_;refine fX (bD 1 rfl) ?_;refine am ?_;refine av ?_;refine aa [] ?_;obtain rfl := Option.some.inj hm;exact en
   ·rw [if_neg h4] at hm;refine ak rfl (beq_eq_false_iff_ne.2 h4) ?_;refine au ?_;refine ay () () hm ?_;exact ls
  ·rw [if_neg h3] at hm;have h3b := beq_eq_false_iff_ne.2 h3;refine ab ?_;refine gox h3b ?_;refine hk _ _ ?_;clear hk hp k kp;refine ak rfl rfl ?_;refine au ?_;refine ay () () hm ?_;exact ls
 ·rintro _ _ hm;replace hm : ef p1 = some r := hm;refine aN ?_;unfold ef at hm;refine aP (S := (List aD)) (V := Unit) [17, 18, 19, 20] (fun l1 _ => []) (fun l1 _ => [.box [.int .i64 p1.op, .int .i64 p1.k, .int .i64 p1.out_, .int .i64 p1.n, .tree 1 (p1.a.map (eK .i64)), .tree 4 (l1.map aD.enc)]]) (fun l1 => ee p1 l1 = some r) ?_ ?_
  ·skip;refine ao [17, 18] ?_
   by_cases h2 : p1.op < 14
   ·rw [if_pos h2] at hm;refine aj rfl (decide_eq_true h2) ?_;refine bQ ?_
    refine rN (km 0 [.int .i64 p1.op, .int .i64 p1.k, .int .i64 p1.out_, .int .i64 p1.n, .tree 1 (p1.a.map (eK .i64)), .tree 4 []] rfl (by and_intros <;> trivial)) ?_
    refine gz ?_;refine ay [] () hm ?_;exact ls
   ·rw [if_neg h2] at hm;refine ak rfl (decide_eq_false h2) ?_;refine au ?_;refine ay p1.e () hm ?_;exact ls
  ·rintro l1 _ hm;replace hm : ee p1 l1 = some r := hm;refine aN ?_;unfold ee at hm;refine aH [1, 21, 22] fun k kp hk hp => ?_;refine go ?_;obtain ⟨y2, hc1, hm⟩ := bd hm;refine RP (fun _ => lE (ae.mk p1.op p1.k p1.out_ p1.n p1.a l1) _ hc1) ?_;refine ab ?_;refine go ?_;refine hk _ _ ?_;clear hk hp k kp;refine am ?_;refine aa [] ?_;obtain rfl := Option.some.inj hm;exact en
end Pam

namespace Pam
open Go Go.Proofs
set_option maxRecDepth 100000 in
set_option maxHeartbeats 1000000 in
theorem gW (p1 : Int) (p2 : aw) (r : Bool) (hm : eI p1 p2 = some r) : e7 Try.prog 150 [.c (.optr 0 0), .c (.int .i64 p1)] [.box [.tree 2 (p2.system.vars.map ai.enc), .tree 1 (p2.system.in_.map (eK .i64)), .tree 1 (p2.system.out_.map (eK .i64)), .tree 6 (p2.system.rules.map ae.enc), .int .i64 p2.code]] (fun p σ => (p = .c (.bool r) ∧ σ = [.box [.tree 2 (p2.system.vars.map ai.enc), .tree 1 (p2.system.in_.map (eK .i64)), .tree 1 (p2.system.out_.map (eK .i64)), .tree 6 (p2.system.rules.map ae.enc), .int .i64 p2.code]])) (fun _ _ => False) := by
 refine aL 17 [.tmp 4] Try.func150 rfl rfl rfl (by kernel_rfl) (by simp) ?_;refine bJ ?_;unfold eI at hm;refine ao [4] ?_
 by_cases h1 : p1 ≥ 0
 ·rw [if_pos h1] at hm;have h1b := decide_eq_true h1;refine bj h1b [0, 1, 5, 6, 7, 8, 9, 10, 11, 12, 13, 14, 15, 16] ?_;refine am ?_;refine aa [.box [.tree 2 (p2.system.vars.map ai.enc), .tree 1 (p2.system.in_.map (eK .i64)), .tree 1 (p2.system.out_.map (eK .i64)), .tree 6 (p2.system.rules.map ae.enc), .int .i64 p2.code]] ?_;obtain rfl := Option.some.inj hm;exact en
 ·rw [if_neg h1] at hm;have h1b := decide_eq_false h1;refine bj h1b [0, 1, 5, 6, 7, 8, 9, 10, 11, 12, 13, 14, 15, 16] ?_;refine am ?_;refine aa [.box [.tree 2 (p2.system.vars.map ai.enc), .tree 1 (p2.system.in_.map (eK .i64)), .tree 1 (p2.system.out_.map (eK .i64)), .tree 6 (p2.system.rules.map ae.enc), .int .i64 p2.code]] ?_;obtain rfl := Option.some.inj hm;exact en
end Pam

namespace Pam
open Go Go.Proofs
set_option maxRecDepth 100000 in
set_option maxHeartbeats 1000000 in
theorem ku (p1 : List Int) (p2 : Int) (r : Int) (hm : dL p1 p2 = some r) : cD Try.prog 101 [.c (.tree 1 (p1.map (eK .i64))), .c (.int .i64 p2)] (.c (.int .i64 r)) := by
 refine aL 19 [.tmp 4] Try.func101 rfl rfl rfl (by kernel_rfl) (by simp) ?_;refine bJ ?_;unfold dL at hm;refine ao [4] ?_;refine aP (S := Unit) (V := Unit) [0, 1, 4, 5, 6, 7, 8, 9, 10, 11, 12, 13, 14, 15, 16, 17, 18] (fun _ _ => []) (fun _ _ => []) (fun _ => cX = some r) ?_ ?_
 ·skip;refine ao [6] ?_
  refine az ?_;obtain ⟨o1, hl1, hm1⟩ := bd hm;refine bf (S := Int) (V := Unit) (O := Unit ⊕ Int) [4, 5, 8, 9, 10, 11, 12, 13, 14, 15, 16, 17, 18] (fun x3 _ => [(8, .c (.int .i64 x3))]) (fun x3 _ => []) _ _ () hl1 ?_ ?_
  ·exact ls
  ·rintro x3 _ r1 hm hr1;replace hm : cY p1 p2 x3 = some r1 := hm;refine aN ?_;unfold cY at hm;refine ao [] ?_;refine aq fun k1 hk1 => ?_
   by_cases h1 : x3 < (p1.length : Int)
   ·rw [if_pos h1] at hm;refine aj rfl (decide_eq_true h1) ?_;refine au ?_;refine ap (hk1 _ _ ?_);refine aq fun k2 hk2 => ?_;refine az ?_;refine ao [9, 10] ?_;obtain ⟨hg2a, hm⟩ := gd hm;refine bj (em (eK .i64) p1 x3.toNat) [11, 12, 13, 14, 15] ?_
    by_cases h3 : p2 = (p1.getD x3.toNat default)
    ·rw [if_pos h3] at hm;refine aj rfl (beq_iff_eq.2 h3) ?_;refine ao [0, 1, 5, 7, 8, 16, 17] ?_;have ho4 := aB hm hr1;subst ho4;replace hm : some x3 = some r := hm1;refine am ?_;refine af ?_;refine ah ?_;refine aE ?_;refine af ?_;refine av ?_;refine aa [] ?_;obtain rfl := Option.some.inj hm;exact en
    ·rw [if_neg h3] at hm;refine ak rfl (beq_eq_false_iff_ne.2 h3) ?_;refine au ?_;refine aA ?_;refine ap (hk2 _ _ ?_);refine bQ ?_;refine aJ (IntKind.wrap .i64 (x3 + 1)) () hm ?_;exact ls
   ·rw [if_neg h1] at hm;refine ak rfl (decide_eq_false h1) ?_;refine bz ?_;have ho5 := aB hm hr1;subst ho5;replace hm : cX = some r := hm1;refine bh ?_;refine aV ?_;refine aI ?_;refine ay () () hm ?_;exact ls
 ·rintro _ _ hm;replace hm : cX = some r := hm;refine aN ?_;unfold cX at hm;refine ao [] ?_;refine am ?_;refine aa [] ?_;obtain rfl := Option.some.inj hm;exact en
end Pam

namespace Pam
open Go Go.Proofs
set_option maxRecDepth 100000 in
set_option maxHeartbeats 1000000 in
theorem jO (p1 : List Int) (p2 : Int) (r : Bool) (hm : cZ p1 p2 = some r) : cD Try.prog 82 [.c (.tree 1 (p1.map (eK .i64))), .c (.int .i64 p2)] (.c (.bool r)) := by
 refine aL 9 [.tmp 4] Try.func82 rfl rfl rfl (by kernel_rfl) (by simp) ?_;refine bJ ?_;unfold cZ at hm;refine ao [4] ?_;refine aH [0, 1, 5, 6, 7, 8] fun k kp hk hp => ?_;refine go ?_;obtain ⟨y1, hc1, hm⟩ := bd hm;refine RP (fun _ => ku p1 p2 _ hc1) ?_;refine ab ?_;refine go ?_;refine hk _ _ ?_;clear hk hp k kp;refine am ?_;refine aa [] ?_;obtain rfl := Option.some.inj hm;exact en
end Pam

namespace Pam
open Go Go.Proofs
set_option maxRecDepth 100000 in
set_option maxHeartbeats 8000000 in
theorem nd (p1 : aw) (r : ar) (hm : gh p1 = some r) : e7 Try.prog 107 [.c (.optr 0 0)] [.box [.tree 2 (p1.system.vars.map ai.enc), .tree 1 (p1.system.in_.map (eK .i64)), .tree 1 (p1.system.out_.map (eK .i64)), .tree 6 (p1.system.rules.map ae.enc), .int .i64 p1.code]] (fun p σ => (p = .a [.int .i64 ((r).code), .int .i64 ((r).at_)] ∧ σ = [.box [.tree 2 (p1.system.vars.map ai.enc), .tree 1 (p1.system.in_.map (eK .i64)), .tree 1 (p1.system.out_.map (eK .i64)), .tree 6 (p1.system.rules.map ae.enc), .int .i64 p1.code]])) (fun _ _ => False) := by
 refine aL 122 [.cell 2 30] Try.func107 rfl rfl rfl (by kernel_rfl) (by simp) ?_;refine bJ ?_;unfold gh at hm;refine ao [] ?_;refine aq fun k1 hk1 => ?_;refine cd [9, 10, 11, 12, 13, 14, 15, 16, 17, 18, 19, 20, 21, 22, 23, 24, 25, 26, 27, 28, 29, 30, 31, 32, 33, 34, 35, 36, 37, 38, 39, 40, 41] fun k kp hk hp => ?_;refine an 8 ?_;refine go ?_
 by_cases h1 : (p1.system.vars.length : Int) > 400
 ·rw [if_pos h1] at hm;have h1b := decide_eq_true h1;refine ab ?_;refine gox h1b ?_;refine hk _ _ ?_;clear hk hp k kp;refine aj rfl rfl ?_;refine ao [0, 42, 43] ?_;refine am ?_;refine ah ?_;refine aa [.box [.tree 2 (p1.system.vars.map ai.enc), .tree 1 (p1.system.in_.map (eK .i64)), .tree 1 (p1.system.out_.map (eK .i64)), .tree 6 (p1.system.rules.map ae.enc), .int .i64 p1.code]] ?_;obtain rfl := Option.some.inj hm;exact en
 ·rw [if_neg h1] at hm;have h1b := decide_eq_false h1;refine an 9 ?_;refine gox h1b ?_
  by_cases h2 : (p1.system.rules.length : Int) > 400
  ·rw [if_pos h2] at hm;have h2b := decide_eq_true h2;refine ab ?_;refine gox (a2 h1b h2b) ?_;refine hk _ _ ?_;clear hk hp k kp;refine aj rfl rfl ?_;refine ao [0, 42, 43] ?_;refine am ?_;refine ah ?_;refine aa [.box [.tree 2 (p1.system.vars.map ai.enc), .tree 1 (p1.system.in_.map (eK .i64)), .tree 1 (p1.system.out_.map (eK .i64)), .tree 6 (p1.system.rules.map ae.enc), .int .i64 p1.code]] ?_;obtain rfl := Option.some.inj hm;exact en
  ·rw [if_neg h2] at hm;have h2b := decide_eq_false h2;refine an 9 ?_;refine gox (a2 h1b h2b) ?_
   by_cases h3 : (p1.system.in_.length : Int) > 400
   ·rw [if_pos h3] at hm;have h3b := decide_eq_true h3;refine ab ?_;refine gox (a2 h1b (a2 h2b h3b)) ?_;refine hk _ _ ?_;clear hk hp k kp;refine aj rfl rfl ?_;refine ao [0, 42, 43] ?_;refine am ?_;refine ah ?_;refine aa [.box [.tree 2 (p1.system.vars.map ai.enc), .tree 1 (p1.system.in_.map (eK .i64)), .tree 1 (p1.system.out_.map (eK .i64)), .tree 6 (p1.system.rules.map ae.enc), .int .i64 p1.code]] ?_;obtain rfl := Option.some.inj hm;exact en
   ·rw [if_neg h3] at hm;have h3b := decide_eq_false h3;refine ab ?_;refine gox (a2 h1b (a2 h2b h3b)) ?_;refine hk _ _ ?_;clear hk hp k kp
    by_cases h4 : (p1.system.out_.length : Int) > 400
    ·rw [if_pos h4] at hm;refine aj rfl (decide_eq_true h4) ?_;refine ao [0, 42, 43] ?_;refine am ?_;refine ah ?_;refine aa [.box [.tree 2 (p1.system.vars.map ai.enc), .tree 1 (p1.system.in_.map (eK .i64)), .tree 1 (p1.system.out_.map (eK .i64)), .tree 6 (p1.system.rules.map ae.enc), .int .i64 p1.code]] ?_;obtain rfl := Option.some.inj hm;exact en
    ·rw [if_neg h4] at hm;refine ak rfl (decide_eq_false h4) ?_;refine au ?_;refine ap (hk1 _ _ ?_);refine aP (S := Unit) (V := Unit) [3, 4, 42, 44, 45, 46, 47, 48, 49, 50, 51, 52, 53, 54, 55, 56, 57, 58, 59, 60, 61, 62, 63, 64, 65, 66, 67, 68, 69, 70, 71, 72, 73, 74, 75, 76, 77] (fun _ _ => []) (fun _ _ => [.box [.tree 2 (p1.system.vars.map ai.enc), .tree 1 (p1.system.in_.map (eK .i64)), .tree 1 (p1.system.out_.map (eK .i64)), .tree 6 (p1.system.rules.map ae.enc), .int .i64 p1.code], .box [.int .i64 0, .int .i64 0]]) (fun _ => cJ p1 = some r) ?_ ?_
     ·skip;refine ao [42, 44, 45, 46, 47] ?_
      refine az ?_;obtain ⟨o3, hl3, hm3⟩ := bd hm;refine bf (S := Int) (V := Unit) (O := Unit ⊕ ar) [3, 4, 50, 51, 52, 53, 54, 55, 56, 57, 58, 59, 60, 61, 62, 63, 64, 65, 66, 67, 68, 69, 70, 71, 72, 73, 74, 75, 76, 77] (fun x14 _ => [(50, .c (.int .i64 x14))]) (fun x14 _ => [.box [.tree 2 (p1.system.vars.map ai.enc), .tree 1 (p1.system.in_.map (eK .i64)), .tree 1 (p1.system.out_.map (eK .i64)), .tree 6 (p1.system.rules.map ae.enc), .int .i64 p1.code], .box [.int .i64 0, .int .i64 0]]) _ _ () hl3 ?_ ?_
      ·exact ls
      ·rintro x14 _ r3 hm hr3;replace hm : dO p1 x14 = some r3 := hm;refine aN ?_;unfold dO at hm;refine ao [] ?_;refine aq fun k7 hk7 => ?_
       by_cases h23 : x14 < (p1.system.vars.length : Int)
       ·rw [if_pos h23] at hm;refine aj rfl (decide_eq_true h23) ?_;refine au ?_;refine ap (hk7 _ _ ?_);refine aq fun k8 hk8 => ?_;refine az ?_;obtain ⟨hg24a, hm⟩ := gd hm;refine bj (em ai.enc p1.system.vars x14.toNat) [51, 52, 53, 54] ?_;refine aP (S := Unit) (V := Unit) [55, 56, 57, 58, 59, 60, 61, 62, 63, 64, 65] (fun _ _ => []) (fun _ _ => [.box [.tree 2 (p1.system.vars.map ai.enc), .tree 1 (p1.system.in_.map (eK .i64)), .tree 1 (p1.system.out_.map (eK .i64)), .tree 6 (p1.system.rules.map ae.enc), .int .i64 p1.code], .box [.int .i64 0, .int .i64 0], .box [.int .u8 ((p1.system.vars.getD x14.toNat default).elem), .int .i64 ((p1.system.vars.getD x14.toNat default).n)]]) (fun _ => df p1 x14 = some r3) ?_ ?_
        ·skip;refine cd [55, 56, 57, 58, 59, 60, 61] fun k kp hk hp => ?_
         refine an 4 ?_;refine go ?_
         by_cases h29 : ¬ ((p1.system.vars.getD x14.toNat default).elem) = 105
         ·rw [if_pos h29] at hm;have h29b := bne_iff_ne.2 h29;refine ab ?_;refine gox h29b ?_;refine hk _ _ ?_;clear hk hp k kp
          by_cases h30 : ¬ ((p1.system.vars.getD x14.toNat default).elem) = 98
          ·rw [if_pos h30] at hm;refine aj rfl (bne_iff_ne.2 h30) ?_;refine ao [0, 3, 4, 48, 49, 50, 62, 63, 64, 65] ?_;have ho31 := aB hm hr3;subst ho31;replace hm : some (ar.mk 10 (IntKind.wrap .i64 ((-2) - x14))) = some r := hm3;refine am ?_;refine av ?_;refine af ?_;refine ah ?_;refine aE ?_;refine af ?_;refine av ?_;refine aa [.box [.tree 2 (p1.system.vars.map ai.enc), .tree 1 (p1.system.in_.map (eK .i64)), .tree 1 (p1.system.out_.map (eK .i64)), .tree 6 (p1.system.rules.map ae.enc), .int .i64 p1.code]] ?_;obtain rfl := Option.some.inj hm;exact en
          ·rw [if_neg h30] at hm;refine ak rfl (bne_eq_false_iff_eq.2 (Decidable.not_not.1 h30)) ?_;refine au ?_;refine ay () () hm ?_;exact ls
         ·rw [if_neg h29] at hm;have h29b : (((p1.system.vars.getD x14.toNat default).elem) != 105) = false := bne_eq_false_iff_eq.2 (Decidable.not_not.1 h29);refine ab ?_;refine gox h29b ?_;refine hk _ _ ?_;clear hk hp k kp;refine ak rfl rfl ?_;refine au ?_;refine ay () () hm ?_;exact ls
        ·rintro _ _ hm;replace hm : df p1 x14 = some r3 := hm;refine aN ?_;unfold df at hm;refine cd [4, 66, 67, 68, 69, 70, 71, 72] fun k kp hk hp => ?_;refine an 4 ?_;refine go ?_
         by_cases h25 : ((p1.system.vars.getD x14.toNat default).n) < 0
         ·rw [if_pos h25] at hm;have h25b := decide_eq_true h25;refine ab ?_;refine gox h25b ?_;refine hk _ _ ?_;clear hk hp k kp;refine aj rfl rfl ?_;refine ao [0, 3, 48, 49, 50, 73, 74, 75, 76] ?_;have ho26 := aB hm hr3;subst ho26;replace hm : some (ar.mk 13 (IntKind.wrap .i64 ((-2) - x14))) = some r := hm3;refine am ?_;refine af ?_;refine ah ?_;refine aE ?_;refine af ?_;refine av ?_;refine aa [.box [.tree 2 (p1.system.vars.map ai.enc), .tree 1 (p1.system.in_.map (eK .i64)), .tree 1 (p1.system.out_.map (eK .i64)), .tree 6 (p1.system.rules.map ae.enc), .int .i64 p1.code]] ?_;obtain rfl := Option.some.inj hm;exact en
         ·rw [if_neg h25] at hm;have h25b := decide_eq_false h25;refine ab ?_;refine gox h25b ?_;refine hk _ _ ?_;clear hk hp k kp
          by_cases h27 : ((p1.system.vars.getD x14.toNat default).n) > 300
          ·rw [if_pos h27] at hm;refine aj rfl (decide_eq_true h27) ?_;refine ao [0, 3, 48, 49, 50, 73, 74, 75, 76] ?_;have ho28 := aB hm hr3;subst ho28;replace hm : some (ar.mk 13 (IntKind.wrap .i64 ((-2) - x14))) = some r := hm3;refine am ?_;refine af ?_;refine ah ?_;refine aE ?_;refine af ?_;refine av ?_;refine aa [.box [.tree 2 (p1.system.vars.map ai.enc), .tree 1 (p1.system.in_.map (eK .i64)), .tree 1 (p1.system.out_.map (eK .i64)), .tree 6 (p1.system.rules.map ae.enc), .int .i64 p1.code]] ?_;obtain rfl := Option.some.inj hm;exact en
          ·rw [if_neg h27] at hm;refine ak rfl (decide_eq_false h27) ?_;refine au ?_;refine aA ?_;refine ap (hk8 _ _ ?_);refine bQ ?_;refine aJ (IntKind.wrap .i64 (x14 + 1)) () hm ?_;exact ls
       ·rw [if_neg h23] at hm;refine ak rfl (decide_eq_false h23) ?_;refine bz ?_;have ho32 := aB hm hr3;subst ho32;replace hm : cJ p1 = some r := hm3;refine bh ?_;refine aV ?_;refine aI ?_;refine ay () () hm ?_;exact ls
     ·rintro _ _ hm;replace hm : cJ p1 = some r := hm;refine aN ?_;unfold cJ at hm;refine aP (S := Unit) (V := Unit) [5, 6, 78, 79, 80, 81, 82, 83, 84, 85, 86, 87, 88, 89, 90, 91, 92, 93, 94, 95, 96, 97, 98, 99, 100, 101, 102, 103, 104] (fun _ _ => []) (fun _ _ => [.box [.tree 2 (p1.system.vars.map ai.enc), .tree 1 (p1.system.in_.map (eK .i64)), .tree 1 (p1.system.out_.map (eK .i64)), .tree 6 (p1.system.rules.map ae.enc), .int .i64 p1.code], .box [.int .i64 0, .int .i64 0]]) (fun _ => de p1 = some r) ?_ ?_
      ·skip;refine ao [78, 79, 80, 81] ?_
       refine az ?_;obtain ⟨o2, hl2, hm2⟩ := bd hm;refine bf (S := Int) (V := Unit) (O := Unit ⊕ ar) [5, 6, 84, 85, 86, 87, 88, 89, 90, 91, 92, 93, 94, 95, 96, 97, 98, 99, 100, 101, 102, 103, 104] (fun x8 _ => [(84, .c (.int .i64 x8))]) (fun x8 _ => [.box [.tree 2 (p1.system.vars.map ai.enc), .tree 1 (p1.system.in_.map (eK .i64)), .tree 1 (p1.system.out_.map (eK .i64)), .tree 6 (p1.system.rules.map ae.enc), .int .i64 p1.code], .box [.int .i64 0, .int .i64 0]]) _ _ () hl2 ?_ ?_
       ·exact ls
       ·rintro x8 _ r2 hm hr2;replace hm : eN p1 x8 = some r2 := hm;refine aN ?_;unfold eN at hm;refine ao [] ?_;refine aq fun k4 hk4 => ?_
        by_cases h12 : x8 < (p1.system.in_.length : Int)
        ·rw [if_pos h12] at hm;refine aj rfl (decide_eq_true h12) ?_;refine au ?_;refine ap (hk4 _ _ ?_);refine aq fun k5 hk5 => ?_;refine az ?_;obtain ⟨hg13a, hm⟩ := gd hm;refine bj (em (eK .i64) p1.system.in_ x8.toNat) [85, 86, 87, 88] ?_;refine aq fun k6 hk6 => ?_;refine aH [89, 90, 91] fun k kp hk hp => ?_;refine go ?_;obtain ⟨y9, hc14, hm⟩ := bd hm;refine RA (gW (p1.system.in_.getD x8.toNat default) p1  _ hc14) [0] ?_;rintro p σ' ⟨rfl, rfl⟩ _;refine ab ?_;refine go ?_;refine hk _ _ ?_;clear hk hp k kp
         by_cases h16 : y9 = true
         ·rw [if_pos h16] at hm;refine ak rfl (by rw [show y9 = true from (h16)]; rfl) ?_;refine au ?_;refine ap (hk6 _ _ ?_);obtain ⟨hg17a, hm⟩ := gd hm;refine aH [5, 6, 92, 94, 95, 96, 97, 98, 99, 100, 101] fun k kp hk hp => ?_;refine go ?_;obtain ⟨y10, hc18, hm⟩ := bd hm;refine RP (fun _ => jO (p1.system.in_.take x8.toNat) (p1.system.in_.getD x8.toNat default) _ hc18) ?_;refine ab ?_;refine go ?_;refine hk _ _ ?_;clear hk hp k kp
          by_cases h19 : y10 = true
          ·rw [if_pos h19] at hm;refine aj rfl (h19) ?_;refine ao [0, 82, 83, 84, 102, 103] ?_;have ho20 := aB hm hr2;subst ho20;replace hm : some (ar.mk 8 (-1)) = some r := hm2;refine am ?_;refine af ?_;refine ah ?_;refine aE ?_;refine af ?_;refine av ?_;refine aa [.box [.tree 2 (p1.system.vars.map ai.enc), .tree 1 (p1.system.in_.map (eK .i64)), .tree 1 (p1.system.out_.map (eK .i64)), .tree 6 (p1.system.rules.map ae.enc), .int .i64 p1.code]] ?_;obtain rfl := Option.some.inj hm;exact en
          ·rw [if_neg h19] at hm;refine ak rfl (Bool.eq_false_iff.2 h19) ?_;refine au ?_;refine aA ?_;refine ap (hk5 _ _ ?_);refine bQ ?_;refine aJ (IntKind.wrap .i64 (x8 + 1)) () hm ?_;exact ls
         ·rw [if_neg h16] at hm;refine aj rfl (by rw [show y9 = false from (Bool.eq_false_iff.2 h16)]; rfl) ?_;refine ao [0, 5, 6, 82, 83, 84, 92, 93] ?_;have ho21 := aB hm hr2;subst ho21;replace hm : some (ar.mk 16 (-1)) = some r := hm2;refine am ?_;refine ah ?_;refine af ?_;refine ah ?_;refine aE ?_;refine af ?_;refine av ?_;refine aa [.box [.tree 2 (p1.system.vars.map ai.enc), .tree 1 (p1.system.in_.map (eK .i64)), .tree 1 (p1.system.out_.map (eK .i64)), .tree 6 (p1.system.rules.map ae.enc), .int .i64 p1.code]] ?_;obtain rfl := Option.some.inj hm;exact en
        ·rw [if_neg h12] at hm;refine ak rfl (decide_eq_false h12) ?_;refine bz ?_;have ho22 := aB hm hr2;subst ho22;replace hm : de p1 = some r := hm2;refine bh ?_;refine aV ?_;refine aI ?_;refine ay () () hm ?_;exact ls
      ·rintro _ _ hm;replace hm : de p1 = some r := hm;refine aN ?_;unfold de at hm;refine aP (S := Unit) (V := Unit) [0, 8, 105, 106, 107, 108, 109, 110, 111, 112, 113, 114, 115, 116, 117, 118, 119, 120] (fun _ _ => []) (fun _ _ => [.box [.tree 2 (p1.system.vars.map ai.enc), .tree 1 (p1.system.in_.map (eK .i64)), .tree 1 (p1.system.out_.map (eK .i64)), .tree 6 (p1.system.rules.map ae.enc), .int .i64 p1.code], .box [.int .i64 0, .int .i64 0]]) (fun _ => eJ = some r) ?_ ?_
       ·skip;refine ao [105, 106, 107, 108] ?_
        refine az ?_;obtain ⟨o1, hl1, hm1⟩ := bd hm;refine bf (S := Int) (V := Unit) (O := Unit ⊕ ar) [8, 111, 112, 113, 114, 115, 116, 117, 118, 119, 120] (fun x3 _ => [(111, .c (.int .i64 x3))]) (fun x3 _ => [.box [.tree 2 (p1.system.vars.map ai.enc), .tree 1 (p1.system.in_.map (eK .i64)), .tree 1 (p1.system.out_.map (eK .i64)), .tree 6 (p1.system.rules.map ae.enc), .int .i64 p1.code], .box [.int .i64 0, .int .i64 0]]) _ _ () hl1 ?_ ?_
        ·exact ls
        ·rintro x3 _ r1 hm hr1;replace hm : eM p1 x3 = some r1 := hm;refine aN ?_;unfold eM at hm;refine ao [] ?_;refine aq fun k2 hk2 => ?_
         by_cases h5 : x3 < (p1.system.out_.length : Int)
         ·rw [if_pos h5] at hm;refine aj rfl (decide_eq_true h5) ?_;refine au ?_;refine ap (hk2 _ _ ?_);refine aq fun k3 hk3 => ?_;refine az ?_;obtain ⟨hg6a, hm⟩ := gd hm;refine bj (em (eK .i64) p1.system.out_ x3.toNat) [112, 113, 114] ?_;refine aH [8, 115, 116, 117] fun k kp hk hp => ?_;refine go ?_;obtain ⟨y4, hc7, hm⟩ := bd hm;refine RA (gW (p1.system.out_.getD x3.toNat default) p1  _ hc7) [0] ?_;rintro p σ' ⟨rfl, rfl⟩ _;refine ab ?_;refine go ?_;refine hk _ _ ?_;clear hk hp k kp
          by_cases h9 : y4 = true
          ·rw [if_pos h9] at hm;refine ak rfl (by rw [show y4 = true from (h9)]; rfl) ?_;refine au ?_;refine aA ?_;refine ap (hk3 _ _ ?_);refine bQ ?_;refine aJ (IntKind.wrap .i64 (x3 + 1)) () hm ?_;exact ls
          ·rw [if_neg h9] at hm;refine aj rfl (by rw [show y4 = false from (Bool.eq_false_iff.2 h9)]; rfl) ?_;refine ao [0, 109, 110, 111, 118, 119] ?_;have ho10 := aB hm hr1;subst ho10;replace hm : some (ar.mk 16 (-1)) = some r := hm1;refine am ?_;refine af ?_;refine ah ?_;refine aE ?_;refine af ?_;refine av ?_;refine aa [.box [.tree 2 (p1.system.vars.map ai.enc), .tree 1 (p1.system.in_.map (eK .i64)), .tree 1 (p1.system.out_.map (eK .i64)), .tree 6 (p1.system.rules.map ae.enc), .int .i64 p1.code]] ?_;obtain rfl := Option.some.inj hm;exact en
         ·rw [if_neg h5] at hm;refine ak rfl (decide_eq_false h5) ?_;refine bz ?_;have ho11 := aB hm hr1;subst ho11;replace hm : eJ = some r := hm1;refine bh ?_;refine aV ?_;refine aI ?_;refine ay () () hm ?_;exact ls
       ·rintro _ _ hm;replace hm : eJ = some r := hm;refine aN ?_;unfold eJ at hm;refine ao [121] ?_;refine am ?_;refine aa [.box [.tree 2 (p1.system.vars.map ai.enc), .tree 1 (p1.system.in_.map (eK .i64)), .tree 1 (p1.system.out_.map (eK .i64)), .tree 6 (p1.system.rules.map ae.enc), .int .i64 p1.code]] ?_;obtain rfl := Option.some.inj hm;exact en
end Pam

namespace Pam
open Go Go.Proofs
set_option maxRecDepth 100000 in
set_option maxHeartbeats 1000000 in
theorem cM (p1 : Bool) (p2 : Int) (p3 : aw) (r : Int) (hm : br p1 p2 p3 = some r) : e7 Try.prog 151 [.c (.optr 0 0), .c (.bool p1), .c (.int .i64 p2)] [.box [.tree 2 (p3.system.vars.map ai.enc), .tree 1 (p3.system.in_.map (eK .i64)), .tree 1 (p3.system.out_.map (eK .i64)), .tree 6 (p3.system.rules.map ae.enc), .int .i64 p3.code]] (fun p σ => (p = .t [] ∧ σ = [.box [.tree 2 (p3.system.vars.map ai.enc), .tree 1 (p3.system.in_.map (eK .i64)), .tree 1 (p3.system.out_.map (eK .i64)), .tree 6 (p3.system.rules.map ae.enc), .int .i64 r]])) (fun _ _ => False) := by
 refine aL 18 [] Try.func151 rfl rfl rfl (by kernel_rfl) (by simp) ?_;refine bJ ?_;unfold br at hm
 by_cases h1 : p1 = true
 ·rw [if_pos h1] at hm;have h1b := h1;refine bj h1b [1, 6, 7, 8, 9, 10, 11, 12] ?_
  by_cases h2 : p3.code = 0
  ·rw [if_pos h2] at hm;refine aj rfl (beq_iff_eq.2 h2) ?_;refine bQ ?_;refine nP [.box [.tree 2 (p3.system.vars.map ai.enc), .tree 1 (p3.system.in_.map (eK .i64)), .tree 1 (p3.system.out_.map (eK .i64)), .tree 6 (p3.system.rules.map ae.enc), .int .i64 p2]] ?_;obtain rfl := Option.some.inj hm;exact en
  ·rw [if_neg h2] at hm;refine ak rfl (beq_eq_false_iff_ne.2 h2) ?_;refine au ?_;refine nP [.box [.tree 2 (p3.system.vars.map ai.enc), .tree 1 (p3.system.in_.map (eK .i64)), .tree 1 (p3.system.out_.map (eK .i64)), .tree 6 (p3.system.rules.map ae.enc), .int .i64 p3.code]] ?_;obtain rfl := Option.some.inj hm;exact en
 ·rw [if_neg h1] at hm;have h1b := Bool.eq_false_iff.2 h1;refine bj h1b [1, 6, 7, 8, 9, 10, 11, 12] ?_;refine ak rfl rfl ?_;refine au ?_;refine nP [.box [.tree 2 (p3.system.vars.map ai.enc), .tree 1 (p3.system.in_.map (eK .i64)), .tree 1 (p3.system.out_.map (eK .i64)), .tree 6 (p3.system.rules.map ae.enc), .int .i64 p3.code]] ?_;obtain rfl := Option.some.inj hm;exact en
end Pam

namespace Pam
open Go Go.Proofs
set_option maxRecDepth 100000 in
set_option maxHeartbeats 1000000 in
theorem nf (p1 : Int) (r : Int) (hm : jr p1 = some r) : cD Try.prog 152 [.c (.int .i64 p1)] (.c (.int .i64 r)) := by
  refine aL 12 [.tmp 2] Try.func152 rfl rfl rfl (by kernel_rfl) (by simp) ?_;refine lw (by simp only [gQ, Env.ofList, List.length_nil, List.length_cons, bE, Nat.reduceDiv, Nat.reduceMod, Nat.reduceLT, Nat.reduceLeDiff, Nat.reduceAdd, Nat.reduceSub, Nat.reduceMul, Nat.reduceEqDiff, Nat.reduceBEq, Nat.reduceBNe, Nat.reduceGT, Int.reduceToNat]; rfl) rfl ?_;unfold jr at hm;refine aH [2] fun k kp hk hp => ?_;simp only [bR, bT, tab, bX, reduceIte, ↓reduceIte, reduceCtorEq, Int.reduceToNat, Nat.reduceDiv, Nat.reduceMod, Nat.reduceLT, Nat.reduceLeDiff, Nat.reduceAdd, Nat.reduceSub, Nat.reduceMul, Nat.reduceEqDiff, Nat.reduceBEq, Nat.reduceBNe, Nat.reduceGT]
  repeat refine ⟨by first | omega | assumption | decide | exact aZ fun _ => rfl | (intro _; omega) | rfl | exact fun e => absurd (List.map_eq_nil_iff.1 e) (by assumption) | (and_intros <;> first | omega | assumption | decide | exact aZ fun _ => rfl), ?_⟩
  refine hk _ _ ?_;clear hk hp k kp;refine aq fun k1 hk1 => ?_
  by_cases h1 : p1 < 1
  · rw [if_pos h1] at hm
    have h1b := decide_eq_true h1;refine aH [3, 4, 5, 6, 7] fun k kp hk hp => ?_;simp only [bR, bT, tab, bX, reduceIte, ↓reduceIte, reduceCtorEq, Int.reduceToNat, Nat.reduceDiv, Nat.reduceMod, Nat.reduceLT, Nat.reduceLeDiff, Nat.reduceAdd, Nat.reduceSub, Nat.reduceMul, Nat.reduceEqDiff, Nat.reduceBEq, Nat.reduceBNe, Nat.reduceGT, h1b]
    repeat refine ⟨by first | omega | assumption | decide | exact aZ fun _ => rfl | (intro _; omega) | rfl | exact fun e => absurd (List.map_eq_nil_iff.1 e) (by assumption) | (and_intros <;> first | omega | assumption | decide | exact aZ fun _ => rfl), ?_⟩
    refine hk _ _ ?_;clear hk hp k kp;refine aj rfl rfl ?_;refine aH [0, 8] fun k kp hk hp => ?_;simp only [bR, bT, tab, bX, reduceIte, ↓reduceIte, reduceCtorEq, Int.reduceToNat, Nat.reduceDiv, Nat.reduceMod, Nat.reduceLT, Nat.reduceLeDiff, Nat.reduceAdd, Nat.reduceSub, Nat.reduceMul, Nat.reduceEqDiff, Nat.reduceBEq, Nat.reduceBNe, Nat.reduceGT]
    repeat refine ⟨by first | omega | assumption | decide | exact aZ fun _ => rfl | (intro _; omega) | rfl | exact fun e => absurd (List.map_eq_nil_iff.1 e) (by assumption) | (and_intros <;> first | omega | assumption | decide | exact aZ fun _ => rfl), ?_⟩
    refine hk _ _ ?_;clear hk hp k kp;refine am ?_;refine ah ?_;refine aa [] ?_;obtain rfl := Option.some.inj hm
    simp only [bF, bT, tab, bX, Sum.elim_inl, Sum.elim_inr, reduceIte, ↓reduceIte, reduceCtorEq, Int.reduceToNat, Nat.reduceDiv, Nat.reduceMod, Nat.reduceLT, Nat.reduceLeDiff, Nat.reduceAdd, Nat.reduceSub, Nat.reduceMul, Nat.reduceEqDiff, Nat.reduceBEq, Nat.reduceBNe, Nat.reduceGT] <;> first | done | rfl | (and_intros <;> first | rfl | omega | (simp; done))
  · rw [if_neg h1] at hm
    have h1b := decide_eq_false h1;refine aH [3, 4, 5, 6, 7] fun k kp hk hp => ?_;simp only [bR, bT, tab, bX, reduceIte, ↓reduceIte, reduceCtorEq, Int.reduceToNat, Nat.reduceDiv, Nat.reduceMod, Nat.reduceLT, Nat.reduceLeDiff, Nat.reduceAdd, Nat.reduceSub, Nat.reduceMul, Nat.reduceEqDiff, Nat.reduceBEq, Nat.reduceBNe, Nat.reduceGT, h1b]
    repeat refine ⟨by first | omega | assumption | decide | exact aZ fun _ => rfl | (intro _; omega) | rfl | exact fun e => absurd (List.map_eq_nil_iff.1 e) (by assumption) | (and_intros <;> first | omega | assumption | decide | exact aZ fun _ => rfl), ?_⟩
    refine hk _ _ ?_;clear hk hp k kp
    by_cases h2 : p1 > 16
    · rw [if_pos h2] at hm
      refine aj rfl (decide_eq_true h2) ?_;refine aH [0, 8] fun k kp hk hp => ?_;simp only [bR, bT, tab, bX, reduceIte, ↓reduceIte, reduceCtorEq, Int.reduceToNat, Nat.reduceDiv, Nat.reduceMod, Nat.reduceLT, Nat.reduceLeDiff, Nat.reduceAdd, Nat.reduceSub, Nat.reduceMul, Nat.reduceEqDiff, Nat.reduceBEq, Nat.reduceBNe, Nat.reduceGT]
      repeat refine ⟨by first | omega | assumption | decide | exact aZ fun _ => rfl | (intro _; omega) | rfl | exact fun e => absurd (List.map_eq_nil_iff.1 e) (by assumption) | (and_intros <;> first | omega | assumption | decide | exact aZ fun _ => rfl), ?_⟩
      refine hk _ _ ?_;clear hk hp k kp;refine am ?_;refine ah ?_;refine aa [] ?_;obtain rfl := Option.some.inj hm
      simp only [bF, bT, tab, bX, Sum.elim_inl, Sum.elim_inr, reduceIte, ↓reduceIte, reduceCtorEq, Int.reduceToNat, Nat.reduceDiv, Nat.reduceMod, Nat.reduceLT, Nat.reduceLeDiff, Nat.reduceAdd, Nat.reduceSub, Nat.reduceMul, Nat.reduceEqDiff, Nat.reduceBEq, Nat.reduceBNe, Nat.reduceGT] <;> first | done | rfl | (and_intros <;> first | rfl | omega | (simp; done))
    · rw [if_neg h2] at hm
      refine ak rfl (decide_eq_false h2) ?_;refine au ?_;refine ap (hk1 _ _ ?_);obtain ⟨hg3a, hm⟩ := gd hm;refine cd [0, 8, 9, 10, 11] fun k kp hk hp => ?_;refine an 2 ?_;simp only [bR, bT, tab, bX, reduceIte, ↓reduceIte, reduceCtorEq, Int.reduceToNat, Nat.reduceDiv, Nat.reduceMod, Nat.reduceLT, Nat.reduceLeDiff, Nat.reduceAdd, Nat.reduceSub, Nat.reduceMul, Nat.reduceEqDiff, Nat.reduceBEq, Nat.reduceBNe, Nat.reduceGT, List.replicate, List.foldr]
      repeat refine ⟨by first | omega | assumption | decide | exact aZ fun _ => rfl | (intro _; omega) | rfl | exact fun e => absurd (List.map_eq_nil_iff.1 e) (by assumption) | (and_intros <;> first | omega | assumption | decide | exact aZ fun _ => rfl), ?_⟩
      refine m7 (vS (lit ([0, 0, 1, 1, 2, 3, 2, 2, 1, 3, 3, 1, 2, 2, 0, 1, 1] : List Int)) 17 rfl (by first | rfl | (simp only [bR, bT, tab, bX, reduceIte, ↓reduceIte, reduceCtorEq, Int.reduceToNat, Nat.reduceDiv, Nat.reduceMod, Nat.reduceLT, Nat.reduceLeDiff, Nat.reduceAdd, Nat.reduceSub, Nat.reduceMul, Nat.reduceEqDiff, Nat.reduceBEq, Nat.reduceBNe, Nat.reduceGT]; done)) (by first | rfl | (simp only [bR, bT, tab, bX, reduceIte, ↓reduceIte, reduceCtorEq, Int.reduceToNat, Nat.reduceDiv, Nat.reduceMod, Nat.reduceLT, Nat.reduceLeDiff, Nat.reduceAdd, Nat.reduceSub, Nat.reduceMul, Nat.reduceEqDiff, Nat.reduceBEq, Nat.reduceBNe, Nat.reduceGT]; done)) (by unfold lit; rfl) (by first | kernel_rfl | exact of_decide_eq_true (by kernel_rfl)) (by first | kernel_rfl | exact of_decide_eq_true (by kernel_rfl)) (by kernel_rfl) (by omega) (by omega)) (by first | rfl | (simp only [bR, bT, tab, bX, reduceIte, ↓reduceIte, reduceCtorEq, Int.reduceToNat, Nat.reduceDiv, Nat.reduceMod, Nat.reduceLT, Nat.reduceLeDiff, Nat.reduceAdd, Nat.reduceSub, Nat.reduceMul, Nat.reduceEqDiff, Nat.reduceBEq, Nat.reduceBNe, Nat.reduceGT]; done)) (by first | trivial | exact cw rfl) ?_
      simp only [bR, bT, tab, bX, reduceIte, ↓reduceIte, reduceCtorEq, Int.reduceToNat, Nat.reduceDiv, Nat.reduceMod, Nat.reduceLT, Nat.reduceLeDiff, Nat.reduceAdd, Nat.reduceSub, Nat.reduceMul, Nat.reduceEqDiff, Nat.reduceBEq, Nat.reduceBNe, Nat.reduceGT];refine ab ?_;simp only [bR, bT, tab, bX, reduceIte, ↓reduceIte, reduceCtorEq, Int.reduceToNat, Nat.reduceDiv, Nat.reduceMod, Nat.reduceLT, Nat.reduceLeDiff, Nat.reduceAdd, Nat.reduceSub, Nat.reduceMul, Nat.reduceEqDiff, Nat.reduceBEq, Nat.reduceBNe, Nat.reduceGT]
      repeat refine ⟨by first | omega | assumption | decide | exact aZ fun _ => rfl | (intro _; omega) | rfl | exact fun e => absurd (List.map_eq_nil_iff.1 e) (by assumption) | (and_intros <;> first | omega | assumption | decide | exact aZ fun _ => rfl), ?_⟩
      refine hk _ _ ?_;clear hk hp k kp;refine am ?_;refine aa [] ?_;obtain rfl := Option.some.inj hm
      simp only [bF, bT, tab, bX, Sum.elim_inl, Sum.elim_inr, reduceIte, ↓reduceIte, reduceCtorEq, Int.reduceToNat, Nat.reduceDiv, Nat.reduceMod, Nat.reduceLT, Nat.reduceLeDiff, Nat.reduceAdd, Nat.reduceSub, Nat.reduceMul, Nat.reduceEqDiff, Nat.reduceBEq, Nat.reduceBNe, Nat.reduceGT] <;> first | done | rfl | (and_intros <;> first | rfl | omega | (simp; done))
end Pam

namespace Pam
open Go Go.Proofs
set_option maxRecDepth 100000 in
set_option maxHeartbeats 8000000 in
theorem j5 (p1 : Int) (r : (Int × Int × Int)) (hm : i4 p1 = some r) : cD Try.prog 162 [.c (.int .i64 p1)] (.t [.c (.int .u8 r.1), .c (.int .u8 r.2.1), .c (.int .i64 r.2.2)]) := by
 refine aL 32 [.tmp 2, .tmp 3, .tmp 4] Try.func162 rfl rfl rfl (by kernel_rfl) (by simp) ?_;refine bJ ?_;unfold i4 at hm;refine ao [2, 3, 4] ?_;refine aq fun k1 hk1 => ?_;refine az ?_
 by_cases h1 : p1 ≥ 1
 ·rw [if_pos h1] at hm;have h1b := decide_eq_true h1;refine bj h1b [6, 7, 8, 9, 10, 11] ?_
  by_cases h2 : p1 ≤ 7
  ·rw [if_pos h2] at hm;refine aj rfl (decide_eq_true h2) ?_;refine ao [0, 5] ?_;refine am ?_;refine af ?_;refine ah ?_;refine aa [] ?_;obtain rfl := Option.some.inj hm;exact en
  ·rw [if_neg h2] at hm;refine ak rfl (decide_eq_false h2) ?_
   by_cases h3 : p1 = 8
   ·rw [if_pos h3] at hm;have h3b := beq_iff_eq.2 h3;refine bj h3b [5, 13, 14, 15, 16, 17, 18] ?_;refine aj rfl rfl ?_;refine ao [0, 12] ?_;refine am ?_;refine af ?_;refine ah ?_;refine aa [] ?_;obtain rfl := Option.some.inj hm;exact en
   ·rw [if_neg h3] at hm;have h3b := beq_eq_false_iff_ne.2 h3;refine bj h3b [5, 13, 14, 15, 16, 17, 18] ?_
    by_cases h4 : p1 = 9
    ·rw [if_pos h4] at hm;refine aj rfl (beq_iff_eq.2 h4) ?_;refine ao [0, 12] ?_;refine am ?_;refine af ?_;refine ah ?_;refine aa [] ?_;obtain rfl := Option.some.inj hm;exact en
    ·rw [if_neg h4] at hm;refine ak rfl (beq_eq_false_iff_ne.2 h4) ?_
     by_cases h5 : p1 ≥ 10
     ·rw [if_pos h5] at hm;have h5b := decide_eq_true h5;refine bj h5b [12, 20, 21, 22, 23, 24, 25] ?_
      by_cases h6 : p1 ≤ 12
      ·rw [if_pos h6] at hm;refine aj rfl (decide_eq_true h6) ?_;refine ao [0, 19] ?_;refine am ?_;refine af ?_;refine ah ?_;refine aa [] ?_;obtain rfl := Option.some.inj hm;exact en
      ·rw [if_neg h6] at hm;refine ak rfl (decide_eq_false h6) ?_;refine ao [19, 27, 28] ?_
       by_cases h7 : p1 = 13
       ·rw [if_pos h7] at hm;refine aj rfl (beq_iff_eq.2 h7) ?_;refine ao [0, 26] ?_;refine am ?_;refine af ?_;refine ah ?_;refine aa [] ?_;obtain rfl := Option.some.inj hm;exact en
       ·rw [if_neg h7] at hm;refine ak rfl (beq_eq_false_iff_ne.2 h7) ?_;refine ao [0, 26, 30, 31] ?_
        by_cases h8 : p1 = 14
        ·rw [if_pos h8] at hm;refine aj rfl (beq_iff_eq.2 h8) ?_;refine ao [29] ?_;refine am ?_;refine af ?_;refine ah ?_;refine aa [] ?_;obtain rfl := Option.some.inj hm;exact en
        ·rw [if_neg h8] at hm;refine ak rfl (beq_eq_false_iff_ne.2 h8) ?_;refine au ?_;refine aA ?_;refine ap (hk1 _ _ ?_);refine ao [29] ?_;refine am ?_;refine aa [] ?_;obtain rfl := Option.some.inj hm;exact en
     ·rw [if_neg h5] at hm;have h5b := decide_eq_false h5;refine bj h5b [12, 20, 21, 22, 23, 24, 25] ?_;refine ak rfl rfl ?_;refine ao [19, 27, 28] ?_
      by_cases h9 : p1 = 13
      ·rw [if_pos h9] at hm;refine aj rfl (beq_iff_eq.2 h9) ?_;refine ao [0, 26] ?_;refine am ?_;refine af ?_;refine ah ?_;refine aa [] ?_;obtain rfl := Option.some.inj hm;exact en
      ·rw [if_neg h9] at hm;refine ak rfl (beq_eq_false_iff_ne.2 h9) ?_;refine ao [0, 26, 30, 31] ?_
       by_cases h10 : p1 = 14
       ·rw [if_pos h10] at hm;refine aj rfl (beq_iff_eq.2 h10) ?_;refine ao [29] ?_;refine am ?_;refine af ?_;refine ah ?_;refine aa [] ?_;obtain rfl := Option.some.inj hm;exact en
       ·rw [if_neg h10] at hm;refine ak rfl (beq_eq_false_iff_ne.2 h10) ?_;refine au ?_;refine aA ?_;refine ap (hk1 _ _ ?_);refine ao [29] ?_;refine am ?_;refine aa [] ?_;obtain rfl := Option.some.inj hm;exact en
 ·rw [if_neg h1] at hm;have h1b := decide_eq_false h1;refine bj h1b [6, 7, 8, 9, 10, 11] ?_;refine ak rfl rfl ?_
  by_cases h11 : p1 = 8
  ·rw [if_pos h11] at hm;have h11b := beq_iff_eq.2 h11;refine bj h11b [5, 13, 14, 15, 16, 17, 18] ?_;refine aj rfl rfl ?_;refine ao [0, 12] ?_;refine am ?_;refine af ?_;refine ah ?_;refine aa [] ?_;obtain rfl := Option.some.inj hm;exact en
  ·rw [if_neg h11] at hm;have h11b := beq_eq_false_iff_ne.2 h11;refine bj h11b [5, 13, 14, 15, 16, 17, 18] ?_
   by_cases h12 : p1 = 9
   ·rw [if_pos h12] at hm;refine aj rfl (beq_iff_eq.2 h12) ?_;refine ao [0, 12] ?_;refine am ?_;refine af ?_;refine ah ?_;refine aa [] ?_;obtain rfl := Option.some.inj hm;exact en
   ·rw [if_neg h12] at hm;refine ak rfl (beq_eq_false_iff_ne.2 h12) ?_
    by_cases h13 : p1 ≥ 10
    ·rw [if_pos h13] at hm;have h13b := decide_eq_true h13;refine bj h13b [12, 20, 21, 22, 23, 24, 25] ?_
     by_cases h14 : p1 ≤ 12
     ·rw [if_pos h14] at hm;refine aj rfl (decide_eq_true h14) ?_;refine ao [0, 19] ?_;refine am ?_;refine af ?_;refine ah ?_;refine aa [] ?_;obtain rfl := Option.some.inj hm;exact en
     ·rw [if_neg h14] at hm;refine ak rfl (decide_eq_false h14) ?_;refine ao [19, 27, 28] ?_
      by_cases h15 : p1 = 13
      ·rw [if_pos h15] at hm;refine aj rfl (beq_iff_eq.2 h15) ?_;refine ao [0, 26] ?_;refine am ?_;refine af ?_;refine ah ?_;refine aa [] ?_;obtain rfl := Option.some.inj hm;exact en
      ·rw [if_neg h15] at hm;refine ak rfl (beq_eq_false_iff_ne.2 h15) ?_;refine ao [0, 26, 30, 31] ?_
       by_cases h16 : p1 = 14
       ·rw [if_pos h16] at hm;refine aj rfl (beq_iff_eq.2 h16) ?_;refine ao [29] ?_;refine am ?_;refine af ?_;refine ah ?_;refine aa [] ?_;obtain rfl := Option.some.inj hm;exact en
       ·rw [if_neg h16] at hm;refine ak rfl (beq_eq_false_iff_ne.2 h16) ?_;refine au ?_;refine aA ?_;refine ap (hk1 _ _ ?_);refine ao [29] ?_;refine am ?_;refine aa [] ?_;obtain rfl := Option.some.inj hm;exact en
    ·rw [if_neg h13] at hm;have h13b := decide_eq_false h13;refine bj h13b [12, 20, 21, 22, 23, 24, 25] ?_;refine ak rfl rfl ?_;refine ao [19, 27, 28] ?_
     by_cases h17 : p1 = 13
     ·rw [if_pos h17] at hm;refine aj rfl (beq_iff_eq.2 h17) ?_;refine ao [0, 26] ?_;refine am ?_;refine af ?_;refine ah ?_;refine aa [] ?_;obtain rfl := Option.some.inj hm;exact en
     ·rw [if_neg h17] at hm;refine ak rfl (beq_eq_false_iff_ne.2 h17) ?_;refine ao [0, 26, 30, 31] ?_
      by_cases h18 : p1 = 14
      ·rw [if_pos h18] at hm;refine aj rfl (beq_iff_eq.2 h18) ?_;refine ao [29] ?_;refine am ?_;refine af ?_;refine ah ?_;refine aa [] ?_;obtain rfl := Option.some.inj hm;exact en
      ·rw [if_neg h18] at hm;refine ak rfl (beq_eq_false_iff_ne.2 h18) ?_;refine au ?_;refine aA ?_;refine ap (hk1 _ _ ?_);refine ao [29] ?_;refine am ?_;refine aa [] ?_;obtain rfl := Option.some.inj hm;exact en
end Pam

namespace Pam
open Go Go.Proofs
set_option maxRecDepth 100000 in
set_option maxHeartbeats 1000000 in
theorem ng (p1 : List Int) (p2 : aw) (r : Bool) (hm : gj p1 p2 = some r) : e7 Try.prog 163 [.c (.optr 0 0), .c (.tree 1 (p1.map (eK .i64)))] [.box [.tree 2 (p2.system.vars.map ai.enc), .tree 1 (p2.system.in_.map (eK .i64)), .tree 1 (p2.system.out_.map (eK .i64)), .tree 6 (p2.system.rules.map ae.enc), .int .i64 p2.code]] (fun p σ => (p = .c (.bool r) ∧ σ = [.box [.tree 2 (p2.system.vars.map ai.enc), .tree 1 (p2.system.in_.map (eK .i64)), .tree 1 (p2.system.out_.map (eK .i64)), .tree 6 (p2.system.rules.map ae.enc), .int .i64 p2.code]])) (fun _ _ => False) := by
 refine aL 33 [.tmp 4] Try.func163 rfl rfl rfl (by kernel_rfl) (by simp) ?_;refine bJ ?_;unfold gj at hm;refine ao [4] ?_;refine aP (S := Unit) (V := Unit) [0, 1, 4, 6, 7, 8, 9, 10, 11, 12, 13, 14, 15, 16, 17, 18, 19, 20, 21, 22, 23, 24, 25, 26, 27, 28, 29, 30, 31, 32] (fun _ _ => []) (fun _ _ => [.box [.tree 2 (p2.system.vars.map ai.enc), .tree 1 (p2.system.in_.map (eK .i64)), .tree 1 (p2.system.out_.map (eK .i64)), .tree 6 (p2.system.rules.map ae.enc), .int .i64 p2.code]]) (fun _ => eO = some r) ?_ ?_
 ·skip;refine ao [] ?_
  refine az ?_;obtain ⟨o1, hl1, hm1⟩ := bd hm;refine bf (S := Int) (V := Unit) (O := Unit ⊕ Bool) [4, 6, 9, 10, 11, 12, 13, 14, 15, 16, 17, 18, 19, 20, 21, 22, 23, 24, 25, 26, 27, 28, 29, 30, 31, 32] (fun x3 _ => [(9, .c (.int .i64 x3))]) (fun x3 _ => [.box [.tree 2 (p2.system.vars.map ai.enc), .tree 1 (p2.system.in_.map (eK .i64)), .tree 1 (p2.system.out_.map (eK .i64)), .tree 6 (p2.system.rules.map ae.enc), .int .i64 p2.code]]) _ _ () hl1 ?_ ?_
  ·exact ls
  ·rintro x3 _ r1 hm hr1;replace hm : eP p1 p2 x3 = some r1 := hm;refine aN ?_;unfold eP at hm;refine ao [] ?_;refine aq fun k1 hk1 => ?_
   by_cases h1 : x3 < (p1.length : Int)
   ·rw [if_pos h1] at hm;refine aj rfl (decide_eq_true h1) ?_;refine au ?_;refine ap (hk1 _ _ ?_);refine aq fun k2 hk2 => ?_;refine az ?_;obtain ⟨hg2a, hm⟩ := gd hm;refine bj (em (eK .i64) p1 x3.toNat) [10, 11, 12] ?_;obtain ⟨⟨hg3a, hg3b, hg3c⟩, hm⟩ := gd hm;refine lh (a2 (em ai.enc p2.system.vars ((p1.getD x3.toNat default).toNat)) (a2 (em (eK .i64) p1 0) (em ai.enc p2.system.vars ((p1.getD 0 default).toNat)))) [6, 13, 14, 15, 16, 17, 18, 19, 20, 21, 22, 23, 24, 25, 26, 27, 28, 29, 30] [0, 1, 3, 7, 15, 0, 63, 127, 0, 256, 768, 1792, 3840, 0, 8192, 24576, 65280, 130816, 262143] [false, false, false, false, false, false, false, false, false, false, false, false, false, false, false, false, false, false, true] ?_
    by_cases h4 : ((p2.system.vars.getD ((p1.getD x3.toNat default).toNat) default).elem) = ((p2.system.vars.getD ((p1.getD 0 default).toNat) default).elem) ∧ ((p2.system.vars.getD ((p1.getD x3.toNat default).toNat) default).n) = ((p2.system.vars.getD ((p1.getD 0 default).toNat) default).n)
    ·rw [if_pos h4] at hm;refine ak rfl (by rw [show ((((p2.system.vars.getD ((p1.getD x3.toNat default).toNat) default).elem) == ((p2.system.vars.getD ((p1.getD 0 default).toNat) default).elem)) && (((p2.system.vars.getD ((p1.getD x3.toNat default).toNat) default).n) == ((p2.system.vars.getD ((p1.getD 0 default).toNat) default).n))) = true from (by simpa [Bool.and_eq_true] using h4)]; rfl) ?_;refine au ?_;refine aA ?_;refine ap (hk2 _ _ ?_);refine bQ ?_;refine aJ (IntKind.wrap .i64 (x3 + 1)) () hm ?_;exact ls
    ·rw [if_neg h4] at hm;refine aj rfl (by rw [show ((((p2.system.vars.getD ((p1.getD x3.toNat default).toNat) default).elem) == ((p2.system.vars.getD ((p1.getD 0 default).toNat) default).elem)) && (((p2.system.vars.getD ((p1.getD x3.toNat default).toNat) default).n) == ((p2.system.vars.getD ((p1.getD 0 default).toNat) default).n))) = false from (Bool.eq_false_iff.2 (fun hh => h4 (by simpa [Bool.and_eq_true] using hh)))]; rfl) ?_;refine ao [0, 1, 7, 8, 9, 31] ?_;have ho5 := aB hm hr1;subst ho5;replace hm : some false = some r := hm1;refine am ?_;refine af ?_;refine ah ?_;refine aE ?_;refine af ?_;refine av ?_;refine aa [.box [.tree 2 (p2.system.vars.map ai.enc), .tree 1 (p2.system.in_.map (eK .i64)), .tree 1 (p2.system.out_.map (eK .i64)), .tree 6 (p2.system.rules.map ae.enc), .int .i64 p2.code]] ?_;obtain rfl := Option.some.inj hm;exact en
   ·rw [if_neg h1] at hm;refine ak rfl (decide_eq_false h1) ?_;refine bz ?_;have ho6 := aB hm hr1;subst ho6;replace hm : eO = some r := hm1;refine bh ?_;refine aV ?_;refine aI ?_;refine ay () () hm ?_;exact ls
 ·rintro _ _ hm;replace hm : eO = some r := hm;refine aN ?_;unfold eO at hm;refine ao [] ?_;refine am ?_;refine aa [.box [.tree 2 (p2.system.vars.map ai.enc), .tree 1 (p2.system.in_.map (eK .i64)), .tree 1 (p2.system.out_.map (eK .i64)), .tree 6 (p2.system.rules.map ae.enc), .int .i64 p2.code]] ?_;obtain rfl := Option.some.inj hm;exact en
end Pam

namespace Pam
open Go Go.Proofs
set_option maxRecDepth 100000 in
set_option maxHeartbeats 1000000 in
theorem gV (p1 : Int) (r : ai) (hm : fD p1 = some r) : cD Try.prog 164 [.c (.int .u8 p1)] (.a [.int .u8 ((r).elem), .int .i64 ((r).n)]) := by
 refine aL 5 [.cell 2 63] Try.func164 rfl rfl rfl (by kernel_rfl) (by simp) ?_;refine bJ ?_;unfold fD at hm;refine ao [] ?_;refine ao [0, 3, 4] ?_;refine am ?_;refine aa [] ?_;obtain rfl := Option.some.inj hm;exact en
end Pam

namespace Pam
open Go Go.Proofs
set_option maxRecDepth 100000 in
set_option maxHeartbeats 1000000 in
theorem ji (p1 : aw) (p2 : List Int) (v1_ : Nat) (r : Bool) (hm : d8 p1 p2 = some r) : e7 Try.prog 163 [.c (.optr 0 0), .c (.osl 1 v1_ 0 p2.length)] [.box [.tree 2 (p1.system.vars.map ai.enc), .tree 1 (p1.system.in_.map (eK .i64)), .tree 1 (p1.system.out_.map (eK .i64)), .tree 6 (p1.system.rules.map ae.enc), .int .i64 p1.code], .arr 1 v1_ 3 (p2.map (eK .i64))] (fun p σ => (p = .c (.bool r) ∧ σ = [.box [.tree 2 (p1.system.vars.map ai.enc), .tree 1 (p1.system.in_.map (eK .i64)), .tree 1 (p1.system.out_.map (eK .i64)), .tree 6 (p1.system.rules.map ae.enc), .int .i64 p1.code], .arr 1 v1_ 3 (p2.map (eK .i64))])) (fun _ _ => False) := by
 refine aL 33 [.tmp 4] Try.func163 rfl rfl rfl (by kernel_rfl) (by simp) ?_;refine bJ ?_;unfold d8 at hm;refine ao [4] ?_;refine aP (S := Unit) (V := Unit) [0, 1, 4, 6, 7, 8, 9, 10, 11, 12, 13, 14, 15, 16, 17, 18, 19, 20, 21, 22, 23, 24, 25, 26, 27, 28, 29, 30, 31, 32] (fun _ _ => []) (fun _ _ => [.box [.tree 2 (p1.system.vars.map ai.enc), .tree 1 (p1.system.in_.map (eK .i64)), .tree 1 (p1.system.out_.map (eK .i64)), .tree 6 (p1.system.rules.map ae.enc), .int .i64 p1.code], .arr 1 v1_ 3 (p2.map (eK .i64))]) (fun _ => dZ = some r) ?_ ?_
 ·skip;refine ao [] ?_
  refine az ?_;obtain ⟨o1, hl1, hm1⟩ := bd hm;refine bf (S := Int) (V := Unit) (O := Unit ⊕ Bool) [1, 4, 6, 7, 9, 10, 11, 12, 13, 14, 15, 16, 17, 18, 19, 20, 21, 22, 23, 24, 25, 26, 27, 28, 29, 30, 31, 32] (fun x3 _ => [(1, .c (.osl 1 v1_ 0 p2.length)), (7, .c (.osl 1 v1_ 0 p2.length)), (9, .c (.int .i64 x3))]) (fun x3 _ => [.box [.tree 2 (p1.system.vars.map ai.enc), .tree 1 (p1.system.in_.map (eK .i64)), .tree 1 (p1.system.out_.map (eK .i64)), .tree 6 (p1.system.rules.map ae.enc), .int .i64 p1.code], .arr 1 v1_ 3 (p2.map (eK .i64))]) _ _ () hl1 ?_ ?_
  ·exact ls
  ·rintro x3 _ r1 hm hr1;replace hm : d2 p1 p2 x3 = some r1 := hm;refine aN ?_;unfold d2 at hm;refine ao [] ?_;refine aq fun k1 hk1 => ?_
   by_cases h1 : x3 < (p2.length : Int)
   ·rw [if_pos h1] at hm;refine aj rfl (decide_eq_true h1) ?_;refine au ?_;refine ap (hk1 _ _ ?_);refine aq fun k2 hk2 => ?_;refine az ?_;obtain ⟨hg2a, hm⟩ := gd hm;refine bj (em (eK .i64) p2 x3.toNat) [10, 11, 12] ?_;obtain ⟨⟨hg3a, hg3b, hg3c⟩, hm⟩ := gd hm;refine lh (a2 (em ai.enc p1.system.vars ((p2.getD x3.toNat default).toNat)) (a2 (em (eK .i64) p2 0) (em ai.enc p1.system.vars ((p2.getD 0 default).toNat)))) [6, 13, 14, 15, 16, 17, 18, 19, 20, 21, 22, 23, 24, 25, 26, 27, 28, 29, 30] [0, 1, 3, 7, 15, 0, 63, 127, 0, 256, 768, 1792, 3840, 0, 8192, 24576, 65280, 130816, 262143] [false, false, false, false, false, false, false, false, false, false, false, false, false, false, false, false, false, false, true] ?_
    by_cases h4 : ((p1.system.vars.getD ((p2.getD x3.toNat default).toNat) default).elem) = ((p1.system.vars.getD ((p2.getD 0 default).toNat) default).elem) ∧ ((p1.system.vars.getD ((p2.getD x3.toNat default).toNat) default).n) = ((p1.system.vars.getD ((p2.getD 0 default).toNat) default).n)
    ·rw [if_pos h4] at hm;refine ak rfl (by rw [show ((((p1.system.vars.getD ((p2.getD x3.toNat default).toNat) default).elem) == ((p1.system.vars.getD ((p2.getD 0 default).toNat) default).elem)) && (((p1.system.vars.getD ((p2.getD x3.toNat default).toNat) default).n) == ((p1.system.vars.getD ((p2.getD 0 default).toNat) default).n))) = true from (by simpa [Bool.and_eq_true] using h4)]; rfl) ?_;refine au ?_;refine aA ?_;refine ap (hk2 _ _ ?_);refine bQ ?_;refine aJ (IntKind.wrap .i64 (x3 + 1)) () hm ?_;exact ls
    ·rw [if_neg h4] at hm;refine aj rfl (by rw [show ((((p1.system.vars.getD ((p2.getD x3.toNat default).toNat) default).elem) == ((p1.system.vars.getD ((p2.getD 0 default).toNat) default).elem)) && (((p1.system.vars.getD ((p2.getD x3.toNat default).toNat) default).n) == ((p1.system.vars.getD ((p2.getD 0 default).toNat) default).n))) = false from (Bool.eq_false_iff.2 (fun hh => h4 (by simpa [Bool.and_eq_true] using hh)))]; rfl) ?_;refine ao [0, 1, 7, 8, 9, 31] ?_;have ho5 := aB hm hr1;subst ho5;replace hm : some false = some r := hm1;refine am ?_;refine af ?_;refine ah ?_;refine aE ?_;refine af ?_;refine av ?_;refine aa [.box [.tree 2 (p1.system.vars.map ai.enc), .tree 1 (p1.system.in_.map (eK .i64)), .tree 1 (p1.system.out_.map (eK .i64)), .tree 6 (p1.system.rules.map ae.enc), .int .i64 p1.code], .arr 1 v1_ 3 (p2.map (eK .i64))] ?_;obtain rfl := Option.some.inj hm;exact en
   ·rw [if_neg h1] at hm;refine ak rfl (decide_eq_false h1) ?_;refine bz ?_;have ho6 := aB hm hr1;subst ho6;replace hm : dZ = some r := hm1;refine bh ?_;refine aV ?_;refine aI ?_;refine ay () () hm ?_;exact ls
 ·rintro _ _ hm;replace hm : dZ = some r := hm;refine aN ?_;unfold dZ at hm;refine ao [] ?_;refine am ?_;refine aa [.box [.tree 2 (p1.system.vars.map ai.enc), .tree 1 (p1.system.in_.map (eK .i64)), .tree 1 (p1.system.out_.map (eK .i64)), .tree 6 (p1.system.rules.map ae.enc), .int .i64 p1.code], .arr 1 v1_ 3 (p2.map (eK .i64))] ?_;obtain rfl := Option.some.inj hm;exact en
end Pam

namespace Pam
open Go Go.Proofs
set_option maxRecDepth 100000 in
set_option maxHeartbeats 1000000 in
theorem jP (p1 : Int) (r : Bool) (hm : gl p1 = some r) : cD Try.prog 165 [.c (.int .i64 p1)] (.c (.bool r)) := by
 refine aL 19 [.tmp 2] Try.func165 rfl rfl rfl (by kernel_rfl) (by simp) ?_;refine bJ ?_;unfold gl at hm;refine ao [2] ?_;refine aH [0, 6, 7, 8, 9, 10, 11] fun k kp hk hp => ?_;refine go ?_;obtain ⟨y1, hc1, hm⟩ := bd hm;refine RP (fun _ => j5 p1 _ hc1) ?_;refine ab ?_;refine go ?_;refine hk _ _ ?_;clear hk hp k kp
 by_cases h2 : y1.2.2 = 2
 ·rw [if_pos h2] at hm;have h2b := beq_iff_eq.2 h2;refine bj h2b [3, 4, 5, 12, 13, 14, 15, 16, 17, 18] ?_;refine am ?_;refine aa [] ?_;obtain rfl := Option.some.inj hm;exact en
 ·rw [if_neg h2] at hm;have h2b := beq_eq_false_iff_ne.2 h2;refine bj h2b [3, 4, 5, 12, 13, 14, 15, 16, 17, 18] ?_;refine am ?_;refine aa [] ?_;obtain rfl := Option.some.inj hm;exact en
end Pam

namespace Pam
open Go Go.Proofs
set_option maxRecDepth 100000 in
set_option maxHeartbeats 1000000 in
theorem nh (p1 : Int) (p2 : aw) (r : (ai × Bool)) (hm : gm p1 p2 = some r) : e7 Try.prog 166 [.c (.optr 0 0), .c (.int .i64 p1)] [.box [.tree 2 (p2.system.vars.map ai.enc), .tree 1 (p2.system.in_.map (eK .i64)), .tree 1 (p2.system.out_.map (eK .i64)), .tree 6 (p2.system.rules.map ae.enc), .int .i64 p2.code]] (fun p σ => (p = .t [.a [.int .u8 ((r.1).elem), .int .i64 ((r.1).n)], .c (.bool r.2)] ∧ σ = [.box [.tree 2 (p2.system.vars.map ai.enc), .tree 1 (p2.system.in_.map (eK .i64)), .tree 1 (p2.system.out_.map (eK .i64)), .tree 6 (p2.system.rules.map ae.enc), .int .i64 p2.code]])) (fun _ _ => False) := by
 refine aL 26 [.cell 4 63, .tmp 5] Try.func166 rfl rfl rfl (by kernel_rfl) (by simp) ?_;refine bJ ?_;unfold gm at hm;refine ao [5] ?_;obtain ⟨hg1a, hm⟩ := gd hm;refine oN [0, 1, 6, 7, 8, 9, 10, 11, 12, 13, 14, 15, 16, 17, 18, 19, 20, 21, 22, 23, 24, 25] (by kernel_rfl) [1] [0, 1, 3, 7, 15, 0, 63, 127, 255, 511, 0, 1024, 3072, 7168, 15360, 0, 64512, 130048, 261120, 523264, 1023, 2097151] [false, false, false, false, false, false, false, false, false, false, false, false, false, false, false, false, false, false, false, false, false, true] [false, false, false, false, false, false, false, false, false, false, false, false, false, false, false, false, false, false, false, false, true, false] [[], [], [], [], [], [], [], [], [], [], [0], [16], [17], [18], [19], [1], [20, 21], [22], [23], [24], [], []] (by kernel_rfl) fun k hk => ?_
 simp only [bAP, bT, tab, bX, reduceIte, ↓reduceIte, reduceCtorEq, Int.reduceToNat, Nat.reduceDiv, Nat.reduceMod, Nat.reduceLT, Nat.reduceLeDiff, Nat.reduceAdd, Nat.reduceSub, Nat.reduceMul, Nat.reduceEqDiff, Nat.reduceBEq, Nat.reduceBNe, Nat.reduceGT, m5 ai.enc p2.system.vars p1.toNat (by first | omega | (simp only [cl, List.length_cons, List.length_nil, List.length_append, List.length_set, List.length_replicate, List.length_map, List.length_take, List.length_drop]; omega))]
 repeat refine ⟨by first | omega | assumption | decide | exact aZ fun _ => rfl | (intro _; omega) | rfl | exact fun e => absurd (List.map_eq_nil_iff.1 e) (by assumption) | (and_intros <;> first | omega | assumption | decide | exact aZ fun _ => rfl) | (refine .inl ?_; simp only [fA]; and_intros <;> first | rfl | trivial) | (refine .inr (.inl ?_); simp only [fA]; and_intros <;> first | rfl | trivial) | (refine .inr ?_; simp only [ix]; and_intros <;> first | exact .inl rfl | exact .inr rfl | trivial) | (refine .inr (.inr ⟨rfl, ?_⟩); simp only [ix]; and_intros <;> first | exact .inl rfl | exact .inr rfl | trivial) | exact .inl rfl, ?_⟩
 obtain ⟨y1, hc2, hm⟩ := bd hm
 refine qn (fun _ => gV ((p2.system.vars.getD p1.toNat default).elem) _ hc2) (by first | trivial | exact cw rfl) (by first | trivial | (intro _; first | trivial | simp [aC]) | simp [aC]) rfl (fun _ => rfl) ?_
 simp only [bAP, bT, tab, bX, reduceIte, ↓reduceIte, reduceCtorEq, Int.reduceToNat, Nat.reduceDiv, Nat.reduceMod, Nat.reduceLT, Nat.reduceLeDiff, Nat.reduceAdd, Nat.reduceSub, Nat.reduceMul, Nat.reduceEqDiff, Nat.reduceBEq, Nat.reduceBNe, Nat.reduceGT, m5 ai.enc p2.system.vars p1.toNat (by first | omega | (simp only [cl, List.length_cons, List.length_nil, List.length_append, List.length_set, List.length_replicate, List.length_map, List.length_take, List.length_drop]; omega))]
 repeat refine ⟨by first | omega | assumption | decide | exact aZ fun _ => rfl | (intro _; omega) | rfl | exact fun e => absurd (List.map_eq_nil_iff.1 e) (by assumption) | (and_intros <;> first | omega | assumption | decide | exact aZ fun _ => rfl) | (refine .inl ?_; simp only [fA]; and_intros <;> first | rfl | trivial) | (refine .inr (.inl ?_); simp only [fA]; and_intros <;> first | rfl | trivial) | (refine .inr ?_; simp only [ix]; and_intros <;> first | exact .inl rfl | exact .inr rfl | trivial) | (refine .inr (.inr ⟨rfl, ?_⟩); simp only [ix]; and_intros <;> first | exact .inl rfl | exact .inr rfl | trivial) | exact .inl rfl, ?_⟩
 refine hk _ _ ?_;clear hk k;refine am ?_;refine aa [.box [.tree 2 (p2.system.vars.map ai.enc), .tree 1 (p2.system.in_.map (eK .i64)), .tree 1 (p2.system.out_.map (eK .i64)), .tree 6 (p2.system.rules.map ae.enc), .int .i64 p2.code]] ?_;obtain rfl := Option.some.inj hm;exact en
end Pam

namespace Pam
open Go Go.Proofs
set_option maxRecDepth 100000 in
set_option maxHeartbeats 1000000 in
theorem bB (p1 : Int) (p2 : List Int) (v1_ : Nat) (r : Int) (hm : bl p1 p2 = some r) : e7 Try.prog 189 [.c (.int .i64 p1), .c (.optr 0 0)] [.box [.osl 1 v1_ 0 p2.length], .arr 1 v1_ 5 (p2.map (eK .u8))] (fun p σ => (p = .c (.int .u8 r) ∧ σ = [.box [.osl 1 v1_ 0 p2.length], .arr 1 v1_ 5 (p2.map (eK .u8))])) (fun _ _ => False) := by
 refine aL 15 [.tmp 3] Try.func189 rfl rfl rfl (by kernel_rfl) (by simp) ?_;refine bJ ?_;unfold bl at hm;refine ao [3] ?_;refine aq fun k1 hk1 => ?_;refine ao [4, 5, 6] ?_
 by_cases h1 : p1 > (p2.length : Int)
 ·rw [if_pos h1] at hm;refine aj rfl (decide_eq_true h1) ?_;refine ao [0, 1, 7] ?_;refine am ?_;refine ah ?_;refine aa [.box [.osl 1 v1_ 0 p2.length], .arr 1 v1_ 5 (p2.map (eK .u8))] ?_;obtain rfl := Option.some.inj hm;exact en
 ·rw [if_neg h1] at hm;refine ak rfl (decide_eq_false h1) ?_;refine au ?_;refine ap (hk1 _ _ ?_);obtain ⟨hg2a, hm⟩ := gd hm;refine bj (em (eK .u8) p2 ((IntKind.wrap .i64 ((p2.length : Int) - p1)).toNat)) [0, 1, 7, 8, 9, 10, 11, 12, 13, 14] ?_;refine am ?_;refine aa [.box [.osl 1 v1_ 0 p2.length], .arr 1 v1_ 5 (p2.map (eK .u8))] ?_;obtain rfl := Option.some.inj hm;exact en
end Pam

namespace Pam
open Go Go.Proofs
set_option maxRecDepth 100000 in
set_option maxHeartbeats 8000000 in
theorem mj (p1 : aD) (p2 : Int) (p3 : aw) (p4 : List Int) (v1_ : Nat) (r : (Int × Int × Bool)) (hm : aK p1 p2 p3 p4 = some r) : e7 Try.prog 187 [.c (.optr 0 0), .a [.int .i64 p1.op, .int .i64 p1.k, .int .i64 p1.v, .int .i64 p1.n], .c (.int .i64 p2), .c (.osl 1 v1_ 0 p4.length)] [.box [.tree 2 (p3.system.vars.map ai.enc), .tree 1 (p3.system.in_.map (eK .i64)), .tree 1 (p3.system.out_.map (eK .i64)), .tree 6 (p3.system.rules.map ae.enc), .int .i64 p3.code], .arr 1 v1_ 5 (p4.map (eK .u8))] (fun p σ => (p = .t [.c (.int .i64 r.1), .c (.int .u8 r.2.1), .c (.bool r.2.2)] ∧ σ = [.box [.tree 2 (p3.system.vars.map ai.enc), .tree 1 (p3.system.in_.map (eK .i64)), .tree 1 (p3.system.out_.map (eK .i64)), .tree 6 (p3.system.rules.map ae.enc), .int .i64 p3.code], .arr 1 v1_ 5 (p4.map (eK .u8))])) (fun _ _ => False) := by
 refine aL 180 [.tmp 8, .tmp 9, .tmp 10] Try.func187 rfl rfl rfl (by kernel_rfl) (by simp) ?_;refine bJ ?_;unfold aK at hm;refine ao [1, 3, 8, 9, 10] ?_;refine ao [7, 17] ?_;refine aq fun k1 hk1 => ?_;refine ao [18] ?_;refine az ?_;refine ao [21] ?_
 by_cases h1 : p1.op = 1
 ·rw [if_pos h1] at hm;refine aj rfl (beq_iff_eq.2 h1) ?_;refine aq fun k2 hk2 => ?_;refine ao [0, 2, 11, 19, 20, 22, 23] ?_
  by_cases h2 : p1.k = 1
  ·rw [if_pos h2] at hm;refine aj rfl (beq_iff_eq.2 h2) ?_;refine dV [5, 24, 25, 26, 27, 28, 29, 30, 31, 32] (by kernel_rfl) [0, 1, 3, 7, 15, 31, 63, 127, 15, 271, 1023] [true, true, true, true, false, false, false, false, false, false, true] (by kernel_rfl) fun k hk => ?_;refine dM 4 rfl ?_;refine ga ?_
   by_cases h3 : p1.n = 0
   ·rw [if_pos h3] at hm;have h3b := beq_iff_eq.2 h3;refine aU ?_;refine gax h3b ?_;refine hk _ _ ?_;clear hk k;refine am ?_;refine ah ?_;refine af ?_;refine ah ?_;refine aa [.box [.tree 2 (p3.system.vars.map ai.enc), .tree 1 (p3.system.in_.map (eK .i64)), .tree 1 (p3.system.out_.map (eK .i64)), .tree 6 (p3.system.rules.map ae.enc), .int .i64 p3.code], .arr 1 v1_ 5 (p4.map (eK .u8))] ?_;obtain rfl := Option.some.inj hm;exact en
   ·rw [if_neg h3] at hm;have h3b := beq_eq_false_iff_ne.2 h3;refine aU ?_;refine gax h3b ?_;refine hk _ _ ?_;clear hk k;refine am ?_;refine ah ?_;refine af ?_;refine ah ?_;refine aa [.box [.tree 2 (p3.system.vars.map ai.enc), .tree 1 (p3.system.in_.map (eK .i64)), .tree 1 (p3.system.out_.map (eK .i64)), .tree 6 (p3.system.rules.map ae.enc), .int .i64 p3.code], .arr 1 v1_ 5 (p4.map (eK .u8))] ?_;obtain rfl := Option.some.inj hm;exact en
  ·rw [if_neg h2] at hm;refine ak rfl (beq_eq_false_iff_ne.2 h2) ?_;refine au ?_;refine ap (hk2 _ _ ?_);refine uR [5, 24, 33, 34, 35] [0, 1, 3, 0, 8, 31] [false, false, false, false, false, true] ?_;refine am ?_;refine af ?_;refine ah ?_;refine aa [.box [.tree 2 (p3.system.vars.map ai.enc), .tree 1 (p3.system.in_.map (eK .i64)), .tree 1 (p3.system.out_.map (eK .i64)), .tree 6 (p3.system.rules.map ae.enc), .int .i64 p3.code], .arr 1 v1_ 5 (p4.map (eK .u8))] ?_;obtain rfl := Option.some.inj hm;exact en
 ·rw [if_neg h1] at hm;refine ak rfl (beq_eq_false_iff_ne.2 h1) ?_;refine ao [20, 37] ?_
  by_cases h4 : p1.op = 2
  ·rw [if_pos h4] at hm;refine aj rfl (beq_iff_eq.2 h4) ?_;obtain ⟨hg5a, hm⟩ := gd hm;refine lh (em ai.enc p3.system.vars p1.v.toNat) [0, 2, 5, 11, 19, 36, 38, 39, 40, 41, 42, 43, 44, 45, 46, 47, 48, 49, 50, 51, 52, 53, 54, 55, 56, 57, 58] [0, 1, 3, 7, 15, 0, 32, 127, 255, 511, 0, 1024, 3072, 7168, 15360, 0, 32768, 130048, 261120, 523264, 1047552, 0, 2098175, 8388607] [false, false, false, false, false, false, false, false, false, false, false, false, false, false, false, false, false, false, false, false, false, false, false, true] ?_;refine am ?_;refine af ?_;refine ah ?_;refine aa [.box [.tree 2 (p3.system.vars.map ai.enc), .tree 1 (p3.system.in_.map (eK .i64)), .tree 1 (p3.system.out_.map (eK .i64)), .tree 6 (p3.system.rules.map ae.enc), .int .i64 p3.code], .arr 1 v1_ 5 (p4.map (eK .u8))] ?_;obtain rfl := Option.some.inj hm;exact en
  ·rw [if_neg h4] at hm;refine ak rfl (beq_eq_false_iff_ne.2 h4) ?_;refine ao [36, 60] ?_
   by_cases h6 : p1.op = 3
   ·rw [if_pos h6] at hm;refine aj rfl (beq_iff_eq.2 h6) ?_;obtain ⟨hg7a, hm⟩ := gd hm;refine lh (em ai.enc p3.system.vars p1.v.toNat) [0, 11, 19, 59, 61, 62, 63, 64, 65, 66, 67, 68, 69] [0, 1, 3, 7, 15, 0, 32, 127, 255, 0, 1023] [false, false, false, false, false, false, false, false, false, false, true] ?_;refine dV [2, 5, 12, 70, 71, 72, 73, 74, 75, 76, 77, 78, 79, 80, 81, 82, 83, 84, 85, 86, 87, 88] (by kernel_rfl) [0, 1, 0, 4, 12, 28, 60, 124, 252, 508, 1020, 2044, 4092, 2044, 10236, 2044, 59388, 131068, 262140, 2044, 526335, 2097151] [false, false, false, false, false, false, false, false, false, false, false, false, false, false, false, false, false, false, false, false, false, true] (by kernel_rfl) fun k hk => ?_;refine dM 6 rfl ?_;refine ga ?_
    by_cases h8 : ((p3.system.vars.getD p1.v.toNat default).n) > 0
    ·rw [if_pos h8] at hm;have h8b := decide_eq_true h8;refine dM 5 rfl ?_;refine gax h8b ?_
     by_cases h9 : p1.n ≥ 0
     ·rw [if_pos h9] at hm;have h9b := decide_eq_true h9;refine aU ?_;refine gax (a2 h8b h9b) ?_;refine hk _ _ ?_;clear hk k;refine am ?_;refine af ?_;refine ah ?_;refine aa [.box [.tree 2 (p3.system.vars.map ai.enc), .tree 1 (p3.system.in_.map (eK .i64)), .tree 1 (p3.system.out_.map (eK .i64)), .tree 6 (p3.system.rules.map ae.enc), .int .i64 p3.code], .arr 1 v1_ 5 (p4.map (eK .u8))] ?_;obtain rfl := Option.some.inj hm;exact en
     ·rw [if_neg h9] at hm;have h9b := decide_eq_false h9;refine aU ?_;refine gax (a2 h8b h9b) ?_;refine hk _ _ ?_;clear hk k;refine am ?_;refine af ?_;refine ah ?_;refine aa [.box [.tree 2 (p3.system.vars.map ai.enc), .tree 1 (p3.system.in_.map (eK .i64)), .tree 1 (p3.system.out_.map (eK .i64)), .tree 6 (p3.system.rules.map ae.enc), .int .i64 p3.code], .arr 1 v1_ 5 (p4.map (eK .u8))] ?_;obtain rfl := Option.some.inj hm;exact en
    ·rw [if_neg h8] at hm;have h8b := decide_eq_false h8;refine aU ?_;refine gax h8b ?_;refine hk _ _ ?_;clear hk k;refine am ?_;refine af ?_;refine ah ?_;refine aa [.box [.tree 2 (p3.system.vars.map ai.enc), .tree 1 (p3.system.in_.map (eK .i64)), .tree 1 (p3.system.out_.map (eK .i64)), .tree 6 (p3.system.rules.map ae.enc), .int .i64 p3.code], .arr 1 v1_ 5 (p4.map (eK .u8))] ?_;obtain rfl := Option.some.inj hm;exact en
   ·rw [if_neg h6] at hm;refine ak rfl (beq_eq_false_iff_ne.2 h6) ?_;refine ao [2, 59, 90] ?_
    by_cases h10 : p1.op = 4
    ·rw [if_pos h10] at hm;refine aj rfl (beq_iff_eq.2 h10) ?_;refine dV [0, 5, 11, 19, 89, 91, 92, 93, 94, 95, 96, 97, 98] (by kernel_rfl) [0, 1, 3, 7, 15, 31, 63, 127, 15, 271, 1023] [true, true, true, true, false, false, false, false, false, false, true] (by kernel_rfl) fun k hk => ?_;refine dM 4 rfl ?_;refine ga ?_
     by_cases h11 : p1.n ≥ (-1000000)
     ·rw [if_pos h11] at hm;have h11b := decide_eq_true h11;refine aU ?_;refine gax h11b ?_;refine hk _ _ ?_;clear hk k;refine am ?_;refine af ?_;refine ah ?_;refine aa [.box [.tree 2 (p3.system.vars.map ai.enc), .tree 1 (p3.system.in_.map (eK .i64)), .tree 1 (p3.system.out_.map (eK .i64)), .tree 6 (p3.system.rules.map ae.enc), .int .i64 p3.code], .arr 1 v1_ 5 (p4.map (eK .u8))] ?_;obtain rfl := Option.some.inj hm;exact en
     ·rw [if_neg h11] at hm;have h11b := decide_eq_false h11;refine aU ?_;refine gax h11b ?_;refine hk _ _ ?_;clear hk k;refine am ?_;refine af ?_;refine ah ?_;refine aa [.box [.tree 2 (p3.system.vars.map ai.enc), .tree 1 (p3.system.in_.map (eK .i64)), .tree 1 (p3.system.out_.map (eK .i64)), .tree 6 (p3.system.rules.map ae.enc), .int .i64 p3.code], .arr 1 v1_ 5 (p4.map (eK .u8))] ?_;obtain rfl := Option.some.inj hm;exact en
    ·rw [if_neg h10] at hm;refine ak rfl (beq_eq_false_iff_ne.2 h10) ?_;refine aP (S := Bool) (V := Unit) [89, 99, 100, 101] (fun b1 _ => [(99, .c (.bool b1))]) (fun b1 _ => [.box [.tree 2 (p3.system.vars.map ai.enc), .tree 1 (p3.system.in_.map (eK .i64)), .tree 1 (p3.system.out_.map (eK .i64)), .tree 6 (p3.system.rules.map ae.enc), .int .i64 p3.code], .arr 1 v1_ 5 (p4.map (eK .u8)), .box [.int .i64 p1.op, .int .i64 p1.k, .int .i64 p1.v, .int .i64 p1.n], .box [.osl 1 v1_ 0 p4.length]]) (fun b1 => bC p1 p3 p4 b1 = some r) ?_ ?_
     ·skip;refine ao [89, 100] ?_
      by_cases h40 : p1.op = 5
      ·rw [if_pos h40] at hm;refine aj rfl (beq_iff_eq.2 h40) ?_;refine au ?_;refine ay (p1.op == 5) () hm ?_;exact ls
      ·rw [if_neg h40] at hm;refine ak rfl (beq_eq_false_iff_ne.2 h40) ?_;refine bQ ?_;refine ay (p1.op == 6) () hm ?_;exact ls
     ·rintro b1 _ hm;replace hm : bC p1 p3 p4 b1 = some r := hm;refine aN ?_;unfold bC at hm
      by_cases h12 : b1 = true
      ·rw [if_pos h12] at hm;refine aj rfl (h12) ?_;refine aH [0, 19, 99, 102, 103, 104, 105, 106, 107, 108] fun k kp hk hp => ?_;refine go ?_;obtain ⟨y2, hc13, hm⟩ := bd hm;refine RP (fun _ => j5 p1.k _ hc13) ?_;refine ab ?_;refine go ?_;refine hk _ _ ?_;clear hk hp k kp;refine cd [5, 11, 13, 14, 15, 109, 110, 111, 112, 113, 114, 115, 116, 117, 118, 119, 120, 121, 122, 123, 124, 125, 126, 127, 128, 129, 130, 131, 132] fun k kp hk hp => ?_;refine an 9 ?_;refine go ?_
       by_cases h14 : y2.2.2 = (IntKind.wrap .i64 ((IntKind.wrap .i64 (p1.op - 5)) + 1))
       ·rw [if_pos h14] at hm;have h14b := beq_iff_eq.2 h14;refine ab ?_;refine gox h14b ?_;obtain ⟨y3, hc15, hm⟩ := bd hm;refine RA (bB 1 p4 v1_ _ hc15) [3, 1] ?_;rintro p σ' ⟨rfl, rfl⟩ _;refine an 4 ?_;refine gox h14b ?_
        by_cases h17 : y3 = y2.1
        ·rw [if_pos h17] at hm;have h17b := beq_iff_eq.2 h17
         by_cases h18 : y2.2.2 = 1
         ·rw [if_pos h18] at hm;have h18b := beq_iff_eq.2 h18;refine ab ?_;refine gox (a2 h14b (a2 h17b h18b)) ?_;refine hk _ _ ?_;clear hk hp k kp;refine am ?_;refine af ?_;refine ah ?_;refine aa [.box [.tree 2 (p3.system.vars.map ai.enc), .tree 1 (p3.system.in_.map (eK .i64)), .tree 1 (p3.system.out_.map (eK .i64)), .tree 6 (p3.system.rules.map ae.enc), .int .i64 p3.code], .arr 1 v1_ 5 (p4.map (eK .u8))] ?_;obtain rfl := Option.some.inj hm;exact en
         ·rw [if_neg h18] at hm;have h18b := beq_eq_false_iff_ne.2 h18;refine ab ?_;refine gox (a2 h14b (a2 h17b h18b)) ?_;obtain ⟨y4, hc19, hm⟩ := bd hm;refine RA (bB 2 p4 v1_ _ hc19) [3, 1] ?_;rintro p σ' ⟨rfl, rfl⟩ _;refine ab ?_;refine gox (a2 h14b (a2 h17b h18b)) ?_;refine hk _ _ ?_;clear hk hp k kp;refine am ?_;refine af ?_;refine ah ?_;refine aa [.box [.tree 2 (p3.system.vars.map ai.enc), .tree 1 (p3.system.in_.map (eK .i64)), .tree 1 (p3.system.out_.map (eK .i64)), .tree 6 (p3.system.rules.map ae.enc), .int .i64 p3.code], .arr 1 v1_ 5 (p4.map (eK .u8))] ?_;obtain rfl := Option.some.inj hm;exact en
        ·rw [if_neg h17] at hm;have h17b := beq_eq_false_iff_ne.2 h17;refine ab ?_;refine gox (a2 h14b h17b) ?_;refine hk _ _ ?_;clear hk hp k kp;refine am ?_;refine af ?_;refine ah ?_;refine aa [.box [.tree 2 (p3.system.vars.map ai.enc), .tree 1 (p3.system.in_.map (eK .i64)), .tree 1 (p3.system.out_.map (eK .i64)), .tree 6 (p3.system.rules.map ae.enc), .int .i64 p3.code], .arr 1 v1_ 5 (p4.map (eK .u8))] ?_;obtain rfl := Option.some.inj hm;exact en
       ·rw [if_neg h14] at hm;have h14b := beq_eq_false_iff_ne.2 h14;refine ab ?_;refine gox h14b ?_;refine hk _ _ ?_;clear hk hp k kp;refine am ?_;refine af ?_;refine ah ?_;refine aa [.box [.tree 2 (p3.system.vars.map ai.enc), .tree 1 (p3.system.in_.map (eK .i64)), .tree 1 (p3.system.out_.map (eK .i64)), .tree 6 (p3.system.rules.map ae.enc), .int .i64 p3.code], .arr 1 v1_ 5 (p4.map (eK .u8))] ?_;obtain rfl := Option.some.inj hm;exact en
      ·rw [if_neg h12] at hm;refine ak rfl (Bool.eq_false_iff.2 h12) ?_;refine ao [99, 134] ?_
       by_cases h21 : p1.op = 7
       ·rw [if_pos h21] at hm;refine aj rfl (beq_iff_eq.2 h21) ?_;refine aH [0, 5, 11, 19, 133, 135, 136, 137, 138, 139, 140, 141, 142, 143, 144, 145, 146, 147, 148, 149, 150, 151] fun k kp hk hp => ?_;refine go ?_;obtain ⟨y5, hc22, hm⟩ := bd hm;refine RA (bB 1 p4 v1_ _ hc22) [3, 1] ?_;rintro p σ' ⟨rfl, rfl⟩ _;refine ab ?_;refine go ?_;obtain ⟨y6, hc24, hm⟩ := bd hm;refine RA (bB 3 p4 v1_ _ hc24) [3, 1] ?_;rintro p σ' ⟨rfl, rfl⟩ _
        by_cases h26 : y6 = 98
        ·rw [if_pos h26] at hm;have h26b := beq_iff_eq.2 h26;refine ab ?_;refine gox h26b ?_;obtain ⟨y7, hc27, hm⟩ := bd hm;refine RA (bB 1 p4 v1_ _ hc27) [3, 1] ?_;rintro p σ' ⟨rfl, rfl⟩ _;refine ab ?_;refine gox h26b ?_;obtain ⟨y8, hc29, hm⟩ := bd hm;refine RA (bB 2 p4 v1_ _ hc29) [3, 1] ?_;rintro p σ' ⟨rfl, rfl⟩ _
         by_cases h31 : y7 = y8
         ·rw [if_pos h31] at hm;have h31b := beq_iff_eq.2 h31;refine ab ?_;refine gox (a2 h26b h31b) ?_;obtain ⟨y9, hc32, hm⟩ := bd hm;refine RA (bB 1 p4 v1_ _ hc32) [3, 1] ?_;rintro p σ' ⟨rfl, rfl⟩ _;refine ab ?_;refine gox (a2 h26b h31b) ?_;refine hk _ _ ?_;clear hk hp k kp;refine am ?_;refine af ?_;refine ah ?_;refine aa [.box [.tree 2 (p3.system.vars.map ai.enc), .tree 1 (p3.system.in_.map (eK .i64)), .tree 1 (p3.system.out_.map (eK .i64)), .tree 6 (p3.system.rules.map ae.enc), .int .i64 p3.code], .arr 1 v1_ 5 (p4.map (eK .u8))] ?_;obtain rfl := Option.some.inj hm;exact en
         ·rw [if_neg h31] at hm;have h31b := beq_eq_false_iff_ne.2 h31;refine ab ?_;refine gox (a2 h26b h31b) ?_;refine hk _ _ ?_;clear hk hp k kp;refine am ?_;refine af ?_;refine ah ?_;refine aa [.box [.tree 2 (p3.system.vars.map ai.enc), .tree 1 (p3.system.in_.map (eK .i64)), .tree 1 (p3.system.out_.map (eK .i64)), .tree 6 (p3.system.rules.map ae.enc), .int .i64 p3.code], .arr 1 v1_ 5 (p4.map (eK .u8))] ?_;obtain rfl := Option.some.inj hm;exact en
        ·rw [if_neg h26] at hm;have h26b := beq_eq_false_iff_ne.2 h26;refine ab ?_;refine gox h26b ?_;refine hk _ _ ?_;clear hk hp k kp;refine am ?_;refine af ?_;refine ah ?_;refine aa [.box [.tree 2 (p3.system.vars.map ai.enc), .tree 1 (p3.system.in_.map (eK .i64)), .tree 1 (p3.system.out_.map (eK .i64)), .tree 6 (p3.system.rules.map ae.enc), .int .i64 p3.code], .arr 1 v1_ 5 (p4.map (eK .u8))] ?_;obtain rfl := Option.some.inj hm;exact en
       ·rw [if_neg h21] at hm;refine ak rfl (beq_eq_false_iff_ne.2 h21) ?_;refine ao [19, 133, 153] ?_
        by_cases h34 : p1.op = 8
        ·rw [if_pos h34] at hm;refine aj rfl (beq_iff_eq.2 h34) ?_;obtain ⟨hg35a, hm⟩ := gd hm;refine lh (em ai.enc p3.system.vars p1.v.toNat) [0, 5, 152, 154, 155, 156, 157, 158, 159, 160, 161, 162] [0, 1, 3, 7, 15, 0, 32, 127, 255, 0, 1023] [false, false, false, false, false, false, false, false, false, false, true] ?_;refine dV [11, 16, 163, 164, 165, 166, 167, 168, 169, 170, 171, 172, 173, 174, 175, 176, 177, 178, 179] (by kernel_rfl) [0, 1, 0, 4, 12, 28, 60, 124, 60, 316, 1020, 2044, 4092, 8188, 16380, 32764, 65532, 32764, 163839, 524287] [false, false, false, false, false, false, false, false, false, false, false, false, false, false, false, false, false, false, false, true] (by kernel_rfl) fun k hk => ?_;refine dM 6 rfl ?_;refine ga ?_
         by_cases h36 : ((p3.system.vars.getD p1.v.toNat default).n) > 0
         ·rw [if_pos h36] at hm;have h36b := decide_eq_true h36;refine aU ?_;refine gax h36b ?_;obtain ⟨y10, hc37, hm⟩ := bd hm
          refine ia (σ2 := [.box [.tree 2 (p3.system.vars.map ai.enc), .tree 1 (p3.system.in_.map (eK .i64)), .tree 1 (p3.system.out_.map (eK .i64)), .tree 6 (p3.system.rules.map ae.enc), .int .i64 p3.code], .arr 1 v1_ 5 (p4.map (eK .u8)), .box [.int .i64 p1.op, .int .i64 p1.k, .int .i64 p1.v, .int .i64 p1.n], .box [.osl 1 v1_ 0 p4.length], .box [.int .u8 ((p3.system.vars.getD p1.v.toNat default).elem), .int .i64 ((p3.system.vars.getD p1.v.toNat default).n)]]) (res := .c (.int .u8 y10)) ⟨_, _, _, _, [3, 1], bB 1 p4 v1_ _ hc37, by simp, by simp, rfl, rfl, by first | trivial | (simp [bX, eK, eB, eS, eL, eG, bG, PV.under, CV.under, aX, OB.under, bg]; done), by first | trivial | (simp [bX, eK, eB, eS, eL, eG, bG, PV.under, CV.under, aX, OB.under, bg]; done), fun q τ hq _ => by obtain ⟨rfl, rfl⟩ := hq; exact ⟨rfl, rfl⟩, fun _ _ h => h.elim⟩ (by first | trivial | exact cw rfl) (by first | trivial | (intro _; first | trivial | simp [aC]) | simp [aC]) (by first | exact .inl rfl | exact .inr (by simp only [fA]; and_intros <;> first | rfl | trivial)) ?_
          refine dM 5 rfl ?_;refine gax h36b ?_
          by_cases h38 : y10 = ((p3.system.vars.getD p1.v.toNat default).elem)
          ·rw [if_pos h38] at hm;have h38b := beq_iff_eq.2 h38;refine aU ?_;refine gax (a2 h36b h38b) ?_;obtain ⟨y11, hc39, hm⟩ := bd hm
           refine ia (σ2 := [.box [.tree 2 (p3.system.vars.map ai.enc), .tree 1 (p3.system.in_.map (eK .i64)), .tree 1 (p3.system.out_.map (eK .i64)), .tree 6 (p3.system.rules.map ae.enc), .int .i64 p3.code], .arr 1 v1_ 5 (p4.map (eK .u8)), .box [.int .i64 p1.op, .int .i64 p1.k, .int .i64 p1.v, .int .i64 p1.n], .box [.osl 1 v1_ 0 p4.length], .box [.int .u8 ((p3.system.vars.getD p1.v.toNat default).elem), .int .i64 ((p3.system.vars.getD p1.v.toNat default).n)]]) (res := .c (.int .u8 y11)) ⟨_, _, _, _, [3, 1], bB 2 p4 v1_ _ hc39, by simp, by simp, rfl, rfl, by first | trivial | (simp [bX, eK, eB, eS, eL, eG, bG, PV.under, CV.under, aX, OB.under, bg]; done), by first | trivial | (simp [bX, eK, eB, eS, eL, eG, bG, PV.under, CV.under, aX, OB.under, bg]; done), fun q τ hq _ => by obtain ⟨rfl, rfl⟩ := hq; exact ⟨rfl, rfl⟩, fun _ _ h => h.elim⟩ (by first | trivial | exact cw rfl) (by first | trivial | (intro _; first | trivial | simp [aC]) | simp [aC]) (by first | exact .inl rfl | exact .inr (by simp only [fA]; and_intros <;> first | rfl | trivial)) ?_
           refine aU ?_;refine gax (a2 h36b h38b) ?_;refine hk _ _ ?_;clear hk k;refine am ?_;refine af ?_;refine ah ?_;refine aa [.box [.tree 2 (p3.system.vars.map ai.enc), .tree 1 (p3.system.in_.map (eK .i64)), .tree 1 (p3.system.out_.map (eK .i64)), .tree 6 (p3.system.rules.map ae.enc), .int .i64 p3.code], .arr 1 v1_ 5 (p4.map (eK .u8))] ?_;obtain rfl := Option.some.inj hm;exact en
          ·rw [if_neg h38] at hm;have h38b := beq_eq_false_iff_ne.2 h38;refine aU ?_;refine gax (a2 h36b h38b) ?_;refine hk _ _ ?_;clear hk k;refine am ?_;refine af ?_;refine ah ?_;refine aa [.box [.tree 2 (p3.system.vars.map ai.enc), .tree 1 (p3.system.in_.map (eK .i64)), .tree 1 (p3.system.out_.map (eK .i64)), .tree 6 (p3.system.rules.map ae.enc), .int .i64 p3.code], .arr 1 v1_ 5 (p4.map (eK .u8))] ?_;obtain rfl := Option.some.inj hm;exact en
         ·rw [if_neg h36] at hm;have h36b := decide_eq_false h36;refine aU ?_;refine gax h36b ?_;refine hk _ _ ?_;clear hk k;refine am ?_;refine af ?_;refine ah ?_;refine aa [.box [.tree 2 (p3.system.vars.map ai.enc), .tree 1 (p3.system.in_.map (eK .i64)), .tree 1 (p3.system.out_.map (eK .i64)), .tree 6 (p3.system.rules.map ae.enc), .int .i64 p3.code], .arr 1 v1_ 5 (p4.map (eK .u8))] ?_;obtain rfl := Option.some.inj hm;exact en
        ·rw [if_neg h34] at hm;refine ak rfl (beq_eq_false_iff_ne.2 h34) ?_;refine au ?_;refine aA ?_;refine ap (hk1 _ _ ?_);refine ao [0, 5, 11, 152] ?_;refine am ?_;refine aa [.box [.tree 2 (p3.system.vars.map ai.enc), .tree 1 (p3.system.in_.map (eK .i64)), .tree 1 (p3.system.out_.map (eK .i64)), .tree 6 (p3.system.rules.map ae.enc), .int .i64 p3.code], .arr 1 v1_ 5 (p4.map (eK .u8))] ?_;obtain rfl := Option.some.inj hm;exact en
end Pam

namespace Pam
open Go Go.Proofs
set_option maxRecDepth 100000 in
set_option maxHeartbeats 1000000 in
theorem nl (p1 : List aD) (p2 : Int) (p3 : aw) (r : (Int × Bool)) (hm : gn p1 p2 p3 = some r) : e7 Try.prog 180 [.c (.optr 0 0), .c (.tree 4 (p1.map aD.enc)), .c (.int .i64 p2)] [.box [.tree 2 (p3.system.vars.map ai.enc), .tree 1 (p3.system.in_.map (eK .i64)), .tree 1 (p3.system.out_.map (eK .i64)), .tree 6 (p3.system.rules.map ae.enc), .int .i64 p3.code]] (fun p σ => (p = .t [.c (.int .u8 r.1), .c (.bool r.2)] ∧ σ = [.box [.tree 2 (p3.system.vars.map ai.enc), .tree 1 (p3.system.in_.map (eK .i64)), .tree 1 (p3.system.out_.map (eK .i64)), .tree 6 (p3.system.rules.map ae.enc), .int .i64 p3.code]])) (fun _ _ => False) := by
 refine aL 53 [.tmp 6, .tmp 7] Try.func180 rfl rfl rfl (by kernel_rfl) (by simp) ?_;refine bJ ?_;unfold gn at hm;refine ao [6, 7] ?_;refine ao [] ?_;refine dA (gG 8 1 5 (by decide) rfl (Nat.le_of_ble_eq_true rfl)) ?_;refine nc ?_;refine aP (S := (List Int)) (V := Nat) [0, 1, 2, 6, 7, 8, 10, 11, 12, 13, 14, 15, 16, 17, 18, 19, 20, 21, 22, 23, 24, 25, 26, 27, 28, 29, 30, 31, 32, 33, 34, 35, 36, 37, 38, 39, 40, 41, 42, 43, 44, 45, 46] (fun l3 v4 => [(8, .c (.osl 1 v4 0 l3.length))]) (fun l3 v4 => [.box [.tree 2 (p3.system.vars.map ai.enc), .tree 1 (p3.system.in_.map (eK .i64)), .tree 1 (p3.system.out_.map (eK .i64)), .tree 6 (p3.system.rules.map ae.enc), .int .i64 p3.code], .arr 1 v4 5 (l3.map (eK .u8))]) (fun l3 => cm l3 = some r) ?_ ?_
 ·skip;refine ao [1] ?_
  refine az ?_;obtain ⟨o1, hl1, hm1⟩ := bd hm;refine bf (S := ((List Int) × Int)) (V := Nat) (O := (List Int) ⊕ (Int × Bool)) [6, 7, 8, 10, 11, 12, 13, 16, 17, 18, 19, 20, 21, 22, 23, 24, 25, 26, 27, 28, 29, 30, 31, 32, 33, 34, 35, 36, 37, 38, 39, 40, 41, 42, 43, 44, 45, 46] (fun (l17, x19) v18 => [(8, .c (.osl 1 v18 0 l17.length)), (16, .c (.int .i64 x19))]) (fun (l17, x19) v18 => [.box [.tree 2 (p3.system.vars.map ai.enc), .tree 1 (p3.system.in_.map (eK .i64)), .tree 1 (p3.system.out_.map (eK .i64)), .tree 6 (p3.system.rules.map ae.enc), .int .i64 p3.code], .arr 1 v18 5 (l17.map (eK .u8))]) _ _ 0 hl1 ?_ ?_
  ·exact ls
  ·rintro ⟨l17, x19⟩ v18 r1 hm hr1;replace hm : a8 p1 p2 p3 l17 x19 = some r1 := hm;refine aN ?_;unfold a8 at hm;refine ao [] ?_;refine aq fun k2 hk2 => ?_
   by_cases h3 : x19 < (p1.length : Int)
   ·rw [if_pos h3] at hm;refine aj rfl (decide_eq_true h3) ?_;refine au ?_;refine ap (hk2 _ _ ?_);refine aq fun k3 hk3 => ?_;refine az ?_;obtain ⟨hg4a, hm⟩ := gd hm;refine bj (em aD.enc p1 x19.toNat) [17, 18, 19] ?_;refine aH [10, 20, 21, 22, 23, 24, 25, 26, 27, 28] fun k kp hk hp => ?_;refine go ?_;obtain ⟨y20, hc5, hm⟩ := bd hm;refine RA (mj (p1.getD x19.toNat default) p2 p3 l17 v18 _ hc5) [0, 1] ?_;rintro p σ' ⟨rfl, rfl⟩ _;refine ab ?_;refine go ?_;refine hk _ _ ?_;clear hk hp k kp;refine aq fun k4 hk4 => ?_
    by_cases h7 : y20.2.2 = true
    ·rw [if_pos h7] at hm;have h7b := h7
     have h7c : (!y20.2.2) = false := by rw [h7b]; rfl
     refine bj (a2 h7b h7c) [13, 29, 30, 31, 32, 33, 34, 35] ?_
     by_cases h8 : (l17.length : Int) < y20.1
     ·rw [if_pos h8] at hm;refine aj rfl (decide_eq_true h8) ?_;refine ao [0, 2, 8, 11, 12, 14, 15, 16, 36] ?_;have ho9 := aB hm hr1;subst ho9;replace hm : some (0, false) = some r := hm1;refine am ?_;refine ah ?_;refine af ?_;refine ah ?_;refine aE ?_;refine af ?_;refine av ?_;refine aa [.box [.tree 2 (p3.system.vars.map ai.enc), .tree 1 (p3.system.in_.map (eK .i64)), .tree 1 (p3.system.out_.map (eK .i64)), .tree 6 (p3.system.rules.map ae.enc), .int .i64 p3.code]] ?_;obtain rfl := Option.some.inj hm;exact en
     ·rw [if_neg h8] at hm;refine ak rfl (decide_eq_false h8) ?_;refine au ?_;refine ap (hk4 _ _ ?_);obtain ⟨⟨hg10a, ⟨hg10bx, hg10by⟩⟩, hm⟩ := gd hm;refine bQ ?_;refine aA ?_;refine ap (hk3 _ _ ?_);refine bQ ?_;refine aJ (((l17.take ((IntKind.wrap .i64 ((l17.length : Int) - y20.1)).toNat)) ++ (lit ([y20.2.1] : List Int))), (IntKind.wrap .i64 (x19 + 1))) (v18 + 1) hm ?_;exact ls
    ·rw [if_neg h7] at hm;have h7b := Bool.eq_false_iff.2 h7
     have h7c : (!y20.2.2) = true := by rw [h7b]; rfl
     refine bj (a2 h7b h7c) [13, 29, 30, 31, 32, 33, 34, 35] ?_;refine aj rfl rfl ?_;refine ao [0, 2, 8, 11, 12, 14, 15, 16, 36] ?_;have ho11 := aB hm hr1;subst ho11;replace hm : some (0, false) = some r := hm1;refine am ?_;refine ah ?_;refine af ?_;refine ah ?_;refine aE ?_;refine af ?_;refine av ?_;refine aa [.box [.tree 2 (p3.system.vars.map ai.enc), .tree 1 (p3.system.in_.map (eK .i64)), .tree 1 (p3.system.out_.map (eK .i64)), .tree 6 (p3.system.rules.map ae.enc), .int .i64 p3.code]] ?_;obtain rfl := Option.some.inj hm;exact en
   ·rw [if_neg h3] at hm;refine ak rfl (decide_eq_false h3) ?_;refine bz ?_;have ho12 := aB hm hr1;subst ho12;replace hm : cm l17 = some r := hm1;refine bh ?_;refine aV ?_;refine aI ?_;refine ay l17 v18 hm ?_;exact ls
 ·rintro l3 v4 hm;replace hm : cm l3 = some r := hm;refine aN ?_;unfold cm at hm;refine aq fun k1 hk1 => ?_;refine ao [47, 48] ?_
  by_cases h1 : ¬ (l3.length : Int) = 1
  ·rw [if_pos h1] at hm;refine aj rfl (bne_iff_ne.2 h1) ?_;refine ao [8, 49] ?_;refine am ?_;refine ah ?_;refine aa [.box [.tree 2 (p3.system.vars.map ai.enc), .tree 1 (p3.system.in_.map (eK .i64)), .tree 1 (p3.system.out_.map (eK .i64)), .tree 6 (p3.system.rules.map ae.enc), .int .i64 p3.code]] ?_;obtain rfl := Option.some.inj hm;exact en
  ·rw [if_neg h1] at hm;refine ak rfl (bne_eq_false_iff_eq.2 (Decidable.not_not.1 h1)) ?_;refine au ?_;refine ap (hk1 _ _ ?_);obtain ⟨hg2a, hm⟩ := gd hm;refine bj (em (eK .u8) l3 0) [8, 49, 50, 51, 52] ?_;refine am ?_;refine aa [.box [.tree 2 (p3.system.vars.map ai.enc), .tree 1 (p3.system.in_.map (eK .i64)), .tree 1 (p3.system.out_.map (eK .i64)), .tree 6 (p3.system.rules.map ae.enc), .int .i64 p3.code]] ?_;obtain rfl := Option.some.inj hm;exact en
end Pam

namespace Pam
open Go Go.Proofs
set_option maxRecDepth 100000 in
set_option maxHeartbeats 8000000 in
theorem nm (p1 : ae) (p2 : ai) (p3 : ai) (p4 : aw) (r : Bool) (hm : fh p1 p2 p3 p4 = some r) : e7 Try.prog 167 [.c (.optr 0 0), .a [.int .i64 p1.op, .int .i64 p1.k, .int .i64 p1.out_, .int .i64 p1.n, .tree 1 (p1.a.map (eK .i64)), .tree 4 (p1.e.map aD.enc)], .a [.int .u8 p2.elem, .int .i64 p2.n], .a [.int .u8 p3.elem, .int .i64 p3.n]] [.box [.tree 2 (p4.system.vars.map ai.enc), .tree 1 (p4.system.in_.map (eK .i64)), .tree 1 (p4.system.out_.map (eK .i64)), .tree 6 (p4.system.rules.map ae.enc), .int .i64 p4.code]] (fun p σ => (p = .c (.bool r) ∧ σ = [.box [.tree 2 (p4.system.vars.map ai.enc), .tree 1 (p4.system.in_.map (eK .i64)), .tree 1 (p4.system.out_.map (eK .i64)), .tree 6 (p4.system.rules.map ae.enc), .int .i64 p4.code]])) (fun _ _ => False) := by
 refine aL 98 [.tmp 8] Try.func167 rfl rfl rfl (by kernel_rfl) (by simp) ?_;refine bJ ?_;unfold fh at hm;refine ao [1, 2, 3, 8] ?_;refine ao [16, 17, 18] ?_;refine ao [19, 20] ?_;refine aP (S := Int) (V := Unit) [6, 7, 8, 9, 21, 22, 23, 24, 25, 26, 27, 28, 29, 30, 31, 32, 33, 34, 35, 36, 37, 38, 39, 40, 41, 42, 43, 44, 45, 46, 47, 48, 49, 50, 51, 52, 53, 54, 55, 56, 57, 58, 59, 60, 61, 62, 63, 64, 65, 66, 67, 68] (fun x1 _ => [(9, .c (.int .i64 x1))]) (fun x1 _ => [.box [.tree 2 (p4.system.vars.map ai.enc), .tree 1 (p4.system.in_.map (eK .i64)), .tree 1 (p4.system.out_.map (eK .i64)), .tree 6 (p4.system.rules.map ae.enc), .int .i64 p4.code], .box [.int .i64 p1.op, .int .i64 p1.k, .int .i64 p1.out_, .int .i64 p1.n, .tree 1 (p1.a.map (eK .i64)), .tree 4 (p1.e.map aD.enc)], .box [.int .u8 p2.elem, .int .i64 p2.n], .box [.int .u8 p3.elem, .int .i64 p3.n]]) (fun x1 => cn p1 p2 p4 x1 = some r) ?_ ?_
 ·skip;refine ao [21] ?_
  refine az ?_;refine ao [24] ?_
  by_cases h7 : p1.op = 15
  ·rw [if_pos h7] at hm;refine aj rfl (beq_iff_eq.2 h7) ?_;refine aq fun k1 hk1 => ?_;refine cd [6, 7, 9, 22, 23, 25, 26, 27, 28, 29, 30, 31, 32, 33, 34, 35, 36, 37, 38, 39, 40, 41, 42, 43, 44, 45, 46, 47] fun k kp hk hp => ?_;refine an 4 ?_;refine go ?_
   by_cases h8 : p1.n < 1
   ·rw [if_pos h8] at hm;have h8b := decide_eq_true h8;refine ab ?_;refine gox h8b ?_;refine hk _ _ ?_;clear hk hp k kp;refine aj rfl rfl ?_;refine ao [0, 5, 10, 48] ?_;refine am ?_;refine ah ?_;refine af ?_;refine av ?_;refine aa [.box [.tree 2 (p4.system.vars.map ai.enc), .tree 1 (p4.system.in_.map (eK .i64)), .tree 1 (p4.system.out_.map (eK .i64)), .tree 6 (p4.system.rules.map ae.enc), .int .i64 p4.code]] ?_;obtain rfl := Option.some.inj hm;exact en
   ·rw [if_neg h8] at hm;have h8b := decide_eq_false h8;refine an 5 ?_;refine gox h8b ?_
    by_cases h9 : p1.n > 300
    ·rw [if_pos h9] at hm;have h9b := decide_eq_true h9;refine ab ?_;refine gox (a2 h8b h9b) ?_;refine hk _ _ ?_;clear hk hp k kp;refine aj rfl rfl ?_;refine ao [0, 5, 10, 48] ?_;refine am ?_;refine ah ?_;refine af ?_;refine av ?_;refine aa [.box [.tree 2 (p4.system.vars.map ai.enc), .tree 1 (p4.system.in_.map (eK .i64)), .tree 1 (p4.system.out_.map (eK .i64)), .tree 6 (p4.system.rules.map ae.enc), .int .i64 p4.code]] ?_;obtain rfl := Option.some.inj hm;exact en
    ·rw [if_neg h9] at hm;have h9b := decide_eq_false h9;refine ab ?_;refine gox (a2 h8b h9b) ?_;obtain ⟨y4, hc10, hm⟩ := bd hm;refine RP (fun _ => jP p1.k _ hc10) ?_
     by_cases h11 : y4 = true
     ·rw [if_pos h11] at hm;have h11b := h11
      have h11c : (!y4) = false := by rw [h11b]; rfl
      refine an 8 ?_;refine gox (a2 h8b (a2 h9b (a2 h11b h11c))) ?_
      by_cases h12 : p3.elem = p2.elem ∧ p3.n = p2.n
      ·rw [if_pos h12] at hm
       have h12b : ((p3.elem == p2.elem) && (p3.n == p2.n)) = true := by simpa [Bool.and_eq_true] using h12
       have h12c : (!((p3.elem == p2.elem) && (p3.n == p2.n))) = false := by rw [h12b]; rfl
       refine ab ?_;refine gox (a2 h8b (a2 h9b (a2 h11b (a2 h11c (a2 h12b h12c))))) ?_;refine hk _ _ ?_;clear hk hp k kp
       by_cases h13 : p2.n > 0
       ·rw [if_pos h13] at hm;refine aj rfl (decide_eq_true h13) ?_;refine ao [0, 5, 10, 48] ?_;refine am ?_;refine ah ?_;refine af ?_;refine av ?_;refine aa [.box [.tree 2 (p4.system.vars.map ai.enc), .tree 1 (p4.system.in_.map (eK .i64)), .tree 1 (p4.system.out_.map (eK .i64)), .tree 6 (p4.system.rules.map ae.enc), .int .i64 p4.code]] ?_;obtain rfl := Option.some.inj hm;exact en
       ·rw [if_neg h13] at hm;refine ak rfl (decide_eq_false h13) ?_;refine au ?_;refine ap (hk1 _ _ ?_);refine bQ ?_;refine aA ?_;refine ay p1.n () hm ?_
        first | (simp only [bS, bX, reduceIte, ↓reduceIte, reduceCtorEq, Int.reduceToNat, Nat.reduceDiv, Nat.reduceMod, Nat.reduceLT, Nat.reduceLeDiff, Nat.reduceAdd, Nat.reduceSub, Nat.reduceMul, Nat.reduceEqDiff, Nat.reduceBEq, Nat.reduceBNe, Nat.reduceGT] <;> first | done | (and_intros <;> first | rfl | (simp; done) | omega | (simp [lit, bX, eK, eB, eS, eL]; done) | (simp only [cl, List.length_cons, List.length_nil, List.length_append, List.length_set, List.length_replicate, List.length_map, List.length_take, List.length_drop]; omega))) | (simp only [bS, bX, reduceIte, ↓reduceIte, reduceCtorEq, Int.reduceToNat, Nat.reduceDiv, Nat.reduceMod, Nat.reduceLT, Nat.reduceLeDiff, Nat.reduceAdd, Nat.reduceSub, Nat.reduceMul, Nat.reduceEqDiff, Nat.reduceBEq, Nat.reduceBNe, Nat.reduceGT, *] <;> first | done | (and_intros <;> first | rfl | (simp; done) | omega | (simp [lit, bX, eK, eB, eS, eL]; done) | (simp only [cl, List.length_cons, List.length_nil, List.length_append, List.length_set, List.length_replicate, List.length_map, List.length_take, List.length_drop]; omega)))
      ·rw [if_neg h12] at hm;have h12b : ((p3.elem == p2.elem) && (p3.n == p2.n)) = false := Bool.eq_false_iff.2 (fun hh => h12 (by simpa [Bool.and_eq_true] using hh))
       have h12c : (!((p3.elem == p2.elem) && (p3.n == p2.n))) = true := by rw [h12b]; rfl
       refine ab ?_;refine gox (a2 h8b (a2 h9b (a2 h11b (a2 h11c (a2 h12b h12c))))) ?_;refine hk _ _ ?_;clear hk hp k kp;refine aj rfl rfl ?_;refine ao [0, 5, 10, 48] ?_;refine am ?_;refine ah ?_;refine af ?_;refine av ?_;refine aa [.box [.tree 2 (p4.system.vars.map ai.enc), .tree 1 (p4.system.in_.map (eK .i64)), .tree 1 (p4.system.out_.map (eK .i64)), .tree 6 (p4.system.rules.map ae.enc), .int .i64 p4.code]] ?_;obtain rfl := Option.some.inj hm;exact en
     ·rw [if_neg h11] at hm;have h11b := Bool.eq_false_iff.2 h11
      have h11c : (!y4) = true := by rw [h11b]; rfl
      refine ab ?_;refine gox (a2 h8b (a2 h9b (a2 h11b h11c))) ?_;refine hk _ _ ?_;clear hk hp k kp;refine aj rfl rfl ?_;refine ao [0, 5, 10, 48] ?_;refine am ?_;refine ah ?_;refine af ?_;refine av ?_;refine aa [.box [.tree 2 (p4.system.vars.map ai.enc), .tree 1 (p4.system.in_.map (eK .i64)), .tree 1 (p4.system.out_.map (eK .i64)), .tree 6 (p4.system.rules.map ae.enc), .int .i64 p4.code]] ?_;obtain rfl := Option.some.inj hm;exact en
  ·rw [if_neg h7] at hm;refine ak rfl (beq_eq_false_iff_ne.2 h7) ?_;refine ao [22, 23, 52] ?_
   by_cases h14 : p1.op = 16
   ·rw [if_pos h14] at hm;refine aj rfl (beq_iff_eq.2 h14) ?_;refine dV [6, 7, 51, 53, 54, 55, 56, 57, 58, 59, 60, 61, 62, 63, 64, 65, 66, 67] (by kernel_rfl) [0, 1, 3, 7, 15, 31, 63, 127, 255, 511, 1023, 1023, 3071, 7167, 16383, 32767] [true, true, true, true, true, true, true, true, true, true, false, false, false, false, true, true] (by kernel_rfl) fun k hk => ?_;refine aU ?_;refine ga ?_;obtain ⟨y5, hc15, hm⟩ := bd hm
    refine bx (fun _ => jP p1.k _ hc15) (by first | trivial | exact cw rfl) (by first | trivial | (intro _; first | trivial | simp [aC]) | simp [aC]) rfl (fun _ => rfl) ?_
    by_cases h16 : y5 = true
    ·rw [if_pos h16] at hm;have h16b := h16
     have h16c : (!y5) = false := by rw [h16b]; rfl
     refine dM 7 rfl ?_;refine gax (a2 h16b h16c) ?_
     by_cases h17 : p2.n = 0
     ·rw [if_pos h17] at hm;have h17b := beq_iff_eq.2 h17;refine aU ?_;refine gax (a2 h16b (a2 h16c h17b)) ?_;refine hk _ _ ?_;clear hk k;refine aj rfl rfl ?_;refine ao [0, 5, 9, 10, 68] ?_;refine am ?_;refine af ?_;refine av ?_;refine aa [.box [.tree 2 (p4.system.vars.map ai.enc), .tree 1 (p4.system.in_.map (eK .i64)), .tree 1 (p4.system.out_.map (eK .i64)), .tree 6 (p4.system.rules.map ae.enc), .int .i64 p4.code]] ?_;obtain rfl := Option.some.inj hm;exact en
     ·rw [if_neg h17] at hm;have h17b := beq_eq_false_iff_ne.2 h17;refine aU ?_;refine gax (a2 h16b (a2 h16c h17b)) ?_;obtain ⟨y6, hc18, hm⟩ := bd hm
      refine bx (fun _ => gV p2.elem _ hc18) (by first | trivial | exact cw rfl) (by first | trivial | (intro _; first | trivial | simp [aC]) | simp [aC]) rfl (fun _ => rfl) ?_
      refine aU ?_;refine gax (a2 h16b (a2 h16c h17b)) ?_;refine hk _ _ ?_;clear hk k
      by_cases h19 : p3.elem = ((y6).elem) ∧ p3.n = ((y6).n)
      ·rw [if_pos h19] at hm;refine ak rfl (by rw [show ((p3.elem == ((y6).elem)) && (p3.n == ((y6).n))) = true from (by simpa [Bool.and_eq_true] using h19)]; rfl) ?_;refine au ?_;refine aA ?_;refine ay (if 1 > p2.n then 1 else p2.n) () hm ?_
       first | (simp only [bS, bX, reduceIte, ↓reduceIte, reduceCtorEq, Int.reduceToNat, Nat.reduceDiv, Nat.reduceMod, Nat.reduceLT, Nat.reduceLeDiff, Nat.reduceAdd, Nat.reduceSub, Nat.reduceMul, Nat.reduceEqDiff, Nat.reduceBEq, Nat.reduceBNe, Nat.reduceGT] <;> first | done | (and_intros <;> first | rfl | (simp; done) | omega | (simp [lit, bX, eK, eB, eS, eL]; done) | (simp only [cl, List.length_cons, List.length_nil, List.length_append, List.length_set, List.length_replicate, List.length_map, List.length_take, List.length_drop]; omega))) | (simp only [bS, bX, reduceIte, ↓reduceIte, reduceCtorEq, Int.reduceToNat, Nat.reduceDiv, Nat.reduceMod, Nat.reduceLT, Nat.reduceLeDiff, Nat.reduceAdd, Nat.reduceSub, Nat.reduceMul, Nat.reduceEqDiff, Nat.reduceBEq, Nat.reduceBNe, Nat.reduceGT, *] <;> first | done | (and_intros <;> first | rfl | (simp; done) | omega | (simp [lit, bX, eK, eB, eS, eL]; done) | (simp only [cl, List.length_cons, List.length_nil, List.length_append, List.length_set, List.length_replicate, List.length_map, List.length_take, List.length_drop]; omega)))
      ·rw [if_neg h19] at hm;refine aj rfl (by rw [show ((p3.elem == ((y6).elem)) && (p3.n == ((y6).n))) = false from (Bool.eq_false_iff.2 (fun hh => h19 (by simpa [Bool.and_eq_true] using hh)))]; rfl) ?_;refine ao [0, 5, 9, 10, 68] ?_;refine am ?_;refine af ?_;refine av ?_;refine aa [.box [.tree 2 (p4.system.vars.map ai.enc), .tree 1 (p4.system.in_.map (eK .i64)), .tree 1 (p4.system.out_.map (eK .i64)), .tree 6 (p4.system.rules.map ae.enc), .int .i64 p4.code]] ?_;obtain rfl := Option.some.inj hm;exact en
    ·rw [if_neg h16] at hm;have h16b := Bool.eq_false_iff.2 h16
     have h16c : (!y5) = true := by rw [h16b]; rfl
     refine aU ?_;refine gax (a2 h16b h16c) ?_;refine hk _ _ ?_;clear hk k;refine aj rfl rfl ?_;refine ao [0, 5, 9, 10, 68] ?_;refine am ?_;refine af ?_;refine av ?_;refine aa [.box [.tree 2 (p4.system.vars.map ai.enc), .tree 1 (p4.system.in_.map (eK .i64)), .tree 1 (p4.system.out_.map (eK .i64)), .tree 6 (p4.system.rules.map ae.enc), .int .i64 p4.code]] ?_;obtain rfl := Option.some.inj hm;exact en
   ·rw [if_neg h14] at hm;refine ak rfl (beq_eq_false_iff_ne.2 h14) ?_;refine au ?_;refine aA ?_;refine ay (if 1 > p2.n then 1 else p2.n) () hm ?_;exact ls
 ·rintro x1 _ hm;replace hm : cn p1 p2 p4 x1 = some r := hm;refine aN ?_;unfold cn at hm;refine aH [12, 13, 69, 70, 71, 72, 73, 74, 75] fun k kp hk hp => ?_;refine go ?_;obtain ⟨y2, hc1, hm⟩ := bd hm;refine RP (fun _ => j5 p1.k _ hc1) ?_;refine ab ?_;refine go ?_;refine hk _ _ ?_;clear hk hp k kp;refine aP (S := Unit) (V := Unit) [8, 11, 76, 77, 78, 79, 80, 81, 82, 83] (fun _ _ => []) (fun _ _ => [.box [.tree 2 (p4.system.vars.map ai.enc), .tree 1 (p4.system.in_.map (eK .i64)), .tree 1 (p4.system.out_.map (eK .i64)), .tree 6 (p4.system.rules.map ae.enc), .int .i64 p4.code], .box [.int .i64 p1.op, .int .i64 p1.k, .int .i64 p1.out_, .int .i64 p1.n, .tree 1 (p1.a.map (eK .i64)), .tree 4 (p1.e.map aD.enc)], .box [.int .u8 p2.elem, .int .i64 p2.n], .box [.int .u8 p3.elem, .int .i64 p3.n]]) (fun _ => dg p1 p2 p4 x1 = some r) ?_ ?_
  ·skip;refine cd [11, 76, 77, 78, 79, 80, 81, 82] fun k kp hk hp => ?_
   refine an 4 ?_;refine go ?_
   by_cases h5 : ¬ p1.op = 14
   ·rw [if_pos h5] at hm;have h5b := bne_iff_ne.2 h5;refine ab ?_;refine gox h5b ?_;refine hk _ _ ?_;clear hk hp k kp
    by_cases h6 : ¬ y2.1 = p2.elem
    ·rw [if_pos h6] at hm;refine aj rfl (bne_iff_ne.2 h6) ?_;refine ao [0, 5, 9, 10, 83] ?_;refine am ?_;refine av ?_;refine aa [.box [.tree 2 (p4.system.vars.map ai.enc), .tree 1 (p4.system.in_.map (eK .i64)), .tree 1 (p4.system.out_.map (eK .i64)), .tree 6 (p4.system.rules.map ae.enc), .int .i64 p4.code]] ?_;obtain rfl := Option.some.inj hm;exact en
    ·rw [if_neg h6] at hm;refine ak rfl (bne_eq_false_iff_eq.2 (Decidable.not_not.1 h6)) ?_;refine au ?_;refine ay () () hm ?_;exact ls
   ·rw [if_neg h5] at hm;have h5b : (p1.op != 14) = false := bne_eq_false_iff_eq.2 (Decidable.not_not.1 h5);refine ab ?_;refine gox h5b ?_;refine hk _ _ ?_;clear hk hp k kp;refine ak rfl rfl ?_;refine au ?_;refine ay () () hm ?_;exact ls
  ·rintro _ _ hm;replace hm : dg p1 p2 p4 x1 = some r := hm;refine aN ?_;unfold dg at hm;refine aH [0, 5, 9, 84, 85, 86, 87, 88, 89, 90, 91] fun k kp hk hp => ?_;refine go ?_;obtain ⟨y3, hc2, hm⟩ := bd hm;refine RA (nl p1.e x1 p4  _ hc2) [0] ?_;rintro p σ' ⟨rfl, rfl⟩ _;refine ab ?_;refine go ?_;refine hk _ _ ?_;clear hk hp k kp
   by_cases h4 : y3.2 = true
   ·rw [if_pos h4] at hm;have h4b := h4;refine bj h4b [10, 14, 15, 92, 93, 94, 95, 96, 97] ?_;refine am ?_;refine aa [.box [.tree 2 (p4.system.vars.map ai.enc), .tree 1 (p4.system.in_.map (eK .i64)), .tree 1 (p4.system.out_.map (eK .i64)), .tree 6 (p4.system.rules.map ae.enc), .int .i64 p4.code]] ?_;obtain rfl := Option.some.inj hm;exact en
   ·rw [if_neg h4] at hm;have h4b := Bool.eq_false_iff.2 h4;refine bj h4b [10, 14, 15, 92, 93, 94, 95, 96, 97] ?_;refine am ?_;refine aa [.box [.tree 2 (p4.system.vars.map ai.enc), .tree 1 (p4.system.in_.map (eK .i64)), .tree 1 (p4.system.out_.map (eK .i64)), .tree 6 (p4.system.rules.map ae.enc), .int .i64 p4.code]] ?_;obtain rfl := Option.some.inj hm;exact en
end Pam
