/- the walk of slices_Grow_int_int, printed by a program of ours -/
import Derived.Test.YtiennljikiipoaaSBase2
import Derived.Test.YtiennljikiipoaaSBase3
import Derived.Test.YtiennljikiipoaaSaFun1
set_option linter.all false
set_option maxRecDepth 100000
set_option maxHeartbeats 8000000
namespace Pam
open Go Go.Proofs
theorem jY (p1 : Int) (r : (List Int)) (hm : dw p1 = some r) : fJ Try.prog 39 [.c (.nils), .c (.int .i64 p1)] [] (fun p σ => (p = .c (.osl 0 1 0 r.length) ∧ σ = [.arr 1 1 3 (r.map (eK .i64))])) (fun _ _ => False) := by
 refine aL 27 [.tmp 4] Try.func39 rfl rfl rfl (by kernel_rfl) (by simp) ?_;refine bB ?_;unfold dw at hm;refine aj [4] ?_;refine an fun k1 hk1 => ?_;refine aj [5] ?_
 by_cases h1 : p1 < 0
 ·rw [iP h1] at hm;refine ab rfl (dT h1) ?_
  cases hm
 ·rw [iN h1] at hm;refine af rfl (dF h1) ?_;refine ao ?_;refine ai (hk1 _ _ ?_);refine an fun k2 hk2 => ?_;refine dg [6, 8, 9, 10, 11, 12, 13, 14] fun k kp hk hp => ?_;refine ar 2 ?_;refine go ?_
  refine RS (pD rfl rfl rfl rfl (by first | rfl | (simp only [bR, bT, tab, bX, reduceIte, ↓reduceIte, reduceCtorEq, Int.reduceToNat, Nat.reduceDiv, Nat.reduceMod, Nat.reduceLT, Nat.reduceLeDiff, Nat.reduceAdd, Nat.reduceSub, Nat.reduceMul, Nat.reduceEqDiff, Nat.reduceBEq, Nat.reduceBNe, Nat.reduceGT]; done)) (by first | kernel_rfl | exact of_decide_eq_true (by kernel_rfl))) ?_
  simp only [bR, bT, tab, bX, reduceIte, ↓reduceIte, reduceCtorEq, Int.reduceToNat, Nat.reduceDiv, Nat.reduceMod, Nat.reduceLT, Nat.reduceLeDiff, Nat.reduceAdd, Nat.reduceSub, Nat.reduceMul, Nat.reduceEqDiff, Nat.reduceBEq, Nat.reduceBNe, Nat.reduceGT];refine aa ?_;refine go ?_;refine hk _ _ ?_;clear hk hp k kp;refine aj [15] ?_
  by_cases h2 : (IntKind.wrap .i64 (p1 - (IntKind.wrap .i64 (0 - 0)))) > 0
  ·rw [iP h2] at hm;refine ab rfl (dT h2) ?_;refine rL fun k kp hk hp => ?_;refine ar 2 ?_;refine go ?_
   refine RS (pD rfl rfl rfl rfl (by first | rfl | (simp only [bR, bT, tab, bX, reduceIte, ↓reduceIte, reduceCtorEq, Int.reduceToNat, Nat.reduceDiv, Nat.reduceMod, Nat.reduceLT, Nat.reduceLeDiff, Nat.reduceAdd, Nat.reduceSub, Nat.reduceMul, Nat.reduceEqDiff, Nat.reduceBEq, Nat.reduceBNe, Nat.reduceGT]; done)) (by first | kernel_rfl | exact of_decide_eq_true (by kernel_rfl))) ?_
   simp only [bR, bT, tab, bX, reduceIte, ↓reduceIte, reduceCtorEq, Int.reduceToNat, Nat.reduceDiv, Nat.reduceMod, Nat.reduceLT, Nat.reduceLeDiff, Nat.reduceAdd, Nat.reduceSub, Nat.reduceMul, Nat.reduceEqDiff, Nat.reduceBEq, Nat.reduceBNe, Nat.reduceGT];refine ar 0 ?_;refine go ?_
   refine RS (tK rfl (by first | rfl | (simp only [bR, bT, tab, bX, reduceIte, ↓reduceIte, reduceCtorEq, Int.reduceToNat, Nat.reduceDiv, Nat.reduceMod, Nat.reduceLT, Nat.reduceLeDiff, Nat.reduceAdd, Nat.reduceSub, Nat.reduceMul, Nat.reduceEqDiff, Nat.reduceBEq, Nat.reduceBNe, Nat.reduceGT]; done)) (by first | kernel_rfl | exact of_decide_eq_true (by kernel_rfl)) (by first | kernel_rfl | exact of_decide_eq_true (by kernel_rfl)) rfl rfl rfl rfl) ?_
   simp only [bR, bT, tab, bX, reduceIte, ↓reduceIte, reduceCtorEq, Int.reduceToNat, Nat.reduceDiv, Nat.reduceMod, Nat.reduceLT, Nat.reduceLeDiff, Nat.reduceAdd, Nat.reduceSub, Nat.reduceMul, Nat.reduceEqDiff, Nat.reduceBEq, Nat.reduceBNe, Nat.reduceGT];obtain ⟨⟨hg3a, ⟨hg3bx, hg3by⟩⟩, hm⟩ := gd hm;refine ar 1 ?_;refine go ?_
   refine RS (qy (z := [.int .i64 0]) rfl rfl rfl rfl (by first | rfl | (simp only [bR, bT, tab, bX, reduceIte, ↓reduceIte, reduceCtorEq, Int.reduceToNat, Nat.reduceDiv, Nat.reduceMod, Nat.reduceLT, Nat.reduceLeDiff, Nat.reduceAdd, Nat.reduceSub, Nat.reduceMul, Nat.reduceEqDiff, Nat.reduceBEq, Nat.reduceBNe, Nat.reduceGT]; done)) (by first | rfl | (simp only [bR, bT, tab, bX, reduceIte, ↓reduceIte, reduceCtorEq, Int.reduceToNat, Nat.reduceDiv, Nat.reduceMod, Nat.reduceLT, Nat.reduceLeDiff, Nat.reduceAdd, Nat.reduceSub, Nat.reduceMul, Nat.reduceEqDiff, Nat.reduceBEq, Nat.reduceBNe, Nat.reduceGT]; done)) (by first | kernel_rfl | exact of_decide_eq_true (by kernel_rfl)) (by first | kernel_rfl | exact of_decide_eq_true (by kernel_rfl)) (by first | kernel_rfl | exact of_decide_eq_true (by kernel_rfl)) (by first | kernel_rfl | rfl) (by first | kernel_rfl | exact of_decide_eq_true (by kernel_rfl)) (by first | (and_intros <;> omega) | (simp only [bT, tab]; omega) | omega) (by first | (and_intros <;> omega) | (simp only [bT, tab]; omega) | omega)) ?_
   simp only [bR, bT, tab, bX, reduceIte, ↓reduceIte, reduceCtorEq, Int.reduceToNat, Nat.reduceDiv, Nat.reduceMod, Nat.reduceLT, Nat.reduceLeDiff, Nat.reduceAdd, Nat.reduceSub, Nat.reduceMul, Nat.reduceEqDiff, Nat.reduceBEq, Nat.reduceBNe, Nat.reduceGT];obtain ⟨hg4a, hm⟩ := gd hm;refine aa ?_;refine go ?_;refine hk _ _ ?_;clear hk hp k kp;refine ai (hk2 _ _ ?_);refine aj [0, 1, 16, 17, 18, 19, 20, 21, 22, 23, 24, 25, 26] ?_;refine gv [.arr 1 0 3 ((List.replicate ((IntKind.wrap .i64 (p1 - (IntKind.wrap .i64 (0 - 0)))).toNat) 0).map (eK .i64))] ?_;refine jU (qA 0 0 rfl) ?_;refine d6 (jx 1 3 (by decide)) ?_;simp only [bZ, bL, reduceIte, ↓reduceIte, reduceCtorEq, Int.reduceToNat, Nat.reduceDiv, Nat.reduceMod, Nat.reduceLT, Nat.reduceLeDiff, Nat.reduceAdd, Nat.reduceSub, Nat.reduceMul, Nat.reduceEqDiff, Nat.reduceBEq, Nat.reduceBNe, Nat.reduceGT, List.length_cons, List.length_nil, List.length_append, List.cons_append, List.nil_append];refine jU (jv 1 0 (by decide) rfl rfl) ?_;refine jU (iU 0 1 (by decide) (Nat.le_of_ble_eq_true rfl) (Nat.le_of_ble_eq_true rfl) rfl rfl) ?_;refine ak ?_
   cases hm
   exact kr 1
  ·rw [iN h2] at hm;refine af rfl (dF h2) ?_;refine ao ?_;refine ai (hk2 _ _ ?_);refine aj [0, 1, 16, 26] ?_;refine d6 (ml 4 1 3 (by decide) rfl (Nat.le_of_ble_eq_true rfl)) ?_;refine sM ?_;refine d6 (jx 1 3 (by decide)) ?_;simp only [bZ, bL, reduceIte, ↓reduceIte, reduceCtorEq, Int.reduceToNat, Nat.reduceDiv, Nat.reduceMod, Nat.reduceLT, Nat.reduceLeDiff, Nat.reduceAdd, Nat.reduceSub, Nat.reduceMul, Nat.reduceEqDiff, Nat.reduceBEq, Nat.reduceBNe, Nat.reduceGT, List.length_cons, List.length_nil, List.length_append, List.cons_append, List.nil_append];refine jU (jv 1 0 (by decide) rfl rfl) ?_;refine jU (iU 0 1 (by decide) (Nat.le_of_ble_eq_true rfl) (Nat.le_of_ble_eq_true rfl) rfl rfl) ?_;refine ak ?_
   cases hm
   exact kr 1
theorem ji (p1 : List (List Int)) (v0_ : Nat) (r : (List Int)) (hm : cQ p1 = some r) : fJ Try.prog 28 [.c (.osl 0 v0_ 0 p1.length)] [.arr 1 v0_ 22 (p1.map (eL 1 (eK .i64)))] (fun p σ => (p = .c (.osl 1 1 0 r.length) ∧ σ = [.arr 1 v0_ 22 (p1.map (eL 1 (eK .i64))), .arr 1 1 3 (r.map (eK .i64))])) (fun _ _ => False) := by
 refine aL 36 [.tmp 2] Try.func28 rfl rfl rfl (by kernel_rfl) (by simp) ?_;refine bB ?_;unfold cQ at hm;refine aj [2] ?_;refine aj [] ?_;refine aP (S := Int) (V := Unit) [0, 3, 5, 9, 10, 11, 12, 13, 14, 15, 16, 17, 18, 19, 20, 21, 22] (fun x1 _ => [(0, .c (.osl 0 v0_ 0 p1.length)), (3, .c (.int .i64 x1))]) (fun x1 _ => [.arr 1 v0_ 22 (p1.map (eL 1 (eK .i64)))]) (fun x1 => bx p1 x1 = some r) ?_ ?_
 ·skip;refine aj [] ?_
  refine ax ?_;obtain ⟨o2, hl2, hm2⟩ := bd hm;refine aZ (S := (Int × Int)) (V := Unit) (O := Int) [0, 3, 5, 9, 11, 12, 13, 14, 15, 16, 17, 18, 19, 20, 21, 22] (fun (x27, x28) _ => [(0, .c (.osl 0 v0_ 0 p1.length)), (3, .c (.int .i64 x27)), (9, .c (.osl 0 v0_ 0 p1.length)), (11, .c (.int .i64 x28))]) (fun (x27, x28) _ => [.arr 1 v0_ 22 (p1.map (eL 1 (eK .i64)))]) _ _ () hl2 ?_ ?_
  ·exact ls
  ·rintro ⟨x27, x28⟩ _ r2 hm hr2;replace hm : aY p1 x27 x28 = some r2 := hm;refine aO ?_;unfold aY at hm;refine aj [] ?_;refine an fun k3 hk3 => ?_
   by_cases h7 : x28 < (p1.length : Int)
   ·rw [iP h7] at hm;refine ab rfl (dT h7) ?_;refine ao ?_;refine ai (hk3 _ _ ?_);refine an fun k4 hk4 => ?_;refine ax ?_;obtain ⟨hg8a, hm⟩ := gd hm;refine bf (em (eL 1 (eK .i64)) p1 x28.toNat) [12, 13, 14] ?_;refine aj [5, 15, 16, 17, 18] ?_;refine aj [19] ?_
    by_cases h9 : (IntKind.wrap .i64 (x27 + ((p1.getD x28.toNat default).length : Int))) < 0
    ·rw [iP h9] at hm;refine ab rfl (dT h9) ?_
     cases hm
    ·rw [iN h9] at hm;refine af rfl (dF h9) ?_;refine ao ?_;refine am ?_;refine ai (hk4 _ _ ?_);refine bb ?_;refine aC ((IntKind.wrap .i64 (x27 + ((p1.getD x28.toNat default).length : Int))), (IntKind.wrap .i64 (x28 + 1))) () hm ?_;exact ls
   ·rw [iN h7] at hm;refine af rfl (dF h7) ?_;refine bj ?_;have ho10 := ay hm hr2;subst ho10;replace hm : bx p1 x27 = some r := hm2;refine aV (aS (aF ?_));refine aw x27 () hm ?_;exact ls
 ·rintro x1 _ hm;replace hm : bx p1 x1 = some r := hm;refine aO ?_;unfold bx at hm;refine aA [3, 23, 24] fun k kp hk hp => ?_;refine go ?_;obtain ⟨y2, hc1, hm⟩ := bd hm;refine RA (jY x1  _ hc1) [] ?_;rintro p σ' ⟨rfl, rfl⟩ _;refine aa ?_;refine go ?_;refine hk _ _ ?_;clear hk hp k kp;refine aP (S := (List Int)) (V := Nat) [0, 6, 8, 25, 26, 27, 28, 29, 30, 31, 32, 33, 34] (fun l5 v6 => [(6, .c (.osl 1 v6 0 l5.length))]) (fun l5 v6 => [.arr 1 v0_ 22 (p1.map (eL 1 (eK .i64))), .arr 1 v6 3 (l5.map (eK .i64))]) (fun l5 => cm l5 = some r) ?_ ?_
  ·skip;refine aj [0] ?_
   refine ax ?_;obtain ⟨o1, hl1, hm1⟩ := bd hm;refine aZ (S := ((List Int) × Int)) (V := Nat) (O := (List Int)) [6, 8, 25, 27, 28, 29, 30, 31, 32, 33, 34] (fun (l19, x21) v20 => [(6, .c (.osl 1 v20 0 l19.length)), (25, .c (.osl 0 v0_ 0 p1.length)), (27, .c (.int .i64 x21))]) (fun (l19, x21) v20 => [.arr 1 v0_ 22 (p1.map (eL 1 (eK .i64))), .arr 1 v20 3 (l19.map (eK .i64))]) _ _ 1 hl1 ?_ ?_
   ·exact ls
   ·rintro ⟨l19, x21⟩ v20 r1 hm hr1;replace hm : aX p1 l19 x21 = some r1 := hm;refine aO ?_;unfold aX at hm;refine aj [] ?_;refine an fun k1 hk1 => ?_
    by_cases h3 : x21 < (p1.length : Int)
    ·rw [iP h3] at hm;refine ab rfl (dT h3) ?_;refine ao ?_;refine ai (hk1 _ _ ?_);refine an fun k2 hk2 => ?_;refine ax ?_;obtain ⟨hg4a, hm⟩ := gd hm;refine bf (em (eL 1 (eK .i64)) p1 x21.toNat) [28, 29, 30] ?_;obtain ⟨⟨hg5ax, hg5ay⟩, hm⟩ := gd hm;refine bb ?_;refine am ?_;refine ai (hk2 _ _ ?_);refine bb ?_;refine aC ((l19 ++ (p1.getD x21.toNat default)), (IntKind.wrap .i64 (x21 + 1))) (v20 + 1) hm ?_;exact ls
    ·rw [iN h3] at hm;refine af rfl (dF h3) ?_;refine bj ?_;have ho6 := ay hm hr1;subst ho6;replace hm : cm l19 = some r := hm1;refine aV (aS (aF ?_));refine aw l19 v20 hm ?_;exact ls
  ·rintro l5 v6 hm;replace hm : cm l5 = some r := hm;refine aO ?_;unfold cm at hm;refine aj [6, 35] ?_;refine d6 (jx 1 3 (by decide)) ?_;simp only [bZ, bL, reduceIte, ↓reduceIte, reduceCtorEq, Int.reduceToNat, Nat.reduceDiv, Nat.reduceMod, Nat.reduceLT, Nat.reduceLeDiff, Nat.reduceAdd, Nat.reduceSub, Nat.reduceMul, Nat.reduceEqDiff, Nat.reduceBEq, Nat.reduceBNe, Nat.reduceGT, List.length_cons, List.length_nil, List.length_append, List.cons_append, List.nil_append];refine jU (jv 2 1 (by decide) rfl rfl) ?_;refine jU (iU 1 2 (by decide) (Nat.le_of_ble_eq_true rfl) (Nat.le_of_ble_eq_true rfl) rfl rfl) ?_;refine ak ?_
   cases hm
   exact kr 2
theorem eV (p1 : aE) (p2 : Int) (p3 : Int) (r : Bool) (hm : dB p1 p2 p3 = some r) : cr Try.prog 29 [.a [.int .i64 p1.cells, .tree 1 (p1.put.map (eK .i64)), .tree 1 (p1.get.map (eK .i64)), .tree 6 (p1.steps.map ap.enc)], .c (.int .i64 p2), .c (.int .i64 p3)] (.c (.bool r)) := by
 refine aL 27 [.tmp 6] Try.func29 rfl rfl rfl (by kernel_rfl) (by simp) ?_;refine bB ?_;unfold dB at hm;refine aj [0, 6] ?_
 by_cases h1 : p2 ≥ 0
 ·rw [iP h1] at hm;have h1b := dT h1;refine dg [1, 2, 3, 7, 8, 9, 10, 11, 12, 13, 14, 15, 16, 17, 18, 19, 20, 21, 22, 23, 24, 25, 26] fun k kp hk hp => ?_;refine ar 7 ?_;refine gox h1b ?_
  by_cases h2 : p3 ≥ 1
  ·rw [iP h2] at hm;have h2b := dT h2;refine ar 6 ?_;refine gox (a2 h1b h2b) ?_
   by_cases h3 : p3 ≤ p1.cells
   ·rw [iP h3] at hm;have h3b := dT h3;refine aa ?_;refine gox (a2 h1b (a2 h2b h3b)) ?_;refine hk _ _ ?_;clear hk hp k kp;refine ak ?_
    cases hm
    exact kr 0
   ·rw [iN h3] at hm;have h3b := dF h3;refine aa ?_;refine gox (a2 h1b (a2 h2b h3b)) ?_;refine hk _ _ ?_;clear hk hp k kp;refine ak ?_
    cases hm
    exact kr 0
  ·rw [iN h2] at hm;have h2b := dF h2;refine aa ?_;refine gox (a2 h1b h2b) ?_;refine hk _ _ ?_;clear hk hp k kp;refine ak ?_
   cases hm
   exact kr 0
 ·rw [iN h1] at hm;have h1b := dF h1;refine bf h1b [1, 2, 3, 7, 8, 9, 10, 11, 12, 13, 14, 15, 16, 17, 18, 19, 20, 21, 22, 23, 24, 25, 26] ?_;refine ak ?_
  cases hm
  exact kr 0
theorem ks (p1 : Int) (r : (Int × Int × Int)) (hm : hL p1 = some r) : cr Try.prog 40 [.c (.int .i64 p1)] (.t [.c (.int .u8 r.1), .c (.int .u8 r.2.1), .c (.int .i64 r.2.2)]) := by
 refine aL 32 [.tmp 2, .tmp 3, .tmp 4] Try.func40 rfl rfl rfl (by kernel_rfl) (by simp) ?_;refine bB ?_;unfold hL at hm;refine aj [2, 3, 4] ?_;refine an fun k1 hk1 => ?_;refine ax ?_
 by_cases h1 : p1 ≥ 1
 ·rw [iP h1] at hm;have h1b := dT h1;refine bf h1b [6, 7, 8, 9, 10, 11] ?_
  by_cases h2 : p1 ≤ 7
  ·rw [iP h2] at hm;refine ab rfl (dT h2) ?_;refine aj [0, 5] ?_;refine ak ?_;refine ae (ag ?_)
   cases hm
   exact kr 0
  ·rw [iN h2] at hm;refine af rfl (dF h2) ?_
   by_cases h3 : p1 = 8
   ·rw [iP h3] at hm;have h3b := eQ h3;refine bf h3b [5, 13, 14, 15, 16, 17, 18] ?_;refine ab rfl rfl ?_;refine aj [0, 12] ?_;refine ak ?_;refine ae (ag ?_)
    cases hm
    exact kr 0
   ·rw [iN h3] at hm;have h3b := nB h3;refine bf h3b [5, 13, 14, 15, 16, 17, 18] ?_
    by_cases h4 : p1 = 9
    ·rw [iP h4] at hm;refine ab rfl (eQ h4) ?_;refine aj [0, 12] ?_;refine ak ?_;refine ae (ag ?_)
     cases hm
     exact kr 0
    ·rw [iN h4] at hm;refine af rfl (nB h4) ?_
     by_cases h5 : p1 ≥ 10
     ·rw [iP h5] at hm;have h5b := dT h5;refine bf h5b [12, 20, 21, 22, 23, 24, 25] ?_
      by_cases h6 : p1 ≤ 12
      ·rw [iP h6] at hm;refine ab rfl (dT h6) ?_;refine aj [0, 19] ?_;refine ak ?_;refine ae (ag ?_)
       cases hm
       exact kr 0
      ·rw [iN h6] at hm;refine af rfl (dF h6) ?_;refine aj [19, 27, 28] ?_
       by_cases h7 : p1 = 13
       ·rw [iP h7] at hm;refine ab rfl (eQ h7) ?_;refine aj [0, 26] ?_;refine ak ?_;refine ae (ag ?_)
        cases hm
        exact kr 0
       ·rw [iN h7] at hm;refine af rfl (nB h7) ?_;refine aj [0, 26, 30, 31] ?_
        by_cases h8 : p1 = 14
        ·rw [iP h8] at hm;refine ab rfl (eQ h8) ?_;refine aj [29] ?_;refine ak ?_;refine ae (ag ?_)
         cases hm
         exact kr 0
        ·rw [iN h8] at hm;refine af rfl (nB h8) ?_;refine ao ?_;refine am ?_;refine ai (hk1 _ _ ?_);refine aj [29] ?_;refine ak ?_
         cases hm
         exact kr 0
     ·rw [iN h5] at hm;have h5b := dF h5;refine bf h5b [12, 20, 21, 22, 23, 24, 25] ?_;refine af rfl rfl ?_;refine aj [19, 27, 28] ?_
      by_cases h9 : p1 = 13
      ·rw [iP h9] at hm;refine ab rfl (eQ h9) ?_;refine aj [0, 26] ?_;refine ak ?_;refine ae (ag ?_)
       cases hm
       exact kr 0
      ·rw [iN h9] at hm;refine af rfl (nB h9) ?_;refine aj [0, 26, 30, 31] ?_
       by_cases h10 : p1 = 14
       ·rw [iP h10] at hm;refine ab rfl (eQ h10) ?_;refine aj [29] ?_;refine ak ?_;refine ae (ag ?_)
        cases hm
        exact kr 0
       ·rw [iN h10] at hm;refine af rfl (nB h10) ?_;refine ao ?_;refine am ?_;refine ai (hk1 _ _ ?_);refine aj [29] ?_;refine ak ?_
        cases hm
        exact kr 0
 ·rw [iN h1] at hm;have h1b := dF h1;refine bf h1b [6, 7, 8, 9, 10, 11] ?_;refine af rfl rfl ?_
  by_cases h11 : p1 = 8
  ·rw [iP h11] at hm;have h11b := eQ h11;refine bf h11b [5, 13, 14, 15, 16, 17, 18] ?_;refine ab rfl rfl ?_;refine aj [0, 12] ?_;refine ak ?_;refine ae (ag ?_)
   cases hm
   exact kr 0
  ·rw [iN h11] at hm;have h11b := nB h11;refine bf h11b [5, 13, 14, 15, 16, 17, 18] ?_
   by_cases h12 : p1 = 9
   ·rw [iP h12] at hm;refine ab rfl (eQ h12) ?_;refine aj [0, 12] ?_;refine ak ?_;refine ae (ag ?_)
    cases hm
    exact kr 0
   ·rw [iN h12] at hm;refine af rfl (nB h12) ?_
    by_cases h13 : p1 ≥ 10
    ·rw [iP h13] at hm;have h13b := dT h13;refine bf h13b [12, 20, 21, 22, 23, 24, 25] ?_
     by_cases h14 : p1 ≤ 12
     ·rw [iP h14] at hm;refine ab rfl (dT h14) ?_;refine aj [0, 19] ?_;refine ak ?_;refine ae (ag ?_)
      cases hm
      exact kr 0
     ·rw [iN h14] at hm;refine af rfl (dF h14) ?_;refine aj [19, 27, 28] ?_
      by_cases h15 : p1 = 13
      ·rw [iP h15] at hm;refine ab rfl (eQ h15) ?_;refine aj [0, 26] ?_;refine ak ?_;refine ae (ag ?_)
       cases hm
       exact kr 0
      ·rw [iN h15] at hm;refine af rfl (nB h15) ?_;refine aj [0, 26, 30, 31] ?_
       by_cases h16 : p1 = 14
       ·rw [iP h16] at hm;refine ab rfl (eQ h16) ?_;refine aj [29] ?_;refine ak ?_;refine ae (ag ?_)
        cases hm
        exact kr 0
       ·rw [iN h16] at hm;refine af rfl (nB h16) ?_;refine ao ?_;refine am ?_;refine ai (hk1 _ _ ?_);refine aj [29] ?_;refine ak ?_
        cases hm
        exact kr 0
    ·rw [iN h13] at hm;have h13b := dF h13;refine bf h13b [12, 20, 21, 22, 23, 24, 25] ?_;refine af rfl rfl ?_;refine aj [19, 27, 28] ?_
     by_cases h17 : p1 = 13
     ·rw [iP h17] at hm;refine ab rfl (eQ h17) ?_;refine aj [0, 26] ?_;refine ak ?_;refine ae (ag ?_)
      cases hm
      exact kr 0
     ·rw [iN h17] at hm;refine af rfl (nB h17) ?_;refine aj [0, 26, 30, 31] ?_
      by_cases h18 : p1 = 14
      ·rw [iP h18] at hm;refine ab rfl (eQ h18) ?_;refine aj [29] ?_;refine ak ?_;refine ae (ag ?_)
       cases hm
       exact kr 0
      ·rw [iN h18] at hm;refine af rfl (nB h18) ?_;refine ao ?_;refine am ?_;refine ai (hk1 _ _ ?_);refine aj [29] ?_;refine ak ?_
       cases hm
       exact kr 0
theorem oZ (p1 : aE) (p2 : au) (p3 : Int) (r : (Int × Bool)) (hm : kI p1 p2 p3 = some r) : cr Try.prog 48 [.a [.int .i64 p1.cells, .tree 1 (p1.put.map (eK .i64)), .tree 1 (p1.get.map (eK .i64)), .tree 6 (p1.steps.map ap.enc)], .a [.int .i64 p2.op, .int .i64 p2.k, .int .i64 p2.v, .int .i64 p2.n], .c (.int .i64 p3)] (.t [.c (.int .i64 r.1), .c (.bool r.2)]) := by
 refine aL 65 [.tmp 6, .tmp 7] Try.func48 rfl rfl rfl (by kernel_rfl) (by simp) ?_;refine bB ?_;unfold kI at hm;refine aj [0, 1, 6, 7] ?_;refine an fun k1 hk1 => ?_;refine aj [11] ?_;refine ax ?_;refine aj [14] ?_
 by_cases h1 : p2.op = 1
 ·rw [iP h1] at hm;refine ab rfl (eQ h1) ?_;refine aj [2, 3, 4, 12, 13] ?_;refine ak ?_;refine ae (ag ?_)
  cases hm
  exact kr 0
 ·rw [iN h1] at hm;refine af rfl (nB h1) ?_;refine aj [13, 16] ?_
  by_cases h2 : p2.op = 2
  ·rw [iP h2] at hm;refine ab rfl (eQ h2) ?_;refine aA [2, 3, 4, 12, 15, 17, 18, 19, 20] fun k kp hk hp => ?_;refine go ?_;obtain ⟨y1, hc3, hm⟩ := bd hm;refine RP (fun _ => eV p1 p2.v 1 _ hc3) ?_;refine aa ?_;refine go ?_;refine hk _ _ ?_;clear hk hp k kp;refine ak ?_;refine ae (ag ?_)
   cases hm
   exact kr 0
  ·rw [iN h2] at hm;refine af rfl (nB h2) ?_;refine aj [15, 22] ?_
   by_cases h4 : p2.op = 3
   ·rw [iP h4] at hm;refine ab rfl (eQ h4) ?_;refine aA [2, 3, 4, 12, 21, 23, 24, 25, 26, 27] fun k kp hk hp => ?_;refine go ?_;obtain ⟨y2, hc5, hm⟩ := bd hm;refine RP (fun _ => eV p1 p2.v p3 _ hc5) ?_;refine aa ?_;refine go ?_;refine hk _ _ ?_;clear hk hp k kp;refine ak ?_;refine ae (ag ?_)
    cases hm
    exact kr 0
   ·rw [iN h4] at hm;refine af rfl (nB h4) ?_;refine aj [2, 21, 29] ?_
    by_cases h6 : p2.op = 4
    ·rw [iP h6] at hm;refine ab rfl (eQ h6) ?_;refine jb [3, 4, 12, 28, 30, 31, 32, 33, 34, 35, 36, 37] (by kernel_rfl) [0, 1, 3, 7, 15, 31, 63, 127, 15, 511] [true, true, true, true, false, false, false, false, false, true] (by kernel_rfl) fun k hk => ?_;refine kq 4 rfl ?_;refine ga ?_
     by_cases h7 : p2.n ≥ (-1000000000000000000)
     ·rw [iP h7] at hm;have h7b := dT h7;refine dX ?_;refine gax h7b ?_;refine hk _ _ ?_;clear hk k;refine ak ?_;refine ae (ag ?_)
      cases hm
      exact kr 0
     ·rw [iN h7] at hm;have h7b := dF h7;refine dX ?_;refine gax h7b ?_;refine hk _ _ ?_;clear hk k;refine ak ?_;refine ae (ag ?_)
      cases hm
      exact kr 0
    ·rw [iN h6] at hm;refine af rfl (nB h6) ?_;refine aP (S := Bool) (V := Unit) [28, 38, 39, 40] (fun b3 _ => [(38, .c (.bool b3))]) (fun b3 _ => [.box [.int .i64 p1.cells, .tree 1 (p1.put.map (eK .i64)), .tree 1 (p1.get.map (eK .i64)), .tree 6 (p1.steps.map ap.enc)], .box [.int .i64 p2.op, .int .i64 p2.k, .int .i64 p2.v, .int .i64 p2.n]]) (fun b3 => gc p1 p2 b3 = some r) ?_ ?_
     ·skip;refine aj [28, 39] ?_
      by_cases h13 : p2.op = 5
      ·rw [iP h13] at hm;refine ab rfl (eQ h13) ?_;refine ao ?_;refine aw (p2.op == 5) () hm ?_;exact ls
      ·rw [iN h13] at hm;refine af rfl (nB h13) ?_;refine bb ?_;refine aw (p2.op == 6) () hm ?_;exact ls
     ·rintro b3 _ hm;replace hm : gc p1 p2 b3 = some r := hm;refine aO ?_;unfold gc at hm
      by_cases h8 : b3 = true
      ·rw [iP h8] at hm;refine ab rfl (h8) ?_;refine aA [3, 8, 9, 12, 38, 41, 42, 43, 44, 45, 46, 47] fun k kp hk hp => ?_;refine go ?_;obtain ⟨y4, hc9, hm⟩ := bd hm;refine RP (fun _ => ks p2.k _ hc9) ?_;refine aa ?_;refine go ?_;refine hk _ _ ?_;clear hk hp k kp;refine rO [4, 10, 48, 49, 50, 51, 52, 53, 54] [0, 0, 0, 4, 12, 28, 62, 1, 255] [false, false, false, false, false, false, false, false, true] ?_;refine ak ?_;refine ae (ag ?_)
       cases hm
       exact kr 0
      ·rw [iN h8] at hm;refine af rfl (fB h8) ?_;refine aj [38, 56] ?_
       by_cases h10 : p2.op = 7
       ·rw [iP h10] at hm;refine ab rfl (eQ h10) ?_;refine aj [3, 4, 12, 55] ?_;refine ak ?_;refine ae (ag ?_)
        cases hm
        exact kr 0
       ·rw [iN h10] at hm;refine af rfl (nB h10) ?_;refine aj [12, 55, 58] ?_
        by_cases h11 : p2.op = 8
        ·rw [iP h11] at hm;refine ab rfl (eQ h11) ?_;refine aA [3, 4, 57, 59, 60, 61, 62, 63, 64] fun k kp hk hp => ?_;refine go ?_;obtain ⟨y5, hc12, hm⟩ := bd hm;refine RP (fun _ => eV p1 p2.v p2.n _ hc12) ?_;refine aa ?_;refine go ?_;refine hk _ _ ?_;clear hk hp k kp;refine ak ?_;refine ae (ag ?_)
         cases hm
         exact kr 0
        ·rw [iN h11] at hm;refine af rfl (nB h11) ?_;refine ao ?_;refine am ?_;refine ai (hk1 _ _ ?_);refine aj [3, 4, 57] ?_;refine ak ?_
         cases hm
         exact kr 0
theorem jZ (p1 : aE) (p2 : List au) (p3 : Int) (r : Bool) (hm : ib p1 p2 p3 = some r) : cr Try.prog 41 [.a [.int .i64 p1.cells, .tree 1 (p1.put.map (eK .i64)), .tree 1 (p1.get.map (eK .i64)), .tree 6 (p1.steps.map ap.enc)], .c (.tree 4 (p2.map au.enc)), .c (.int .i64 p3)] (.c (.bool r)) := by
 refine aL 44 [.tmp 6] Try.func41 rfl rfl rfl (by kernel_rfl) (by simp) ?_;refine bB ?_;unfold ib at hm;refine aj [0, 6] ?_;refine aj [] ?_;refine aP (S := Int) (V := Unit) [2, 3, 6, 7, 9, 10, 11, 12, 13, 14, 15, 16, 17, 18, 19, 20, 21, 22, 23, 24, 25, 26, 27, 28, 29, 30, 31, 32, 33, 34, 35, 36] (fun x1 _ => [(7, .c (.int .i64 x1))]) (fun x1 _ => [.box [.int .i64 p1.cells, .tree 1 (p1.put.map (eK .i64)), .tree 1 (p1.get.map (eK .i64)), .tree 6 (p1.steps.map ap.enc)]]) (fun x1 => gf p2 x1 = some r) ?_ ?_
 ·skip;refine aj [] ?_
  refine ax ?_;obtain ⟨o1, hl1, hm1⟩ := bd hm;refine aZ (S := (Int × Int)) (V := Unit) (O := Int ⊕ Bool) [6, 7, 9, 10, 11, 14, 15, 16, 17, 18, 19, 20, 21, 22, 23, 24, 25, 26, 27, 28, 29, 30, 31, 32, 33, 34, 35, 36] (fun (x6, x7) _ => [(7, .c (.int .i64 x6)), (14, .c (.int .i64 x7))]) (fun (x6, x7) _ => [.box [.int .i64 p1.cells, .tree 1 (p1.put.map (eK .i64)), .tree 1 (p1.get.map (eK .i64)), .tree 6 (p1.steps.map ap.enc)]]) _ _ () hl1 ?_ ?_
  ·exact ls
  ·rintro ⟨x6, x7⟩ _ r1 hm hr1;replace hm : d7 p1 p2 p3 x6 x7 = some r1 := hm;refine aO ?_;unfold d7 at hm;refine aj [] ?_;refine an fun k1 hk1 => ?_
   by_cases h2 : x7 < (p2.length : Int)
   ·rw [iP h2] at hm;refine ab rfl (dT h2) ?_;refine ao ?_;refine ai (hk1 _ _ ?_);refine an fun k2 hk2 => ?_;refine ax ?_;obtain ⟨hg3a, hm⟩ := gd hm;refine bf (em au.enc p2 x7.toNat) [15, 16, 17] ?_;refine aA [9, 18, 19, 20, 21, 22, 23, 24] fun k kp hk hp => ?_;refine go ?_;obtain ⟨y8, hc4, hm⟩ := bd hm;refine RP (fun _ => oZ p1 (p2.getD x7.toNat default) p3 _ hc4) ?_;refine aa ?_;refine go ?_;refine hk _ _ ?_;clear hk hp k kp;refine an fun k3 hk3 => ?_
    by_cases h5 : y8.2 = true
    ·rw [iP h5] at hm;have h5b := h5
     have h5c : (!y8.2) = false := by rw [h5b]; rfl
     refine bf (a2 h5b h5c) [11, 25, 26, 27, 28, 29, 30] ?_
     by_cases h6 : x6 < y8.1
     ·rw [iP h6] at hm;refine ab rfl (dT h6) ?_;refine aj [1, 2, 3, 7, 10, 12, 13, 14, 31] ?_;have ho7 := ay hm hr1;subst ho7;replace hm : some false = some r := hm1;refine ak ?_;refine ag (ae (ag (aD (ae (av ?_)))))
      cases hm
      exact kr 0
     ·rw [iN h6] at hm;refine af rfl (dF h6) ?_;refine ao ?_;refine ai (hk3 _ _ ?_);refine bb ?_;refine am ?_;refine ai (hk2 _ _ ?_);refine bb ?_;refine aC ((IntKind.wrap .i64 (x6 + (IntKind.wrap .i64 (1 - y8.1)))), (IntKind.wrap .i64 (x7 + 1))) () hm ?_;exact ls
    ·rw [iN h5] at hm;have h5b := fB h5
     have h5c : (!y8.2) = true := by rw [h5b]; rfl
     refine bf (a2 h5b h5c) [11, 25, 26, 27, 28, 29, 30] ?_;refine ab rfl rfl ?_;refine aj [1, 2, 3, 7, 10, 12, 13, 14, 31] ?_;have ho8 := ay hm hr1;subst ho8;replace hm : some false = some r := hm1;refine ak ?_;refine ag (ae (ag (aD (ae (av ?_)))))
     cases hm
     exact kr 0
   ·rw [iN h2] at hm;refine af rfl (dF h2) ?_;refine bj ?_;have ho9 := ay hm hr1;subst ho9;replace hm : gf p2 x6 = some r := hm1;refine aV (aS (aF ?_));refine aw x6 () hm ?_;exact ls
 ·rintro x1 _ hm;replace hm : gf p2 x1 = some r := hm;refine aO ?_;unfold gf at hm
  by_cases h1 : x1 = 1
  ·rw [iP h1] at hm;have h1b := eQ h1;refine bf h1b [1, 7, 37, 38, 39, 40, 41, 42, 43] ?_;refine ak ?_
   cases hm
   exact kr 0
  ·rw [iN h1] at hm;have h1b := nB h1;refine bf h1b [1, 7, 37, 38, 39, 40, 41, 42, 43] ?_;refine ak ?_
   cases hm
   exact kr 0
theorem o9 (p1 : aE) (p2 : ap) (r : Bool) (hm : jy p1 p2 = some r) : cr Try.prog 30 [.a [.int .i64 p1.cells, .tree 1 (p1.put.map (eK .i64)), .tree 1 (p1.get.map (eK .i64)), .tree 6 (p1.steps.map ap.enc)], .a [.int .i64 p2.op, .int .i64 p2.k, .int .i64 p2.n, .int .i64 p2.to, .tree 4 (p2.f.map au.enc), .tree 4 (p2.e.map au.enc)]] (.c (.bool r)) := by
 refine aL 77 [.tmp 4] Try.func30 rfl rfl rfl (by kernel_rfl) (by simp) ?_;refine bB ?_;unfold jy at hm;refine aj [0, 1, 4] ?_;refine aA [5, 6, 9, 10, 11, 12, 13, 14, 15] fun k kp hk hp => ?_;refine go ?_;obtain ⟨y1, hc1, hm⟩ := bd hm;refine RP (fun _ => ks p2.k _ hc1) ?_;refine aa ?_;refine go ?_;refine hk _ _ ?_;clear hk hp k kp;refine an fun k1 hk1 => ?_;refine aj [16] ?_;refine ax ?_;refine aj [19] ?_
 by_cases h2 : p2.op = 1
 ·rw [iP h2] at hm;refine ab rfl (eQ h2) ?_;refine aA [2, 3, 7, 17, 18, 20, 21, 22, 23, 24, 25, 26, 27, 28, 29] fun k kp hk hp => ?_;refine go ?_;obtain ⟨y2, hc3, hm⟩ := bd hm;refine RP (fun _ => eV p1 p2.to 1 _ hc3) ?_
  by_cases h4 : y2 = true
  ·rw [iP h4] at hm;have h4b := h4;refine aa ?_;refine gox h4b ?_;obtain ⟨y3, hc5, hm⟩ := bd hm;refine RP (fun _ => jZ p1 p2.e 1 _ hc5) ?_;refine aa ?_;refine gox h4b ?_;refine hk _ _ ?_;clear hk hp k kp;refine ak ?_;refine ae (ag ?_)
   cases hm
   exact kr 0
  ·rw [iN h4] at hm;have h4b := fB h4;refine aa ?_;refine gox h4b ?_;refine hk _ _ ?_;clear hk hp k kp;refine ak ?_;refine ae (ag ?_)
   cases hm
   exact kr 0
 ·rw [iN h2] at hm;refine af rfl (nB h2) ?_;refine aP (S := Bool) (V := Unit) [17, 18, 30, 31, 32, 33] (fun b4 _ => [(30, .c (.bool b4))]) (fun b4 _ => [.box [.int .i64 p1.cells, .tree 1 (p1.put.map (eK .i64)), .tree 1 (p1.get.map (eK .i64)), .tree 6 (p1.steps.map ap.enc)], .box [.int .i64 p2.op, .int .i64 p2.k, .int .i64 p2.n, .int .i64 p2.to, .tree 4 (p2.f.map au.enc), .tree 4 (p2.e.map au.enc)]]) (fun b4 => fc p1 p2 y1 b4 = some r) ?_ ?_
  ·skip;refine aj [18, 31] ?_
   by_cases h17 : p2.op = 2
   ·rw [iP h17] at hm;refine ab rfl (eQ h17) ?_;refine ao ?_;refine aw (p2.op == 2) () hm ?_;exact ls
   ·rw [iN h17] at hm;refine af rfl (nB h17) ?_;refine aj [32] ?_
    by_cases h18 : p2.op = 4
    ·rw [iP h18] at hm;refine ab rfl (eQ h18) ?_;refine ao ?_;refine aw (p2.op == 4) () hm ?_;exact ls
    ·rw [iN h18] at hm;refine af rfl (nB h18) ?_;refine bb ?_;refine aw (p2.op == 3) () hm ?_;exact ls
  ·rintro b4 _ hm;replace hm : fc p1 p2 y1 b4 = some r := hm;refine aO ?_;unfold fc at hm
   by_cases h6 : b4 = true
   ·rw [iP h6] at hm;refine ab rfl (h6) ?_;refine ao ?_;refine am ?_;refine ai (hk1 _ _ ?_);refine aj [30, 34, 35] ?_;refine aP (S := Int) (V := Unit) [8, 36, 37, 38] (fun x5 _ => [(8, .c (.int .i64 x5))]) (fun x5 _ => [.box [.int .i64 p1.cells, .tree 1 (p1.put.map (eK .i64)), .tree 1 (p1.get.map (eK .i64)), .tree 6 (p1.steps.map ap.enc)], .box [.int .i64 p2.op, .int .i64 p2.k, .int .i64 p2.n, .int .i64 p2.to, .tree 4 (p2.f.map au.enc), .tree 4 (p2.e.map au.enc)]]) (fun x5 => gg p1 p2 y1 x5 = some r) ?_ ?_
    ·skip;refine aj [36, 37] ?_
     by_cases h16 : p2.op = 3
     ·rw [iP h16] at hm;refine ab rfl (eQ h16) ?_;refine bb ?_;refine aw 1 () hm ?_;exact ls
     ·rw [iN h16] at hm;refine af rfl (nB h16) ?_;refine ao ?_;refine aw p2.n () hm ?_;exact ls
    ·rintro x5 _ hm;replace hm : gg p1 p2 y1 x5 = some r := hm;refine aO ?_;unfold gg at hm;refine dg [2, 3, 7, 8, 39, 40, 41, 42, 43, 44, 45, 46, 47, 48, 49, 50, 51, 52, 53, 54, 55, 56, 57, 58, 59, 60, 61, 62, 63, 64, 65, 66, 67, 68, 69, 70, 71, 72, 73, 74, 75, 76] fun k kp hk hp => ?_;refine ar 4 ?_;refine go ?_
     by_cases h7 : p2.n ≥ 1
     ·rw [iP h7] at hm;have h7b := dT h7;refine ar 5 ?_;refine gox h7b ?_
      by_cases h8 : p2.n ≤ 300
      ·rw [iP h8] at hm;have h8b := dT h8;refine aa ?_;refine gox (a2 h7b h8b) ?_;obtain ⟨y6, hc9, hm⟩ := bd hm;refine RP (fun _ => eV p1 p2.to x5 _ hc9) ?_
       by_cases h10 : y6 = true
       ·rw [iP h10] at hm;have h10b := h10;refine aa ?_;refine gox (a2 h7b (a2 h8b h10b)) ?_;obtain ⟨y7, hc11, hm⟩ := bd hm;refine RP (fun _ => jZ p1 p2.e p2.n _ hc11) ?_
        by_cases h12 : y7 = true
        ·rw [iP h12] at hm;have h12b := h12;refine ar 6 ?_;refine gox (a2 h7b (a2 h8b (a2 h10b h12b))) ?_
         by_cases h13 : p2.op = 2
         ·rw [iP h13] at hm;have h13b := eQ h13;refine aa ?_;refine gox (a2 h7b (a2 h8b (a2 h10b (a2 h12b h13b)))) ?_;refine hk _ _ ?_;clear hk hp k kp;refine ak ?_
          cases hm
          exact kr 0
         ·rw [iN h13] at hm;have h13b := nB h13
          by_cases h14 : y1.2.2 = 2
          ·rw [iP h14] at hm;have h14b := eQ h14;refine aa ?_;refine gox (a2 h7b (a2 h8b (a2 h10b (a2 h12b (a2 h13b h14b))))) ?_;obtain ⟨y8, hc15, hm⟩ := bd hm;refine RP (fun _ => jZ p1 p2.f 1 _ hc15) ?_;refine aa ?_;refine gox (a2 h7b (a2 h8b (a2 h10b (a2 h12b (a2 h13b h14b))))) ?_;refine hk _ _ ?_;clear hk hp k kp;refine ak ?_
           cases hm
           exact kr 0
          ·rw [iN h14] at hm;have h14b := nB h14;refine aa ?_;refine gox (a2 h7b (a2 h8b (a2 h10b (a2 h12b (a2 h13b h14b))))) ?_;refine hk _ _ ?_;clear hk hp k kp;refine ak ?_
           cases hm
           exact kr 0
        ·rw [iN h12] at hm;have h12b := fB h12;refine aa ?_;refine gox (a2 h7b (a2 h8b (a2 h10b h12b))) ?_;refine hk _ _ ?_;clear hk hp k kp;refine ak ?_
         cases hm
         exact kr 0
       ·rw [iN h10] at hm;have h10b := fB h10;refine aa ?_;refine gox (a2 h7b (a2 h8b h10b)) ?_;refine hk _ _ ?_;clear hk hp k kp;refine ak ?_
        cases hm
        exact kr 0
      ·rw [iN h8] at hm;have h8b := dF h8;refine aa ?_;refine gox (a2 h7b h8b) ?_;refine hk _ _ ?_;clear hk hp k kp;refine ak ?_
       cases hm
       exact kr 0
     ·rw [iN h7] at hm;have h7b := dF h7;refine aa ?_;refine gox h7b ?_;refine hk _ _ ?_;clear hk hp k kp;refine ak ?_
      cases hm
      exact kr 0
   ·rw [iN h6] at hm;refine af rfl (fB h6) ?_;refine aj [2, 3, 7, 30] ?_;refine ak ?_;refine ae (ag ?_)
    cases hm
    exact kr 0
theorem n8 (p1 : aE) (r : aq) (hm : iW p1 = some r) : cr Try.prog 15 [.a [.int .i64 p1.cells, .tree 1 (p1.put.map (eK .i64)), .tree 1 (p1.get.map (eK .i64)), .tree 6 (p1.steps.map ap.enc)]] (.a [.int .i64 ((r).code), .int .i64 ((r).at_)]) := by
 refine aL 66 [.cell 2 34] Try.func15 rfl rfl rfl (by kernel_rfl) (by simp) ?_;refine bB ?_;unfold iW at hm;refine aj [0] ?_;refine an fun k1 hk1 => ?_;refine dg [7, 8, 9, 10, 11, 12, 13] fun k kp hk hp => ?_;refine ar 4 ?_;refine go ?_
 by_cases h1 : p1.cells < 1
 ·rw [iP h1] at hm;have h1b := dT h1;refine aa ?_;refine gox h1b ?_;refine hk _ _ ?_;clear hk hp k kp;refine ab rfl rfl ?_;refine aj [1, 14, 15] ?_;refine ak ?_;refine ag ?_
  cases hm
  exact kr 0
 ·rw [iN h1] at hm;have h1b := dF h1;refine aa ?_;refine gox h1b ?_;refine hk _ _ ?_;clear hk hp k kp
  by_cases h2 : p1.cells > 6000
  ·rw [iP h2] at hm;refine ab rfl (dT h2) ?_;refine aj [1, 14, 15] ?_;refine ak ?_;refine ag ?_
   cases hm
   exact kr 0
  ·rw [iN h2] at hm;refine af rfl (dF h2) ?_;refine ao ?_;refine ai (hk1 _ _ ?_);refine an fun k2 hk2 => ?_;refine dg [14, 16, 17, 18, 19, 20, 21, 22, 23, 24, 25, 26, 27, 28, 29, 30] fun k kp hk hp => ?_;refine ar 5 ?_;refine go ?_
   by_cases h3 : (p1.put.length : Int) > 6000
   ·rw [iP h3] at hm;have h3b := dT h3;refine aa ?_;refine gox h3b ?_;refine hk _ _ ?_;clear hk hp k kp;refine ab rfl rfl ?_;refine aj [1, 31, 32] ?_;refine ak ?_;refine ag ?_
    cases hm
    exact kr 0
   ·rw [iN h3] at hm;have h3b := dF h3;refine ar 6 ?_;refine gox h3b ?_
    by_cases h4 : (p1.get.length : Int) > 120000
    ·rw [iP h4] at hm;have h4b := dT h4;refine aa ?_;refine gox (a2 h3b h4b) ?_;refine hk _ _ ?_;clear hk hp k kp;refine ab rfl rfl ?_;refine aj [1, 31, 32] ?_;refine ak ?_;refine ag ?_
     cases hm
     exact kr 0
    ·rw [iN h4] at hm;have h4b := dF h4;refine aa ?_;refine gox (a2 h3b h4b) ?_;refine hk _ _ ?_;clear hk hp k kp
     by_cases h5 : (p1.steps.length : Int) > 1200
     ·rw [iP h5] at hm;refine ab rfl (dT h5) ?_;refine aj [1, 31, 32] ?_;refine ak ?_;refine ag ?_
      cases hm
      exact kr 0
     ·rw [iN h5] at hm;refine af rfl (dF h5) ?_;refine ao ?_;refine ai (hk2 _ _ ?_);refine aP (S := Unit) (V := Unit) [4, 31, 33, 34, 35, 36, 37, 38, 39, 40, 41, 42, 43, 44, 45, 46, 47, 48, 49] (fun _ _ => []) (fun _ _ => [.box [.int .i64 p1.cells, .tree 1 (p1.put.map (eK .i64)), .tree 1 (p1.get.map (eK .i64)), .tree 6 (p1.steps.map ap.enc)], .box [.int .i64 0, .int .i64 0]]) (fun _ => fA p1 = some r) ?_ ?_
      ·skip;refine aA [31, 33, 34, 35, 36, 37] fun k kp hk hp => ?_
       refine go ?_;obtain ⟨y6, hc12, hm⟩ := bd hm;refine RA (ji (lit ([p1.put, p1.get] : List (List Int))) 0 _ hc12) [2] ?_;rintro p σ' ⟨rfl, rfl⟩ _;refine aa ?_;refine go ?_;refine hk _ _ ?_;clear hk hp k kp;refine gv [.box [.int .i64 p1.cells, .tree 1 (p1.put.map (eK .i64)), .tree 1 (p1.get.map (eK .i64)), .tree 6 (p1.steps.map ap.enc)], .box [.int .i64 0, .int .i64 0], .arr 1 0 22 ((lit ([p1.put, p1.get] : List (List Int))).map (eL 1 (eK .i64))), .arr 1 1 3 (y6.map (eK .i64))] ?_;refine ax ?_;obtain ⟨o2, hl2, hm2⟩ := bd hm;refine aZ (S := Int) (V := Unit) (O := Unit ⊕ aq) [4, 38, 40, 41, 42, 43, 44, 45, 46, 47, 48, 49] (fun x9 _ => [(38, .c (.osl 3 1 0 y6.length)), (40, .c (.int .i64 x9))]) (fun x9 _ => [.box [.int .i64 p1.cells, .tree 1 (p1.put.map (eK .i64)), .tree 1 (p1.get.map (eK .i64)), .tree 6 (p1.steps.map ap.enc)], .box [.int .i64 0, .int .i64 0], .arr 1 0 22 ((lit ([p1.put, p1.get] : List (List Int))).map (eL 1 (eK .i64))), .arr 1 1 3 (y6.map (eK .i64))]) _ _ () hl2 ?_ ?_
       ·exact ls
       ·rintro x9 _ r2 hm hr2;replace hm : gA p1 y6 x9 = some r2 := hm;refine aO ?_;unfold gA at hm;refine aj [] ?_;refine an fun k5 hk5 => ?_
        by_cases h14 : x9 < (y6.length : Int)
        ·rw [iP h14] at hm;refine ab rfl (dT h14) ?_;refine ao ?_;refine ai (hk5 _ _ ?_);refine an fun k6 hk6 => ?_;refine ax ?_;obtain ⟨hg15a, hm⟩ := gd hm;refine bf (em (eK .i64) y6 x9.toNat) [41, 42, 43] ?_;refine aA [4, 44, 45, 46] fun k kp hk hp => ?_;refine go ?_;obtain ⟨y10, hc16, hm⟩ := bd hm;refine RP (fun _ => eV p1 (y6.getD x9.toNat default) 1 _ hc16) ?_;refine aa ?_;refine go ?_;refine hk _ _ ?_;clear hk hp k kp
         by_cases h17 : y10 = true
         ·rw [iP h17] at hm;refine af rfl (by rw [show y10 = true from (h17)]; rfl) ?_;refine ao ?_;refine am ?_;refine ai (hk6 _ _ ?_);refine bb ?_;refine aC (IntKind.wrap .i64 (x9 + 1)) () hm ?_;exact ls
         ·rw [iN h17] at hm;refine ab rfl (by rw [show y10 = false from (fB h17)]; rfl) ?_;refine aj [1, 38, 39, 40, 47, 48] ?_;have ho18 := ay hm hr2;subst ho18;replace hm : some (aq.mk 16 (-1)) = some r := hm2;refine ak ?_;refine ae (ag (aD (ae (av ?_))))
          cases hm
          exact kr 0
        ·rw [iN h14] at hm;refine af rfl (dF h14) ?_;refine bj ?_;have ho19 := ay hm hr2;subst ho19;replace hm : fA p1 = some r := hm2;refine aV (aS (aF ?_));refine aw () () hm ?_;exact ls
      ·rintro _ _ hm;replace hm : fA p1 = some r := hm;refine aO ?_;unfold fA at hm;refine aP (S := Unit) (V := Unit) [1, 5, 6, 50, 51, 52, 53, 54, 55, 56, 57, 58, 59, 60, 61, 62, 63, 64] (fun _ _ => []) (fun _ _ => [.box [.int .i64 p1.cells, .tree 1 (p1.put.map (eK .i64)), .tree 1 (p1.get.map (eK .i64)), .tree 6 (p1.steps.map ap.enc)], .box [.int .i64 0, .int .i64 0]]) (fun _ => gw = some r) ?_ ?_
       ·skip;refine aj [50] ?_
        refine ax ?_;obtain ⟨o1, hl1, hm1⟩ := bd hm;refine aZ (S := Int) (V := Unit) (O := Unit ⊕ aq) [5, 6, 53, 54, 55, 56, 57, 58, 59, 60, 61, 62, 63, 64] (fun x3 _ => [(53, .c (.int .i64 x3))]) (fun x3 _ => [.box [.int .i64 p1.cells, .tree 1 (p1.put.map (eK .i64)), .tree 1 (p1.get.map (eK .i64)), .tree 6 (p1.steps.map ap.enc)], .box [.int .i64 0, .int .i64 0]]) _ _ () hl1 ?_ ?_
        ·exact ls
        ·rintro x3 _ r1 hm hr1;replace hm : gy p1 x3 = some r1 := hm;refine aO ?_;unfold gy at hm;refine aj [] ?_;refine an fun k3 hk3 => ?_
         by_cases h6 : x3 < (p1.steps.length : Int)
         ·rw [iP h6] at hm;refine ab rfl (dT h6) ?_;refine ao ?_;refine ai (hk3 _ _ ?_);refine an fun k4 hk4 => ?_;refine ax ?_;obtain ⟨hg7a, hm⟩ := gd hm;refine bf (em ap.enc p1.steps x3.toNat) [54, 55, 56, 57] ?_;refine aA [6, 58, 59, 60] fun k kp hk hp => ?_;refine go ?_;obtain ⟨y4, hc8, hm⟩ := bd hm;refine RP (fun _ => o9 p1 (p1.steps.getD x3.toNat default) _ hc8) ?_;refine aa ?_;refine go ?_;refine hk _ _ ?_;clear hk hp k kp
          by_cases h9 : y4 = true
          ·rw [iP h9] at hm;refine af rfl (by rw [show y4 = true from (h9)]; rfl) ?_;refine ao ?_;refine am ?_;refine ai (hk4 _ _ ?_);refine bb ?_;refine aC (IntKind.wrap .i64 (x3 + 1)) () hm ?_;exact ls
          ·rw [iN h9] at hm;refine ab rfl (by rw [show y4 = false from (fB h9)]; rfl) ?_;refine aj [1, 5, 51, 52, 53, 61, 62, 63] ?_;have ho10 := ay hm hr1;subst ho10;replace hm : some (aq.mk 4 x3) = some r := hm1;refine ak ?_;refine ae (ag (aD (ae (av ?_))))
           cases hm
           exact kr 0
         ·rw [iN h6] at hm;refine af rfl (dF h6) ?_;refine bj ?_;have ho11 := ay hm hr1;subst ho11;replace hm : gw = some r := hm1;refine aV (aS (aF ?_));refine aw () () hm ?_;exact ls
       ·rintro _ _ hm;replace hm : gw = some r := hm;refine aO ?_;unfold gw at hm;refine aj [65] ?_;refine ak ?_
        cases hm
        exact kr 0
theorem aN (p1 : List ah) (p2 : Int) (p3 : List ah) (v1_ : Nat) (r : (Int × (List ah))) (hm : aM p1 p2 p3 = some r) : fJ Try.prog 32 [.c (.optr 0 0), .c (.tree 6 (p1.map ah.enc))] [.box [.osl 1 v1_ 0 p3.length, .int .i64 p2], .arr 6 v1_ 69 (p3.map ah.enc)] (fun p σ => ∃ w1_, (p = .t [] ∧ σ = [.box [.osl 1 w1_ 0 r.2.length, .int .i64 r.1], .arr 6 w1_ 69 (r.2.map ah.enc)])) (fun _ _ => False) := by
 refine aL 34 [] Try.func32 rfl rfl rfl (by kernel_rfl) (by simp) ?_;refine bB ?_;unfold aM at hm;refine aj [1] ?_;refine ax ?_;obtain ⟨o1, hl1, hm1⟩ := bd hm;refine aZ (S := (Int × (List ah) × Int)) (V := Nat) (O := (Int × (List ah))) [5, 8, 9, 10, 11, 12, 13, 14, 15, 16, 17, 18, 19, 20, 21, 22, 23, 24, 25, 26, 27, 28, 29, 30, 31, 32, 33] (fun (x15, l16, x18) v17 => [(8, .c (.int .i64 x18))]) (fun (x15, l16, x18) v17 => [.box [.osl 1 v17 0 l16.length, .int .i64 x15], .arr 6 v17 69 (l16.map ah.enc)]) _ _ v1_ hl1 ?_ ?_
 ·exact ls
 ·rintro ⟨x15, l16, x18⟩ v17 r1 hm hr1;replace hm : bn p1 x15 l16 x18 = some r1 := hm;refine aO ?_;unfold bn at hm;refine aj [] ?_;refine an fun k1 hk1 => ?_
  by_cases h1 : x18 < (p1.length : Int)
  ·rw [iP h1] at hm;refine ab rfl (dT h1) ?_;refine ao ?_;refine ai (hk1 _ _ ?_);refine an fun k2 hk2 => ?_;refine ax ?_;obtain ⟨hg2a, hm⟩ := gd hm;refine bf (em ah.enc p1 x18.toNat) [9, 10, 11] ?_;refine rO [12, 13, 14, 15, 16, 17, 18, 19, 20, 21, 22] [0, 0, 2, 6, 14, 0, 32, 96, 254, 511, 1023, 2047] [false, false, false, false, false, false, false, false, false, true, true, true] ?_;obtain ⟨⟨hg3ax, hg3ay⟩, hm⟩ := gd hm;refine uR (by kernel_rfl) [1] [0, 0, 2, 6, 14, 0, 32, 126, 255, 511, 1023] [false, false, false, false, false, false, false, false, true, true, true] [false, false, false, false, false, false, false, true, false, false, false] [[0], [], [], [], [], [], [], [], [], [], []] (by kernel_rfl) fun k hk => ?_;refine gp ?_;refine hk _ _ ?_;clear hk k;refine am ?_;refine ai (hk2 _ _ ?_);refine bb ?_;refine aC ((if (IntKind.wrap .i64 (((p1.getD x18.toNat default).r_) + 1)) > x15 then (IntKind.wrap .i64 (((p1.getD x18.toNat default).r_) + 1)) else x15), (l16 ++ (lit ([(p1.getD x18.toNat default)] : List ah))), (IntKind.wrap .i64 (x18 + 1))) (v17 + 1) hm ?_;exact ls
  ·rw [iN h1] at hm;refine af rfl (dF h1) ?_;refine bj ?_;have ho4 := ay hm hr1;subst ho4;replace hm : some (x15, l16) = some r := hm1;refine aV (aS (aF ?_))
   cases hm
   exact kn 2
theorem kP (p1 : au) (p2 : Int) (p3 : Int) (p4 : Int) (p5 : List ah) (v1_ : Nat) (r : (Int × (List ah))) (hm : gh p1 p2 p3 p4 p5 = some r) : fJ Try.prog 42 [.c (.optr 0 0), .a [.int .i64 p1.op, .int .i64 p1.k, .int .i64 p1.v, .int .i64 p1.n], .c (.int .i64 p2), .c (.int .i64 p3)] [.box [.osl 1 v1_ 0 p5.length, .int .i64 p4], .arr 6 v1_ 69 (p5.map ah.enc)] (fun p σ => ∃ w1_, (p = .t [] ∧ σ = [.box [.osl 1 w1_ 0 r.2.length, .int .i64 r.1], .arr 6 w1_ 69 (r.2.map ah.enc)])) (fun _ _ => False) := by
 refine aL 25 [] Try.func42 rfl rfl rfl (by kernel_rfl) (by simp) ?_;refine bB ?_;unfold gh at hm;refine aj [1] ?_;refine an fun k1 hk1 => ?_;refine aj [8] ?_
 by_cases h1 : p3 = 0
 ·rw [iP h1] at hm;refine ab rfl (eQ h1) ?_;refine aA [0, 2, 3, 5, 9, 10, 11, 12, 13, 14, 15, 16] fun k kp hk hp => ?_;refine go ?_;refine az (aR 3 rfl) ?_;refine gt ?_;obtain ⟨y1, hc2, hm⟩ := bd hm;refine RA (aN (lit ([(ah.mk 2 0 p2 0 0 p1.v)] : List ah)) p4 p5 v1_ _ hc2) [0, 1] ?_;rintro p σ' hq3 _;obtain ⟨v2, rfl, rfl⟩ := hq3;refine aa ?_;refine go ?_;refine hk _ _ ?_;clear hk hp k kp;refine ak ?_;refine ag ?_
  cases hm
  exact kr 2
 ·rw [iN h1] at hm;refine af rfl (nB h1) ?_;refine ao ?_;refine ai (hk1 _ _ ?_);refine dv fun k kp hk hp => ?_;refine go ?_;refine az (aR 3 rfl) ?_;refine gt ?_;obtain ⟨y3, hc4, hm⟩ := bd hm;refine RA (aN (lit ([(ah.mk 3 0 p2 0 p3 p1.v)] : List ah)) p4 p5 v1_ _ hc4) [0, 1] ?_;rintro p σ' hq5 _;obtain ⟨v4, rfl, rfl⟩ := hq5;refine aa ?_;refine go ?_;refine hk _ _ ?_;clear hk hp k kp
  cases hm
  exact kn 2
theorem j9 (p1 : au) (p2 : Int) (p3 : Int) (p4 : Int) (p5 : List ah) (v1_ : Nat) (r : (Int × (List ah))) (hm : fd p1 p2 p3 p4 p5 = some r) : fJ Try.prog 43 [.c (.optr 0 0), .a [.int .i64 p1.op, .int .i64 p1.k, .int .i64 p1.v, .int .i64 p1.n], .c (.int .i64 p2), .c (.int .i64 p3)] [.box [.osl 1 v1_ 0 p5.length, .int .i64 p4], .arr 6 v1_ 69 (p5.map ah.enc)] (fun p σ => ∃ w1_, (p = .t [] ∧ σ = [.box [.osl 1 w1_ 0 r.2.length, .int .i64 r.1], .arr 6 w1_ 69 (r.2.map ah.enc)])) (fun _ _ => False) := by
 refine aL 27 [] Try.func43 rfl rfl rfl (by kernel_rfl) (by simp) ?_;refine bB ?_;unfold fd at hm;refine aj [1] ?_;refine an fun k1 hk1 => ?_;refine aj [3, 8] ?_
 by_cases h1 : p3 = 0
 ·rw [iP h1] at hm;refine ab rfl (eQ h1) ?_;refine aA [0, 2, 5, 9, 10, 11, 12, 13, 14, 15, 16] fun k kp hk hp => ?_;refine go ?_;refine az (aR 3 rfl) ?_;refine gt ?_;obtain ⟨y1, hc2, hm⟩ := bd hm;refine RA (aN (lit ([(ah.mk 1 0 p2 0 0 p1.n)] : List ah)) p4 p5 v1_ _ hc2) [0, 1] ?_;rintro p σ' hq3 _;obtain ⟨v2, rfl, rfl⟩ := hq3;refine aa ?_;refine go ?_;refine hk _ _ ?_;clear hk hp k kp;refine ak ?_;refine ag ?_
  cases hm
  exact kr 2
 ·rw [iN h1] at hm;refine af rfl (nB h1) ?_;refine ao ?_;refine ai (hk1 _ _ ?_);refine dv fun k kp hk hp => ?_;refine go ?_;refine az (aR 3 rfl) ?_;refine gt ?_;obtain ⟨y3, hc4, hm⟩ := bd hm;refine RA (aN (lit ([(ah.mk 1 0 p2 0 0 p1.n), (ah.mk 7 1 p2 p2 0 0)] : List ah)) p4 p5 v1_ _ hc4) [0, 1] ?_;rintro p σ' hq5 _;obtain ⟨v4, rfl, rfl⟩ := hq5;refine aa ?_;refine go ?_;refine hk _ _ ?_;clear hk hp k kp
  cases hm
  exact kn 2
theorem kt (p1 : au) (p2 : Int) (p3 : Int) (p4 : List ah) (v1_ : Nat) (r : (Int × (List ah))) (hm : fM p1 p2 p3 p4 = some r) : fJ Try.prog 44 [.c (.optr 0 0), .a [.int .i64 p1.op, .int .i64 p1.k, .int .i64 p1.v, .int .i64 p1.n], .c (.int .i64 p2)] [.box [.osl 1 v1_ 0 p4.length, .int .i64 p3], .arr 6 v1_ 69 (p4.map ah.enc)] (fun p σ => ∃ w1_, (p = .t [] ∧ σ = [.box [.osl 1 w1_ 0 r.2.length, .int .i64 r.1], .arr 6 w1_ 69 (r.2.map ah.enc)])) (fun _ _ => False) := by
  refine aL 61 [] Try.func44 rfl rfl rfl (by kernel_rfl) (by simp) ?_;refine kY (by simp only [gZ, Env.ofList, List.length_nil, List.length_cons, bE, Nat.reduceDiv, Nat.reduceMod, Nat.reduceLT, Nat.reduceLeDiff, Nat.reduceAdd, Nat.reduceSub, Nat.reduceMul, Nat.reduceEqDiff, Nat.reduceBEq, Nat.reduceBNe, Nat.reduceGT, Int.reduceToNat]; rfl) rfl ?_;unfold fM at hm;refine aA [1] fun k kp hk hp => ?_;simp only [bR, bT, tab, bX, reduceIte, ↓reduceIte, reduceCtorEq, Int.reduceToNat, Nat.reduceDiv, Nat.reduceMod, Nat.reduceLT, Nat.reduceLeDiff, Nat.reduceAdd, Nat.reduceSub, Nat.reduceMul, Nat.reduceEqDiff, Nat.reduceBEq, Nat.reduceBNe, Nat.reduceGT]
  repeat refine ⟨by first | omega | assumption | decide | exact gJ fun _ => rfl | (intro _; omega) | rfl | exact fun e => absurd (List.map_eq_nil_iff.1 e) (by assumption) | (and_intros <;> first | omega | assumption | decide | exact gJ fun _ => rfl), ?_⟩
  refine hk _ _ ?_;clear hk hp k kp;refine aA [9, 10, 11, 12, 13, 14] fun k kp hk hp => ?_;simp only [bR, bT, tab, bX, reduceIte, ↓reduceIte, reduceCtorEq, Int.reduceToNat, Nat.reduceDiv, Nat.reduceMod, Nat.reduceLT, Nat.reduceLeDiff, Nat.reduceAdd, Nat.reduceSub, Nat.reduceMul, Nat.reduceEqDiff, Nat.reduceBEq, Nat.reduceBNe, Nat.reduceGT]
  repeat refine ⟨by first | omega | assumption | decide | exact gJ fun _ => rfl | (intro _; omega) | rfl | exact fun e => absurd (List.map_eq_nil_iff.1 e) (by assumption) | (and_intros <;> first | omega | assumption | decide | exact gJ fun _ => rfl), ?_⟩
  refine hk _ _ ?_;clear hk hp k kp;refine dv fun k kp hk hp => ?_;simp only [bR, bT, tab, bX, reduceIte, ↓reduceIte, reduceCtorEq, Int.reduceToNat, Nat.reduceDiv, Nat.reduceMod, Nat.reduceLT, Nat.reduceLeDiff, Nat.reduceAdd, Nat.reduceSub, Nat.reduceMul, Nat.reduceEqDiff, Nat.reduceBEq, Nat.reduceBNe, Nat.reduceGT, List.replicate, List.foldr]
  repeat refine ⟨by first | omega | assumption | decide | exact gJ fun _ => rfl | (intro _; omega) | rfl | exact fun e => absurd (List.map_eq_nil_iff.1 e) (by assumption) | (and_intros <;> first | omega | assumption | decide | exact gJ fun _ => rfl), ?_⟩
  refine az (aR 3 rfl) ?_;refine gt ?_;obtain ⟨y1, hc1, hm⟩ := bd hm
  refine mK (aN (lit ([(ah.mk 1 0 (IntKind.wrap .i64 (p2 + 2)) 0 0 0), (ah.mk 7 8 (IntKind.wrap .i64 (p2 + 3)) p2 (IntKind.wrap .i64 (p2 + 2)) 0), (ah.mk 6 14 (IntKind.wrap .i64 (p2 + 3)) (IntKind.wrap .i64 (p2 + 3)) 0 0), (ah.mk 1 0 (IntKind.wrap .i64 (p2 + 4)) 0 0 p1.n), (ah.mk 7 8 (IntKind.wrap .i64 (p2 + 4)) p2 (IntKind.wrap .i64 (p2 + 4)) 0), (ah.mk 7 10 (IntKind.wrap .i64 (p2 + 3)) (IntKind.wrap .i64 (p2 + 3)) (IntKind.wrap .i64 (p2 + 4)) 0), (ah.mk 9 0 (IntKind.wrap .i64 (p2 + 4)) (IntKind.wrap .i64 (p2 + 3)) 0 0), (ah.mk 8 0 (IntKind.wrap .i64 (p2 + 4)) p2 (IntKind.wrap .i64 (p2 + 2)) 0), (ah.mk 3 0 (IntKind.wrap .i64 (p2 + 4)) (IntKind.wrap .i64 (p2 + 4)) p1.n p1.v), (ah.mk 8 0 (IntKind.wrap .i64 (p2 + 3)) (IntKind.wrap .i64 (p2 + 4)) (IntKind.wrap .i64 (p2 + 1)) 0), (ah.mk 9 0 p2 (IntKind.wrap .i64 (p2 + 3)) 0 0)] : List ah)) p3 p4 v1_ _ hc1) [0, 1] (by first | trivial | exact jR rfl) (by first | trivial | (intro _; first | trivial | simp [need]) | simp [need]) (by simp) (by simp) rfl rfl (by first | trivial | (simp [bX, eK, eB, eS, eL, nv, e9, PV.under, CV.under, br, OB.under, cq]; done)) (by first | trivial | (simp [bX, eK, eB, eS, eL, nv, e9, PV.under, CV.under, br, OB.under, cq]; done)) ?_ (fun _ _ h _ => h.elim)
  rintro p σ' hq2 _;obtain ⟨v2, rfl, rfl⟩ := hq2;refine aa ?_;simp only [bR, bT, tab, bX, reduceIte, ↓reduceIte, reduceCtorEq, Int.reduceToNat, Nat.reduceDiv, Nat.reduceMod, Nat.reduceLT, Nat.reduceLeDiff, Nat.reduceAdd, Nat.reduceSub, Nat.reduceMul, Nat.reduceEqDiff, Nat.reduceBEq, Nat.reduceBNe, Nat.reduceGT, List.replicate, List.foldr]
  repeat refine ⟨by first | omega | assumption | decide | exact gJ fun _ => rfl | (intro _; omega) | rfl | exact fun e => absurd (List.map_eq_nil_iff.1 e) (by assumption) | (and_intros <;> first | omega | assumption | decide | exact gJ fun _ => rfl), ?_⟩
  refine hk _ _ ?_;clear hk hp k kp
  cases hm
  exact kn 2
theorem fV (p1 : List au) (p2 : Int) (p3 : Int) (p4 : Int) (p5 : List ah) (v1_ : Nat) (r : (Int × (List ah))) (hm : cM p1 p2 p3 p4 p5 = some r) : fJ Try.prog 31 [.c (.optr 0 0), .c (.tree 4 (p1.map au.enc)), .c (.int .i64 p2), .c (.int .i64 p3)] [.box [.osl 1 v1_ 0 p5.length, .int .i64 p4], .arr 6 v1_ 69 (p5.map ah.enc)] (fun p σ => ∃ w1_, (p = .t [] ∧ σ = [.box [.osl 1 w1_ 0 r.2.length, .int .i64 r.1], .arr 6 w1_ 69 (r.2.map ah.enc)])) (fun _ _ => False) := by
 refine aL 100 [] Try.func31 rfl rfl rfl (by kernel_rfl) (by simp) ?_;refine bB ?_;unfold cM at hm;refine aj [1] ?_;refine ax ?_;obtain ⟨o1, hl1, hm1⟩ := bd hm;refine aZ (S := (Int × (List ah) × Int × Int)) (V := Nat) (O := (Int × (List ah))) [2, 9, 12, 13, 14, 15, 16, 17, 18, 19, 20, 21, 22, 23, 24, 25, 26, 27, 28, 29, 30, 31, 32, 33, 34, 35, 36, 37, 38, 39, 40, 41, 42, 43, 44, 45, 46, 47, 48, 49, 50, 51, 52, 53, 54, 55, 56, 57, 58, 59, 60, 61, 62, 63, 64, 65, 66, 67, 68, 69, 70, 71, 72, 73, 74, 75, 76, 77, 78, 79, 80, 81, 82, 83, 84, 85, 86, 87, 88, 89, 90, 91, 92, 93, 94, 95, 96, 97, 98, 99] (fun (x17, l18, x20, x21) v19 => [(2, .c (.int .i64 x20)), (12, .c (.int .i64 x21))]) (fun (x17, l18, x20, x21) v19 => [.box [.osl 1 v19 0 l18.length, .int .i64 x17], .arr 6 v19 69 (l18.map ah.enc)]) _ _ v1_ hl1 ?_ ?_
 ·exact ls
 ·rintro ⟨x17, l18, x20, x21⟩ v19 r1 hm hr1;replace hm : bk p1 p3 x17 l18 x20 x21 = some r1 := hm;refine aO ?_;unfold bk at hm;refine aj [] ?_;refine an fun k1 hk1 => ?_
  by_cases h1 : x21 < (p1.length : Int)
  ·rw [iP h1] at hm;refine ab rfl (dT h1) ?_;refine ao ?_;refine ai (hk1 _ _ ?_);refine an fun k2 hk2 => ?_;refine ax ?_;obtain ⟨hg2a, hm⟩ := gd hm;refine bf (em au.enc p1 x21.toNat) [13, 14, 15] ?_;refine an fun k3 hk3 => ?_;refine aj [16] ?_;refine ax ?_;refine aj [19] ?_
   by_cases h3 : ((p1.getD x21.toNat default).op) = 1
   ·rw [iP h3] at hm;refine ab rfl (eQ h3) ?_;refine dv fun k kp hk hp => ?_;refine go ?_;refine az (aR 3 rfl) ?_;refine gt ?_;obtain ⟨y22, hc4, hm⟩ := bd hm;refine RA (aN (lit ([(ah.mk 1 0 x20 0 0 ((p1.getD x21.toNat default).n))] : List ah)) x17 l18 v19 _ hc4) [0, 1] ?_;rintro p σ' hq5 _;obtain ⟨v23, rfl, rfl⟩ := hq5;refine aa ?_;refine go ?_;refine hk _ _ ?_;clear hk hp k kp;refine am ?_;refine ai (hk3 _ _ ?_);refine bb ?_;refine am ?_;refine ai (hk2 _ _ ?_);refine bb ?_;refine aC (y22.1, y22.2, (IntKind.wrap .i64 (x20 + 1)), (IntKind.wrap .i64 (x21 + 1))) v23 hm ?_;exact ls
   ·rw [iN h3] at hm;refine af rfl (nB h3) ?_;refine aj [18, 28] ?_
    by_cases h6 : ((p1.getD x21.toNat default).op) = 2
    ·rw [iP h6] at hm;refine ab rfl (eQ h6) ?_;refine dv fun k kp hk hp => ?_;refine go ?_;refine az (aR 3 rfl) ?_;refine gt ?_;obtain ⟨y24, hc7, hm⟩ := bd hm;refine RA (aN (lit ([(ah.mk 2 0 x20 0 0 ((p1.getD x21.toNat default).v))] : List ah)) x17 l18 v19 _ hc7) [0, 1] ?_;rintro p σ' hq8 _;obtain ⟨v25, rfl, rfl⟩ := hq8;refine aa ?_;refine go ?_;refine hk _ _ ?_;clear hk hp k kp;refine am ?_;refine ai (hk3 _ _ ?_);refine bb ?_;refine am ?_;refine ai (hk2 _ _ ?_);refine bb ?_;refine aC (y24.1, y24.2, (IntKind.wrap .i64 (x20 + 1)), (IntKind.wrap .i64 (x21 + 1))) v25 hm ?_;exact ls
    ·rw [iN h6] at hm;refine af rfl (nB h6) ?_;refine aj [27, 37] ?_
     by_cases h9 : ((p1.getD x21.toNat default).op) = 3
     ·rw [iP h9] at hm;refine ab rfl (eQ h9) ?_;refine dv fun k kp hk hp => ?_;refine go ?_;obtain ⟨y26, hc10, hm⟩ := bd hm;refine RA (kP (p1.getD x21.toNat default) x20 p3 x17 l18 v19 _ hc10) [0, 1] ?_;rintro p σ' hq11 _;obtain ⟨v27, rfl, rfl⟩ := hq11;refine aa ?_;refine go ?_;refine hk _ _ ?_;clear hk hp k kp;refine am ?_;refine ai (hk3 _ _ ?_);refine bb ?_;refine am ?_;refine ai (hk2 _ _ ?_);refine bb ?_;refine aC (y26.1, y26.2, (IntKind.wrap .i64 (x20 + 1)), (IntKind.wrap .i64 (x21 + 1))) v27 hm ?_;exact ls
     ·rw [iN h9] at hm;refine af rfl (nB h9) ?_;refine aj [36, 44] ?_
      by_cases h12 : ((p1.getD x21.toNat default).op) = 4
      ·rw [iP h12] at hm;refine ab rfl (eQ h12) ?_;refine dv fun k kp hk hp => ?_;refine go ?_;obtain ⟨y28, hc13, hm⟩ := bd hm;refine RA (j9 (p1.getD x21.toNat default) x20 p3 x17 l18 v19 _ hc13) [0, 1] ?_;rintro p σ' hq14 _;obtain ⟨v29, rfl, rfl⟩ := hq14;refine aa ?_;refine go ?_;refine hk _ _ ?_;clear hk hp k kp;refine am ?_;refine ai (hk3 _ _ ?_);refine bb ?_;refine am ?_;refine ai (hk2 _ _ ?_);refine bb ?_;refine aC (y28.1, y28.2, (IntKind.wrap .i64 (x20 + 1)), (IntKind.wrap .i64 (x21 + 1))) v29 hm ?_;exact ls
      ·rw [iN h12] at hm;refine af rfl (nB h12) ?_;refine aj [43, 51] ?_
       by_cases h15 : ((p1.getD x21.toNat default).op) = 5
       ·rw [iP h15] at hm;refine ab rfl (eQ h15) ?_;refine aj [17, 50, 52, 53] ?_;refine dv fun k kp hk hp => ?_;refine go ?_;refine az (aR 3 rfl) ?_;refine gt ?_;obtain ⟨y30, hc16, hm⟩ := bd hm;refine RA (aN (lit ([(ah.mk 6 ((p1.getD x21.toNat default).k) (IntKind.wrap .i64 (x20 - 1)) (IntKind.wrap .i64 (x20 - 1)) 0 0)] : List ah)) x17 l18 v19 _ hc16) [0, 1] ?_;rintro p σ' hq17 _;obtain ⟨v31, rfl, rfl⟩ := hq17;refine aa ?_;refine go ?_;refine hk _ _ ?_;clear hk hp k kp;refine am ?_;refine ai (hk3 _ _ ?_);refine bb ?_;refine am ?_;refine ai (hk2 _ _ ?_);refine bb ?_;refine aC (y30.1, y30.2, (IntKind.wrap .i64 ((IntKind.wrap .i64 (x20 - 1)) + 1)), (IntKind.wrap .i64 (x21 + 1))) v31 hm ?_;exact ls
       ·rw [iN h15] at hm;refine af rfl (nB h15) ?_;refine aj [50, 63] ?_
        by_cases h18 : ((p1.getD x21.toNat default).op) = 6
        ·rw [iP h18] at hm;refine ab rfl (eQ h18) ?_;refine aj [17, 62, 64, 65] ?_;refine dv fun k kp hk hp => ?_;refine go ?_;refine az (aR 3 rfl) ?_;refine gt ?_;obtain ⟨y32, hc19, hm⟩ := bd hm;refine RA (aN (lit ([(ah.mk 7 ((p1.getD x21.toNat default).k) (IntKind.wrap .i64 (x20 - 2)) (IntKind.wrap .i64 (x20 - 2)) (IntKind.wrap .i64 ((IntKind.wrap .i64 (x20 - 2)) + 1)) 0)] : List ah)) x17 l18 v19 _ hc19) [0, 1] ?_;rintro p σ' hq20 _;obtain ⟨v33, rfl, rfl⟩ := hq20;refine aa ?_;refine go ?_;refine hk _ _ ?_;clear hk hp k kp;refine am ?_;refine ai (hk3 _ _ ?_);refine bb ?_;refine am ?_;refine ai (hk2 _ _ ?_);refine bb ?_;refine aC (y32.1, y32.2, (IntKind.wrap .i64 ((IntKind.wrap .i64 (x20 - 2)) + 1)), (IntKind.wrap .i64 (x21 + 1))) v33 hm ?_;exact ls
        ·rw [iN h18] at hm;refine af rfl (nB h18) ?_;refine aj [62, 77] ?_
         by_cases h21 : ((p1.getD x21.toNat default).op) = 7
         ·rw [iP h21] at hm;refine ab rfl (eQ h21) ?_;refine aj [9, 17, 76, 78, 79] ?_;refine dv fun k kp hk hp => ?_;refine go ?_;refine az (aR 3 rfl) ?_;refine gt ?_;obtain ⟨y34, hc22, hm⟩ := bd hm;refine RA (aN (lit ([(ah.mk 8 0 (IntKind.wrap .i64 (x20 - 3)) (IntKind.wrap .i64 ((IntKind.wrap .i64 (x20 - 3)) + 1)) (IntKind.wrap .i64 ((IntKind.wrap .i64 (x20 - 3)) + 2)) 0)] : List ah)) x17 l18 v19 _ hc22) [0, 1] ?_;rintro p σ' hq23 _;obtain ⟨v35, rfl, rfl⟩ := hq23;refine aa ?_;refine go ?_;refine hk _ _ ?_;clear hk hp k kp;refine am ?_;refine ai (hk3 _ _ ?_);refine bb ?_;refine am ?_;refine ai (hk2 _ _ ?_);refine bb ?_;refine aC (y34.1, y34.2, (IntKind.wrap .i64 ((IntKind.wrap .i64 (x20 - 3)) + 1)), (IntKind.wrap .i64 (x21 + 1))) v35 hm ?_;exact ls
         ·rw [iN h21] at hm;refine af rfl (nB h21) ?_;refine aj [17, 76, 90] ?_
          by_cases h24 : ((p1.getD x21.toNat default).op) = 8
          ·rw [iP h24] at hm;refine ab rfl (eQ h24) ?_;refine aj [89, 91, 92] ?_;refine dv fun k kp hk hp => ?_;refine go ?_;obtain ⟨y36, hc25, hm⟩ := bd hm;refine RA (kt (p1.getD x21.toNat default) (IntKind.wrap .i64 (x20 - 2)) x17 l18 v19 _ hc25) [0, 1] ?_;rintro p σ' hq26 _;obtain ⟨v37, rfl, rfl⟩ := hq26;refine aa ?_;refine go ?_;refine hk _ _ ?_;clear hk hp k kp;refine am ?_;refine ai (hk3 _ _ ?_);refine bb ?_;refine am ?_;refine ai (hk2 _ _ ?_);refine bb ?_;refine aC (y36.1, y36.2, (IntKind.wrap .i64 ((IntKind.wrap .i64 (x20 - 2)) + 1)), (IntKind.wrap .i64 (x21 + 1))) v37 hm ?_;exact ls
          ·rw [iN h24] at hm;refine af rfl (nB h24) ?_;refine ao ?_;refine am ?_;refine ai (hk3 _ _ ?_);refine bb ?_;refine am ?_;refine ai (hk2 _ _ ?_);refine bb ?_;refine aC (x17, l18, (IntKind.wrap .i64 (x20 + 1)), (IntKind.wrap .i64 (x21 + 1))) v19 hm ?_;exact ls
  ·rw [iN h1] at hm;refine af rfl (dF h1) ?_;refine bj ?_;have ho27 := ay hm hr1;subst ho27;replace hm : some (x17, l18) = some r := hm1;refine aV (aS (aF ?_))
   cases hm
   exact kn 2
theorem ku (p1 : ap) (p2 : Int) (p3 : List ah) (v1_ : Nat) (r : (Int × (List ah))) (hm : d8 p1 p2 p3 = some r) : fJ Try.prog 16 [.c (.optr 0 0), .a [.int .i64 p1.op, .int .i64 p1.k, .int .i64 p1.n, .int .i64 p1.to, .tree 4 (p1.f.map au.enc), .tree 4 (p1.e.map au.enc)]] [.box [.osl 1 v1_ 0 p3.length, .int .i64 p2], .arr 6 v1_ 69 (p3.map ah.enc)] (fun p σ => ∃ w1_, (p = .t [] ∧ σ = [.box [.osl 1 w1_ 0 r.2.length, .int .i64 r.1], .arr 6 w1_ 69 (r.2.map ah.enc)])) (fun _ _ => False) := by
 refine aL 75 [] Try.func16 rfl rfl rfl (by kernel_rfl) (by simp) ?_;refine bB ?_;unfold d8 at hm;refine aj [1] ?_;refine an fun k1 hk1 => ?_;refine aj [5, 6] ?_
 by_cases h1 : p1.op = 1
 ·rw [iP h1] at hm;refine ab rfl (eQ h1) ?_;refine aA [7, 8, 9, 10, 11] fun k kp hk hp => ?_;refine go ?_;obtain ⟨y1, hc2, hm⟩ := bd hm;refine RA (fV p1.e 2 0 p2 p3 v1_ _ hc2) [0, 1] ?_;rintro p σ' hq3 _;obtain ⟨v2, rfl, rfl⟩ := hq3;refine aa ?_;refine go ?_;refine hk _ _ ?_;clear hk hp k kp;refine aA [0, 3, 12, 13, 14, 15, 16, 17] fun k kp hk hp => ?_;refine go ?_;refine az (aR 3 rfl) ?_;refine gt ?_;obtain ⟨y3, hc4, hm⟩ := bd hm;refine RA (aN (lit ([(ah.mk 4 0 2 0 0 p1.to)] : List ah)) y1.1 y1.2 v2 _ hc4) [0, 1] ?_;rintro p σ' hq5 _;obtain ⟨v4, rfl, rfl⟩ := hq5;refine aa ?_;refine go ?_;refine hk _ _ ?_;clear hk hp k kp;refine ak ?_;refine ag ?_
  cases hm
  exact kr 2
 ·rw [iN h1] at hm;refine af rfl (nB h1) ?_;refine ao ?_;refine ai (hk1 _ _ ?_);refine aP (S := (Int × (List ah))) (V := Nat) [7, 18, 19, 20, 21, 22, 23, 24, 25, 26, 27, 28] (fun (x7, l8) v9 => []) (fun (x7, l8) v9 => [.box [.osl 1 v9 0 l8.length, .int .i64 x7], .arr 6 v9 69 (l8.map ah.enc), .box [.int .i64 p1.op, .int .i64 p1.k, .int .i64 p1.n, .int .i64 p1.to, .tree 4 (p1.f.map au.enc), .tree 4 (p1.e.map au.enc)]]) (fun (x7, l8) => bO p1 x7 l8 = some r) ?_ ?_
  ·skip;refine aj [7, 18, 19] ?_
   by_cases h21 : ¬ p1.op = 2
   ·rw [iP h21] at hm;refine ab rfl (bne_iff_ne.2 h21) ?_;refine aA [20, 21, 22, 23, 24] fun k kp hk hp => ?_;refine go ?_;obtain ⟨y33, hc22, hm⟩ := bd hm;refine RA (fV p1.f 2 0 p2 p3 v1_ _ hc22) [0, 1] ?_;rintro p σ' hq23 _;obtain ⟨v34, rfl, rfl⟩ := hq23;refine aa ?_;refine go ?_;refine hk _ _ ?_;clear hk hp k kp;refine dv fun k kp hk hp => ?_;refine go ?_;refine az (aR 3 rfl) ?_;refine gt ?_;obtain ⟨y35, hc24, hm⟩ := bd hm;refine RA (aN (lit ([(ah.mk 9 0 1 2 0 0)] : List ah)) y33.1 y33.2 v34 _ hc24) [0, 1] ?_;rintro p σ' hq25 _;obtain ⟨v36, rfl, rfl⟩ := hq25;refine aa ?_;refine go ?_;refine hk _ _ ?_;clear hk hp k kp;refine aw (y35.1, y35.2) v36 hm ?_;exact ls
   ·rw [iN h21] at hm;refine af rfl (bne_eq_false_iff_eq.2 (Decidable.not_not.1 h21)) ?_;refine ao ?_;refine aw (p2, p3) v1_ hm ?_;exact ls
  ·rintro ⟨x7, l8⟩ v9 hm;replace hm : bO p1 x7 l8 = some r := hm;refine aO ?_;unfold bO at hm;refine aA [29, 30, 31, 32, 33, 34] fun k kp hk hp => ?_;refine go ?_;refine az (aR 3 rfl) ?_;refine gt ?_;obtain ⟨y10, hc6, hm⟩ := bd hm;refine RA (aN (lit ([(ah.mk 10 0 0 0 0 p1.n)] : List ah)) x7 l8 v9 _ hc6) [0, 1] ?_;rintro p σ' hq7 _;obtain ⟨v11, rfl, rfl⟩ := hq7;refine aa ?_;refine go ?_;refine hk _ _ ?_;clear hk hp k kp;refine aA [35, 36, 37, 38, 39, 40] fun k kp hk hp => ?_;refine go ?_;obtain ⟨y12, hc8, hm⟩ := bd hm;refine RA (fV p1.e 2 p1.n y10.1 y10.2 v11 _ hc8) [0, 1] ?_;rintro p σ' hq9 _;obtain ⟨v13, rfl, rfl⟩ := hq9;refine aa ?_;refine go ?_;refine hk _ _ ?_;clear hk hp k kp;refine aj [] ?_;refine aP (S := (Int × (List ah) × Int)) (V := Nat) [4, 41, 42, 43, 44, 45, 46, 47, 48, 49] (fun (x16, l17, x19) v18 => [(4, .c (.int .i64 x19))]) (fun (x16, l17, x19) v18 => [.box [.osl 1 v18 0 l17.length, .int .i64 x16], .arr 6 v18 69 (l17.map ah.enc), .box [.int .i64 p1.op, .int .i64 p1.k, .int .i64 p1.n, .int .i64 p1.to, .tree 4 (p1.f.map au.enc), .tree 4 (p1.e.map au.enc)], .dead]) (fun (x16, l17, x19) => bu p1 x16 l17 x19 = some r) ?_ ?_
   ·skip;refine aj [41, 42] ?_
    by_cases h18 : ¬ p1.op = 2
    ·rw [iP h18] at hm;refine ab rfl (bne_iff_ne.2 h18) ?_;refine aA [4, 43, 44, 45, 46, 47, 48, 49] fun k kp hk hp => ?_;refine go ?_;refine az (aR 4 rfl) ?_;refine gt ?_;obtain ⟨y31, hc19, hm⟩ := bd hm;refine RA (aN (lit ([(ah.mk 7 p1.k 1 1 2 0)] : List ah)) y12.1 y12.2 v13 _ hc19) [0, 1] ?_;rintro p σ' hq20 _;obtain ⟨v32, rfl, rfl⟩ := hq20;refine aa ?_;refine go ?_;refine hk _ _ ?_;clear hk hp k kp;refine bb ?_;refine aw (y31.1, y31.2, 1) v32 hm ?_;exact ls
    ·rw [iN h18] at hm;refine af rfl (bne_eq_false_iff_eq.2 (Decidable.not_not.1 h18)) ?_;refine ao ?_;refine aw (y12.1, y12.2, 2) v13 hm ?_;exact ls
   ·rintro ⟨x16, l17, x19⟩ v18 hm;replace hm : bu p1 x16 l17 x19 = some r := hm;refine aO ?_;unfold bu at hm;refine aP (S := (Int × (List ah))) (V := Nat) [4, 50, 51, 52, 53, 54, 55, 56, 57, 58, 59, 60, 61] (fun (x22, l23) v24 => []) (fun (x22, l23) v24 => [.box [.osl 1 v24 0 l23.length, .int .i64 x22], .arr 6 v24 69 (l23.map ah.enc), .box [.int .i64 p1.op, .int .i64 p1.k, .int .i64 p1.n, .int .i64 p1.to, .tree 4 (p1.f.map au.enc), .tree 4 (p1.e.map au.enc)], .dead]) (fun (x22, l23) => bt p1 x22 l23 = some r) ?_ ?_
    ·skip;refine aj [50, 51] ?_
     by_cases h15 : ¬ p1.op = 3
     ·rw [iP h15] at hm;refine ab rfl (bne_iff_ne.2 h15) ?_;refine dv fun k kp hk hp => ?_;refine go ?_;refine az (aR 4 rfl) ?_;refine gt ?_;obtain ⟨y29, hc16, hm⟩ := bd hm;refine RA (aN (lit ([(ah.mk 5 0 x19 0 p1.n p1.to)] : List ah)) x16 l17 v18 _ hc16) [0, 1] ?_;rintro p σ' hq17 _;obtain ⟨v30, rfl, rfl⟩ := hq17;refine aa ?_;refine go ?_;refine hk _ _ ?_;clear hk hp k kp;refine aw (y29.1, y29.2) v30 hm ?_;exact ls
     ·rw [iN h15] at hm;refine af rfl (bne_eq_false_iff_eq.2 (Decidable.not_not.1 h15)) ?_;refine ao ?_;refine aw (x16, l17) v18 hm ?_;exact ls
    ·rintro ⟨x22, l23⟩ v24 hm;replace hm : bt p1 x22 l23 = some r := hm;refine aO ?_;unfold bt at hm;refine aA [62, 63, 64, 65] fun k kp hk hp => ?_;refine go ?_;refine az (aR 4 rfl) ?_;refine gt ?_;obtain ⟨y25, hc10, hm⟩ := bd hm;refine RA (aN (lit ([(ah.mk 11 0 0 0 0 0)] : List ah)) x22 l23 v24 _ hc10) [0, 1] ?_;rintro p σ' hq11 _;obtain ⟨v26, rfl, rfl⟩ := hq11;refine aa ?_;refine go ?_;refine hk _ _ ?_;clear hk hp k kp;refine aj [66, 67] ?_
     by_cases h12 : p1.op = 3
     ·rw [iP h12] at hm;refine ab rfl (eQ h12) ?_;refine dv fun k kp hk hp => ?_;refine go ?_;refine az (aR 5 rfl) ?_;refine gt ?_;obtain ⟨y27, hc13, hm⟩ := bd hm;refine RA (aN (lit ([(ah.mk 4 0 1 0 0 p1.to)] : List ah)) y25.1 y25.2 v26 _ hc13) [0, 1] ?_;rintro p σ' hq14 _;obtain ⟨v28, rfl, rfl⟩ := hq14;refine aa ?_;refine go ?_;refine hk _ _ ?_;clear hk hp k kp
      cases hm
      exact kn 2
     ·rw [iN h12] at hm;refine af rfl (nB h12) ?_;refine ao ?_
      cases hm
      exact kn 2
theorem pd (p1 : List ah) (v0_ : Nat) (r : Int) (hm : jz p1 = some r) : fJ Try.prog 17 [.c (.osl 0 v0_ 0 p1.length)] [.arr 6 v0_ 69 (p1.map ah.enc)] (fun p σ => (p = .c (.int .i64 r) ∧ σ = [.arr 6 v0_ 69 (p1.map ah.enc)])) (fun _ _ => False) := by
 refine aL 47 [.tmp 2] Try.func17 rfl rfl rfl (by kernel_rfl) (by simp) ?_;refine bB ?_;unfold jz at hm;refine aj [2] ?_;refine aj [] ?_;refine aP (S := (Int × Int)) (V := Unit) [0, 2, 3, 4, 5, 7, 8, 9, 10, 11, 12, 13, 14, 15, 16, 17, 18, 19, 20, 21, 22, 23, 24, 25, 26, 27, 28, 29, 30, 31, 32, 33, 34, 35, 36, 37, 38, 39, 40, 41, 42, 43] (fun (x1, x2) _ => [(3, .c (.int .i64 x1)), (5, .c (.int .i64 x2))]) (fun (x1, x2) _ => [.arr 6 v0_ 69 (p1.map ah.enc)]) (fun (x1, x2) => ff x1 x2 = some r) ?_ ?_
 ·skip;refine aj [0] ?_
  refine ax ?_;obtain ⟨o1, hl1, hm1⟩ := bd hm;refine aZ (S := (Int × Int × Int × Int)) (V := Unit) (O := (Int × Int) ⊕ Int) [2, 3, 4, 5, 7, 8, 10, 11, 12, 13, 14, 15, 16, 17, 18, 19, 20, 21, 22, 23, 24, 25, 26, 27, 28, 29, 30, 31, 32, 33, 34, 35, 36, 37, 38, 39, 40, 41, 42, 43] (fun (x11, x12, x13, x14) _ => [(3, .c (.int .i64 x11)), (4, .c (.int .i64 x12)), (5, .c (.int .i64 x13)), (8, .c (.osl 0 v0_ 0 p1.length)), (10, .c (.int .i64 x14))]) (fun (x11, x12, x13, x14) _ => [.arr 6 v0_ 69 (p1.map ah.enc)]) _ _ () hl1 ?_ ?_
  ·exact ls
  ·rintro ⟨x11, x12, x13, x14⟩ _ r1 hm hr1;replace hm : fg p1 x11 x12 x13 x14 = some r1 := hm;refine aO ?_;unfold fg at hm;refine aj [] ?_;refine an fun k2 hk2 => ?_
   by_cases h2 : x14 < (p1.length : Int)
   ·rw [iP h2] at hm;refine ab rfl (dT h2) ?_;refine ao ?_;refine ai (hk2 _ _ ?_);refine an fun k3 hk3 => ?_;refine ax ?_;obtain ⟨hg3a, hm⟩ := gd hm;refine bf (em ah.enc p1 x14.toNat) [11, 12, 13] ?_;refine aj [14, 15, 16] ?_;refine aj [17] ?_;refine ax ?_;refine aj [20] ?_
    by_cases h4 : ((p1.getD x14.toNat default).op) = 10
    ·rw [iP h4] at hm;refine ab rfl (eQ h4) ?_;refine an fun k4 hk4 => ?_
     by_cases h5 : x12 > 1
     ·rw [iP h5] at hm;have h5b := dT h5;refine bf h5b [4, 5, 18, 19, 21, 22, 23, 24, 25, 26, 27, 28, 29, 30, 31, 32, 33, 34, 35] ?_;refine ab rfl rfl ?_;refine aj [3, 7, 8, 9, 10, 36] ?_;have ho6 := ay hm hr1;subst ho6;replace hm : some 0 = some r := hm1;refine ak ?_;refine ag (ae (ae (ag (aD (ae (av ?_))))))
      cases hm
      exact kr 1
     ·rw [iN h5] at hm;have h5b := dF h5;refine dg [4, 5, 18, 19, 21, 22, 23, 24, 25, 26, 27, 28, 29, 30, 31, 32, 33, 34, 35] fun k kp hk hp => ?_;refine ar 7 ?_;refine gox h5b ?_
      by_cases h7 : x13 > 0
      ·rw [iP h7] at hm;have h7b := dT h7;refine aa ?_;refine gox (a2 h5b h7b) ?_;refine hk _ _ ?_;clear hk hp k kp;refine ab rfl rfl ?_;refine aj [3, 7, 8, 9, 10, 36] ?_;have ho8 := ay hm hr1;subst ho8;replace hm : some 0 = some r := hm1;refine ak ?_;refine ag (ae (ae (ag (aD (ae (av ?_))))))
       cases hm
       exact kr 1
      ·rw [iN h7] at hm;have h7b := dF h7;refine ar 5 ?_;refine gox (a2 h5b h7b) ?_
       by_cases h9 : ((p1.getD x14.toNat default).n) < 1
       ·rw [iP h9] at hm;have h9b := dT h9;refine aa ?_;refine gox (a2 h5b (a2 h7b h9b)) ?_;refine hk _ _ ?_;clear hk hp k kp;refine ab rfl rfl ?_;refine aj [3, 7, 8, 9, 10, 36] ?_;have ho10 := ay hm hr1;subst ho10;replace hm : some 0 = some r := hm1;refine ak ?_;refine ag (ae (ae (ag (aD (ae (av ?_))))))
        cases hm
        exact kr 1
       ·rw [iN h9] at hm;have h9b := dF h9;refine aa ?_;refine gox (a2 h5b (a2 h7b h9b)) ?_;refine hk _ _ ?_;clear hk hp k kp
        by_cases h11 : ((p1.getD x14.toNat default).n) > 300
        ·rw [iP h11] at hm;refine ab rfl (dT h11) ?_;refine aj [3, 7, 8, 9, 10, 36] ?_;have ho12 := ay hm hr1;subst ho12;replace hm : some 0 = some r := hm1;refine ak ?_;refine ag (ae (ae (ag (aD (ae (av ?_))))))
         cases hm
         exact kr 1
        ·rw [iN h11] at hm;refine af rfl (dF h11) ?_;refine ao ?_;refine ai (hk4 _ _ ?_);refine bb ?_;refine am (am ?_);refine ai (hk3 _ _ ?_);refine bb ?_;refine aC ((IntKind.wrap .i64 (x11 + x12)), (p1.getD x14.toNat default).n, 1, (IntKind.wrap .i64 (x14 + 1))) () hm ?_;exact ls
    ·rw [iN h4] at hm;refine af rfl (nB h4) ?_;refine aj [7, 18, 19, 40] ?_
     by_cases h13 : ((p1.getD x14.toNat default).op) = 11
     ·rw [iP h13] at hm;refine ab rfl (eQ h13) ?_;refine an fun k5 hk5 => ?_;refine aj [4, 5, 39, 41] ?_
      by_cases h14 : x13 = 0
      ·rw [iP h14] at hm;refine ab rfl (eQ h14) ?_;refine aj [3, 8, 9, 10, 42] ?_;have ho15 := ay hm hr1;subst ho15;replace hm : some 0 = some r := hm1;refine ak ?_;refine ag (ae (ae (ag (aD (ae (av ?_))))))
       cases hm
       exact kr 1
      ·rw [iN h14] at hm;refine af rfl (nB h14) ?_;refine ao ?_;refine ai (hk5 _ _ ?_);refine bb ?_;refine am (am ?_);refine ai (hk3 _ _ ?_);refine bb ?_;refine aC ((IntKind.wrap .i64 (x11 + x12)), 1, 0, (IntKind.wrap .i64 (x14 + 1))) () hm ?_;exact ls
     ·rw [iN h13] at hm;refine af rfl (nB h13) ?_;refine ao ?_;refine am (am ?_);refine ai (hk3 _ _ ?_);refine bb ?_;refine aC ((IntKind.wrap .i64 (x11 + x12)), x12, x13, (IntKind.wrap .i64 (x14 + 1))) () hm ?_;exact ls
   ·rw [iN h2] at hm;refine af rfl (dF h2) ?_;refine bj ?_;have ho16 := ay hm hr1;subst ho16;replace hm : ff x11 x13 = some r := hm1;refine aV (aS (aF ?_));refine aw (x11, x13) () hm ?_;exact ls
 ·rintro ⟨x1, x2⟩ _ hm;replace hm : ff x1 x2 = some r := hm;refine aO ?_;unfold ff at hm;refine an fun k1 hk1 => ?_;refine aj [5, 44] ?_
  by_cases h1 : x2 > 0
  ·rw [iP h1] at hm;refine ab rfl (dT h1) ?_;refine aj [3, 45] ?_;refine ak ?_;refine ag ?_
   cases hm
   exact kr 1
  ·rw [iN h1] at hm;refine af rfl (dF h1) ?_;refine ao ?_;refine ai (hk1 _ _ ?_);refine aj [3, 45, 46] ?_;refine ak ?_
   cases hm
   exact kr 1
theorem kQ (p1 : Int) (p2 : bN) (r : Bool) (hm : gi p1 p2 = some r) : fJ Try.prog 50 [.c (.int .i64 p1), .c (.optr 0 0)] [.box [.int .i64 p2.m_.cells, .int .i64 p2.m_.regs, .int .i64 p2.m_.cost, .tree 1 (p2.m_.put.map (eK .i64)), .tree 1 (p2.m_.bools.map (eK .i64)), .tree 1 (p2.m_.get.map (eK .i64)), .tree 6 (p2.m_.code.map ah.enc)]] (fun p σ => (p = .c (.bool r) ∧ σ = [.box [.int .i64 p2.m_.cells, .int .i64 p2.m_.regs, .int .i64 p2.m_.cost, .tree 1 (p2.m_.put.map (eK .i64)), .tree 1 (p2.m_.bools.map (eK .i64)), .tree 1 (p2.m_.get.map (eK .i64)), .tree 6 (p2.m_.code.map ah.enc)]])) (fun _ _ => False) := by
 refine aL 13 [.tmp 3] Try.func50 rfl rfl rfl (by kernel_rfl) (by simp) ?_;refine bB ?_;unfold gi at hm;refine aj [3] ?_
 by_cases h1 : p1 < 0
 ·rw [iP h1] at hm;have h1b := dT h1;refine bf h1b [0, 1, 4, 5, 6, 7, 8, 9, 10, 11, 12] ?_;refine ak ?_
  cases hm
  exact kr 1
 ·rw [iN h1] at hm;have h1b := dF h1;refine bf h1b [0, 1, 4, 5, 6, 7, 8, 9, 10, 11, 12] ?_;refine ak ?_
  cases hm
  exact kr 1
theorem iG (p1 : List Int) (p2 : bN) (r : Int) (hm : cn p1 p2 = some r) : fJ Try.prog 51 [.c (.tree 1 (p1.map (eK .i64))), .c (.fn 50 [.optr 0 0])] [.box [.int .i64 p2.m_.cells, .int .i64 p2.m_.regs, .int .i64 p2.m_.cost, .tree 1 (p2.m_.put.map (eK .i64)), .tree 1 (p2.m_.bools.map (eK .i64)), .tree 1 (p2.m_.get.map (eK .i64)), .tree 6 (p2.m_.code.map ah.enc)]] (fun p σ => (p = .c (.int .i64 r) ∧ σ = [.box [.int .i64 p2.m_.cells, .int .i64 p2.m_.regs, .int .i64 p2.m_.cost, .tree 1 (p2.m_.put.map (eK .i64)), .tree 1 (p2.m_.bools.map (eK .i64)), .tree 1 (p2.m_.get.map (eK .i64)), .tree 6 (p2.m_.code.map ah.enc)]])) (fun _ _ => False) := by
 refine aL 19 [.tmp 4] Try.func51 rfl rfl rfl (by kernel_rfl) (by simp) ?_;refine bB ?_;unfold cn at hm;refine aj [4] ?_;refine aP (S := Unit) (V := Unit) [0, 1, 4, 5, 6, 7, 8, 9, 10, 11, 12, 13, 14, 15, 16, 17, 18] (fun _ _ => []) (fun _ _ => [.box [.int .i64 p2.m_.cells, .int .i64 p2.m_.regs, .int .i64 p2.m_.cost, .tree 1 (p2.m_.put.map (eK .i64)), .tree 1 (p2.m_.bools.map (eK .i64)), .tree 1 (p2.m_.get.map (eK .i64)), .tree 6 (p2.m_.code.map ah.enc)]]) (fun _ => bH = some r) ?_ ?_
 ·skip;refine aj [6] ?_
  refine ax ?_;obtain ⟨o1, hl1, hm1⟩ := bd hm;refine aZ (S := Int) (V := Unit) (O := Unit ⊕ Int) [4, 5, 8, 9, 10, 11, 12, 13, 14, 15, 16, 17, 18] (fun x3 _ => [(8, .c (.int .i64 x3))]) (fun x3 _ => [.box [.int .i64 p2.m_.cells, .int .i64 p2.m_.regs, .int .i64 p2.m_.cost, .tree 1 (p2.m_.put.map (eK .i64)), .tree 1 (p2.m_.bools.map (eK .i64)), .tree 1 (p2.m_.get.map (eK .i64)), .tree 6 (p2.m_.code.map ah.enc)]]) _ _ () hl1 ?_ ?_
  ·exact ls
  ·rintro x3 _ r1 hm hr1;replace hm : bI p1 p2 x3 = some r1 := hm;refine aO ?_;unfold bI at hm;refine aj [] ?_;refine an fun k1 hk1 => ?_
   by_cases h1 : x3 < (p1.length : Int)
   ·rw [iP h1] at hm;refine ab rfl (dT h1) ?_;refine ao ?_;refine ai (hk1 _ _ ?_);refine an fun k2 hk2 => ?_;refine ax ?_;refine aj [9, 10] ?_;obtain ⟨hg2a, hm⟩ := gd hm;refine aA [11, 12, 13, 14, 15] fun k kp hk hp => ?_;refine gox (em (eK .i64) p1 x3.toNat) ?_;obtain ⟨y4, hc3, hm⟩ := bd hm;refine RA (kQ (p1.getD x3.toNat default) p2  _ hc3) [0] ?_;rintro p σ' ⟨rfl, rfl⟩ _;refine aa ?_;refine gox (em (eK .i64) p1 x3.toNat) ?_;refine hk _ _ ?_;clear hk hp k kp
    by_cases h5 : y4 = true
    ·rw [iP h5] at hm;refine ab rfl (h5) ?_;refine aj [0, 1, 5, 7, 8, 16, 17] ?_;have ho6 := ay hm hr1;subst ho6;replace hm : some x3 = some r := hm1;refine ak ?_;refine ae (ag (aD (ae (av ?_))))
     cases hm
     exact kr 1
    ·rw [iN h5] at hm;refine af rfl (fB h5) ?_;refine ao ?_;refine am ?_;refine ai (hk2 _ _ ?_);refine bb ?_;refine aC (IntKind.wrap .i64 (x3 + 1)) () hm ?_;exact ls
   ·rw [iN h1] at hm;refine af rfl (dF h1) ?_;refine bj ?_;have ho7 := ay hm hr1;subst ho7;replace hm : bH = some r := hm1;refine aV (aS (aF ?_));refine aw () () hm ?_;exact ls
 ·rintro _ _ hm;replace hm : bH = some r := hm;refine aO ?_;unfold bH at hm;refine aj [] ?_;refine ak ?_
  cases hm
  exact kr 1
theorem ii (p1 : List Int) (p2 : bN) (r : Bool) (hm : cF p1 p2 = some r) : fJ Try.prog 49 [.c (.tree 1 (p1.map (eK .i64))), .c (.fn 50 [.optr 0 0])] [.box [.int .i64 p2.m_.cells, .int .i64 p2.m_.regs, .int .i64 p2.m_.cost, .tree 1 (p2.m_.put.map (eK .i64)), .tree 1 (p2.m_.bools.map (eK .i64)), .tree 1 (p2.m_.get.map (eK .i64)), .tree 6 (p2.m_.code.map ah.enc)]] (fun p σ => (p = .c (.bool r) ∧ σ = [.box [.int .i64 p2.m_.cells, .int .i64 p2.m_.regs, .int .i64 p2.m_.cost, .tree 1 (p2.m_.put.map (eK .i64)), .tree 1 (p2.m_.bools.map (eK .i64)), .tree 1 (p2.m_.get.map (eK .i64)), .tree 6 (p2.m_.code.map ah.enc)]])) (fun _ _ => False) := by
 refine aL 9 [.tmp 4] Try.func49 rfl rfl rfl (by kernel_rfl) (by simp) ?_;refine bB ?_;unfold cF at hm;refine aj [4] ?_;refine aA [0, 1, 5, 6, 7, 8] fun k kp hk hp => ?_;refine go ?_;obtain ⟨y1, hc1, hm⟩ := bd hm;refine RA (iG p1 p2  _ hc1) [0] ?_;rintro p σ' ⟨rfl, rfl⟩ _;refine aa ?_;refine go ?_;refine hk _ _ ?_;clear hk hp k kp;refine ak ?_
 cases hm
 exact kr 1
theorem cj (p1 : bN) (p2 : List Int) (r : Bool) (hm : bo p1 p2 = some r) : cr Try.prog 45 [.a [.int .i64 p1.m_.cells, .int .i64 p1.m_.regs, .int .i64 p1.m_.cost, .tree 1 (p1.m_.put.map (eK .i64)), .tree 1 (p1.m_.bools.map (eK .i64)), .tree 1 (p1.m_.get.map (eK .i64)), .tree 6 (p1.m_.code.map ah.enc)], .c (.tree 1 (p2.map (eK .i64)))] (.c (.bool r)) := by
 refine aL 9 [.tmp 4] Try.func45 rfl rfl rfl (by kernel_rfl) (by simp) ?_;refine bB ?_;unfold bo at hm;refine aj [0, 4] ?_;refine aA [1, 2, 5, 6, 7, 8] fun k kp hk hp => ?_;refine go ?_;obtain ⟨y1, hc1, hm⟩ := bd hm;refine RA (ii p2 p1  _ hc1) [0] ?_;rintro p σ' ⟨rfl, rfl⟩ _;refine aa ?_;refine go ?_;refine hk _ _ ?_;clear hk hp k kp;refine ak ?_
 cases hm
 exact kr 0
theorem iC (p1 : bN) (p2 : Int) (p3 : Int) (r : Bool) (hm : cS p1 p2 p3 = some r) : cr Try.prog 46 [.a [.int .i64 p1.m_.cells, .int .i64 p1.m_.regs, .int .i64 p1.m_.cost, .tree 1 (p1.m_.put.map (eK .i64)), .tree 1 (p1.m_.bools.map (eK .i64)), .tree 1 (p1.m_.get.map (eK .i64)), .tree 6 (p1.m_.code.map ah.enc)], .c (.int .i64 p2), .c (.int .i64 p3)] (.c (.bool r)) := by
 refine aL 29 [.tmp 6] Try.func46 rfl rfl rfl (by kernel_rfl) (by simp) ?_;refine bB ?_;unfold cS at hm;refine aj [0, 6] ?_
 by_cases h1 : p3 ≥ 1
 ·rw [iP h1] at hm;have h1b := dT h1;refine dg [1, 2, 3, 7, 8, 9, 10, 11, 12, 13, 14, 15, 16, 17, 18, 19, 20, 21, 22, 23, 24, 25, 26, 27, 28] fun k kp hk hp => ?_;refine ar 10 ?_;refine gox h1b ?_
  by_cases h2 : p3 ≤ p1.m_.cells
  ·rw [iP h2] at hm;have h2b := dT h2;refine ar 4 ?_;refine gox (a2 h1b h2b) ?_
   by_cases h3 : p2 ≥ 0
   ·rw [iP h3] at hm;have h3b := dT h3;refine aa ?_;refine gox (a2 h1b (a2 h2b h3b)) ?_;refine hk _ _ ?_;clear hk hp k kp;refine ak ?_
    cases hm
    exact kr 0
   ·rw [iN h3] at hm;have h3b := dF h3;refine aa ?_;refine gox (a2 h1b (a2 h2b h3b)) ?_;refine hk _ _ ?_;clear hk hp k kp;refine ak ?_
    cases hm
    exact kr 0
  ·rw [iN h2] at hm;have h2b := dF h2;refine aa ?_;refine gox (a2 h1b h2b) ?_;refine hk _ _ ?_;clear hk hp k kp;refine ak ?_
   cases hm
   exact kr 0
 ·rw [iN h1] at hm;have h1b := dF h1;refine bf h1b [1, 2, 3, 7, 8, 9, 10, 11, 12, 13, 14, 15, 16, 17, 18, 19, 20, 21, 22, 23, 24, 25, 26, 27, 28] ?_;refine ak ?_
  cases hm
  exact kr 0
theorem lB (p1 : bN) (p2 : ah) (r : Bool) (hm : dt p1 p2 = some r) : cr Try.prog 33 [.a [.int .i64 p1.m_.cells, .int .i64 p1.m_.regs, .int .i64 p1.m_.cost, .tree 1 (p1.m_.put.map (eK .i64)), .tree 1 (p1.m_.bools.map (eK .i64)), .tree 1 (p1.m_.get.map (eK .i64)), .tree 6 (p1.m_.code.map ah.enc)], .a [.int .i64 p2.op, .int .i64 p2.k, .int .i64 p2.r_, .int .i64 p2.a, .int .i64 p2.b, .int .i64 p2.n]] (.c (.bool r)) := by
 refine aL 124 [.tmp 4] Try.func33 rfl rfl rfl (by kernel_rfl) (by simp) ?_;refine bB ?_;unfold dt at hm;refine aj [0, 1, 4] ?_;refine aA [5, 6, 8, 9, 10, 11, 12, 13, 14] fun k kp hk hp => ?_;refine go ?_;obtain ⟨y1, hc1, hm⟩ := bd hm;refine RP (fun _ => ks p2.k _ hc1) ?_;refine aa ?_;refine go ?_;refine hk _ _ ?_;clear hk hp k kp;refine an fun k1 hk1 => ?_;refine aj [15] ?_;refine ax ?_;refine aj [18] ?_
 by_cases h2 : p2.op = 1
 ·rw [iP h2] at hm;refine ab rfl (eQ h2) ?_;refine aA [2, 3, 7, 16, 17, 19, 20, 21, 22, 23] fun k kp hk hp => ?_;refine go ?_;refine az (aR 2 rfl) ?_;refine gt ?_;obtain ⟨y2, hc3, hm⟩ := bd hm;refine RP (fun _ => cj p1 (lit ([p2.r_] : List Int)) _ hc3) ?_;refine aa ?_;refine go ?_;refine hk _ _ ?_;clear hk hp k kp;refine ak ?_;refine ae (ag ?_)
  cases hm
  exact kr 0
 ·rw [iN h2] at hm;refine af rfl (nB h2) ?_;refine aP (S := Bool) (V := Unit) [17, 24, 25, 26] (fun b3 _ => [(24, .c (.bool b3))]) (fun b3 _ => [.box [.int .i64 p1.m_.cells, .int .i64 p1.m_.regs, .int .i64 p1.m_.cost, .tree 1 (p1.m_.put.map (eK .i64)), .tree 1 (p1.m_.bools.map (eK .i64)), .tree 1 (p1.m_.get.map (eK .i64)), .tree 6 (p1.m_.code.map ah.enc)], .box [.int .i64 p2.op, .int .i64 p2.k, .int .i64 p2.r_, .int .i64 p2.a, .int .i64 p2.b, .int .i64 p2.n]]) (fun b3 => cU p1 p2 y1 b3 = some r) ?_ ?_
  ·skip;refine aj [17, 25] ?_
   by_cases h27 : p2.op = 2
   ·rw [iP h27] at hm;refine ab rfl (eQ h27) ?_;refine ao ?_;refine aw (p2.op == 2) () hm ?_;exact ls
   ·rw [iN h27] at hm;refine af rfl (nB h27) ?_;refine bb ?_;refine aw (p2.op == 4) () hm ?_;exact ls
  ·rintro b3 _ hm;replace hm : cU p1 p2 y1 b3 = some r := hm;refine aO ?_;unfold cU at hm
   by_cases h4 : b3 = true
   ·rw [iP h4] at hm;refine ab rfl (h4) ?_;refine aA [2, 3, 7, 16, 24, 27, 28, 29, 30, 31, 32, 33, 34, 35, 36, 37] fun k kp hk hp => ?_;refine go ?_;refine az (aR 2 rfl) ?_;refine gt ?_;obtain ⟨y4, hc5, hm⟩ := bd hm;refine RP (fun _ => cj p1 (lit ([p2.r_] : List Int)) _ hc5) ?_
    by_cases h6 : y4 = true
    ·rw [iP h6] at hm;have h6b := h6;refine aa ?_;refine gox h6b ?_;obtain ⟨y5, hc7, hm⟩ := bd hm;refine RP (fun _ => iC p1 p2.n 1 _ hc7) ?_;refine aa ?_;refine gox h6b ?_;refine hk _ _ ?_;clear hk hp k kp;refine ak ?_;refine ae (ag ?_)
     cases hm
     exact kr 0
    ·rw [iN h6] at hm;have h6b := fB h6;refine aa ?_;refine gox h6b ?_;refine hk _ _ ?_;clear hk hp k kp;refine ak ?_;refine ae (ag ?_)
     cases hm
     exact kr 0
   ·rw [iN h4] at hm;refine af rfl (fB h4) ?_;refine aP (S := Bool) (V := Unit) [24, 38, 39, 40] (fun b6 _ => [(38, .c (.bool b6))]) (fun b6 _ => [.box [.int .i64 p1.m_.cells, .int .i64 p1.m_.regs, .int .i64 p1.m_.cost, .tree 1 (p1.m_.put.map (eK .i64)), .tree 1 (p1.m_.bools.map (eK .i64)), .tree 1 (p1.m_.get.map (eK .i64)), .tree 6 (p1.m_.code.map ah.enc)], .box [.int .i64 p2.op, .int .i64 p2.k, .int .i64 p2.r_, .int .i64 p2.a, .int .i64 p2.b, .int .i64 p2.n]]) (fun b6 => cT p1 p2 y1 b6 = some r) ?_ ?_
    ·skip;refine aj [24, 39] ?_
     by_cases h26 : p2.op = 3
     ·rw [iP h26] at hm;refine ab rfl (eQ h26) ?_;refine ao ?_;refine aw (p2.op == 3) () hm ?_;exact ls
     ·rw [iN h26] at hm;refine af rfl (nB h26) ?_;refine bb ?_;refine aw (p2.op == 5) () hm ?_;exact ls
    ·rintro b6 _ hm;replace hm : cT p1 p2 y1 b6 = some r := hm;refine aO ?_;unfold cT at hm
     by_cases h8 : b6 = true
     ·rw [iP h8] at hm;refine ab rfl (h8) ?_;refine aA [2, 3, 7, 16, 38, 41, 42, 43, 44, 45, 46, 47, 48, 49, 50, 51, 52, 53, 54, 55] fun k kp hk hp => ?_;refine go ?_;refine az (aR 2 rfl) ?_;refine gt ?_;obtain ⟨y7, hc9, hm⟩ := bd hm;refine RP (fun _ => cj p1 (lit ([p2.r_, p2.a] : List Int)) _ hc9) ?_
      by_cases h10 : y7 = true
      ·rw [iP h10] at hm;have h10b := h10;refine aa ?_;refine gox h10b ?_;obtain ⟨y8, hc11, hm⟩ := bd hm;refine RP (fun _ => iC p1 p2.n p2.b _ hc11) ?_;refine aa ?_;refine gox h10b ?_;refine hk _ _ ?_;clear hk hp k kp;refine ak ?_;refine ae (ag ?_)
       cases hm
       exact kr 0
      ·rw [iN h10] at hm;have h10b := fB h10;refine aa ?_;refine gox h10b ?_;refine hk _ _ ?_;clear hk hp k kp;refine ak ?_;refine ae (ag ?_)
       cases hm
       exact kr 0
     ·rw [iN h8] at hm;refine af rfl (fB h8) ?_;refine aj [38, 57] ?_
      by_cases h12 : p2.op = 6
      ·rw [iP h12] at hm;refine ab rfl (eQ h12) ?_;refine aA [2, 3, 7, 16, 56, 58, 59, 60, 61, 62, 63, 64, 65, 66, 67, 68] fun k kp hk hp => ?_;refine go ?_;refine az (aR 2 rfl) ?_;refine gt ?_;obtain ⟨y9, hc13, hm⟩ := bd hm;refine RP (fun _ => cj p1 (lit ([p2.r_, p2.a] : List Int)) _ hc13) ?_
       by_cases h14 : y9 = true
       ·rw [iP h14] at hm;have h14b := h14;refine aa ?_;refine gox h14b ?_;refine hk _ _ ?_;clear hk hp k kp;refine ak ?_;refine ae (ag ?_)
        cases hm
        exact kr 0
       ·rw [iN h14] at hm;have h14b := fB h14;refine aa ?_;refine gox h14b ?_;refine hk _ _ ?_;clear hk hp k kp;refine ak ?_;refine ae (ag ?_)
        cases hm
        exact kr 0
      ·rw [iN h12] at hm;refine af rfl (nB h12) ?_;refine aj [56, 70] ?_
       by_cases h15 : p2.op = 7
       ·rw [iP h15] at hm;refine ab rfl (eQ h15) ?_;refine aA [2, 3, 7, 16, 69, 71, 72, 73, 74, 75, 76, 77, 78, 79, 80, 81, 82, 83] fun k kp hk hp => ?_;refine go ?_;refine az (aR 2 rfl) ?_;refine gt ?_;obtain ⟨y10, hc16, hm⟩ := bd hm;refine RP (fun _ => cj p1 (lit ([p2.r_, p2.a, p2.b] : List Int)) _ hc16) ?_
        by_cases h17 : y10 = true
        ·rw [iP h17] at hm;have h17b := h17;refine aa ?_;refine gox h17b ?_;refine hk _ _ ?_;clear hk hp k kp;refine ak ?_;refine ae (ag ?_)
         cases hm
         exact kr 0
        ·rw [iN h17] at hm;have h17b := fB h17;refine aa ?_;refine gox h17b ?_;refine hk _ _ ?_;clear hk hp k kp;refine ak ?_;refine ae (ag ?_)
         cases hm
         exact kr 0
       ·rw [iN h15] at hm;refine af rfl (nB h15) ?_;refine aj [7, 69, 85] ?_
        by_cases h18 : p2.op = 8
        ·rw [iP h18] at hm;refine ab rfl (eQ h18) ?_;refine aA [2, 3, 16, 84, 86, 87, 88, 89, 90, 91, 92, 93, 94] fun k kp hk hp => ?_;refine go ?_;refine az (aR 2 rfl) ?_;refine gt ?_;obtain ⟨y11, hc19, hm⟩ := bd hm;refine RP (fun _ => cj p1 (lit ([p2.r_, p2.a, p2.b] : List Int)) _ hc19) ?_;refine aa ?_;refine go ?_;refine hk _ _ ?_;clear hk hp k kp;refine ak ?_;refine ae (ag ?_)
         cases hm
         exact kr 0
        ·rw [iN h18] at hm;refine af rfl (nB h18) ?_;refine aj [84, 96] ?_
         by_cases h20 : p2.op = 9
         ·rw [iP h20] at hm;refine ab rfl (eQ h20) ?_;refine aA [2, 3, 16, 95, 97, 98, 99, 100, 101, 102, 103] fun k kp hk hp => ?_;refine go ?_;refine az (aR 2 rfl) ?_;refine gt ?_;obtain ⟨y12, hc21, hm⟩ := bd hm;refine RP (fun _ => cj p1 (lit ([p2.r_, p2.a] : List Int)) _ hc21) ?_;refine aa ?_;refine go ?_;refine hk _ _ ?_;clear hk hp k kp;refine ak ?_;refine ae (ag ?_)
          cases hm
          exact kr 0
         ·rw [iN h20] at hm;refine af rfl (nB h20) ?_;refine aj [16, 95, 105] ?_
          by_cases h22 : p2.op = 10
          ·rw [iP h22] at hm;refine ab rfl (eQ h22) ?_;refine aA [2, 3, 104, 106, 107, 108, 109, 110, 111, 112, 113, 114, 115, 116, 117, 118, 119, 120] fun k kp hk hp => ?_;refine go ?_;refine az (aR 2 rfl) ?_;refine gt ?_;obtain ⟨y13, hc23, hm⟩ := bd hm;refine RP (fun _ => cj p1 (lit ([p2.r_] : List Int)) _ hc23) ?_
           by_cases h24 : y13 = true
           ·rw [iP h24] at hm;have h24b := h24;refine ar 6 ?_;refine gox h24b ?_
            by_cases h25 : p2.n ≥ 1
            ·rw [iP h25] at hm;have h25b := dT h25;refine aa ?_;refine gox (a2 h24b h25b) ?_;refine hk _ _ ?_;clear hk hp k kp;refine ak ?_;refine ae (ag ?_)
             cases hm
             exact kr 0
            ·rw [iN h25] at hm;have h25b := dF h25;refine aa ?_;refine gox (a2 h24b h25b) ?_;refine hk _ _ ?_;clear hk hp k kp;refine ak ?_;refine ae (ag ?_)
             cases hm
             exact kr 0
           ·rw [iN h24] at hm;have h24b := fB h24;refine aa ?_;refine gox h24b ?_;refine hk _ _ ?_;clear hk hp k kp;refine ak ?_;refine ae (ag ?_)
            cases hm
            exact kr 0
          ·rw [iN h22] at hm;refine af rfl (nB h22) ?_;refine ao ?_;refine am ?_;refine ai (hk1 _ _ ?_);refine aj [2, 3, 104, 121, 122, 123] ?_;refine ak ?_
           cases hm
           exact kr 0
theorem nH (p1 : List ah) (r : Int) (hm : iu p1 = some r) : cr Try.prog 17 [.c (.tree 6 (p1.map ah.enc))] (.c (.int .i64 r)) := by
 refine aL 47 [.tmp 2] Try.func17 rfl rfl rfl (by kernel_rfl) (by simp) ?_;refine bB ?_;unfold iu at hm;refine aj [2] ?_;refine aj [] ?_;refine aP (S := (Int × Int)) (V := Unit) [0, 2, 3, 4, 5, 7, 8, 9, 10, 11, 12, 13, 14, 15, 16, 17, 18, 19, 20, 21, 22, 23, 24, 25, 26, 27, 28, 29, 30, 31, 32, 33, 34, 35, 36, 37, 38, 39, 40, 41, 42, 43] (fun (x1, x2) _ => [(3, .c (.int .i64 x1)), (5, .c (.int .i64 x2))]) (fun (x1, x2) _ => []) (fun (x1, x2) => dQ x1 x2 = some r) ?_ ?_
 ·skip;refine aj [0] ?_
  refine ax ?_;obtain ⟨o1, hl1, hm1⟩ := bd hm;refine aZ (S := (Int × Int × Int × Int)) (V := Unit) (O := (Int × Int) ⊕ Int) [2, 3, 4, 5, 7, 10, 11, 12, 13, 14, 15, 16, 17, 18, 19, 20, 21, 22, 23, 24, 25, 26, 27, 28, 29, 30, 31, 32, 33, 34, 35, 36, 37, 38, 39, 40, 41, 42, 43] (fun (x11, x12, x13, x14) _ => [(3, .c (.int .i64 x11)), (4, .c (.int .i64 x12)), (5, .c (.int .i64 x13)), (10, .c (.int .i64 x14))]) (fun (x11, x12, x13, x14) _ => []) _ _ () hl1 ?_ ?_
  ·exact ls
  ·rintro ⟨x11, x12, x13, x14⟩ _ r1 hm hr1;replace hm : dR p1 x11 x12 x13 x14 = some r1 := hm;refine aO ?_;unfold dR at hm;refine aj [] ?_;refine an fun k2 hk2 => ?_
   by_cases h2 : x14 < (p1.length : Int)
   ·rw [iP h2] at hm;refine ab rfl (dT h2) ?_;refine ao ?_;refine ai (hk2 _ _ ?_);refine an fun k3 hk3 => ?_;refine ax ?_;obtain ⟨hg3a, hm⟩ := gd hm;refine bf (em ah.enc p1 x14.toNat) [11, 12, 13] ?_;refine aj [14, 15, 16] ?_;refine aj [17] ?_;refine ax ?_;refine aj [20] ?_
    by_cases h4 : ((p1.getD x14.toNat default).op) = 10
    ·rw [iP h4] at hm;refine ab rfl (eQ h4) ?_;refine an fun k4 hk4 => ?_
     by_cases h5 : x12 > 1
     ·rw [iP h5] at hm;have h5b := dT h5;refine bf h5b [4, 5, 18, 19, 21, 22, 23, 24, 25, 26, 27, 28, 29, 30, 31, 32, 33, 34, 35] ?_;refine ab rfl rfl ?_;refine aj [3, 7, 8, 9, 10, 36] ?_;have ho6 := ay hm hr1;subst ho6;replace hm : some 0 = some r := hm1;refine ak ?_;refine ag (ae (ae (ag (aD (ae (av ?_))))))
      cases hm
      exact kr 0
     ·rw [iN h5] at hm;have h5b := dF h5;refine dg [4, 5, 18, 19, 21, 22, 23, 24, 25, 26, 27, 28, 29, 30, 31, 32, 33, 34, 35] fun k kp hk hp => ?_;refine ar 7 ?_;refine gox h5b ?_
      by_cases h7 : x13 > 0
      ·rw [iP h7] at hm;have h7b := dT h7;refine aa ?_;refine gox (a2 h5b h7b) ?_;refine hk _ _ ?_;clear hk hp k kp;refine ab rfl rfl ?_;refine aj [3, 7, 8, 9, 10, 36] ?_;have ho8 := ay hm hr1;subst ho8;replace hm : some 0 = some r := hm1;refine ak ?_;refine ag (ae (ae (ag (aD (ae (av ?_))))))
       cases hm
       exact kr 0
      ·rw [iN h7] at hm;have h7b := dF h7;refine ar 5 ?_;refine gox (a2 h5b h7b) ?_
       by_cases h9 : ((p1.getD x14.toNat default).n) < 1
       ·rw [iP h9] at hm;have h9b := dT h9;refine aa ?_;refine gox (a2 h5b (a2 h7b h9b)) ?_;refine hk _ _ ?_;clear hk hp k kp;refine ab rfl rfl ?_;refine aj [3, 7, 8, 9, 10, 36] ?_;have ho10 := ay hm hr1;subst ho10;replace hm : some 0 = some r := hm1;refine ak ?_;refine ag (ae (ae (ag (aD (ae (av ?_))))))
        cases hm
        exact kr 0
       ·rw [iN h9] at hm;have h9b := dF h9;refine aa ?_;refine gox (a2 h5b (a2 h7b h9b)) ?_;refine hk _ _ ?_;clear hk hp k kp
        by_cases h11 : ((p1.getD x14.toNat default).n) > 300
        ·rw [iP h11] at hm;refine ab rfl (dT h11) ?_;refine aj [3, 7, 8, 9, 10, 36] ?_;have ho12 := ay hm hr1;subst ho12;replace hm : some 0 = some r := hm1;refine ak ?_;refine ag (ae (ae (ag (aD (ae (av ?_))))))
         cases hm
         exact kr 0
        ·rw [iN h11] at hm;refine af rfl (dF h11) ?_;refine ao ?_;refine ai (hk4 _ _ ?_);refine bb ?_;refine am (am ?_);refine ai (hk3 _ _ ?_);refine bb ?_;refine aC ((IntKind.wrap .i64 (x11 + x12)), (p1.getD x14.toNat default).n, 1, (IntKind.wrap .i64 (x14 + 1))) () hm ?_;exact ls
    ·rw [iN h4] at hm;refine af rfl (nB h4) ?_;refine aj [7, 18, 19, 40] ?_
     by_cases h13 : ((p1.getD x14.toNat default).op) = 11
     ·rw [iP h13] at hm;refine ab rfl (eQ h13) ?_;refine an fun k5 hk5 => ?_;refine aj [4, 5, 39, 41] ?_
      by_cases h14 : x13 = 0
      ·rw [iP h14] at hm;refine ab rfl (eQ h14) ?_;refine aj [3, 8, 9, 10, 42] ?_;have ho15 := ay hm hr1;subst ho15;replace hm : some 0 = some r := hm1;refine ak ?_;refine ag (ae (ae (ag (aD (ae (av ?_))))))
       cases hm
       exact kr 0
      ·rw [iN h14] at hm;refine af rfl (nB h14) ?_;refine ao ?_;refine ai (hk5 _ _ ?_);refine bb ?_;refine am (am ?_);refine ai (hk3 _ _ ?_);refine bb ?_;refine aC ((IntKind.wrap .i64 (x11 + x12)), 1, 0, (IntKind.wrap .i64 (x14 + 1))) () hm ?_;exact ls
     ·rw [iN h13] at hm;refine af rfl (nB h13) ?_;refine ao ?_;refine am (am ?_);refine ai (hk3 _ _ ?_);refine bb ?_;refine aC ((IntKind.wrap .i64 (x11 + x12)), x12, x13, (IntKind.wrap .i64 (x14 + 1))) () hm ?_;exact ls
   ·rw [iN h2] at hm;refine af rfl (dF h2) ?_;refine bj ?_;have ho16 := ay hm hr1;subst ho16;replace hm : dQ x11 x13 = some r := hm1;refine aV (aS (aF ?_));refine aw (x11, x13) () hm ?_;exact ls
 ·rintro ⟨x1, x2⟩ _ hm;replace hm : dQ x1 x2 = some r := hm;refine aO ?_;unfold dQ at hm;refine an fun k1 hk1 => ?_;refine aj [5, 44] ?_
  by_cases h1 : x2 > 0
  ·rw [iP h1] at hm;refine ab rfl (dT h1) ?_;refine aj [3, 45] ?_;refine ak ?_;refine ag ?_
   cases hm
   exact kr 0
  ·rw [iN h1] at hm;refine af rfl (dF h1) ?_;refine ao ?_;refine ai (hk1 _ _ ?_);refine aj [3, 45, 46] ?_;refine ak ?_
   cases hm
   exact kr 0
theorem n9 (p1 : aB) (r : aq) (hm : iX p1 = some r) : cr Try.prog 18 [.a [.int .i64 p1.cells, .int .i64 p1.regs, .int .i64 p1.cost, .tree 1 (p1.put.map (eK .i64)), .tree 1 (p1.bools.map (eK .i64)), .tree 1 (p1.get.map (eK .i64)), .tree 6 (p1.code.map ah.enc)]] (.a [.int .i64 ((r).code), .int .i64 ((r).at_)]) := by
 refine aL 116 [.cell 2 34] Try.func18 rfl rfl rfl (by kernel_rfl) (by simp) ?_;refine bB ?_;unfold iX at hm;refine aj [0] ?_;refine an fun k1 hk1 => ?_;refine dg [10, 11, 12, 13, 14, 15, 16, 17, 18, 19, 20, 21, 22, 23, 24, 25, 26] fun k kp hk hp => ?_;refine ar 4 ?_;refine go ?_
 by_cases h1 : p1.cells < 1
 ·rw [iP h1] at hm;have h1b := dT h1;refine aa ?_;refine gox h1b ?_;refine hk _ _ ?_;clear hk hp k kp;refine ab rfl rfl ?_;refine aj [1, 27, 28] ?_;refine ak ?_;refine ag ?_
  cases hm
  exact kr 0
 ·rw [iN h1] at hm;have h1b := dF h1;refine ar 5 ?_;refine gox h1b ?_
  by_cases h2 : p1.cells > 6000
  ·rw [iP h2] at hm;have h2b := dT h2;refine aa ?_;refine gox (a2 h1b h2b) ?_;refine hk _ _ ?_;clear hk hp k kp;refine ab rfl rfl ?_;refine aj [1, 27, 28] ?_;refine ak ?_;refine ag ?_
   cases hm
   exact kr 0
  ·rw [iN h2] at hm;have h2b := dF h2;refine ar 5 ?_;refine gox (a2 h1b h2b) ?_
   by_cases h3 : p1.regs < 1
   ·rw [iP h3] at hm;have h3b := dT h3;refine aa ?_;refine gox (a2 h1b (a2 h2b h3b)) ?_;refine hk _ _ ?_;clear hk hp k kp;refine ab rfl rfl ?_;refine aj [1, 27, 28] ?_;refine ak ?_;refine ag ?_
    cases hm
    exact kr 0
   ·rw [iN h3] at hm;have h3b := dF h3;refine aa ?_;refine gox (a2 h1b (a2 h2b h3b)) ?_;refine hk _ _ ?_;clear hk hp k kp
    by_cases h4 : p1.regs > 40
    ·rw [iP h4] at hm;refine ab rfl (dT h4) ?_;refine aj [1, 27, 28] ?_;refine ak ?_;refine ag ?_
     cases hm
     exact kr 0
    ·rw [iN h4] at hm;refine af rfl (dF h4) ?_;refine ao ?_;refine ai (hk1 _ _ ?_);refine an fun k2 hk2 => ?_;refine dg [27, 29, 30, 31, 32, 33, 34, 35, 36, 37, 38, 39, 40, 41, 42, 43, 44, 45, 46, 47, 48, 49] fun k kp hk hp => ?_;refine ar 5 ?_;refine go ?_
     by_cases h5 : (p1.put.length : Int) > 6000
     ·rw [iP h5] at hm;have h5b := dT h5;refine aa ?_;refine gox h5b ?_;refine hk _ _ ?_;clear hk hp k kp;refine ab rfl rfl ?_;refine aj [1, 50, 51] ?_;refine ak ?_;refine ag ?_
      cases hm
      exact kr 0
     ·rw [iN h5] at hm;have h5b := dF h5;refine ar 6 ?_;refine gox h5b ?_
      by_cases h6 : (p1.bools.length : Int) > 6000
      ·rw [iP h6] at hm;have h6b := dT h6;refine aa ?_;refine gox (a2 h5b h6b) ?_;refine hk _ _ ?_;clear hk hp k kp;refine ab rfl rfl ?_;refine aj [1, 50, 51] ?_;refine ak ?_;refine ag ?_
       cases hm
       exact kr 0
      ·rw [iN h6] at hm;have h6b := dF h6;refine ar 6 ?_;refine gox (a2 h5b h6b) ?_
       by_cases h7 : (p1.get.length : Int) > 120000
       ·rw [iP h7] at hm;have h7b := dT h7;refine aa ?_;refine gox (a2 h5b (a2 h6b h7b)) ?_;refine hk _ _ ?_;clear hk hp k kp;refine ab rfl rfl ?_;refine aj [1, 50, 51] ?_;refine ak ?_;refine ag ?_
        cases hm
        exact kr 0
       ·rw [iN h7] at hm;have h7b := dF h7;refine aa ?_;refine gox (a2 h5b (a2 h6b h7b)) ?_;refine hk _ _ ?_;clear hk hp k kp
        by_cases h8 : (p1.code.length : Int) > 200000
        ·rw [iP h8] at hm;refine ab rfl (dT h8) ?_;refine aj [1, 50, 51] ?_;refine ak ?_;refine ag ?_
         cases hm
         exact kr 0
        ·rw [iN h8] at hm;refine af rfl (dF h8) ?_;refine ao ?_;refine ai (hk2 _ _ ?_);refine aP (S := Unit) (V := Unit) [4, 6, 50, 52, 53, 54, 55, 56, 57, 58, 59, 60, 61, 62, 63, 64, 65, 66, 67, 68, 69, 70, 71, 72, 73, 74, 75, 76, 77, 78, 79, 80] (fun _ _ => []) (fun _ _ => [.box [.int .i64 p1.cells, .int .i64 p1.regs, .int .i64 p1.cost, .tree 1 (p1.put.map (eK .i64)), .tree 1 (p1.bools.map (eK .i64)), .tree 1 (p1.get.map (eK .i64)), .tree 6 (p1.code.map ah.enc)], .box [.int .i64 0, .int .i64 0]]) (fun _ => fE p1 = some r) ?_ ?_
         ·skip;refine aj [50, 52, 53, 54, 55, 56, 57] ?_
          refine gv [.box [.int .i64 p1.cells, .int .i64 p1.regs, .int .i64 p1.cost, .tree 1 (p1.put.map (eK .i64)), .tree 1 (p1.bools.map (eK .i64)), .tree 1 (p1.get.map (eK .i64)), .tree 6 (p1.code.map ah.enc)], .box [.int .i64 0, .int .i64 0], .arr 1 0 22 ((lit ([p1.put, p1.bools, p1.get] : List (List Int))).map (eL 1 (eK .i64)))] ?_;refine ax ?_;obtain ⟨o2, hl2, hm2⟩ := bd hm;refine aZ (S := Int) (V := Unit) (O := Unit ⊕ aq) [4, 6, 58, 60, 61, 62, 63, 64, 65, 66, 67, 68, 69, 70, 71, 72, 73, 74, 75, 76, 77, 78, 79, 80] (fun x9 _ => [(58, .c (.osl 2 0 0 3)), (60, .c (.int .i64 x9))]) (fun x9 _ => [.box [.int .i64 p1.cells, .int .i64 p1.regs, .int .i64 p1.cost, .tree 1 (p1.put.map (eK .i64)), .tree 1 (p1.bools.map (eK .i64)), .tree 1 (p1.get.map (eK .i64)), .tree 6 (p1.code.map ah.enc)], .box [.int .i64 0, .int .i64 0], .arr 1 0 22 ((lit ([p1.put, p1.bools, p1.get] : List (List Int))).map (eL 1 (eK .i64)))]) _ _ () hl2 ?_ ?_
          ·exact ls
          ·rintro x9 _ r2 hm hr2;replace hm : fH p1 x9 = some r2 := hm;refine aO ?_;unfold fH at hm;refine aj [] ?_;refine an fun k6 hk6 => ?_
           by_cases h20 : x9 < (3 : Int)
           ·rw [iP h20] at hm;refine ab rfl (dT h20) ?_;refine ao ?_;refine ai (hk6 _ _ ?_);refine aP (S := Unit) (V := Unit) [4, 6, 58, 61, 62, 63, 64, 65, 66, 67, 68, 69, 70, 71, 72, 73, 74, 75, 76, 77, 78, 79] (fun _ _ => [(58, .c (.osl 2 0 0 3))]) (fun _ _ => [.box [.int .i64 p1.cells, .int .i64 p1.regs, .int .i64 p1.cost, .tree 1 (p1.put.map (eK .i64)), .tree 1 (p1.bools.map (eK .i64)), .tree 1 (p1.get.map (eK .i64)), .tree 6 (p1.code.map ah.enc)], .box [.int .i64 0, .int .i64 0], .arr 1 0 22 ((lit ([p1.put, p1.bools, p1.get] : List (List Int))).map (eL 1 (eK .i64)))]) (fun _ => fF x9 = some r2) ?_ ?_
            ·skip;refine ax ?_
             obtain ⟨hg21a, hm⟩ := gd hm;refine bf (em (eL 1 (eK .i64)) (lit ([p1.put, p1.bools, p1.get] : List (List Int))) x9.toNat) [61, 62, 63] ?_;refine aj [4] ?_;refine ax ?_;obtain ⟨o3, hl3, hm3⟩ := bd hm;refine aZ (S := Int) (V := Unit) (O := Unit ⊕ aq) [6, 58, 66, 67, 68, 69, 70, 71, 72, 73, 74, 75, 76, 77, 78, 79] (fun x12 _ => [(58, .c (.osl 2 0 0 3)), (66, .c (.int .i64 x12))]) (fun x12 _ => [.box [.int .i64 p1.cells, .int .i64 p1.regs, .int .i64 p1.cost, .tree 1 (p1.put.map (eK .i64)), .tree 1 (p1.bools.map (eK .i64)), .tree 1 (p1.get.map (eK .i64)), .tree 6 (p1.code.map ah.enc)], .box [.int .i64 0, .int .i64 0], .arr 1 0 22 ((lit ([p1.put, p1.bools, p1.get] : List (List Int))).map (eL 1 (eK .i64)))]) _ _ () hl3 ?_ ?_
             ·exact ls
             ·rintro x12 _ r3 hm hr3;replace hm : fG p1 x9 x12 = some r3 := hm;refine aO ?_;unfold fG at hm;refine aj [] ?_;refine an fun k7 hk7 => ?_
              by_cases h22 : x12 < (((lit ([p1.put, p1.bools, p1.get] : List (List Int))).getD x9.toNat default).length : Int)
              ·rw [iP h22] at hm;refine ab rfl (dT h22) ?_;refine ao ?_;refine ai (hk7 _ _ ?_);refine an fun k8 hk8 => ?_;refine ax ?_;obtain ⟨hg23a, hm⟩ := gd hm;refine bf (em (eK .i64) ((lit ([p1.put, p1.bools, p1.get] : List (List Int))).getD x9.toNat default) x12.toNat) [67, 68, 69] ?_
               by_cases h24 : (((lit ([p1.put, p1.bools, p1.get] : List (List Int))).getD x9.toNat default).getD x12.toNat default) < 0
               ·rw [iP h24] at hm;have h24b := dT h24;refine bf h24b [6, 70, 71, 72, 73, 74, 75, 76] ?_;refine ab rfl rfl ?_;refine aj [1, 58, 59, 60, 64, 65, 66, 77, 78] ?_;have ho25 := ay hm hr3;subst ho25;replace hm : some (.inr (.inr (aq.mk 16 (-1)))) = some r2 := hm3;have ho26 := ay hm hr2;subst ho26;replace hm : some (aq.mk 16 (-1)) = some r := hm2;refine ak ?_;refine ae (ag (aD (ae (ae (av (aD (ae (av ?_))))))))
                cases hm
                exact kr 0
               ·rw [iN h24] at hm;have h24b := dF h24;refine bf h24b [6, 70, 71, 72, 73, 74, 75, 76] ?_
                by_cases h27 : (((lit ([p1.put, p1.bools, p1.get] : List (List Int))).getD x9.toNat default).getD x12.toNat default) ≥ p1.cells
                ·rw [iP h27] at hm;refine ab rfl (dT h27) ?_;refine aj [1, 58, 59, 60, 64, 65, 66, 77, 78] ?_;have ho28 := ay hm hr3;subst ho28;replace hm : some (.inr (.inr (aq.mk 16 (-1)))) = some r2 := hm3;have ho29 := ay hm hr2;subst ho29;replace hm : some (aq.mk 16 (-1)) = some r := hm2;refine ak ?_;refine ae (ag (aD (ae (ae (av (aD (ae (av ?_))))))))
                 cases hm
                 exact kr 0
                ·rw [iN h27] at hm;refine af rfl (dF h27) ?_;refine ao ?_;refine am ?_;refine ai (hk8 _ _ ?_);refine bb ?_;refine aC (IntKind.wrap .i64 (x12 + 1)) () hm ?_;exact ls
              ·rw [iN h22] at hm;refine af rfl (dF h22) ?_;refine bj ?_;have ho30 := ay hm hr3;subst ho30;replace hm : fF x9 = some r2 := hm3;refine aV (aS (aF (am ?_)));refine aw () () hm ?_;exact ls
            ·rintro _ _ hm;replace hm : fF x9 = some r2 := hm;refine aO ?_;unfold fF at hm;refine bb ?_;refine aC (IntKind.wrap .i64 (x9 + 1)) () hm ?_;exact ls
           ·rw [iN h20] at hm;refine af rfl (dF h20) ?_;refine bj ?_;have ho31 := ay hm hr2;subst ho31;replace hm : fE p1 = some r := hm2;refine aV (aS (aF ?_));refine aw () () hm ?_;exact ls
         ·rintro _ _ hm;replace hm : fE p1 = some r := hm;refine aO ?_;unfold fE at hm;refine aP (S := Unit) (V := Unit) [7, 8, 81, 82, 83, 84, 85, 86, 87, 88, 89, 90, 91, 92, 93, 94, 95, 96] (fun _ _ => []) (fun _ _ => [.box [.int .i64 p1.cells, .int .i64 p1.regs, .int .i64 p1.cost, .tree 1 (p1.put.map (eK .i64)), .tree 1 (p1.bools.map (eK .i64)), .tree 1 (p1.get.map (eK .i64)), .tree 6 (p1.code.map ah.enc)], .box [.int .i64 0, .int .i64 0]]) (fun _ => fC p1 = some r) ?_ ?_
          ·skip;refine aj [81] ?_
           refine ax ?_;obtain ⟨o1, hl1, hm1⟩ := bd hm;refine aZ (S := Int) (V := Unit) (O := Unit ⊕ aq) [7, 8, 84, 85, 86, 87, 88, 89, 90, 91, 92, 93, 94, 95, 96] (fun x4 _ => [(84, .c (.int .i64 x4))]) (fun x4 _ => [.box [.int .i64 p1.cells, .int .i64 p1.regs, .int .i64 p1.cost, .tree 1 (p1.put.map (eK .i64)), .tree 1 (p1.bools.map (eK .i64)), .tree 1 (p1.get.map (eK .i64)), .tree 6 (p1.code.map ah.enc)], .box [.int .i64 0, .int .i64 0]]) _ _ () hl1 ?_ ?_
           ·exact ls
           ·rintro x4 _ r1 hm hr1;replace hm : fD p1 x4 = some r1 := hm;refine aO ?_;unfold fD at hm;refine aj [] ?_;refine an fun k4 hk4 => ?_
            by_cases h14 : x4 < (p1.code.length : Int)
            ·rw [iP h14] at hm;refine ab rfl (dT h14) ?_;refine ao ?_;refine ai (hk4 _ _ ?_);refine an fun k5 hk5 => ?_;refine ax ?_;obtain ⟨hg15a, hm⟩ := gd hm;refine bf (em ah.enc p1.code x4.toNat) [85, 86, 87, 88] ?_;refine aA [8, 89, 90, 91, 92] fun k kp hk hp => ?_;refine go ?_;obtain ⟨y5, hc16, hm⟩ := bd hm;refine RP (fun _ => lB (bN.mk p1) (p1.code.getD x4.toNat default) _ hc16) ?_;refine aa ?_;refine go ?_;refine hk _ _ ?_;clear hk hp k kp
             by_cases h17 : y5 = true
             ·rw [iP h17] at hm;refine af rfl (by rw [show y5 = true from (h17)]; rfl) ?_;refine ao ?_;refine am ?_;refine ai (hk5 _ _ ?_);refine bb ?_;refine aC (IntKind.wrap .i64 (x4 + 1)) () hm ?_;exact ls
             ·rw [iN h17] at hm;refine ab rfl (by rw [show y5 = false from (fB h17)]; rfl) ?_;refine aj [1, 7, 82, 83, 84, 93, 94, 95] ?_;have ho18 := ay hm hr1;subst ho18;replace hm : some (aq.mk 4 x4) = some r := hm1;refine ak ?_;refine ae (ag (aD (ae (av ?_))))
              cases hm
              exact kr 0
            ·rw [iN h14] at hm;refine af rfl (dF h14) ?_;refine bj ?_;have ho19 := ay hm hr1;subst ho19;replace hm : fC p1 = some r := hm1;refine aV (aS (aF ?_));refine aw () () hm ?_;exact ls
          ·rintro _ _ hm;replace hm : fC p1 = some r := hm;refine aO ?_;unfold fC at hm;refine aA [97, 98, 99] fun k kp hk hp => ?_;refine go ?_;obtain ⟨y1, hc9, hm⟩ := bd hm;refine RP (fun _ => nH p1.code _ hc9) ?_;refine aa ?_;refine go ?_;refine hk _ _ ?_;clear hk hp k kp;refine an fun k3 hk3 => ?_
           by_cases h10 : y1 = 0
           ·rw [iP h10] at hm;have h10b := eQ h10;refine dg [1, 9, 100, 101, 102, 103, 104, 105, 106, 107, 108, 109, 110, 111, 112] fun k kp hk hp => ?_;refine ar 9 ?_;refine gox h10b ?_
            by_cases h11 : (p1.code.length : Int) > 0
            ·rw [iP h11] at hm;have h11b := dT h11;refine aa ?_;refine gox (a2 h10b h11b) ?_;refine hk _ _ ?_;clear hk hp k kp;refine ab rfl rfl ?_;refine aj [113, 114] ?_;refine ak ?_;refine ag ?_
             cases hm
             exact kr 0
            ·rw [iN h11] at hm;have h11b := dF h11;refine aa ?_;refine gox (a2 h10b h11b) ?_;refine hk _ _ ?_;clear hk hp k kp
             by_cases h12 : ¬ y1 = p1.cost
             ·rw [iP h12] at hm;refine ab rfl (bne_iff_ne.2 h12) ?_;refine aj [113, 114] ?_;refine ak ?_;refine ag ?_
              cases hm
              exact kr 0
             ·rw [iN h12] at hm;refine af rfl (bne_eq_false_iff_eq.2 (Decidable.not_not.1 h12)) ?_;refine ao ?_;refine ai (hk3 _ _ ?_);refine aj [113, 115] ?_;refine ak ?_
              cases hm
              exact kr 0
           ·rw [iN h10] at hm;have h10b := nB h10;refine bf h10b [1, 9, 100, 101, 102, 103, 104, 105, 106, 107, 108, 109, 110, 111, 112] ?_
            by_cases h13 : ¬ y1 = p1.cost
            ·rw [iP h13] at hm;refine ab rfl (bne_iff_ne.2 h13) ?_;refine aj [113, 114] ?_;refine ak ?_;refine ag ?_
             cases hm
             exact kr 0
            ·rw [iN h13] at hm;refine af rfl (bne_eq_false_iff_eq.2 (Decidable.not_not.1 h13)) ?_;refine ao ?_;refine ai (hk3 _ _ ?_);refine aj [113, 115] ?_;refine ak ?_
             cases hm
             exact kr 0
theorem lS (p1 : aE) (r : (aB × aq)) (hm : ie p1 = some r) : cr Try.prog 7 [.a [.int .i64 p1.cells, .tree 1 (p1.put.map (eK .i64)), .tree 1 (p1.get.map (eK .i64)), .tree 6 (p1.steps.map ap.enc)], .c (.nils)] (.t [.a [.int .i64 ((r.1).cells), .int .i64 ((r.1).regs), .int .i64 ((r.1).cost), .tree 1 (((r.1).put).map (eK .i64)), .tree 1 (((r.1).bools).map (eK .i64)), .tree 1 (((r.1).get).map (eK .i64)), .tree 6 (((r.1).code).map ah.enc)], .a [.int .i64 ((r.2).code), .int .i64 ((r.2).at_)]]) := by
 refine aL 91 [.cell 4 32, .cell 5 34] Try.func7 rfl rfl rfl (by kernel_rfl) (by simp) ?_;refine bB ?_;unfold ie at hm;refine aj [0] ?_;refine an fun k1 hk1 => ?_;refine aA [12, 13] fun k kp hk hp => ?_;refine go ?_;obtain ⟨y1, hc1, hm⟩ := bd hm;refine RP (fun _ => n8 p1 _ hc1) ?_;refine aa ?_;refine go ?_;refine hk _ _ ?_;clear hk hp k kp;refine aj [14, 15] ?_
 by_cases h2 : ¬ ((y1).code) = 0
 ·rw [iP h2] at hm;refine ab rfl (bne_iff_ne.2 h2) ?_;refine re [1, 2, 6, 16, 17, 18] (by kernel_rfl) [1] [0, 0, 1, 7] [false, false, false, true] [false, false, true, false] [[], [6], [], []] (by kernel_rfl) fun k hk => ?_;refine gp ?_;refine hk _ _ ?_;clear hk k
  refine d6 (kH 1 [.int .i64 0, .int .i64 0, .int .i64 0, .tree 1 ([].map (eK .i64)), .tree 1 ([].map (eK .i64)), .tree 1 ([].map (eK .i64)), .tree 6 ([].map ah.enc)] rfl (by and_intros <;> trivial)) ?_
  refine kY rfl (by simp only [bZ, bL, reduceIte, ↓reduceIte, reduceCtorEq, Int.reduceToNat, Nat.reduceDiv, Nat.reduceMod, Nat.reduceLT, Nat.reduceLeDiff, Nat.reduceAdd, Nat.reduceSub, Nat.reduceMul, Nat.reduceEqDiff, Nat.reduceBEq, Nat.reduceBNe, Nat.reduceGT]; rfl) ?_;refine ak ?_;refine ag ?_
  cases hm
  exact kr 0
 ·rw [iN h2] at hm;refine af rfl (bne_eq_false_iff_eq.2 (Decidable.not_not.1 h2)) ?_;refine ao ?_;refine ai (hk1 _ _ ?_);refine aj [6, 16, 19, 20] ?_;refine jU (qz 4 0 6 69 (by decide) rfl rfl) ?_;refine aP (S := (Int × (List ah))) (V := Nat) [8, 9, 21, 22, 23, 24, 25, 26, 27, 28, 29, 30, 31, 32, 33, 34, 35, 36, 37, 38, 39, 40, 41, 42, 43, 44, 45, 46, 47, 48] (fun (x4, l5) v6 => []) (fun (x4, l5) v6 => [.box [.int .i64 p1.cells, .tree 1 (p1.put.map (eK .i64)), .tree 1 (p1.get.map (eK .i64)), .tree 6 (p1.steps.map ap.enc)], .box [.int .i64 0, .int .i64 0, .int .i64 0, .nils, .nils, .nils, .nils], .box [.int .i64 0, .int .i64 0], .box [.int .i64 ((y1).code), .int .i64 ((y1).at_)], .box [.osl 5 v6 0 l5.length, .int .i64 x4], .arr 6 v6 69 (l5.map ah.enc)]) (fun (x4, l5) => fh p1 x4 l5 = some r) ?_ ?_
  ·skip;refine aj [21] ?_
   refine ax ?_;obtain ⟨o1, hl1, hm1⟩ := bd hm;refine aZ (S := (Int × (List ah) × Int)) (V := Nat) (O := (Int × (List ah)) ⊕ (aB × aq)) [8, 9, 24, 25, 26, 27, 28, 29, 30, 31, 32, 33, 34, 35, 36, 37, 38, 39, 40, 41, 42, 43, 44, 45, 46, 47, 48] (fun (x23, l24, x26) v25 => [(24, .c (.int .i64 x26))]) (fun (x23, l24, x26) v25 => [.box [.int .i64 p1.cells, .tree 1 (p1.put.map (eK .i64)), .tree 1 (p1.get.map (eK .i64)), .tree 6 (p1.steps.map ap.enc)], .box [.int .i64 0, .int .i64 0, .int .i64 0, .nils, .nils, .nils, .nils], .box [.int .i64 0, .int .i64 0], .box [.int .i64 ((y1).code), .int .i64 ((y1).at_)], .box [.osl 5 v25 0 l24.length, .int .i64 x23], .arr 6 v25 69 (l24.map ah.enc)]) _ _ 0 hl1 ?_ ?_
   ·exact ls
   ·rintro ⟨x23, l24, x26⟩ v25 r1 hm hr1;replace hm : dA p1 x23 l24 x26 = some r1 := hm;refine aO ?_;unfold dA at hm;refine aj [] ?_;refine an fun k3 hk3 => ?_
    by_cases h7 : x26 < (p1.steps.length : Int)
    ·rw [iP h7] at hm;refine ab rfl (dT h7) ?_;refine ao ?_;refine ai (hk3 _ _ ?_);refine an fun k4 hk4 => ?_;refine ax ?_;obtain ⟨hg8a, hm⟩ := gd hm;refine bf (em ap.enc p1.steps x26.toNat) [25, 26, 27, 28] ?_;refine aA [9, 29, 30, 31] fun k kp hk hp => ?_;refine go ?_;obtain ⟨y27, hc9, hm⟩ := bd hm;refine RA (ku (p1.steps.getD x26.toNat default) x23 l24 v25 _ hc9) [4, 5] ?_;rintro p σ' hq10 _;obtain ⟨v28, rfl, rfl⟩ := hq10;refine aa ?_;refine go ?_;refine hk _ _ ?_;clear hk hp k kp;refine dg [32, 33, 34, 35, 36, 37, 38, 39, 40, 41, 42, 43] fun k kp hk hp => ?_;refine ar 7 ?_;refine go ?_
     by_cases h11 : (y27.2.length : Int) > 200000
     ·rw [iP h11] at hm;have h11b := dT h11;refine aa ?_;refine gox h11b ?_;refine hk _ _ ?_;clear hk hp k kp;refine ab rfl rfl ?_;refine aj [1, 2, 7, 8, 22, 23, 24, 44, 45, 46, 47] ?_
      refine d6 (kH 1 [.int .i64 0, .int .i64 0, .int .i64 0, .tree 1 ([].map (eK .i64)), .tree 1 ([].map (eK .i64)), .tree 1 ([].map (eK .i64)), .tree 6 ([].map ah.enc)] rfl (by and_intros <;> trivial)) ?_
      refine kY rfl (by simp only [bZ, bL, reduceIte, ↓reduceIte, reduceCtorEq, Int.reduceToNat, Nat.reduceDiv, Nat.reduceMod, Nat.reduceLT, Nat.reduceLeDiff, Nat.reduceAdd, Nat.reduceSub, Nat.reduceMul, Nat.reduceEqDiff, Nat.reduceBEq, Nat.reduceBNe, Nat.reduceGT]; rfl) ?_;have ho12 := ay hm hr1;subst ho12;replace hm : some ((aB.mk 0 0 0 [] [] [] []), (aq.mk 7 x26)) = some r := hm1;refine ak ?_;refine ae (ag (aD (ae (av ?_))))
      cases hm
      exact kr 0
     ·rw [iN h11] at hm;have h11b := dF h11;refine aa ?_;refine gox h11b ?_;refine hk _ _ ?_;clear hk hp k kp
      by_cases h13 : y27.1 > 40
      ·rw [iP h13] at hm;refine ab rfl (dT h13) ?_;refine aj [1, 2, 7, 8, 22, 23, 24, 44, 45, 46, 47] ?_
       refine d6 (kH 1 [.int .i64 0, .int .i64 0, .int .i64 0, .tree 1 ([].map (eK .i64)), .tree 1 ([].map (eK .i64)), .tree 1 ([].map (eK .i64)), .tree 6 ([].map ah.enc)] rfl (by and_intros <;> trivial)) ?_
       refine kY rfl (by simp only [bZ, bL, reduceIte, ↓reduceIte, reduceCtorEq, Int.reduceToNat, Nat.reduceDiv, Nat.reduceMod, Nat.reduceLT, Nat.reduceLeDiff, Nat.reduceAdd, Nat.reduceSub, Nat.reduceMul, Nat.reduceEqDiff, Nat.reduceBEq, Nat.reduceBNe, Nat.reduceGT]; rfl) ?_;have ho14 := ay hm hr1;subst ho14;replace hm : some ((aB.mk 0 0 0 [] [] [] []), (aq.mk 7 x26)) = some r := hm1;refine ak ?_;refine ae (ag (aD (ae (av ?_))))
       cases hm
       exact kr 0
      ·rw [iN h13] at hm;refine af rfl (dF h13) ?_;refine ao ?_;refine am ?_;refine ai (hk4 _ _ ?_);refine bb ?_;refine aC (y27.1, y27.2, (IntKind.wrap .i64 (x26 + 1))) v28 hm ?_;exact ls
    ·rw [iN h7] at hm;refine af rfl (dF h7) ?_;refine bj ?_;have ho15 := ay hm hr1;subst ho15;replace hm : fh p1 x23 l24 = some r := hm1;refine aV (aS (aF ?_));refine aw (x23, l24) v25 hm ?_;exact ls
  ·rintro ⟨x4, l5⟩ v6 hm;replace hm : fh p1 x4 l5 = some r := hm;refine aO ?_;unfold fh at hm;refine tQ [7, 49, 50, 51, 52, 53, 54, 55, 56, 57, 58, 59, 60, 61, 62, 63, 64] [10] [0, 1, 0, 4, 12, 28, 0, 64, 192, 448, 960, 0, 2048, 6144, 14336, 32767, 0, 131071] [false, false, false, false, false, false, false, false, false, false, false, false, false, false, false, false, false, true] (by kernel_rfl) (by kernel_rfl) (by decide) fun k kp hk => ?_;simp only [eq, jW, nF, lR];refine ga ?_;obtain ⟨y7, hc3, hm⟩ := bd hm;refine ca (σ2 := [.box [.int .i64 p1.cells, .tree 1 (p1.put.map (eK .i64)), .tree 1 (p1.get.map (eK .i64)), .tree 6 (p1.steps.map ap.enc)], .box [.int .i64 0, .int .i64 0, .int .i64 0, .nils, .nils, .nils, .nils], .box [.int .i64 0, .int .i64 0], .box [.int .i64 ((y1).code), .int .i64 ((y1).at_)], .box [.osl 5 v6 0 l5.length, .int .i64 x4], .arr 6 v6 69 (l5.map ah.enc)]) (res := .c (.int .i64 y7)) (ct [5] (pd l5 v6 _ hc3)) ?_;refine ga ?_;refine go ?_;refine hk _ _ ?_;clear hk k kp;obtain ⟨⟨⟨hg4ax, hg4ay⟩, ⟨hg4bx, hg4by⟩⟩, hm⟩ := gd hm;refine rO [1, 2, 65, 66, 67, 68, 69, 70, 71, 72, 73, 74, 75, 76, 77, 78, 79, 80, 81] [0, 1, 0, 4, 15, 0, 32, 0, 128, 511, 0, 1024, 0, 8191, 3199, 32767, 65535, 131071, 262143, 524287] [false, false, false, false, false, false, false, false, false, false, false, false, false, false, false, true, true, true, true, true] ?_;refine gv [.box [.int .i64 p1.cells, .tree 1 (p1.put.map (eK .i64)), .tree 1 (p1.get.map (eK .i64)), .tree 6 (p1.steps.map ap.enc)], .box [.int .i64 0, .int .i64 0, .int .i64 0, .nils, .nils, .nils, .nils], .box [.int .i64 0, .int .i64 0], .box [.int .i64 ((y1).code), .int .i64 ((y1).at_)], .box [.osl 5 v6 0 l5.length, .int .i64 x4], .arr 6 v6 69 (l5.map ah.enc), .box [.int .i64 p1.cells, .int .i64 x4, .int .i64 y7, .osl 7 0 0 p1.put.length, .osl 9 0 0 0, .osl 8 0 0 p1.get.length, .osl 5 v6 0 l5.length], .arr 1 0 3 (p1.put.map (eK .i64)), .arr 1 0 3 (p1.get.map (eK .i64)), .arr 1 0 3 ([].map (eK .i64))] ?_;refine an fun k2 hk2 => ?_;refine aA [82, 83] fun k kp hk hp => ?_;refine go ?_;refine az (aR 5 rfl) ?_;refine gt ?_;refine az (aR 7 rfl) ?_;refine gt ?_;refine az (aR 8 rfl) ?_;refine gt ?_;refine az (aR 9 rfl) ?_;refine gt ?_;obtain ⟨y8, hc5, hm⟩ := bd hm;refine RP (fun _ => n9 (aB.mk p1.cells x4 y7 p1.put [] p1.get l5) _ hc5) ?_;refine aa ?_;refine go ?_;refine hk _ _ ?_;clear hk hp k kp;refine aj [84, 85] ?_
   by_cases h6 : ¬ ((y8).code) = 0
   ·rw [iP h6] at hm;refine ab rfl (bne_iff_ne.2 h6) ?_;refine re [10, 11, 86, 87, 88] (by kernel_rfl) [1] [0, 0, 1, 7] [false, false, false, true] [false, false, true, false] [[], [11], [], []] (by kernel_rfl) fun k hk => ?_;refine gp ?_;refine hk _ _ ?_;clear hk k
    refine d6 (kH 1 [.int .i64 0, .int .i64 0, .int .i64 0, .tree 1 ([].map (eK .i64)), .tree 1 ([].map (eK .i64)), .tree 1 ([].map (eK .i64)), .tree 6 ([].map ah.enc)] rfl (by and_intros <;> trivial)) ?_
    refine kY rfl (by simp only [bZ, bL, reduceIte, ↓reduceIte, reduceCtorEq, Int.reduceToNat, Nat.reduceDiv, Nat.reduceMod, Nat.reduceLT, Nat.reduceLeDiff, Nat.reduceAdd, Nat.reduceSub, Nat.reduceMul, Nat.reduceEqDiff, Nat.reduceBEq, Nat.reduceBNe, Nat.reduceGT]; rfl) ?_;refine ak ?_;refine ag ?_
    cases hm
    exact kr 0
   ·rw [iN h6] at hm;refine af rfl (bne_eq_false_iff_eq.2 (Decidable.not_not.1 h6)) ?_;refine ao ?_;refine ai (hk2 _ _ ?_);refine aj [10, 11, 86, 89, 90] ?_;refine ak ?_
    cases hm
    exact kr 0
theorem mq (r : Bool) (hm : gB  = some r) : cr Try.prog 4 [] (.c (.bool r)) := by
 refine aL 37 [.tmp 0] Try.func4 rfl rfl rfl (by kernel_rfl) (by simp) ?_;refine bB ?_;unfold gB at hm;refine aj [0] ?_;refine dg [4, 5, 6, 7, 8, 9, 10, 11, 12] fun k kp hk hp => ?_;refine ar 7 ?_;refine go ?_
 refine kZ (kG 10 (.a [.int .i64 1, .int .i64 0, .int .i64 0, .int .i64 5, .tree 4 ([].map au.enc), .osl 2 0 0 3]) (by first | rfl | (simp only [bR, bT, tab, bX, reduceIte, ↓reduceIte, reduceCtorEq, Int.reduceToNat, Nat.reduceDiv, Nat.reduceMod, Nat.reduceLT, Nat.reduceLeDiff, Nat.reduceAdd, Nat.reduceSub, Nat.reduceMul, Nat.reduceEqDiff, Nat.reduceBEq, Nat.reduceBNe, Nat.reduceGT]; done)) (by and_intros <;> trivial)) ?_
 simp only [bE, Nat.reduceDiv, Nat.reduceMod, Nat.reduceLT, Nat.reduceLeDiff, Nat.reduceAdd, Nat.reduceSub, Nat.reduceMul, Nat.reduceEqDiff, Nat.reduceBEq, Nat.reduceBNe, Nat.reduceGT, Int.reduceToNat];refine ar 0 ?_;refine go ?_;refine kZ (aR 2 rfl) ?_;refine gz ?_;refine aa ?_;refine go ?_;refine hk _ _ ?_;clear hk hp k kp;refine gv [.arr 1 0 3 ((lit ([1] : List Int)).map (eK .i64)), .arr 1 0 3 ((lit ([5] : List Int)).map (eK .i64)), .dead, .arr 6 0 57 ((lit ([(ap.mk 1 0 0 5 [] (lit ([(au.mk 2 0 1 0), (au.mk 1 0 0 2), (au.mk 6 1 0 0)] : List au)))] : List ap)).map ap.enc), .box [.int .i64 6, .osl 0 0 0 1, .osl 1 0 0 1, .osl 3 0 0 1]] ?_;refine aA [1, 13, 14, 15, 16, 17] fun k kp hk hp => ?_;refine go ?_;refine az (aR 0 rfl) ?_;refine gt ?_;refine az (aR 1 rfl) ?_;refine gt ?_;refine az (aR 3 rfl) ?_;refine gt ?_;obtain ⟨y1, hc1, hm⟩ := bd hm;refine RP (fun _ => lS (aE.mk 6 (lit ([1] : List Int)) (lit ([5] : List Int)) (lit ([(ap.mk 1 0 0 5 [] (lit ([(au.mk 2 0 1 0), (au.mk 1 0 0 2), (au.mk 6 1 0 0)] : List au)))] : List ap))) _ hc1) ?_;refine aa ?_;refine go ?_;refine hk _ _ ?_;clear hk hp k kp;refine dg [2, 3, 18, 19, 20, 21, 22, 23, 24, 25, 26, 27, 28, 29, 30, 31, 32, 33, 34, 35, 36] fun k kp hk hp => ?_;refine ar 4 ?_;refine go ?_
 by_cases h2 : ((y1.2).code) = 0
 ·rw [iP h2] at hm;have h2b := eQ h2;refine ar 5 ?_;refine gox h2b ?_
  by_cases h3 : ((y1.1).cost) = 4
  ·rw [iP h3] at hm;have h3b := eQ h3;refine ar 5 ?_;refine gox (a2 h2b h3b) ?_
   by_cases h4 : ((y1.1).regs) = 4
   ·rw [iP h4] at hm;have h4b := eQ h4;refine aa ?_;refine gox (a2 h2b (a2 h3b h4b)) ?_;refine hk _ _ ?_;clear hk hp k kp;refine ak ?_
    cases hm
    exact kr 0
   ·rw [iN h4] at hm;have h4b := nB h4;refine aa ?_;refine gox (a2 h2b (a2 h3b h4b)) ?_;refine hk _ _ ?_;clear hk hp k kp;refine ak ?_
    cases hm
    exact kr 0
  ·rw [iN h3] at hm;have h3b := nB h3;refine aa ?_;refine gox (a2 h2b h3b) ?_;refine hk _ _ ?_;clear hk hp k kp;refine ak ?_
   cases hm
   exact kr 0
 ·rw [iN h2] at hm;have h2b := nB h2;refine aa ?_;refine gox h2b ?_;refine hk _ _ ?_;clear hk hp k kp;refine ak ?_
  cases hm
  exact kr 0
theorem lT (p1 : aE) (r : Bool) (hm : fS p1 = some r) : cr Try.prog 5 [.a [.int .i64 p1.cells, .tree 1 (p1.put.map (eK .i64)), .tree 1 (p1.get.map (eK .i64)), .tree 6 (p1.steps.map ap.enc)]] (.c (.bool r)) := by
 refine aL 65 [.tmp 2] Try.func5 rfl rfl rfl (by kernel_rfl) (by simp) ?_;refine bB ?_;unfold fS at hm;refine aj [0, 2] ?_;refine an fun k1 hk1 => ?_;refine dg [5, 6, 7, 8, 9, 10, 11, 12, 13, 14, 15, 16, 17, 18, 19] fun k kp hk hp => ?_;refine ar 5 ?_;refine go ?_
 by_cases h1 : (p1.put.length : Int) > 7000
 ·rw [iP h1] at hm;have h1b := dT h1;refine aa ?_;refine gox h1b ?_;refine hk _ _ ?_;clear hk hp k kp;refine ab rfl rfl ?_;refine aj [1, 20] ?_;refine ak ?_;refine ag ?_
  cases hm
  exact kr 0
 ·rw [iN h1] at hm;have h1b := dF h1;refine ar 6 ?_;refine gox h1b ?_
  by_cases h2 : (p1.get.length : Int) > 130000
  ·rw [iP h2] at hm;have h2b := dT h2;refine aa ?_;refine gox (a2 h1b h2b) ?_;refine hk _ _ ?_;clear hk hp k kp;refine ab rfl rfl ?_;refine aj [1, 20] ?_;refine ak ?_;refine ag ?_
   cases hm
   exact kr 0
  ·rw [iN h2] at hm;have h2b := dF h2;refine aa ?_;refine gox (a2 h1b h2b) ?_;refine hk _ _ ?_;clear hk hp k kp
   by_cases h3 : (p1.steps.length : Int) > 1300
   ·rw [iP h3] at hm;refine ab rfl (dT h3) ?_;refine aj [1, 20] ?_;refine ak ?_;refine ag ?_
    cases hm
    exact kr 0
   ·rw [iN h3] at hm;refine af rfl (dF h3) ?_;refine ao ?_;refine ai (hk1 _ _ ?_);refine aj [20] ?_;refine aP (S := Int) (V := Unit) [1, 2, 3, 4, 21, 22, 23, 24, 25, 26, 27, 28, 29, 30, 31, 32, 33, 34, 35, 36, 37, 38, 39, 40, 41, 42, 43, 44, 45, 46, 47, 48, 49, 50, 51, 52, 53, 54, 55, 56, 57, 58, 59, 60, 61, 62] (fun x1 _ => [(3, .c (.int .i64 x1))]) (fun x1 _ => [.box [.int .i64 p1.cells, .tree 1 (p1.put.map (eK .i64)), .tree 1 (p1.get.map (eK .i64)), .tree 6 (p1.steps.map ap.enc)]]) (fun x1 => d9 x1 = some r) ?_ ?_
    ·skip;refine aj [] ?_
     refine ax ?_;obtain ⟨o1, hl1, hm1⟩ := bd hm;refine aZ (S := (Int × Int)) (V := Unit) (O := Int ⊕ Bool) [2, 3, 4, 21, 22, 23, 24, 25, 26, 27, 28, 29, 30, 31, 32, 33, 34, 35, 36, 37, 38, 39, 40, 41, 42, 43, 44, 45, 46, 47, 48, 49, 50, 51, 52, 53, 54, 55, 56, 57, 58, 59, 60, 61, 62] (fun (x6, x7) _ => [(3, .c (.int .i64 x6)), (4, .c (.int .i64 x7))]) (fun (x6, x7) _ => [.box [.int .i64 p1.cells, .tree 1 (p1.put.map (eK .i64)), .tree 1 (p1.get.map (eK .i64)), .tree 6 (p1.steps.map ap.enc)]]) _ _ () hl1 ?_ ?_
     ·exact ls
     ·rintro ⟨x6, x7⟩ _ r1 hm hr1;replace hm : bJ p1 x6 x7 = some r1 := hm;refine aO ?_;unfold bJ at hm;refine an fun k2 hk2 => ?_;refine aj [21, 22, 23, 24] ?_
      by_cases h4 : x7 < (p1.steps.length : Int)
      ·rw [iP h4] at hm;refine ab rfl (dT h4) ?_;refine ao ?_;refine ai (hk2 _ _ ?_);refine an fun k3 hk3 => ?_;refine ax ?_;refine an fun k4 hk4 => ?_;obtain ⟨hg5a, hm⟩ := gd hm;refine dg [25, 28, 29, 30, 31, 32, 33, 34, 35, 36, 37, 38, 39, 40, 41, 42, 43, 44] fun k kp hk hp => ?_;refine ar 9 ?_;refine gox (em ap.enc p1.steps x7.toNat) ?_
       by_cases h6 : (((p1.steps.getD x7.toNat default).e).length : Int) > 1000
       ·rw [iP h6] at hm;have h6b := dT h6;refine aa ?_;refine gox h6b ?_;refine hk _ _ ?_;clear hk hp k kp;refine ab rfl rfl ?_;refine aj [1, 3, 4, 45] ?_;have ho7 := ay hm hr1;subst ho7;replace hm : some true = some r := hm1;refine ak ?_;refine ag (ae (ag (aD (ae (av ?_)))))
        cases hm
        exact kr 0
       ·rw [iN h6] at hm;have h6b := dF h6;refine aa ?_;refine gox (a2 (em ap.enc p1.steps x7.toNat) h6b) ?_;refine hk _ _ ?_;clear hk hp k kp
        by_cases h8 : (((p1.steps.getD x7.toNat default).f).length : Int) > 1000
        ·rw [iP h8] at hm;refine ab rfl (dT h8) ?_;refine aj [1, 3, 4, 45] ?_;have ho9 := ay hm hr1;subst ho9;replace hm : some true = some r := hm1;refine ak ?_;refine ag (ae (ag (aD (ae (av ?_)))))
         cases hm
         exact kr 0
        ·rw [iN h8] at hm;refine af rfl (dF h8) ?_;refine ao ?_;refine ai (hk4 _ _ ?_);refine ja (em ap.enc p1.steps x7.toNat) [0, 0, 2, 0, 14, 30, 62, 126, 0, 256, 0, 1792, 3840, 7936, 16128, 32766, 65535, 131071] [false, false, false, false, false, false, false, false, false, false, false, false, false, false, false, false, true, true] ?_;refine am ?_;refine ai (hk3 _ _ ?_);refine bb ?_;refine aC ((IntKind.wrap .i64 (x6 + (IntKind.wrap .i64 ((((p1.steps.getD x7.toNat default).e).length : Int) + (((p1.steps.getD x7.toNat default).f).length : Int))))), (IntKind.wrap .i64 (x7 + 1))) () hm ?_;exact ls
      ·rw [iN h4] at hm;refine af rfl (dF h4) ?_;refine bj ?_;have ho10 := ay hm hr1;subst ho10;replace hm : d9 x6 = some r := hm1;refine aV (aS (aF ?_));refine aw x6 () hm ?_;exact ls
    ·rintro x1 _ hm;replace hm : d9 x1 = some r := hm;refine aO ?_;unfold d9 at hm;refine aj [3, 63, 64] ?_;refine ak ?_
     cases hm
     exact kr 0
theorem mr (p1 : List (List Int)) (r : Bool) (hm : gC p1 = some r) : cr Try.prog 6 [.c (.tree 1 (p1.map (eL 1 (eK .i64))))] (.c (.bool r)) := by
 refine aL 19 [.tmp 2] Try.func6 rfl rfl rfl (by kernel_rfl) (by simp) ?_;refine bB ?_;unfold gC at hm;refine aj [2] ?_;refine an fun k1 hk1 => ?_;refine aj [4, 5] ?_
 by_cases h1 : (p1.length : Int) > 60
 ·rw [iP h1] at hm;refine ab rfl (dT h1) ?_;refine aj [0, 6] ?_;refine ak ?_;refine ag ?_
  cases hm
  exact kr 0
 ·rw [iN h1] at hm;refine af rfl (dF h1) ?_;refine ao ?_;refine ai (hk1 _ _ ?_);refine aP (S := Unit) (V := Unit) [0, 2, 3, 6, 7, 8, 9, 10, 11, 12, 13, 14, 15, 16, 17, 18] (fun _ _ => []) (fun _ _ => []) (fun _ => eJ = some r) ?_ ?_
  ·skip;refine aj [6] ?_
   refine ax ?_;obtain ⟨o1, hl1, hm1⟩ := bd hm;refine aZ (S := Int) (V := Unit) (O := Unit ⊕ Bool) [2, 3, 7, 8, 9, 10, 11, 12, 13, 14, 15, 16, 17, 18] (fun x3 _ => [(3, .c (.int .i64 x3))]) (fun x3 _ => []) _ _ () hl1 ?_ ?_
   ·exact ls
   ·rintro x3 _ r1 hm hr1;replace hm : eM p1 x3 = some r1 := hm;refine aO ?_;unfold eM at hm;refine an fun k2 hk2 => ?_;refine aj [7, 8, 9] ?_
    by_cases h2 : x3 < (p1.length : Int)
    ·rw [iP h2] at hm;refine ab rfl (dT h2) ?_;refine ao ?_;refine ai (hk2 _ _ ?_);refine an fun k3 hk3 => ?_;refine ax ?_;obtain ⟨hg3a, hm⟩ := gd hm;refine bf (em (eL 1 (eK .i64)) p1 x3.toNat) [10, 13, 14, 15, 16, 17] ?_
     by_cases h4 : ((p1.getD x3.toNat default).length : Int) > 10000
     ·rw [iP h4] at hm;refine ab rfl (dT h4) ?_;refine aj [0, 3, 18] ?_;have ho5 := ay hm hr1;subst ho5;replace hm : some true = some r := hm1;refine ak ?_;refine ae (ag (aD (ae (av ?_))))
      cases hm
      exact kr 0
     ·rw [iN h4] at hm;refine af rfl (dF h4) ?_;refine ao ?_;refine am ?_;refine ai (hk3 _ _ ?_);refine bb ?_;refine aC (IntKind.wrap .i64 (x3 + 1)) () hm ?_;exact ls
    ·rw [iN h2] at hm;refine af rfl (dF h2) ?_;refine bj ?_;have ho6 := ay hm hr1;subst ho6;replace hm : eJ = some r := hm1;refine aV (aS (aF ?_));refine aw () () hm ?_;exact ls
  ·rintro _ _ hm;replace hm : eJ = some r := hm;refine aO ?_;unfold eJ at hm;refine aj [] ?_;refine ak ?_
   cases hm
   exact kr 0
theorem bK (p1 : Int) (p2 : Int) (r : aq) (hm : dh p1 p2 = some r) : cr Try.prog 19 [.c (.int .i64 p1), .c (.int .i64 p2)] (.a [.int .i64 ((r).code), .int .i64 ((r).at_)]) := by
 refine aL 8 [.cell 4 34] Try.func19 rfl rfl rfl (by kernel_rfl) (by simp) ?_;refine bB ?_;unfold dh at hm;refine aj [] ?_;refine aj [0, 1, 5, 6, 7] ?_;refine ak ?_
 cases hm
 exact kr 0
theorem fj (p1 : aE) (p2 : Int) (p3 : Int) (r : Bool) (hm : eN p1 p2 p3 = some r) : cr Try.prog 20 [.a [.int .i64 p1.cells, .tree 1 (p1.put.map (eK .i64)), .tree 1 (p1.get.map (eK .i64)), .tree 6 (p1.steps.map ap.enc)], .c (.int .i64 p2), .c (.int .i64 p3)] (.c (.bool r)) := by
 refine aL 27 [.tmp 6] Try.func20 rfl rfl rfl (by kernel_rfl) (by simp) ?_;refine bB ?_;unfold eN at hm;refine aj [0, 6] ?_
 by_cases h1 : p2 ≥ 0
 ·rw [iP h1] at hm;have h1b := dT h1;refine dg [1, 2, 3, 7, 8, 9, 10, 11, 12, 13, 14, 15, 16, 17, 18, 19, 20, 21, 22, 23, 24, 25, 26] fun k kp hk hp => ?_;refine ar 9 ?_;refine gox h1b ?_
  by_cases h2 : p2 < p1.cells
  ·rw [iP h2] at hm;have h2b := dT h2;refine ar 4 ?_;refine gox (a2 h1b h2b) ?_
   by_cases h3 : p3 ≥ 1
   ·rw [iP h3] at hm;have h3b := dT h3;refine aa ?_;refine gox (a2 h1b (a2 h2b h3b)) ?_;refine hk _ _ ?_;clear hk hp k kp;refine ak ?_
    cases hm
    exact kr 0
   ·rw [iN h3] at hm;have h3b := dF h3;refine aa ?_;refine gox (a2 h1b (a2 h2b h3b)) ?_;refine hk _ _ ?_;clear hk hp k kp;refine ak ?_
    cases hm
    exact kr 0
  ·rw [iN h2] at hm;have h2b := dF h2;refine aa ?_;refine gox (a2 h1b h2b) ?_;refine hk _ _ ?_;clear hk hp k kp;refine ak ?_
   cases hm
   exact kr 0
 ·rw [iN h1] at hm;have h1b := dF h1;refine bf h1b [1, 2, 3, 7, 8, 9, 10, 11, 12, 13, 14, 15, 16, 17, 18, 19, 20, 21, 22, 23, 24, 25, 26] ?_;refine ak ?_
  cases hm
  exact kr 0
theorem kv (p1 : Int) (r : (Int × Int × Int)) (hm : hM p1 = some r) : cr Try.prog 35 [.c (.int .i64 p1)] (.t [.c (.int .u8 r.1), .c (.int .u8 r.2.1), .c (.int .i64 r.2.2)]) := by
 refine aL 23 [.tmp 2, .tmp 3, .tmp 4] Try.func35 rfl rfl rfl (by kernel_rfl) (by simp) ?_;refine bB ?_;unfold hM at hm;refine aj [2, 3, 4] ?_;refine aj [] ?_;refine aj [] ?_;refine an fun k1 hk1 => ?_
 by_cases h1 : p1 < 1
 ·rw [iP h1] at hm;have h1b := dT h1;refine bf h1b [8, 9, 10, 11, 12] ?_;refine ab rfl rfl ?_;refine aj [0, 5, 6, 13] ?_;refine ak ?_;refine ag ?_
  cases hm
  exact kr 0
 ·rw [iN h1] at hm;have h1b := dF h1;refine bf h1b [8, 9, 10, 11, 12] ?_
  by_cases h2 : p1 > 14
  ·rw [iP h2] at hm;refine ab rfl (dT h2) ?_;refine aj [0, 5, 6, 13] ?_;refine ak ?_;refine ag ?_
   cases hm
   exact kr 0
  ·rw [iN h2] at hm;refine af rfl (dF h2) ?_;refine ao ?_;refine ai (hk1 _ _ ?_);refine aj [13] ?_;refine aP (S := Int) (V := Unit) [7, 14, 15] (fun x1 _ => [(7, .c (.int .i64 x1))]) (fun x1 _ => []) (fun x1 => ed p1 x1 = some r) ?_ ?_
   ·skip;refine aj [14] ?_
    by_cases h4 : p1 ≥ 13
    ·rw [iP h4] at hm;refine ab rfl (dT h4) ?_;refine bb ?_;refine aw 1 () hm ?_;exact ls
    ·rw [iN h4] at hm;refine af rfl (dF h4) ?_;refine ao ?_;refine aw 2 () hm ?_;exact ls
   ·rintro x1 _ hm;replace hm : ed p1 x1 = some r := hm;refine aO ?_;unfold ed at hm;obtain ⟨⟨hg3a, hg3b⟩, hm⟩ := gd hm;refine rO [0, 5, 6, 7, 16, 17, 18, 19, 20, 21, 22] [0, 0, 3, 0, 0, 24, 0, 7, 191, 511] [false, false, false, false, false, false, false, false, false, true] ?_;refine ak ?_
    cases hm
    exact kr 0
theorem ij (p1 : aE) (p2 : List au) (p3 : Int) (r : Bool) (hm : eu p1 p2 p3 = some r) : cr Try.prog 34 [.a [.int .i64 p1.cells, .tree 1 (p1.put.map (eK .i64)), .tree 1 (p1.get.map (eK .i64)), .tree 6 (p1.steps.map ap.enc)], .c (.tree 4 (p2.map au.enc)), .c (.int .i64 p3)] (.c (.bool r)) := by
 refine aL 113 [.tmp 6] Try.func34 rfl rfl rfl (by kernel_rfl) (by simp) ?_;refine bB ?_;unfold eu at hm;refine aj [0, 6] ?_;refine aj [] ?_;refine aP (S := Int) (V := Unit) [2, 3, 6, 7, 8, 9, 10, 11, 12, 13, 14, 15, 16, 17, 18, 19, 20, 21, 22, 23, 24, 25, 26, 27, 28, 29, 30, 31, 32, 33, 34, 35, 36, 37, 38, 39, 40, 41, 42, 43, 44, 45, 46, 47, 48, 49, 50, 51, 52, 53, 54, 55, 56, 57, 58, 59, 60, 61, 62, 63, 64, 65, 66, 67, 68, 69, 70, 71, 72, 73, 74, 75, 76, 77, 78, 79, 80, 81, 82, 83, 84, 85, 86, 87, 88, 89, 90, 91, 92, 93, 94, 95, 96, 97, 98, 99, 100, 101, 102, 103, 104, 105] (fun x1 _ => [(7, .c (.int .i64 x1))]) (fun x1 _ => [.box [.int .i64 p1.cells, .tree 1 (p1.put.map (eK .i64)), .tree 1 (p1.get.map (eK .i64)), .tree 6 (p1.steps.map ap.enc)]]) (fun x1 => dJ p2 x1 = some r) ?_ ?_
 ·skip;refine aj [] ?_
  refine ax ?_;obtain ⟨o1, hl1, hm1⟩ := bd hm;refine aZ (S := (Int × Int)) (V := Unit) (O := Int ⊕ Bool) [6, 7, 8, 9, 10, 11, 12, 13, 14, 15, 16, 17, 18, 19, 20, 21, 22, 23, 24, 25, 26, 27, 28, 29, 30, 31, 32, 33, 34, 35, 36, 37, 38, 39, 40, 41, 42, 43, 44, 45, 46, 47, 48, 49, 50, 51, 52, 53, 54, 55, 56, 57, 58, 59, 60, 61, 62, 63, 64, 65, 66, 67, 68, 69, 70, 71, 72, 73, 74, 75, 76, 77, 78, 79, 80, 81, 82, 83, 84, 85, 86, 87, 88, 89, 90, 91, 92, 93, 94, 95, 96, 97, 98, 99, 100, 101, 102, 103, 104, 105] (fun (x6, x7) _ => [(7, .c (.int .i64 x6)), (8, .c (.int .i64 x7))]) (fun (x6, x7) _ => [.box [.int .i64 p1.cells, .tree 1 (p1.put.map (eK .i64)), .tree 1 (p1.get.map (eK .i64)), .tree 6 (p1.steps.map ap.enc)]]) _ _ () hl1 ?_ ?_
  ·exact ls
  ·rintro ⟨x6, x7⟩ _ r1 hm hr1;replace hm : cw p1 p2 p3 x6 x7 = some r1 := hm;refine aO ?_;unfold cw at hm;refine an fun k1 hk1 => ?_;refine aj [13, 14, 15] ?_
   by_cases h2 : x7 < (p2.length : Int)
   ·rw [iP h2] at hm;refine ab rfl (dT h2) ?_;refine ao ?_;refine ai (hk1 _ _ ?_);refine an fun k2 hk2 => ?_;refine ax ?_;obtain ⟨hg3a, hm⟩ := gd hm;refine bf (em au.enc p2 x7.toNat) [16, 19, 20, 21, 22] ?_;refine aA [10, 11, 23, 24, 25, 26, 27, 28, 29] fun k kp hk hp => ?_;refine go ?_;obtain ⟨y8, hc4, hm⟩ := bd hm;refine RP (fun _ => kv ((p2.getD x7.toNat default).k) _ hc4) ?_;refine aa ?_;refine go ?_;refine hk _ _ ?_;clear hk hp k kp;refine aj [30] ?_;refine ax ?_;refine aj [33] ?_
    by_cases h5 : ((p2.getD x7.toNat default).op) = 1
    ·rw [iP h5] at hm;refine ab rfl (eQ h5) ?_;refine bb ?_;refine am (am ?_);refine ai (hk2 _ _ ?_);refine bb ?_;refine aC ((IntKind.wrap .i64 (x6 + 1)), (IntKind.wrap .i64 (x7 + 1))) () hm ?_;exact ls
    ·rw [iN h5] at hm;refine af rfl (nB h5) ?_;refine aj [32, 37] ?_
     by_cases h6 : ((p2.getD x7.toNat default).op) = 2
     ·rw [iP h6] at hm;refine ab rfl (eQ h6) ?_;refine an fun k3 hk3 => ?_;refine aA [9, 12, 31, 36, 38, 39, 40, 41] fun k kp hk hp => ?_;refine go ?_;obtain ⟨y9, hc7, hm⟩ := bd hm;refine RP (fun _ => fj p1 ((p2.getD x7.toNat default).v) 1 _ hc7) ?_;refine aa ?_;refine go ?_;refine hk _ _ ?_;clear hk hp k kp
      by_cases h8 : y9 = true
      ·rw [iP h8] at hm;refine af rfl (by rw [show y9 = true from (h8)]; rfl) ?_;refine ao ?_;refine ai (hk3 _ _ ?_);refine bb ?_;refine am (am ?_);refine ai (hk2 _ _ ?_);refine bb ?_;refine aC ((IntKind.wrap .i64 (x6 + 1)), (IntKind.wrap .i64 (x7 + 1))) () hm ?_;exact ls
      ·rw [iN h8] at hm;refine ab rfl (by rw [show y9 = false from (fB h8)]; rfl) ?_;refine aj [1, 2, 3, 7, 8, 42] ?_;have ho9 := ay hm hr1;subst ho9;replace hm : some false = some r := hm1;refine ak ?_;refine ag (ae (ae (ag (aD (ae (av ?_))))))
       cases hm
       exact kr 0
     ·rw [iN h6] at hm;refine af rfl (nB h6) ?_;refine aj [36, 46] ?_
      by_cases h10 : ((p2.getD x7.toNat default).op) = 3
      ·rw [iP h10] at hm;refine ab rfl (eQ h10) ?_;refine an fun k4 hk4 => ?_;refine aA [9, 12, 31, 45, 47, 48, 49, 50, 51] fun k kp hk hp => ?_;refine go ?_;obtain ⟨y10, hc11, hm⟩ := bd hm;refine RP (fun _ => fj p1 ((p2.getD x7.toNat default).v) p3 _ hc11) ?_;refine aa ?_;refine go ?_;refine hk _ _ ?_;clear hk hp k kp
       by_cases h12 : y10 = true
       ·rw [iP h12] at hm;refine af rfl (by rw [show y10 = true from (h12)]; rfl) ?_;refine ao ?_;refine ai (hk4 _ _ ?_);refine bb ?_;refine am (am ?_);refine ai (hk2 _ _ ?_);refine bb ?_;refine aC ((IntKind.wrap .i64 (x6 + 1)), (IntKind.wrap .i64 (x7 + 1))) () hm ?_;exact ls
       ·rw [iN h12] at hm;refine ab rfl (by rw [show y10 = false from (fB h12)]; rfl) ?_;refine aj [1, 2, 3, 7, 8, 52] ?_;have ho13 := ay hm hr1;subst ho13;replace hm : some false = some r := hm1;refine ak ?_;refine ag (ae (ae (ag (aD (ae (av ?_))))))
        cases hm
        exact kr 0
      ·rw [iN h10] at hm;refine af rfl (nB h10) ?_;refine aj [45, 56] ?_
       by_cases h14 : ((p2.getD x7.toNat default).op) = 4
       ·rw [iP h14] at hm;refine ab rfl (eQ h14) ?_;refine an fun k5 hk5 => ?_;refine dg [9, 12, 31, 55, 57, 58, 59, 60, 61, 62, 63] fun k kp hk hp => ?_;refine ar 4 ?_;refine go ?_
        by_cases h15 : ((p2.getD x7.toNat default).n) < (-1000000000000000000)
        ·rw [iP h15] at hm;have h15b := dT h15;refine aa ?_;refine gox h15b ?_;refine hk _ _ ?_;clear hk hp k kp;refine ab rfl rfl ?_;refine aj [1, 2, 3, 7, 8, 64] ?_;have ho16 := ay hm hr1;subst ho16;replace hm : some false = some r := hm1;refine ak ?_;refine ag (ae (ae (ag (aD (ae (av ?_))))))
         cases hm
         exact kr 0
        ·rw [iN h15] at hm;have h15b := dF h15;refine aa ?_;refine gox h15b ?_;refine hk _ _ ?_;clear hk hp k kp
         by_cases h17 : ((p2.getD x7.toNat default).n) > 1000000000000000000
         ·rw [iP h17] at hm;refine ab rfl (dT h17) ?_;refine aj [1, 2, 3, 7, 8, 64] ?_;have ho18 := ay hm hr1;subst ho18;replace hm : some false = some r := hm1;refine ak ?_;refine ag (ae (ae (ag (aD (ae (av ?_))))))
          cases hm
          exact kr 0
         ·rw [iN h17] at hm;refine af rfl (dF h17) ?_;refine ao ?_;refine ai (hk5 _ _ ?_);refine bb ?_;refine am (am ?_);refine ai (hk2 _ _ ?_);refine bb ?_;refine aC ((IntKind.wrap .i64 (x6 + 1)), (IntKind.wrap .i64 (x7 + 1))) () hm ?_;exact ls
       ·rw [iN h14] at hm;refine af rfl (nB h14) ?_;refine aj [55, 68] ?_
        by_cases h19 : ((p2.getD x7.toNat default).op) = 5
        ·rw [iP h19] at hm;refine ab rfl (eQ h19) ?_
         by_cases h20 : ¬ y8.2.2 = 1
         ·rw [iP h20] at hm;have h20b := bne_iff_ne.2 h20;refine bf h20b [9, 12, 31, 67, 69, 70, 71, 72, 73] ?_;refine ab rfl rfl ?_;refine aj [1, 2, 3, 7, 8, 74] ?_;have ho21 := ay hm hr1;subst ho21;replace hm : some false = some r := hm1;refine ak ?_;refine ae (ae (ag (aD (ae (av ?_)))))
          cases hm
          exact kr 0
         ·rw [iN h20] at hm;have h20b : (y8.2.2 != 1) = false := bne_eq_false_iff_eq.2 (Decidable.not_not.1 h20);refine bf h20b [9, 12, 31, 67, 69, 70, 71, 72, 73] ?_
          by_cases h22 : x6 < 1
          ·rw [iP h22] at hm;refine ab rfl (dT h22) ?_;refine aj [1, 2, 3, 7, 8, 74] ?_;have ho23 := ay hm hr1;subst ho23;replace hm : some false = some r := hm1;refine ak ?_;refine ae (ae (ag (aD (ae (av ?_)))))
           cases hm
           exact kr 0
          ·rw [iN h22] at hm;refine af rfl (dF h22) ?_;refine ao ?_;refine am (am ?_);refine ai (hk2 _ _ ?_);refine bb ?_;refine aC (x6, (IntKind.wrap .i64 (x7 + 1))) () hm ?_;exact ls
        ·rw [iN h19] at hm;refine af rfl (nB h19) ?_;refine aj [67, 76] ?_
         by_cases h24 : ((p2.getD x7.toNat default).op) = 6
         ·rw [iP h24] at hm;refine ab rfl (eQ h24) ?_;refine an fun k6 hk6 => ?_
          by_cases h25 : ¬ y8.2.2 = 2
          ·rw [iP h25] at hm;have h25b := bne_iff_ne.2 h25;refine bf h25b [9, 12, 31, 75, 77, 78, 79, 80, 81] ?_;refine ab rfl rfl ?_;refine aj [1, 2, 3, 7, 8, 82] ?_;have ho26 := ay hm hr1;subst ho26;replace hm : some false = some r := hm1;refine ak ?_;refine ag (ae (ae (ag (aD (ae (av ?_))))))
           cases hm
           exact kr 0
          ·rw [iN h25] at hm;have h25b : (y8.2.2 != 2) = false := bne_eq_false_iff_eq.2 (Decidable.not_not.1 h25);refine bf h25b [9, 12, 31, 75, 77, 78, 79, 80, 81] ?_
           by_cases h27 : x6 < 2
           ·rw [iP h27] at hm;refine ab rfl (dT h27) ?_;refine aj [1, 2, 3, 7, 8, 82] ?_;have ho28 := ay hm hr1;subst ho28;replace hm : some false = some r := hm1;refine ak ?_;refine ag (ae (ae (ag (aD (ae (av ?_))))))
            cases hm
            exact kr 0
           ·rw [iN h27] at hm;refine af rfl (dF h27) ?_;refine ao ?_;refine ai (hk6 _ _ ?_);refine bb ?_;refine am (am ?_);refine ai (hk2 _ _ ?_);refine bb ?_;refine aC ((IntKind.wrap .i64 (x6 - 1)), (IntKind.wrap .i64 (x7 + 1))) () hm ?_;exact ls
         ·rw [iN h24] at hm;refine af rfl (nB h24) ?_;refine aj [12, 75, 86] ?_
          by_cases h29 : ((p2.getD x7.toNat default).op) = 7
          ·rw [iP h29] at hm;refine ab rfl (eQ h29) ?_;refine an fun k7 hk7 => ?_;refine aj [9, 31, 85, 87] ?_
           by_cases h30 : x6 < 3
           ·rw [iP h30] at hm;refine ab rfl (dT h30) ?_;refine aj [1, 2, 3, 7, 8, 88] ?_;have ho31 := ay hm hr1;subst ho31;replace hm : some false = some r := hm1;refine ak ?_;refine ag (ae (ae (ag (aD (ae (av ?_))))))
            cases hm
            exact kr 0
           ·rw [iN h30] at hm;refine af rfl (dF h30) ?_;refine ao ?_;refine ai (hk7 _ _ ?_);refine bb ?_;refine am (am ?_);refine ai (hk2 _ _ ?_);refine bb ?_;refine aC ((IntKind.wrap .i64 (x6 - 2)), (IntKind.wrap .i64 (x7 + 1))) () hm ?_;exact ls
          ·rw [iN h29] at hm;refine af rfl (nB h29) ?_;refine aj [31, 85, 92] ?_
           by_cases h32 : ((p2.getD x7.toNat default).op) = 8
           ·rw [iP h32] at hm;refine ab rfl (eQ h32) ?_;refine an fun k8 hk8 => ?_;refine aA [9, 91, 93, 94, 95, 96, 97, 98, 99, 100, 101, 102] fun k kp hk hp => ?_;refine go ?_;obtain ⟨y11, hc33, hm⟩ := bd hm;refine RP (fun _ => fj p1 ((p2.getD x7.toNat default).v) ((p2.getD x7.toNat default).n) _ hc33) ?_
            by_cases h34 : y11 = true
            ·rw [iP h34] at hm;have h34b := h34
             have h34c : (!y11) = false := by rw [h34b]; rfl
             refine aa ?_;refine gox (a2 h34b h34c) ?_;refine hk _ _ ?_;clear hk hp k kp
             by_cases h35 : x6 < 2
             ·rw [iP h35] at hm;refine ab rfl (dT h35) ?_;refine aj [1, 2, 3, 7, 8, 103] ?_;have ho36 := ay hm hr1;subst ho36;replace hm : some false = some r := hm1;refine ak ?_;refine ag (ae (ae (ag (aD (ae (av ?_))))))
              cases hm
              exact kr 0
             ·rw [iN h35] at hm;refine af rfl (dF h35) ?_;refine ao ?_;refine ai (hk8 _ _ ?_);refine bb ?_;refine am (am ?_);refine ai (hk2 _ _ ?_);refine bb ?_;refine aC ((IntKind.wrap .i64 (x6 - 1)), (IntKind.wrap .i64 (x7 + 1))) () hm ?_;exact la
            ·rw [iN h34] at hm;have h34b := fB h34
             have h34c : (!y11) = true := by rw [h34b]; rfl
             refine aa ?_;refine gox (a2 h34b h34c) ?_;refine hk _ _ ?_;clear hk hp k kp;refine ab rfl rfl ?_;refine aj [1, 2, 3, 7, 8, 103] ?_;have ho37 := ay hm hr1;subst ho37;replace hm : some false = some r := hm1;refine ak ?_;refine ag (ae (ae (ag (aD (ae (av ?_))))))
             cases hm
             exact kr 0
           ·rw [iN h32] at hm;refine af rfl (nB h32) ?_;refine aj [1, 2, 3, 7, 8, 9, 91] ?_;have ho38 := ay hm hr1;subst ho38;replace hm : some false = some r := hm1;refine ak ?_;refine ae (ae (ag (aD (ae (av ?_)))))
            cases hm
            exact kr 0
   ·rw [iN h2] at hm;refine af rfl (dF h2) ?_;refine bj ?_;have ho39 := ay hm hr1;subst ho39;replace hm : dJ p2 x6 = some r := hm1;refine aV (aS (aF ?_));refine aw x6 () hm ?_;exact ls
 ·rintro x1 _ hm;replace hm : dJ p2 x1 = some r := hm;refine aO ?_;unfold dJ at hm
  by_cases h1 : x1 = 1
  ·rw [iP h1] at hm;have h1b := eQ h1;refine bf h1b [1, 7, 106, 107, 108, 109, 110, 111, 112] ?_;refine ak ?_
   cases hm
   exact kr 0
  ·rw [iN h1] at hm;have h1b := nB h1;refine bf h1b [1, 7, 106, 107, 108, 109, 110, 111, 112] ?_;refine ak ?_
   cases hm
   exact kr 0
theorem oa (p1 : aE) (p2 : ap) (r : Bool) (hm : iY p1 p2 = some r) : cr Try.prog 21 [.a [.int .i64 p1.cells, .tree 1 (p1.put.map (eK .i64)), .tree 1 (p1.get.map (eK .i64)), .tree 6 (p1.steps.map ap.enc)], .a [.int .i64 p2.op, .int .i64 p2.k, .int .i64 p2.n, .int .i64 p2.to, .tree 4 (p2.f.map au.enc), .tree 4 (p2.e.map au.enc)]] (.c (.bool r)) := by
 refine aL 81 [.tmp 4] Try.func21 rfl rfl rfl (by kernel_rfl) (by simp) ?_;refine bB ?_;unfold iY at hm;refine aj [0, 1, 4] ?_;refine an fun k1 hk1 => ?_;refine aj [9, 10] ?_
 by_cases h1 : p2.op = 1
 ·rw [iP h1] at hm;refine ab rfl (eQ h1) ?_;refine aA [2, 3, 11, 12, 13, 14, 15, 16, 17, 18, 19, 20, 21] fun k kp hk hp => ?_;refine go ?_;obtain ⟨y1, hc2, hm⟩ := bd hm;refine RP (fun _ => fj p1 p2.to 1 _ hc2) ?_
  by_cases h3 : y1 = true
  ·rw [iP h3] at hm;have h3b := h3;refine aa ?_;refine gox h3b ?_;obtain ⟨y2, hc4, hm⟩ := bd hm;refine RP (fun _ => ij p1 p2.e 1 _ hc4) ?_;refine aa ?_;refine gox h3b ?_;refine hk _ _ ?_;clear hk hp k kp;refine ak ?_;refine ag ?_
   cases hm
   exact kr 0
  ·rw [iN h3] at hm;have h3b := fB h3;refine aa ?_;refine gox h3b ?_;refine hk _ _ ?_;clear hk hp k kp;refine ak ?_;refine ag ?_
   cases hm
   exact kr 0
 ·rw [iN h1] at hm;refine af rfl (nB h1) ?_;refine ao ?_;refine ai (hk1 _ _ ?_);refine an fun k2 hk2 => ?_;refine dg [11, 22, 23, 24, 25, 26, 27, 28, 29, 30, 31, 32, 33, 34, 35, 36, 37, 38, 39, 40, 41, 42, 43, 44, 45, 46, 47] fun k kp hk hp => ?_;refine ar 4 ?_;refine go ?_
  by_cases h5 : p2.op < 1
  ·rw [iP h5] at hm;have h5b := dT h5;refine aa ?_;refine gox h5b ?_;refine hk _ _ ?_;clear hk hp k kp;refine ab rfl rfl ?_;refine aj [2, 3, 48] ?_;refine ak ?_;refine ag ?_
   cases hm
   exact kr 0
  ·rw [iN h5] at hm;have h5b := dF h5;refine ar 5 ?_;refine gox h5b ?_
   by_cases h6 : p2.op > 4
   ·rw [iP h6] at hm;have h6b := dT h6;refine aa ?_;refine gox (a2 h5b h6b) ?_;refine hk _ _ ?_;clear hk hp k kp;refine ab rfl rfl ?_;refine aj [2, 3, 48] ?_;refine ak ?_;refine ag ?_
    cases hm
    exact kr 0
   ·rw [iN h6] at hm;have h6b := dF h6;refine ar 5 ?_;refine gox (a2 h5b h6b) ?_
    by_cases h7 : p2.n < 1
    ·rw [iP h7] at hm;have h7b := dT h7;refine aa ?_;refine gox (a2 h5b (a2 h6b h7b)) ?_;refine hk _ _ ?_;clear hk hp k kp;refine ab rfl rfl ?_;refine aj [2, 3, 48] ?_;refine ak ?_;refine ag ?_
     cases hm
     exact kr 0
    ·rw [iN h7] at hm;have h7b := dF h7;refine ar 5 ?_;refine gox (a2 h5b (a2 h6b h7b)) ?_
     by_cases h8 : p2.n > 300
     ·rw [iP h8] at hm;have h8b := dT h8;refine aa ?_;refine gox (a2 h5b (a2 h6b (a2 h7b h8b))) ?_;refine hk _ _ ?_;clear hk hp k kp;refine ab rfl rfl ?_;refine aj [2, 3, 48] ?_;refine ak ?_;refine ag ?_
      cases hm
      exact kr 0
     ·rw [iN h8] at hm;have h8b := dF h8;refine aa ?_;refine gox (a2 h5b (a2 h6b (a2 h7b h8b))) ?_;obtain ⟨y3, hc9, hm⟩ := bd hm;refine RP (fun _ => ij p1 p2.e p2.n _ hc9) ?_;refine aa ?_;refine gox (a2 h5b (a2 h6b (a2 h7b h8b))) ?_;refine hk _ _ ?_;clear hk hp k kp
      by_cases h10 : y3 = true
      ·rw [iP h10] at hm;refine af rfl (by rw [show y3 = true from (h10)]; rfl) ?_;refine ao ?_;refine ai (hk2 _ _ ?_);refine aj [48, 49, 50] ?_;refine aP (S := Int) (V := Unit) [5, 51, 52, 53] (fun x4 _ => [(5, .c (.int .i64 x4))]) (fun x4 _ => [.box [.int .i64 p1.cells, .tree 1 (p1.put.map (eK .i64)), .tree 1 (p1.get.map (eK .i64)), .tree 6 (p1.steps.map ap.enc)], .box [.int .i64 p2.op, .int .i64 p2.k, .int .i64 p2.n, .int .i64 p2.to, .tree 4 (p2.f.map au.enc), .tree 4 (p2.e.map au.enc)]]) (fun x4 => fI p1 p2 x4 = some r) ?_ ?_
       ·skip;refine aj [51, 52] ?_
        by_cases h17 : p2.op = 3
        ·rw [iP h17] at hm;refine ab rfl (eQ h17) ?_;refine bb ?_;refine aw 1 () hm ?_;exact ls
        ·rw [iN h17] at hm;refine af rfl (nB h17) ?_;refine ao ?_;refine aw p2.n () hm ?_;exact ls
       ·rintro x4 _ hm;replace hm : fI p1 p2 x4 = some r := hm;refine aO ?_;unfold fI at hm;refine aA [6, 7, 54, 55, 56, 57, 58, 59, 60] fun k kp hk hp => ?_;refine go ?_;obtain ⟨y5, hc11, hm⟩ := bd hm;refine RP (fun _ => kv p2.k _ hc11) ?_;refine aa ?_;refine go ?_;refine hk _ _ ?_;clear hk hp k kp;refine aA [2, 3, 5, 8, 61, 62, 63, 64, 65, 66, 67, 68, 69, 70, 71, 72, 73, 74, 75, 76, 77, 78, 79, 80] fun k kp hk hp => ?_;refine go ?_;obtain ⟨y6, hc12, hm⟩ := bd hm;refine RP (fun _ => fj p1 p2.to x4 _ hc12) ?_
        by_cases h13 : y6 = true
        ·rw [iP h13] at hm;have h13b := h13;refine ar 5 ?_;refine gox h13b ?_
         by_cases h14 : p2.op = 2
         ·rw [iP h14] at hm;have h14b := eQ h14;refine aa ?_;refine gox (a2 h13b h14b) ?_;refine hk _ _ ?_;clear hk hp k kp;refine ak ?_
          cases hm
          exact kr 0
         ·rw [iN h14] at hm;have h14b := nB h14
          by_cases h15 : y5.2.2 = 2
          ·rw [iP h15] at hm;have h15b := eQ h15;refine aa ?_;refine gox (a2 h13b (a2 h14b h15b)) ?_;obtain ⟨y7, hc16, hm⟩ := bd hm;refine RP (fun _ => ij p1 p2.f 1 _ hc16) ?_;refine aa ?_;refine gox (a2 h13b (a2 h14b h15b)) ?_;refine hk _ _ ?_;clear hk hp k kp;refine ak ?_
           cases hm
           exact kr 0
          ·rw [iN h15] at hm;have h15b := nB h15;refine aa ?_;refine gox (a2 h13b (a2 h14b h15b)) ?_;refine hk _ _ ?_;clear hk hp k kp;refine ak ?_
           cases hm
           exact kr 0
        ·rw [iN h13] at hm;have h13b := fB h13;refine aa ?_;refine gox h13b ?_;refine hk _ _ ?_;clear hk hp k kp;refine ak ?_
         cases hm
         exact kr 0
      ·rw [iN h10] at hm;refine ab rfl (by rw [show y3 = false from (fB h10)]; rfl) ?_;refine aj [2, 3, 48] ?_;refine ak ?_;refine ag ?_
       cases hm
       exact kr 0
theorem lU (p1 : aE) (r : aq) (hm : fT p1 = some r) : cr Try.prog 8 [.a [.int .i64 p1.cells, .tree 1 (p1.put.map (eK .i64)), .tree 1 (p1.get.map (eK .i64)), .tree 6 (p1.steps.map ap.enc)]] (.a [.int .i64 ((r).code), .int .i64 ((r).at_)]) := by
 refine aL 82 [.cell 2 34] Try.func8 rfl rfl rfl (by kernel_rfl) (by simp) ?_;refine bB ?_;unfold fT at hm;refine aj [0] ?_;refine an fun k1 hk1 => ?_;refine dg [6, 7, 8, 9, 10, 11, 12] fun k kp hk hp => ?_;refine ar 4 ?_;refine go ?_
 by_cases h1 : p1.cells < 1
 ·rw [iP h1] at hm;have h1b := dT h1;refine aa ?_;refine gox h1b ?_;refine hk _ _ ?_;clear hk hp k kp;refine ab rfl rfl ?_;refine aA [1, 13, 14] fun k kp hk hp => ?_;refine go ?_;obtain ⟨y1, hc2, hm⟩ := bd hm;refine RP (fun _ => bK 13 (-1) _ hc2) ?_;refine aa ?_;refine go ?_;refine hk _ _ ?_;clear hk hp k kp;refine ak ?_;refine ag ?_
  cases hm
  exact kr 0
 ·rw [iN h1] at hm;have h1b := dF h1;refine aa ?_;refine gox h1b ?_;refine hk _ _ ?_;clear hk hp k kp
  by_cases h3 : p1.cells > 6000
  ·rw [iP h3] at hm;refine ab rfl (dT h3) ?_;refine aA [1, 13, 14] fun k kp hk hp => ?_;refine go ?_;obtain ⟨y2, hc4, hm⟩ := bd hm;refine RP (fun _ => bK 13 (-1) _ hc4) ?_;refine aa ?_;refine go ?_;refine hk _ _ ?_;clear hk hp k kp;refine ak ?_;refine ag ?_
   cases hm
   exact kr 0
  ·rw [iN h3] at hm;refine af rfl (dF h3) ?_;refine ao ?_;refine ai (hk1 _ _ ?_);refine an fun k2 hk2 => ?_;refine dg [13, 15, 16, 17, 18, 19, 20, 21, 22, 23, 24, 25, 26, 27, 28, 29] fun k kp hk hp => ?_;refine ar 5 ?_;refine go ?_
   by_cases h5 : (p1.put.length : Int) > 6000
   ·rw [iP h5] at hm;have h5b := dT h5;refine aa ?_;refine gox h5b ?_;refine hk _ _ ?_;clear hk hp k kp;refine ab rfl rfl ?_;refine aA [1, 30, 31] fun k kp hk hp => ?_;refine go ?_;obtain ⟨y3, hc6, hm⟩ := bd hm;refine RP (fun _ => bK 7 (-1) _ hc6) ?_;refine aa ?_;refine go ?_;refine hk _ _ ?_;clear hk hp k kp;refine ak ?_;refine ag ?_
    cases hm
    exact kr 0
   ·rw [iN h5] at hm;have h5b := dF h5;refine ar 6 ?_;refine gox h5b ?_
    by_cases h7 : (p1.get.length : Int) > 120000
    ·rw [iP h7] at hm;have h7b := dT h7;refine aa ?_;refine gox (a2 h5b h7b) ?_;refine hk _ _ ?_;clear hk hp k kp;refine ab rfl rfl ?_;refine aA [1, 30, 31] fun k kp hk hp => ?_;refine go ?_;obtain ⟨y4, hc8, hm⟩ := bd hm;refine RP (fun _ => bK 7 (-1) _ hc8) ?_;refine aa ?_;refine go ?_;refine hk _ _ ?_;clear hk hp k kp;refine ak ?_;refine ag ?_
     cases hm
     exact kr 0
    ·rw [iN h7] at hm;have h7b := dF h7;refine aa ?_;refine gox (a2 h5b h7b) ?_;refine hk _ _ ?_;clear hk hp k kp
     by_cases h9 : (p1.steps.length : Int) > 1200
     ·rw [iP h9] at hm;refine ab rfl (dT h9) ?_;refine aA [1, 30, 31] fun k kp hk hp => ?_;refine go ?_;obtain ⟨y5, hc10, hm⟩ := bd hm;refine RP (fun _ => bK 7 (-1) _ hc10) ?_;refine aa ?_;refine go ?_;refine hk _ _ ?_;clear hk hp k kp;refine ak ?_;refine ag ?_
      cases hm
      exact kr 0
     ·rw [iN h9] at hm;refine af rfl (dF h9) ?_;refine ao ?_;refine ai (hk2 _ _ ?_);refine aP (S := Unit) (V := Unit) [3, 30, 32, 33, 34, 35, 36, 37, 38, 39, 40, 41, 42, 43, 44, 45, 46, 47] (fun _ _ => []) (fun _ _ => [.box [.int .i64 p1.cells, .tree 1 (p1.put.map (eK .i64)), .tree 1 (p1.get.map (eK .i64)), .tree 6 (p1.steps.map ap.enc)], .box [.int .i64 0, .int .i64 0]]) (fun _ => dj p1 = some r) ?_ ?_
      ·skip;refine aj [30] ?_
       refine ax ?_;obtain ⟨o3, hl3, hm3⟩ := bd hm;refine aZ (S := Int) (V := Unit) (O := Unit ⊕ aq) [3, 32, 33, 34, 35, 36, 37, 38, 39, 40, 41, 42, 43, 44, 45, 46, 47] (fun x20 _ => [(3, .c (.int .i64 x20))]) (fun x20 _ => [.box [.int .i64 p1.cells, .tree 1 (p1.put.map (eK .i64)), .tree 1 (p1.get.map (eK .i64)), .tree 6 (p1.steps.map ap.enc)], .box [.int .i64 0, .int .i64 0]]) _ _ () hl3 ?_ ?_
       ·exact ls
       ·rintro x20 _ r3 hm hr3;replace hm : eh p1 x20 = some r3 := hm;refine aO ?_;unfold eh at hm;refine an fun k7 hk7 => ?_;refine aj [32, 33, 34, 35] ?_
        by_cases h25 : x20 < (p1.put.length : Int)
        ·rw [iP h25] at hm;refine ab rfl (dT h25) ?_;refine ao ?_;refine ai (hk7 _ _ ?_);refine an fun k8 hk8 => ?_;refine ax ?_;obtain ⟨hg26a, hm⟩ := gd hm;refine jQ [36, 39, 40, 41, 42, 43, 44, 45] (by kernel_rfl) [0, 0, 2, 0, 14, 30, 63, 127] [false, false, false, false, false, false, true, true] (by kernel_rfl) fun k hk => ?_;refine gax (em (eK .i64) p1.put x20.toNat) ?_;obtain ⟨y21, hc27, hm⟩ := bd hm;refine AP (fun _ => fj p1 (p1.put.getD x20.toNat default) 1 _ hc27) ?_;refine ga ?_;refine hk _ _ ?_;clear hk k
         by_cases h28 : y21 = true
         ·rw [iP h28] at hm;refine af rfl (by rw [show y21 = true from (h28)]; rfl) ?_;refine ao ?_;refine am ?_;refine ai (hk8 _ _ ?_);refine bb ?_;refine aC (IntKind.wrap .i64 (x20 + 1)) () hm ?_;exact ls
         ·rw [iN h28] at hm;refine ab rfl (by rw [show y21 = false from (fB h28)]; rfl) ?_;refine aA [1, 3, 46, 47] fun k kp hk hp => ?_;refine go ?_;obtain ⟨y22, hc29, hm⟩ := bd hm;refine RP (fun _ => bK 16 (-1) _ hc29) ?_;refine aa ?_;refine go ?_;refine hk _ _ ?_;clear hk hp k kp;have ho30 := ay hm hr3;subst ho30;replace hm : some (y22) = some r := hm3;refine ak ?_;refine ae (ag (aD (ae (av ?_))))
          cases hm
          exact kr 0
        ·rw [iN h25] at hm;refine af rfl (dF h25) ?_;refine bj ?_;have ho31 := ay hm hr3;subst ho31;replace hm : dj p1 = some r := hm3;refine aV (aS (aF ?_));refine aw () () hm ?_;exact ls
      ·rintro _ _ hm;replace hm : dj p1 = some r := hm;refine aO ?_;unfold dj at hm;refine aP (S := Unit) (V := Unit) [4, 48, 49, 50, 51, 52, 53, 54, 55, 56, 57, 58, 59, 60, 61, 62, 63] (fun _ _ => []) (fun _ _ => [.box [.int .i64 p1.cells, .tree 1 (p1.put.map (eK .i64)), .tree 1 (p1.get.map (eK .i64)), .tree 6 (p1.steps.map ap.enc)], .box [.int .i64 0, .int .i64 0]]) (fun _ => di p1 = some r) ?_ ?_
       ·skip;refine aj [] ?_
        refine ax ?_;obtain ⟨o2, hl2, hm2⟩ := bd hm;refine aZ (S := Int) (V := Unit) (O := Unit ⊕ aq) [4, 48, 49, 50, 51, 52, 53, 54, 55, 56, 57, 58, 59, 60, 61, 62, 63] (fun x14 _ => [(4, .c (.int .i64 x14))]) (fun x14 _ => [.box [.int .i64 p1.cells, .tree 1 (p1.put.map (eK .i64)), .tree 1 (p1.get.map (eK .i64)), .tree 6 (p1.steps.map ap.enc)], .box [.int .i64 0, .int .i64 0]]) _ _ () hl2 ?_ ?_
        ·exact ls
        ·rintro x14 _ r2 hm hr2;replace hm : eg p1 x14 = some r2 := hm;refine aO ?_;unfold eg at hm;refine an fun k5 hk5 => ?_;refine aj [48, 49, 50, 51] ?_
         by_cases h18 : x14 < (p1.get.length : Int)
         ·rw [iP h18] at hm;refine ab rfl (dT h18) ?_;refine ao ?_;refine ai (hk5 _ _ ?_);refine an fun k6 hk6 => ?_;refine ax ?_;obtain ⟨hg19a, hm⟩ := gd hm;refine jQ [52, 55, 56, 57, 58, 59, 60, 61] (by kernel_rfl) [0, 0, 2, 0, 14, 30, 63, 127] [false, false, false, false, false, false, true, true] (by kernel_rfl) fun k hk => ?_;refine gax (em (eK .i64) p1.get x14.toNat) ?_;obtain ⟨y15, hc20, hm⟩ := bd hm;refine AP (fun _ => fj p1 (p1.get.getD x14.toNat default) 1 _ hc20) ?_;refine ga ?_;refine hk _ _ ?_;clear hk k
          by_cases h21 : y15 = true
          ·rw [iP h21] at hm;refine af rfl (by rw [show y15 = true from (h21)]; rfl) ?_;refine ao ?_;refine am ?_;refine ai (hk6 _ _ ?_);refine bb ?_;refine aC (IntKind.wrap .i64 (x14 + 1)) () hm ?_;exact ls
          ·rw [iN h21] at hm;refine ab rfl (by rw [show y15 = false from (fB h21)]; rfl) ?_;refine aA [1, 4, 62, 63] fun k kp hk hp => ?_;refine go ?_;obtain ⟨y16, hc22, hm⟩ := bd hm;refine RP (fun _ => bK 16 (-1) _ hc22) ?_;refine aa ?_;refine go ?_;refine hk _ _ ?_;clear hk hp k kp;have ho23 := ay hm hr2;subst ho23;replace hm : some (y16) = some r := hm2;refine ak ?_;refine ae (ag (aD (ae (av ?_))))
           cases hm
           exact kr 0
         ·rw [iN h18] at hm;refine af rfl (dF h18) ?_;refine bj ?_;have ho24 := ay hm hr2;subst ho24;replace hm : di p1 = some r := hm2;refine aV (aS (aF ?_));refine aw () () hm ?_;exact ls
       ·rintro _ _ hm;replace hm : di p1 = some r := hm;refine aO ?_;unfold di at hm;refine aP (S := Unit) (V := Unit) [1, 5, 64, 65, 66, 67, 68, 69, 70, 71, 72, 73, 74, 75, 76, 77, 78, 79, 80] (fun _ _ => []) (fun _ _ => [.box [.int .i64 p1.cells, .tree 1 (p1.put.map (eK .i64)), .tree 1 (p1.get.map (eK .i64)), .tree 6 (p1.steps.map ap.enc)], .box [.int .i64 0, .int .i64 0]]) (fun _ => ee = some r) ?_ ?_
        ·skip;refine aj [] ?_
         refine ax ?_;obtain ⟨o1, hl1, hm1⟩ := bd hm;refine aZ (S := Int) (V := Unit) (O := Unit ⊕ aq) [5, 64, 65, 66, 67, 68, 69, 70, 71, 72, 73, 74, 75, 76, 77, 78, 79, 80] (fun x8 _ => [(5, .c (.int .i64 x8))]) (fun x8 _ => [.box [.int .i64 p1.cells, .tree 1 (p1.put.map (eK .i64)), .tree 1 (p1.get.map (eK .i64)), .tree 6 (p1.steps.map ap.enc)], .box [.int .i64 0, .int .i64 0]]) _ _ () hl1 ?_ ?_
         ·exact ls
         ·rintro x8 _ r1 hm hr1;replace hm : ef p1 x8 = some r1 := hm;refine aO ?_;unfold ef at hm;refine an fun k3 hk3 => ?_;refine aj [64, 65, 66, 67] ?_
          by_cases h11 : x8 < (p1.steps.length : Int)
          ·rw [iP h11] at hm;refine ab rfl (dT h11) ?_;refine ao ?_;refine ai (hk3 _ _ ?_);refine an fun k4 hk4 => ?_;refine ax ?_;obtain ⟨hg12a, hm⟩ := gd hm;refine jQ [68, 71, 72, 73, 74, 75, 76, 77] (by kernel_rfl) [0, 0, 2, 0, 14, 30, 63, 127] [false, false, false, false, false, false, true, true] (by kernel_rfl) fun k hk => ?_;refine gax (em ap.enc p1.steps x8.toNat) ?_;obtain ⟨y9, hc13, hm⟩ := bd hm;refine AP (fun _ => oa p1 (p1.steps.getD x8.toNat default) _ hc13) ?_;refine ga ?_;refine hk _ _ ?_;clear hk k
           by_cases h14 : y9 = true
           ·rw [iP h14] at hm;refine af rfl (by rw [show y9 = true from (h14)]; rfl) ?_;refine ao ?_;refine am ?_;refine ai (hk4 _ _ ?_);refine bb ?_;refine aC (IntKind.wrap .i64 (x8 + 1)) () hm ?_;exact ls
           ·rw [iN h14] at hm;refine ab rfl (by rw [show y9 = false from (fB h14)]; rfl) ?_;refine aA [1, 5, 78, 79, 80] fun k kp hk hp => ?_;refine go ?_;obtain ⟨y10, hc15, hm⟩ := bd hm;refine RP (fun _ => bK 4 x8 _ hc15) ?_;refine aa ?_;refine go ?_;refine hk _ _ ?_;clear hk hp k kp;have ho16 := ay hm hr1;subst ho16;replace hm : some (y10) = some r := hm1;refine ak ?_;refine ae (ag (aD (ae (av ?_))))
            cases hm
            exact kr 0
          ·rw [iN h11] at hm;refine af rfl (dF h11) ?_;refine bj ?_;have ho17 := ay hm hr1;subst ho17;replace hm : ee = some r := hm1;refine aV (aS (aF ?_));refine aw () () hm ?_;exact ls
        ·rintro _ _ hm;replace hm : ee = some r := hm;refine aO ?_;unfold ee at hm;refine aj [81] ?_;refine ak ?_
         cases hm
         exact kr 0
theorem dC (p1 : aB) (p2 : List Int) (r : Bool) (hm : co p1 p2 = some r) : cr Try.prog 36 [.a [.int .i64 p1.cells, .int .i64 p1.regs, .int .i64 p1.cost, .tree 1 (p1.put.map (eK .i64)), .tree 1 (p1.bools.map (eK .i64)), .tree 1 (p1.get.map (eK .i64)), .tree 6 (p1.code.map ah.enc)], .c (.tree 1 (p2.map (eK .i64)))] (.c (.bool r)) := by
 refine aL 26 [.tmp 4] Try.func36 rfl rfl rfl (by kernel_rfl) (by simp) ?_;refine bB ?_;unfold co at hm;refine aj [0, 4] ?_;refine aP (S := Unit) (V := Unit) [1, 2, 4, 5, 6, 7, 8, 9, 10, 11, 12, 13, 14, 15, 16, 17, 18, 19, 20, 21, 22, 23, 24, 25] (fun _ _ => []) (fun _ _ => [.box [.int .i64 p1.cells, .int .i64 p1.regs, .int .i64 p1.cost, .tree 1 (p1.put.map (eK .i64)), .tree 1 (p1.bools.map (eK .i64)), .tree 1 (p1.get.map (eK .i64)), .tree 6 (p1.code.map ah.enc)]]) (fun _ => gD = some r) ?_ ?_
 ·skip;refine aj [] ?_
  refine ax ?_;obtain ⟨o1, hl1, hm1⟩ := bd hm;refine aZ (S := Int) (V := Unit) (O := Unit ⊕ Bool) [4, 5, 6, 7, 8, 9, 10, 11, 12, 13, 14, 15, 16, 17, 18, 19, 20, 21, 22, 23, 24, 25] (fun x3 _ => [(5, .c (.int .i64 x3))]) (fun x3 _ => [.box [.int .i64 p1.cells, .int .i64 p1.regs, .int .i64 p1.cost, .tree 1 (p1.put.map (eK .i64)), .tree 1 (p1.bools.map (eK .i64)), .tree 1 (p1.get.map (eK .i64)), .tree 6 (p1.code.map ah.enc)]]) _ _ () hl1 ?_ ?_
  ·exact ls
  ·rintro x3 _ r1 hm hr1;replace hm : gE p1 p2 x3 = some r1 := hm;refine aO ?_;unfold gE at hm;refine an fun k1 hk1 => ?_;refine aj [6, 7, 8] ?_
   by_cases h1 : x3 < (p2.length : Int)
   ·rw [iP h1] at hm;refine ab rfl (dT h1) ?_;refine ao ?_;refine ai (hk1 _ _ ?_);refine an fun k2 hk2 => ?_;refine ax ?_;obtain ⟨hg2a, hm⟩ := gd hm;refine jb [9, 12, 13, 14, 15, 16, 17, 18, 19, 20, 21, 22, 23, 24] (by kernel_rfl) [0, 0, 3, 7, 15, 31, 63, 63, 255, 511, 63, 1087, 4095, 8191] [false, false, true, true, true, true, false, false, false, false, false, false, true, true] (by kernel_rfl) fun k hk => ?_;refine kq 6 rfl ?_;refine gax (em (eK .i64) p2 x3.toNat) ?_
    by_cases h3 : (p2.getD x3.toNat default) < 0
    ·rw [iP h3] at hm;have h3b := dT h3;refine dX ?_;refine gax h3b ?_;refine hk _ _ ?_;clear hk k;refine ab rfl rfl ?_;refine aj [1, 2, 5, 25] ?_;have ho4 := ay hm hr1;subst ho4;replace hm : some false = some r := hm1;refine ak ?_;refine ae (ag (aD (ae (av ?_))))
     cases hm
     exact kr 0
    ·rw [iN h3] at hm;have h3b := dF h3;refine dX ?_;refine gax (a2 (em (eK .i64) p2 x3.toNat) h3b) ?_;refine hk _ _ ?_;clear hk k
     by_cases h5 : (p2.getD x3.toNat default) ≥ p1.regs
     ·rw [iP h5] at hm;refine ab rfl (dT h5) ?_;refine aj [1, 2, 5, 25] ?_;have ho6 := ay hm hr1;subst ho6;replace hm : some false = some r := hm1;refine ak ?_;refine ae (ag (aD (ae (av ?_))))
      cases hm
      exact kr 0
     ·rw [iN h5] at hm;refine af rfl (dF h5) ?_;refine ao ?_;refine am ?_;refine ai (hk2 _ _ ?_);refine bb ?_;refine aC (IntKind.wrap .i64 (x3 + 1)) () hm ?_;exact ls
   ·rw [iN h1] at hm;refine af rfl (dF h1) ?_;refine bj ?_;have ho7 := ay hm hr1;subst ho7;replace hm : gD = some r := hm1;refine aV (aS (aF ?_));refine aw () () hm ?_;exact ls
 ·rintro _ _ hm;replace hm : gD = some r := hm;refine aO ?_;unfold gD at hm;refine aj [] ?_;refine ak ?_
  cases hm
  exact kr 0
theorem pe (p1 : aB) (p2 : ah) (r : Bool) (hm : gj p1 p2 = some r) : cr Try.prog 22 [.a [.int .i64 p1.cells, .int .i64 p1.regs, .int .i64 p1.cost, .tree 1 (p1.put.map (eK .i64)), .tree 1 (p1.bools.map (eK .i64)), .tree 1 (p1.get.map (eK .i64)), .tree 6 (p1.code.map ah.enc)], .a [.int .i64 p2.op, .int .i64 p2.k, .int .i64 p2.r_, .int .i64 p2.a, .int .i64 p2.b, .int .i64 p2.n]] (.c (.bool r)) := by
 refine aL 149 [.tmp 4] Try.func22 rfl rfl rfl (by kernel_rfl) (by simp) ?_;refine bB ?_;unfold gj at hm;refine aj [0, 1, 4] ?_;refine aA [5, 6, 8, 9, 10, 11, 12, 13, 14] fun k kp hk hp => ?_;refine go ?_;obtain ⟨y1, hc1, hm⟩ := bd hm;refine RP (fun _ => kv p2.k _ hc1) ?_;refine aa ?_;refine go ?_;refine hk _ _ ?_;clear hk hp k kp;refine an fun k1 hk1 => ?_;refine aj [15] ?_;refine ax ?_;refine aj [18] ?_
 by_cases h2 : p2.op = 1
 ·rw [iP h2] at hm;refine ab rfl (eQ h2) ?_;refine aA [2, 3, 7, 16, 17, 19, 20, 21, 22, 23] fun k kp hk hp => ?_;refine go ?_;refine az (aR 2 rfl) ?_;refine gt ?_;obtain ⟨y2, hc3, hm⟩ := bd hm;refine RP (fun _ => dC p1 (lit ([p2.r_] : List Int)) _ hc3) ?_;refine aa ?_;refine go ?_;refine hk _ _ ?_;clear hk hp k kp;refine ak ?_;refine ae (ag ?_)
  cases hm
  exact kr 0
 ·rw [iN h2] at hm;refine af rfl (nB h2) ?_;refine aP (S := Bool) (V := Unit) [17, 24, 25, 26] (fun b3 _ => [(24, .c (.bool b3))]) (fun b3 _ => [.box [.int .i64 p1.cells, .int .i64 p1.regs, .int .i64 p1.cost, .tree 1 (p1.put.map (eK .i64)), .tree 1 (p1.bools.map (eK .i64)), .tree 1 (p1.get.map (eK .i64)), .tree 6 (p1.code.map ah.enc)], .box [.int .i64 p2.op, .int .i64 p2.k, .int .i64 p2.r_, .int .i64 p2.a, .int .i64 p2.b, .int .i64 p2.n]]) (fun b3 => ep p1 p2 y1 b3 = some r) ?_ ?_
  ·skip;refine aj [17, 25] ?_
   by_cases h29 : p2.op = 2
   ·rw [iP h29] at hm;refine ab rfl (eQ h29) ?_;refine ao ?_;refine aw (p2.op == 2) () hm ?_;exact ls
   ·rw [iN h29] at hm;refine af rfl (nB h29) ?_;refine bb ?_;refine aw (p2.op == 4) () hm ?_;exact ls
  ·rintro b3 _ hm;replace hm : ep p1 p2 y1 b3 = some r := hm;refine aO ?_;unfold ep at hm
   by_cases h4 : b3 = true
   ·rw [iP h4] at hm;refine ab rfl (h4) ?_;refine aA [2, 3, 7, 16, 24, 27, 28, 29, 30, 31, 32, 33, 34, 35, 36, 37, 38, 39, 40, 41, 42, 43] fun k kp hk hp => ?_;refine go ?_;refine az (aR 2 rfl) ?_;refine gt ?_;obtain ⟨y4, hc5, hm⟩ := bd hm;refine RP (fun _ => dC p1 (lit ([p2.r_] : List Int)) _ hc5) ?_
    by_cases h6 : y4 = true
    ·rw [iP h6] at hm;have h6b := h6;refine ar 6 ?_;refine gox h6b ?_
     by_cases h7 : p2.n ≥ 0
     ·rw [iP h7] at hm;have h7b := dT h7;refine aa ?_;refine gox (a2 h6b h7b) ?_;refine hk _ _ ?_;clear hk hp k kp;refine ak ?_;refine ae (ag ?_)
      cases hm
      exact kr 0
     ·rw [iN h7] at hm;have h7b := dF h7;refine aa ?_;refine gox (a2 h6b h7b) ?_;refine hk _ _ ?_;clear hk hp k kp;refine ak ?_;refine ae (ag ?_)
      cases hm
      exact kr 0
    ·rw [iN h6] at hm;have h6b := fB h6;refine aa ?_;refine gox h6b ?_;refine hk _ _ ?_;clear hk hp k kp;refine ak ?_;refine ae (ag ?_)
     cases hm
     exact kr 0
   ·rw [iN h4] at hm;refine af rfl (fB h4) ?_;refine aP (S := Bool) (V := Unit) [24, 44, 45, 46] (fun b5 _ => [(44, .c (.bool b5))]) (fun b5 _ => [.box [.int .i64 p1.cells, .int .i64 p1.regs, .int .i64 p1.cost, .tree 1 (p1.put.map (eK .i64)), .tree 1 (p1.bools.map (eK .i64)), .tree 1 (p1.get.map (eK .i64)), .tree 6 (p1.code.map ah.enc)], .box [.int .i64 p2.op, .int .i64 p2.k, .int .i64 p2.r_, .int .i64 p2.a, .int .i64 p2.b, .int .i64 p2.n]]) (fun b5 => eo p1 p2 y1 b5 = some r) ?_ ?_
    ·skip;refine aj [24, 45] ?_
     by_cases h28 : p2.op = 3
     ·rw [iP h28] at hm;refine ab rfl (eQ h28) ?_;refine ao ?_;refine aw (p2.op == 3) () hm ?_;exact ls
     ·rw [iN h28] at hm;refine af rfl (nB h28) ?_;refine bb ?_;refine aw (p2.op == 5) () hm ?_;exact ls
    ·rintro b5 _ hm;replace hm : eo p1 p2 y1 b5 = some r := hm;refine aO ?_;unfold eo at hm
     by_cases h8 : b5 = true
     ·rw [iP h8] at hm;refine ab rfl (h8) ?_;refine aA [2, 3, 7, 16, 44, 47, 48, 49, 50, 51, 52, 53, 54, 55, 56, 57, 58, 59, 60, 61, 62, 63, 64, 65, 66, 67, 68, 69, 70, 71, 72, 73, 74, 75, 76, 77, 78, 79, 80] fun k kp hk hp => ?_;refine go ?_;refine az (aR 2 rfl) ?_;refine gt ?_;obtain ⟨y6, hc9, hm⟩ := bd hm;refine RP (fun _ => dC p1 (lit ([p2.r_, p2.a] : List Int)) _ hc9) ?_
      by_cases h10 : y6 = true
      ·rw [iP h10] at hm;have h10b := h10;refine ar 6 ?_;refine gox h10b ?_
       by_cases h11 : p2.n ≥ 0
       ·rw [iP h11] at hm;have h11b := dT h11;refine ar 7 ?_;refine gox (a2 h10b h11b) ?_
        by_cases h12 : p2.n < p1.cells
        ·rw [iP h12] at hm;have h12b := dT h12;refine ar 5 ?_;refine gox (a2 h10b (a2 h11b h12b)) ?_
         by_cases h13 : p2.b ≥ 1
         ·rw [iP h13] at hm;have h13b := dT h13;refine aa ?_;refine gox (a2 h10b (a2 h11b (a2 h12b h13b))) ?_;refine hk _ _ ?_;clear hk hp k kp;refine ak ?_;refine ae (ag ?_)
          cases hm
          exact kr 0
         ·rw [iN h13] at hm;have h13b := dF h13;refine aa ?_;refine gox (a2 h10b (a2 h11b (a2 h12b h13b))) ?_;refine hk _ _ ?_;clear hk hp k kp;refine ak ?_;refine ae (ag ?_)
          cases hm
          exact kr 0
        ·rw [iN h12] at hm;have h12b := dF h12;refine aa ?_;refine gox (a2 h10b (a2 h11b h12b)) ?_;refine hk _ _ ?_;clear hk hp k kp;refine ak ?_;refine ae (ag ?_)
         cases hm
         exact kr 0
       ·rw [iN h11] at hm;have h11b := dF h11;refine aa ?_;refine gox (a2 h10b h11b) ?_;refine hk _ _ ?_;clear hk hp k kp;refine ak ?_;refine ae (ag ?_)
        cases hm
        exact kr 0
      ·rw [iN h10] at hm;have h10b := fB h10;refine aa ?_;refine gox h10b ?_;refine hk _ _ ?_;clear hk hp k kp;refine ak ?_;refine ae (ag ?_)
       cases hm
       exact kr 0
     ·rw [iN h8] at hm;refine af rfl (fB h8) ?_;refine aj [44, 82] ?_
      by_cases h14 : p2.op = 6
      ·rw [iP h14] at hm;refine ab rfl (eQ h14) ?_;refine aA [2, 3, 7, 16, 81, 83, 84, 85, 86, 87, 88, 89, 90, 91, 92, 93] fun k kp hk hp => ?_;refine go ?_;refine az (aR 2 rfl) ?_;refine gt ?_;obtain ⟨y7, hc15, hm⟩ := bd hm;refine RP (fun _ => dC p1 (lit ([p2.r_, p2.a] : List Int)) _ hc15) ?_
       by_cases h16 : y7 = true
       ·rw [iP h16] at hm;have h16b := h16;refine aa ?_;refine gox h16b ?_;refine hk _ _ ?_;clear hk hp k kp;refine ak ?_;refine ae (ag ?_)
        cases hm
        exact kr 0
       ·rw [iN h16] at hm;have h16b := fB h16;refine aa ?_;refine gox h16b ?_;refine hk _ _ ?_;clear hk hp k kp;refine ak ?_;refine ae (ag ?_)
        cases hm
        exact kr 0
      ·rw [iN h14] at hm;refine af rfl (nB h14) ?_;refine aj [81, 95] ?_
       by_cases h17 : p2.op = 7
       ·rw [iP h17] at hm;refine ab rfl (eQ h17) ?_;refine aA [2, 3, 7, 16, 94, 96, 97, 98, 99, 100, 101, 102, 103, 104, 105, 106, 107, 108] fun k kp hk hp => ?_;refine go ?_;refine az (aR 2 rfl) ?_;refine gt ?_;obtain ⟨y8, hc18, hm⟩ := bd hm;refine RP (fun _ => dC p1 (lit ([p2.r_, p2.a, p2.b] : List Int)) _ hc18) ?_
        by_cases h19 : y8 = true
        ·rw [iP h19] at hm;have h19b := h19;refine aa ?_;refine gox h19b ?_;refine hk _ _ ?_;clear hk hp k kp;refine ak ?_;refine ae (ag ?_)
         cases hm
         exact kr 0
        ·rw [iN h19] at hm;have h19b := fB h19;refine aa ?_;refine gox h19b ?_;refine hk _ _ ?_;clear hk hp k kp;refine ak ?_;refine ae (ag ?_)
         cases hm
         exact kr 0
       ·rw [iN h17] at hm;refine af rfl (nB h17) ?_;refine aj [7, 94, 110] ?_
        by_cases h20 : p2.op = 8
        ·rw [iP h20] at hm;refine ab rfl (eQ h20) ?_;refine aA [2, 3, 16, 109, 111, 112, 113, 114, 115, 116, 117, 118, 119] fun k kp hk hp => ?_;refine go ?_;refine az (aR 2 rfl) ?_;refine gt ?_;obtain ⟨y9, hc21, hm⟩ := bd hm;refine RP (fun _ => dC p1 (lit ([p2.r_, p2.a, p2.b] : List Int)) _ hc21) ?_;refine aa ?_;refine go ?_;refine hk _ _ ?_;clear hk hp k kp;refine ak ?_;refine ae (ag ?_)
         cases hm
         exact kr 0
        ·rw [iN h20] at hm;refine af rfl (nB h20) ?_;refine aj [109, 121] ?_
         by_cases h22 : p2.op = 9
         ·rw [iP h22] at hm;refine ab rfl (eQ h22) ?_;refine aA [2, 3, 16, 120, 122, 123, 124, 125, 126, 127, 128] fun k kp hk hp => ?_;refine go ?_;refine az (aR 2 rfl) ?_;refine gt ?_;obtain ⟨y10, hc23, hm⟩ := bd hm;refine RP (fun _ => dC p1 (lit ([p2.r_, p2.a] : List Int)) _ hc23) ?_;refine aa ?_;refine go ?_;refine hk _ _ ?_;clear hk hp k kp;refine ak ?_;refine ae (ag ?_)
          cases hm
          exact kr 0
         ·rw [iN h22] at hm;refine af rfl (nB h22) ?_;refine aj [16, 120, 130] ?_
          by_cases h24 : p2.op = 10
          ·rw [iP h24] at hm;refine ab rfl (eQ h24) ?_;refine aA [2, 3, 129, 131, 132, 133, 134, 135, 136, 137, 138, 139, 140, 141, 142, 143, 144, 145] fun k kp hk hp => ?_;refine go ?_;refine az (aR 2 rfl) ?_;refine gt ?_;obtain ⟨y11, hc25, hm⟩ := bd hm;refine RP (fun _ => dC p1 (lit ([p2.r_] : List Int)) _ hc25) ?_
           by_cases h26 : y11 = true
           ·rw [iP h26] at hm;have h26b := h26;refine ar 6 ?_;refine gox h26b ?_
            by_cases h27 : p2.n ≥ 1
            ·rw [iP h27] at hm;have h27b := dT h27;refine aa ?_;refine gox (a2 h26b h27b) ?_;refine hk _ _ ?_;clear hk hp k kp;refine ak ?_;refine ae (ag ?_)
             cases hm
             exact kr 0
            ·rw [iN h27] at hm;have h27b := dF h27;refine aa ?_;refine gox (a2 h26b h27b) ?_;refine hk _ _ ?_;clear hk hp k kp;refine ak ?_;refine ae (ag ?_)
             cases hm
             exact kr 0
           ·rw [iN h26] at hm;have h26b := fB h26;refine aa ?_;refine gox h26b ?_;refine hk _ _ ?_;clear hk hp k kp;refine ak ?_;refine ae (ag ?_)
            cases hm
            exact kr 0
          ·rw [iN h24] at hm;refine af rfl (nB h24) ?_;refine ao ?_;refine am ?_;refine ai (hk1 _ _ ?_);refine aj [2, 3, 129, 146, 147, 148] ?_;refine ak ?_
           cases hm
           exact kr 0
theorem od (p1 : List ah) (r : Int) (hm : iZ p1 = some r) : cr Try.prog 23 [.c (.tree 6 (p1.map ah.enc))] (.c (.int .i64 r)) := by
 refine aL 81 [.tmp 2] Try.func23 rfl rfl rfl (by kernel_rfl) (by simp) ?_;refine bB ?_;unfold iZ at hm;refine aj [2] ?_;refine aj [] ?_;refine aP (S := Int) (V := Unit) [0, 2, 3, 4, 5, 6, 7, 8, 9, 10, 11, 12, 13, 14, 15, 16, 17, 18, 19, 20, 21, 22, 23, 24, 25, 26, 27, 28, 29, 30, 31, 32, 33, 34, 35, 36, 37, 38, 39, 40, 41, 42, 43, 44, 45, 46, 47, 48, 49, 50, 51, 52, 53, 54, 55, 56, 57, 58, 59, 60, 61, 62, 63, 64, 65, 66, 67, 68, 69, 70, 71, 72, 73, 74, 75, 76, 77, 78, 79] (fun x1 _ => [(3, .c (.int .i64 x1))]) (fun x1 _ => []) (fun x1 => ew x1 = some r) ?_ ?_
 ·skip;refine aj [] ?_
  refine ax ?_;obtain ⟨o1, hl1, hm1⟩ := bd hm;refine aZ (S := (Int × Int)) (V := Unit) (O := Int ⊕ Int) [2, 3, 4, 5, 6, 7, 8, 9, 10, 11, 12, 13, 14, 15, 16, 17, 18, 19, 20, 21, 22, 23, 24, 25, 26, 27, 28, 29, 30, 31, 32, 33, 34, 35, 36, 37, 38, 39, 40, 41, 42, 43, 44, 45, 46, 47, 48, 49, 50, 51, 52, 53, 54, 55, 56, 57, 58, 59, 60, 61, 62, 63, 64, 65, 66, 67, 68, 69, 70, 71, 72, 73, 74, 75, 76, 77, 78, 79] (fun (x6, x7) _ => [(3, .c (.int .i64 x6)), (4, .c (.int .i64 x7))]) (fun (x6, x7) _ => []) _ _ () hl1 ?_ ?_
  ·exact ls
  ·rintro ⟨x6, x7⟩ _ r1 hm hr1;replace hm : ez p1 x6 x7 = some r1 := hm;refine aO ?_;unfold ez at hm;refine an fun k1 hk1 => ?_;refine aj [6, 7, 8] ?_
   by_cases h1 : x7 < (p1.length : Int)
   ·rw [iP h1] at hm;refine ab rfl (dT h1) ?_;refine ao ?_;refine ai (hk1 _ _ ?_);refine aP (S := (Int × Int)) (V := Unit) [2, 3, 4, 5, 9, 12, 13, 14, 15, 16, 17, 18, 19, 20, 21, 22, 23, 24, 25, 26, 27, 28, 29, 30, 31, 32, 33, 34, 35, 36, 37, 38, 39, 40, 41, 42, 43, 44, 45, 46, 47, 48, 49, 50, 51, 52, 53, 54, 55, 56, 57, 58, 59, 60, 61, 62, 63, 64, 65, 66, 67, 68, 69, 70, 71, 72, 73, 74, 75, 76, 77, 78, 79] (fun (x8, x9) _ => [(3, .c (.int .i64 x8)), (4, .c (.int .i64 x9))]) (fun (x8, x9) _ => []) (fun (x8, x9) => ex x8 x9 = some r1) ?_ ?_
    ·skip;refine ax ?_
     refine aj [9, 12, 13] ?_;refine an fun k2 hk2 => ?_;obtain ⟨hg2a, hm⟩ := gd hm;refine bf (em ah.enc p1 x7.toNat) [14, 15, 16, 17, 18] ?_
     by_cases h3 : ((p1.getD x7.toNat default).op) = 11
     ·rw [iP h3] at hm;refine ab rfl (eQ h3) ?_;refine aj [0, 3, 4, 19] ?_;have ho4 := ay hm hr1;subst ho4;replace hm : some 0 = some r := hm1;refine ak ?_;refine ag (ae (av (aD (ae (av ?_)))))
      cases hm
      exact kr 0
     ·rw [iN h3] at hm;refine af rfl (nB h3) ?_;refine ao ?_;refine ai (hk2 _ _ ?_);refine an fun k3 hk3 => ?_;refine bf (em ah.enc p1 x7.toNat) [19, 20, 21, 22, 23, 24] ?_
      by_cases h5 : ¬ ((p1.getD x7.toNat default).op) = 10
      ·rw [iP h5] at hm;refine ab rfl (bne_iff_ne.2 h5) ?_;refine bj ?_;refine aV (aF ?_);refine aw ((IntKind.wrap .i64 (x6 + 1)), x7) () hm ?_;exact ls
      ·rw [iN h5] at hm;refine af rfl (bne_eq_false_iff_eq.2 (Decidable.not_not.1 h5)) ?_;refine ao ?_;refine ai (hk3 _ _ ?_);refine aj [25, 26, 27] ?_;refine aP (S := Int) (V := Unit) [2, 5, 28, 29, 30, 31, 32, 33, 34, 35, 36, 37, 38, 39, 40, 41, 42, 43, 44, 45, 46, 47] (fun x10 _ => [(5, .c (.int .i64 x10))]) (fun x10 _ => []) (fun x10 => dc p1 x6 x7 x10 = some r1) ?_ ?_
       ·skip;refine ax ?_
        obtain ⟨o2, hl2, hm2⟩ := bd hm;refine aZ (S := Int) (V := Unit) (O := Int ⊕ Int) [2, 5, 28, 29, 30, 31, 32, 33, 34, 35, 36, 37, 38, 39, 40, 41, 42, 43, 44, 45, 46, 47] (fun x13 _ => [(5, .c (.int .i64 x13))]) (fun x13 _ => []) _ _ () hl2 ?_ ?_
        ·exact ls
        ·rintro x13 _ r2 hm hr2;replace hm : cI p1 x13 = some r2 := hm;refine aO ?_;unfold cI at hm;refine an fun k5 hk5 => ?_;refine dg [28, 29, 30, 31, 32, 33, 34, 35, 36, 37, 38] fun k kp hk hp => ?_;refine ar 5 ?_;refine go ?_
         by_cases h12 : x13 < (p1.length : Int)
         ·rw [iP h12] at hm;have h12b := dT h12;obtain ⟨hg13a, hm⟩ := gd hm;refine aa ?_;refine gox (a2 (em ah.enc p1 x13.toNat) h12b) ?_;refine hk _ _ ?_;clear hk hp k kp
          by_cases h14 : ¬ ((p1.getD x13.toNat default).op) = 11
          ·rw [iP h14] at hm;refine ab rfl (bne_iff_ne.2 h14) ?_;refine ao ?_;refine ai (hk5 _ _ ?_);refine ax ?_;refine an fun k6 hk6 => ?_;refine bf (em ah.enc p1 x13.toNat) [39, 40, 41, 42, 43, 44] ?_
           by_cases h15 : ((p1.getD x13.toNat default).op) = 10
           ·rw [iP h15] at hm;refine ab rfl (eQ h15) ?_;refine aj [0, 3, 4, 5, 45] ?_;have ho16 := ay hm hr2;subst ho16;replace hm : some (.inr (.inr 0)) = some r1 := hm2;have ho17 := ay hm hr1;subst ho17;replace hm : some 0 = some r := hm1;refine ak ?_;refine ag (ae (aD (ae (av (ae (av (aD (ae (av ?_)))))))))
            cases hm
            exact kr 0
           ·rw [iN h15] at hm;refine af rfl (nB h15) ?_;refine ao ?_;refine ai (hk6 _ _ ?_);refine bb ?_;refine am ?_;refine aC (IntKind.wrap .i64 (x13 + 1)) () hm ?_;exact ls
          ·rw [iN h14] at hm;refine af rfl (bne_eq_false_iff_eq.2 (Decidable.not_not.1 h14)) ?_;refine bj ?_;have ho18 := ay hm hr2;subst ho18;replace hm : dc p1 x6 x7 x13 = some r1 := hm2;refine aV (aS (aF ?_));refine aw x13 () hm ?_;exact ls
         ·rw [iN h12] at hm;have h12b := dF h12;refine aa ?_;refine gox h12b ?_;refine hk _ _ ?_;clear hk hp k kp;refine af rfl rfl ?_;refine bj ?_;have ho19 := ay hm hr2;subst ho19;replace hm : dc p1 x6 x7 x13 = some r1 := hm2;refine aV (aS (aF ?_));refine aw x13 () hm ?_;exact ls
       ·rintro x10 _ hm;replace hm : dc p1 x6 x7 x10 = some r1 := hm;refine aO ?_;unfold dc at hm;refine an fun k4 hk4 => ?_;refine dg [48, 49, 50, 51, 52, 53, 54, 55, 56, 57, 58, 59, 60, 61, 62, 63, 64, 65, 66] fun k kp hk hp => ?_;refine ar 5 ?_;refine go ?_
        by_cases h6 : x10 = (p1.length : Int)
        ·rw [iP h6] at hm;have h6b := eQ h6;refine aa ?_;refine gox h6b ?_;refine hk _ _ ?_;clear hk hp k kp;refine ab rfl rfl ?_;refine aj [0, 3, 4, 5, 67] ?_;have ho7 := ay hm hr1;subst ho7;replace hm : some 0 = some r := hm1;refine ak ?_;refine ag (ae (av (aD (ae (av ?_)))))
         cases hm
         exact kr 0
        ·rw [iN h6] at hm;have h6b := nB h6;refine ar 8 ?_;refine gox (a2 (em ah.enc p1 x7.toNat) h6b) ?_
         by_cases h8 : ((p1.getD x7.toNat default).n) < 1
         ·rw [iP h8] at hm;have h8b := dT h8;refine aa ?_;refine gox (a2 h6b h8b) ?_;refine hk _ _ ?_;clear hk hp k kp;refine ab rfl rfl ?_;refine aj [0, 3, 4, 5, 67] ?_;have ho9 := ay hm hr1;subst ho9;replace hm : some 0 = some r := hm1;refine ak ?_;refine ag (ae (av (aD (ae (av ?_)))))
          cases hm
          exact kr 0
         ·rw [iN h8] at hm;have h8b := dF h8;refine aa ?_;refine gox (a2 (em ah.enc p1 x7.toNat) (a2 h6b h8b)) ?_;refine hk _ _ ?_;clear hk hp k kp
          by_cases h10 : ((p1.getD x7.toNat default).n) > 300
          ·rw [iP h10] at hm;refine ab rfl (dT h10) ?_;refine aj [0, 3, 4, 5, 67] ?_;have ho11 := ay hm hr1;subst ho11;replace hm : some 0 = some r := hm1;refine ak ?_;refine ag (ae (av (aD (ae (av ?_)))))
           cases hm
           exact kr 0
          ·rw [iN h10] at hm;refine af rfl (dF h10) ?_;refine ao ?_;refine ai (hk4 _ _ ?_);refine bf (em ah.enc p1 x7.toNat) [4, 67, 68, 69, 70, 71, 72, 73, 74, 75, 76, 77, 78] ?_;refine bb ?_;refine am ?_;refine aw ((IntKind.wrap .i64 ((IntKind.wrap .i64 (x6 + 1)) + (IntKind.wrap .i64 (((p1.getD x7.toNat default).n) * (IntKind.wrap .i64 (x10 - x7)))))), x10) () hm ?_;exact ls
    ·rintro ⟨x8, x9⟩ _ hm;replace hm : ex x8 x9 = some r1 := hm;refine aO ?_;unfold ex at hm;refine bb ?_;refine aC (x8, (IntKind.wrap .i64 (x9 + 1))) () hm ?_;exact ls
   ·rw [iN h1] at hm;refine af rfl (dF h1) ?_;refine bj ?_;have ho20 := ay hm hr1;subst ho20;replace hm : ew x6 = some r := hm1;refine aV (aS (aF ?_));refine aw x6 () hm ?_;exact ls
 ·rintro x1 _ hm;replace hm : ew x1 = some r := hm;refine aO ?_;unfold ew at hm;refine aj [3, 80] ?_;refine ak ?_
  cases hm
  exact kr 0
theorem lV (p1 : aB) (r : aq) (hm : fU p1 = some r) : cr Try.prog 9 [.a [.int .i64 p1.cells, .int .i64 p1.regs, .int .i64 p1.cost, .tree 1 (p1.put.map (eK .i64)), .tree 1 (p1.bools.map (eK .i64)), .tree 1 (p1.get.map (eK .i64)), .tree 6 (p1.code.map ah.enc)]] (.a [.int .i64 ((r).code), .int .i64 ((r).at_)]) := by
 refine aL 127 [.cell 2 34] Try.func9 rfl rfl rfl (by kernel_rfl) (by simp) ?_;refine bB ?_;unfold fU at hm;refine aj [0] ?_;refine an fun k1 hk1 => ?_;refine dg [8, 9, 10, 11, 12, 13, 14, 15, 16, 17, 18, 19, 20, 21, 22, 23, 24] fun k kp hk hp => ?_;refine ar 4 ?_;refine go ?_
 by_cases h1 : p1.cells < 1
 ·rw [iP h1] at hm;have h1b := dT h1;refine aa ?_;refine gox h1b ?_;refine hk _ _ ?_;clear hk hp k kp;refine ab rfl rfl ?_;refine aA [1, 25, 26] fun k kp hk hp => ?_;refine go ?_;obtain ⟨y1, hc2, hm⟩ := bd hm;refine RP (fun _ => bK 13 (-1) _ hc2) ?_;refine aa ?_;refine go ?_;refine hk _ _ ?_;clear hk hp k kp;refine ak ?_;refine ag ?_
  cases hm
  exact kr 0
 ·rw [iN h1] at hm;have h1b := dF h1;refine ar 5 ?_;refine gox h1b ?_
  by_cases h3 : p1.cells > 6000
  ·rw [iP h3] at hm;have h3b := dT h3;refine aa ?_;refine gox (a2 h1b h3b) ?_;refine hk _ _ ?_;clear hk hp k kp;refine ab rfl rfl ?_;refine aA [1, 25, 26] fun k kp hk hp => ?_;refine go ?_;obtain ⟨y2, hc4, hm⟩ := bd hm;refine RP (fun _ => bK 13 (-1) _ hc4) ?_;refine aa ?_;refine go ?_;refine hk _ _ ?_;clear hk hp k kp;refine ak ?_;refine ag ?_
   cases hm
   exact kr 0
  ·rw [iN h3] at hm;have h3b := dF h3;refine ar 5 ?_;refine gox (a2 h1b h3b) ?_
   by_cases h5 : p1.regs < 1
   ·rw [iP h5] at hm;have h5b := dT h5;refine aa ?_;refine gox (a2 h1b (a2 h3b h5b)) ?_;refine hk _ _ ?_;clear hk hp k kp;refine ab rfl rfl ?_;refine aA [1, 25, 26] fun k kp hk hp => ?_;refine go ?_;obtain ⟨y3, hc6, hm⟩ := bd hm;refine RP (fun _ => bK 13 (-1) _ hc6) ?_;refine aa ?_;refine go ?_;refine hk _ _ ?_;clear hk hp k kp;refine ak ?_;refine ag ?_
    cases hm
    exact kr 0
   ·rw [iN h5] at hm;have h5b := dF h5;refine aa ?_;refine gox (a2 h1b (a2 h3b h5b)) ?_;refine hk _ _ ?_;clear hk hp k kp
    by_cases h7 : p1.regs > 40
    ·rw [iP h7] at hm;refine ab rfl (dT h7) ?_;refine aA [1, 25, 26] fun k kp hk hp => ?_;refine go ?_;obtain ⟨y4, hc8, hm⟩ := bd hm;refine RP (fun _ => bK 13 (-1) _ hc8) ?_;refine aa ?_;refine go ?_;refine hk _ _ ?_;clear hk hp k kp;refine ak ?_;refine ag ?_
     cases hm
     exact kr 0
    ·rw [iN h7] at hm;refine af rfl (dF h7) ?_;refine ao ?_;refine ai (hk1 _ _ ?_);refine an fun k2 hk2 => ?_;refine dg [25, 27, 28, 29, 30, 31, 32, 33, 34, 35, 36, 37, 38, 39, 40, 41, 42, 43, 44, 45, 46, 47] fun k kp hk hp => ?_;refine ar 5 ?_;refine go ?_
     by_cases h9 : (p1.put.length : Int) > 6000
     ·rw [iP h9] at hm;have h9b := dT h9;refine aa ?_;refine gox h9b ?_;refine hk _ _ ?_;clear hk hp k kp;refine ab rfl rfl ?_;refine aA [1, 48, 49] fun k kp hk hp => ?_;refine go ?_;obtain ⟨y5, hc10, hm⟩ := bd hm;refine RP (fun _ => bK 7 (-1) _ hc10) ?_;refine aa ?_;refine go ?_;refine hk _ _ ?_;clear hk hp k kp;refine ak ?_;refine ag ?_
      cases hm
      exact kr 0
     ·rw [iN h9] at hm;have h9b := dF h9;refine ar 6 ?_;refine gox h9b ?_
      by_cases h11 : (p1.bools.length : Int) > 6000
      ·rw [iP h11] at hm;have h11b := dT h11;refine aa ?_;refine gox (a2 h9b h11b) ?_;refine hk _ _ ?_;clear hk hp k kp;refine ab rfl rfl ?_;refine aA [1, 48, 49] fun k kp hk hp => ?_;refine go ?_;obtain ⟨y6, hc12, hm⟩ := bd hm;refine RP (fun _ => bK 7 (-1) _ hc12) ?_;refine aa ?_;refine go ?_;refine hk _ _ ?_;clear hk hp k kp;refine ak ?_;refine ag ?_
       cases hm
       exact kr 0
      ·rw [iN h11] at hm;have h11b := dF h11;refine ar 6 ?_;refine gox (a2 h9b h11b) ?_
       by_cases h13 : (p1.get.length : Int) > 120000
       ·rw [iP h13] at hm;have h13b := dT h13;refine aa ?_;refine gox (a2 h9b (a2 h11b h13b)) ?_;refine hk _ _ ?_;clear hk hp k kp;refine ab rfl rfl ?_;refine aA [1, 48, 49] fun k kp hk hp => ?_;refine go ?_;obtain ⟨y7, hc14, hm⟩ := bd hm;refine RP (fun _ => bK 7 (-1) _ hc14) ?_;refine aa ?_;refine go ?_;refine hk _ _ ?_;clear hk hp k kp;refine ak ?_;refine ag ?_
        cases hm
        exact kr 0
       ·rw [iN h13] at hm;have h13b := dF h13;refine aa ?_;refine gox (a2 h9b (a2 h11b h13b)) ?_;refine hk _ _ ?_;clear hk hp k kp
        by_cases h15 : (p1.code.length : Int) > 200000
        ·rw [iP h15] at hm;refine ab rfl (dT h15) ?_;refine aA [1, 48, 49] fun k kp hk hp => ?_;refine go ?_;obtain ⟨y8, hc16, hm⟩ := bd hm;refine RP (fun _ => bK 7 (-1) _ hc16) ?_;refine aa ?_;refine go ?_;refine hk _ _ ?_;clear hk hp k kp;refine ak ?_;refine ag ?_
         cases hm
         exact kr 0
        ·rw [iN h15] at hm;refine af rfl (dF h15) ?_;refine ao ?_;refine ai (hk2 _ _ ?_);refine aj [48, 50, 51, 52, 53, 54, 55, 56] ?_;refine gv [.box [.int .i64 p1.cells, .int .i64 p1.regs, .int .i64 p1.cost, .tree 1 (p1.put.map (eK .i64)), .tree 1 (p1.bools.map (eK .i64)), .tree 1 (p1.get.map (eK .i64)), .tree 6 (p1.code.map ah.enc)], .box [.int .i64 0, .int .i64 0], .arr 1 0 22 ((lit ([p1.put, p1.bools, p1.get] : List (List Int))).map (eL 1 (eK .i64)))] ?_;refine aP (S := Unit) (V := Unit) [3, 4, 5, 57, 58, 59, 60, 61, 62, 63, 64, 65, 66, 67, 68, 69, 70, 71, 72, 73, 74, 75, 76, 77, 78, 79, 80, 81, 82, 83, 84, 85, 86, 87, 88, 89, 90] (fun _ _ => []) (fun _ _ => [.box [.int .i64 p1.cells, .int .i64 p1.regs, .int .i64 p1.cost, .tree 1 (p1.put.map (eK .i64)), .tree 1 (p1.bools.map (eK .i64)), .tree 1 (p1.get.map (eK .i64)), .tree 6 (p1.code.map ah.enc)], .box [.int .i64 0, .int .i64 0], .arr 1 0 22 ((lit ([p1.put, p1.bools, p1.get] : List (List Int))).map (eL 1 (eK .i64)))]) (fun _ => dm p1 = some r) ?_ ?_
         ·skip;refine aj [] ?_
          refine ax ?_;obtain ⟨o2, hl2, hm2⟩ := bd hm;refine aZ (S := Int) (V := Unit) (O := Unit ⊕ aq) [3, 4, 5, 57, 58, 59, 60, 61, 62, 63, 64, 65, 66, 67, 68, 69, 70, 71, 72, 73, 74, 75, 76, 77, 78, 79, 80, 81, 82, 83, 84, 85, 86, 87, 88, 89, 90] (fun x20 _ => [(3, .c (.osl 2 0 0 3)), (4, .c (.int .i64 x20))]) (fun x20 _ => [.box [.int .i64 p1.cells, .int .i64 p1.regs, .int .i64 p1.cost, .tree 1 (p1.put.map (eK .i64)), .tree 1 (p1.bools.map (eK .i64)), .tree 1 (p1.get.map (eK .i64)), .tree 6 (p1.code.map ah.enc)], .box [.int .i64 0, .int .i64 0], .arr 1 0 22 ((lit ([p1.put, p1.bools, p1.get] : List (List Int))).map (eL 1 (eK .i64)))]) _ _ () hl2 ?_ ?_
          ·exact ls
          ·rintro x20 _ r2 hm hr2;replace hm : dr p1 x20 = some r2 := hm;refine aO ?_;unfold dr at hm;refine an fun k6 hk6 => ?_;refine aj [57] ?_
           by_cases h30 : x20 < 3
           ·rw [iP h30] at hm;refine ab rfl (dT h30) ?_;refine ao ?_;refine ai (hk6 _ _ ?_);refine aP (S := Unit) (V := Unit) [3, 5, 58, 61, 62, 63, 64, 65, 66, 67, 68, 69, 70, 71, 72, 73, 74, 75, 76, 77, 78, 79, 80, 81, 82, 83, 84, 85, 86, 87, 88, 89, 90] (fun _ _ => [(3, .c (.osl 2 0 0 3))]) (fun _ _ => [.box [.int .i64 p1.cells, .int .i64 p1.regs, .int .i64 p1.cost, .tree 1 (p1.put.map (eK .i64)), .tree 1 (p1.bools.map (eK .i64)), .tree 1 (p1.get.map (eK .i64)), .tree 6 (p1.code.map ah.enc)], .box [.int .i64 0, .int .i64 0], .arr 1 0 22 ((lit ([p1.put, p1.bools, p1.get] : List (List Int))).map (eL 1 (eK .i64)))]) (fun _ => dp x20 = some r2) ?_ ?_
            ·skip;refine ax ?_
             refine aj [58] ?_;refine ax ?_;obtain ⟨o3, hl3, hm3⟩ := bd hm;refine aZ (S := Int) (V := Unit) (O := Unit ⊕ aq) [3, 5, 61, 62, 63, 64, 65, 66, 67, 68, 69, 70, 71, 72, 73, 74, 75, 76, 77, 78, 79, 80, 81, 82, 83, 84, 85, 86, 87, 88, 89, 90] (fun x23 _ => [(3, .c (.osl 2 0 0 3)), (5, .c (.int .i64 x23))]) (fun x23 _ => [.box [.int .i64 p1.cells, .int .i64 p1.regs, .int .i64 p1.cost, .tree 1 (p1.put.map (eK .i64)), .tree 1 (p1.bools.map (eK .i64)), .tree 1 (p1.get.map (eK .i64)), .tree 6 (p1.code.map ah.enc)], .box [.int .i64 0, .int .i64 0], .arr 1 0 22 ((lit ([p1.put, p1.bools, p1.get] : List (List Int))).map (eL 1 (eK .i64)))]) _ _ () hl3 ?_ ?_
             ·exact ls
             ·rintro x23 _ r3 hm hr3;replace hm : dq p1 x20 x23 = some r3 := hm;refine aO ?_;unfold dq at hm;refine an fun k7 hk7 => ?_;obtain ⟨hg31a, hm⟩ := gd hm;refine bf (em (eL 1 (eK .i64)) (lit ([p1.put, p1.bools, p1.get] : List (List Int))) x20.toNat) [61, 62, 63, 64, 65, 66] ?_
              by_cases h32 : x23 < (((lit ([p1.put, p1.bools, p1.get] : List (List Int))).getD x20.toNat default).length : Int)
              ·rw [iP h32] at hm;refine ab rfl (dT h32) ?_;refine ao ?_;refine ai (hk7 _ _ ?_);refine an fun k8 hk8 => ?_;refine ax ?_;obtain ⟨hg33a, hm⟩ := gd hm;refine jb [67, 70, 71, 72, 73, 74, 75, 76, 77, 78, 79, 80, 81, 82, 83, 84, 85, 86, 87, 88] (by kernel_rfl) [0, 0, 3, 7, 0, 31, 63, 127, 255, 511, 511, 2047, 4095, 511, 16383, 32767, 511, 66047, 262143, 524287] [false, false, false, false, false, true, true, true, true, false, false, false, false, false, false, false, false, false, true, true] (by kernel_rfl) fun k hk => ?_;refine kq 9 rfl ?_;refine gax (a2 (em (eL 1 (eK .i64)) (lit ([p1.put, p1.bools, p1.get] : List (List Int))) x20.toNat) (em (eK .i64) ((lit ([p1.put, p1.bools, p1.get] : List (List Int))).getD x20.toNat default) x23.toNat)) ?_
               by_cases h34 : (((lit ([p1.put, p1.bools, p1.get] : List (List Int))).getD x20.toNat default).getD x23.toNat default) < 0
               ·rw [iP h34] at hm;have h34b := dT h34;refine dX ?_;refine gax h34b ?_;refine hk _ _ ?_;clear hk k;refine ab rfl rfl ?_;refine aA [1, 3, 4, 5, 89, 90] fun k kp hk hp => ?_;refine go ?_;obtain ⟨y24, hc35, hm⟩ := bd hm;refine RP (fun _ => bK 16 (-1) _ hc35) ?_;refine aa ?_;refine go ?_;refine hk _ _ ?_;clear hk hp k kp;have ho36 := ay hm hr3;subst ho36;replace hm : some (.inr (.inr (y24))) = some r2 := hm3;have ho37 := ay hm hr2;subst ho37;replace hm : some (y24) = some r := hm2;refine ak ?_;refine ae (ag (aD (ae (ae (av (aD (ae (av ?_))))))))
                cases hm
                exact kr 0
               ·rw [iN h34] at hm;have h34b := dF h34;refine dX ?_;refine gax (a2 (em (eL 1 (eK .i64)) (lit ([p1.put, p1.bools, p1.get] : List (List Int))) x20.toNat) (a2 (em (eK .i64) ((lit ([p1.put, p1.bools, p1.get] : List (List Int))).getD x20.toNat default) x23.toNat) h34b)) ?_;refine hk _ _ ?_;clear hk k
                by_cases h38 : (((lit ([p1.put, p1.bools, p1.get] : List (List Int))).getD x20.toNat default).getD x23.toNat default) ≥ p1.cells
                ·rw [iP h38] at hm;refine ab rfl (dT h38) ?_;refine aA [1, 3, 4, 5, 89, 90] fun k kp hk hp => ?_;refine go ?_;obtain ⟨y25, hc39, hm⟩ := bd hm;refine RP (fun _ => bK 16 (-1) _ hc39) ?_;refine aa ?_;refine go ?_;refine hk _ _ ?_;clear hk hp k kp;have ho40 := ay hm hr3;subst ho40;replace hm : some (.inr (.inr (y25))) = some r2 := hm3;have ho41 := ay hm hr2;subst ho41;replace hm : some (y25) = some r := hm2;refine ak ?_;refine ae (ag (aD (ae (ae (av (aD (ae (av ?_))))))))
                 cases hm
                 exact kr 0
                ·rw [iN h38] at hm;refine af rfl (dF h38) ?_;refine ao ?_;refine am ?_;refine ai (hk8 _ _ ?_);refine bb ?_;refine aC (IntKind.wrap .i64 (x23 + 1)) () hm ?_;exact ls
              ·rw [iN h32] at hm;refine af rfl (dF h32) ?_;refine bj ?_;have ho42 := ay hm hr3;subst ho42;replace hm : dp x20 = some r2 := hm3;refine aV (aS (aF (am ?_)));refine aw () () hm ?_;exact ls
            ·rintro _ _ hm;replace hm : dp x20 = some r2 := hm;refine aO ?_;unfold dp at hm;refine bb ?_;refine aC (IntKind.wrap .i64 (x20 + 1)) () hm ?_;exact ls
           ·rw [iN h30] at hm;refine af rfl (dF h30) ?_;refine bj ?_;have ho43 := ay hm hr2;subst ho43;replace hm : dm p1 = some r := hm2;refine aV (aS (aF ?_));refine aw () () hm ?_;exact ls
         ·rintro _ _ hm;replace hm : dm p1 = some r := hm;refine aO ?_;unfold dm at hm;refine aP (S := Unit) (V := Unit) [6, 91, 92, 93, 94, 95, 96, 97, 98, 99, 100, 101, 102, 103, 104, 105, 106, 107] (fun _ _ => []) (fun _ _ => [.box [.int .i64 p1.cells, .int .i64 p1.regs, .int .i64 p1.cost, .tree 1 (p1.put.map (eK .i64)), .tree 1 (p1.bools.map (eK .i64)), .tree 1 (p1.get.map (eK .i64)), .tree 6 (p1.code.map ah.enc)], .box [.int .i64 0, .int .i64 0], .arr 1 0 22 ((lit ([p1.put, p1.bools, p1.get] : List (List Int))).map (eL 1 (eK .i64)))]) (fun _ => dk p1 = some r) ?_ ?_
          ·skip;refine aj [] ?_
           refine ax ?_;obtain ⟨o1, hl1, hm1⟩ := bd hm;refine aZ (S := Int) (V := Unit) (O := Unit ⊕ aq) [6, 91, 92, 93, 94, 95, 96, 97, 98, 99, 100, 101, 102, 103, 104, 105, 106, 107] (fun x14 _ => [(6, .c (.int .i64 x14))]) (fun x14 _ => [.box [.int .i64 p1.cells, .int .i64 p1.regs, .int .i64 p1.cost, .tree 1 (p1.put.map (eK .i64)), .tree 1 (p1.bools.map (eK .i64)), .tree 1 (p1.get.map (eK .i64)), .tree 6 (p1.code.map ah.enc)], .box [.int .i64 0, .int .i64 0], .arr 1 0 22 ((lit ([p1.put, p1.bools, p1.get] : List (List Int))).map (eL 1 (eK .i64)))]) _ _ () hl1 ?_ ?_
           ·exact ls
           ·rintro x14 _ r1 hm hr1;replace hm : dl p1 x14 = some r1 := hm;refine aO ?_;unfold dl at hm;refine an fun k4 hk4 => ?_;refine aj [91, 92, 93, 94] ?_
            by_cases h23 : x14 < (p1.code.length : Int)
            ·rw [iP h23] at hm;refine ab rfl (dT h23) ?_;refine ao ?_;refine ai (hk4 _ _ ?_);refine an fun k5 hk5 => ?_;refine ax ?_;obtain ⟨hg24a, hm⟩ := gd hm;refine jQ [95, 98, 99, 100, 101, 102, 103, 104] (by kernel_rfl) [0, 0, 2, 0, 14, 30, 63, 127] [false, false, false, false, false, false, true, true] (by kernel_rfl) fun k hk => ?_;refine gax (em ah.enc p1.code x14.toNat) ?_;obtain ⟨y15, hc25, hm⟩ := bd hm;refine AP (fun _ => pe p1 (p1.code.getD x14.toNat default) _ hc25) ?_;refine ga ?_;refine hk _ _ ?_;clear hk k
             by_cases h26 : y15 = true
             ·rw [iP h26] at hm;refine af rfl (by rw [show y15 = true from (h26)]; rfl) ?_;refine ao ?_;refine am ?_;refine ai (hk5 _ _ ?_);refine bb ?_;refine aC (IntKind.wrap .i64 (x14 + 1)) () hm ?_;exact ls
             ·rw [iN h26] at hm;refine ab rfl (by rw [show y15 = false from (fB h26)]; rfl) ?_;refine aA [1, 6, 105, 106, 107] fun k kp hk hp => ?_;refine go ?_;obtain ⟨y16, hc27, hm⟩ := bd hm;refine RP (fun _ => bK 4 x14 _ hc27) ?_;refine aa ?_;refine go ?_;refine hk _ _ ?_;clear hk hp k kp;have ho28 := ay hm hr1;subst ho28;replace hm : some (y16) = some r := hm1;refine ak ?_;refine ae (ag (aD (ae (av ?_))))
              cases hm
              exact kr 0
            ·rw [iN h23] at hm;refine af rfl (dF h23) ?_;refine bj ?_;have ho29 := ay hm hr1;subst ho29;replace hm : dk p1 = some r := hm1;refine aV (aS (aF ?_));refine aw () () hm ?_;exact ls
          ·rintro _ _ hm;replace hm : dk p1 = some r := hm;refine aO ?_;unfold dk at hm;refine aA [108, 109, 110] fun k kp hk hp => ?_;refine go ?_;obtain ⟨y9, hc17, hm⟩ := bd hm;refine RP (fun _ => od p1.code _ hc17) ?_;refine aa ?_;refine go ?_;refine hk _ _ ?_;clear hk hp k kp;refine an fun k3 hk3 => ?_;refine dg [1, 7, 111, 112, 113, 114, 115, 116, 117, 118, 119, 120, 121, 122, 123] fun k kp hk hp => ?_;refine ar 5 ?_;refine go ?_
           by_cases h18 : ¬ p1.cost = y9
           ·rw [iP h18] at hm;have h18b := bne_iff_ne.2 h18;refine aa ?_;refine gox h18b ?_;refine hk _ _ ?_;clear hk hp k kp;refine ab rfl rfl ?_;refine aA [124, 125] fun k kp hk hp => ?_;refine go ?_;obtain ⟨y10, hc19, hm⟩ := bd hm;refine RP (fun _ => bK 18 (-1) _ hc19) ?_;refine aa ?_;refine go ?_;refine hk _ _ ?_;clear hk hp k kp;refine ak ?_;refine ag ?_
            cases hm
            exact kr 0
           ·rw [iN h18] at hm;have h18b : (p1.cost != y9) = false := bne_eq_false_iff_eq.2 (Decidable.not_not.1 h18)
            by_cases h20 : y9 = 0
            ·rw [iP h20] at hm;have h20b := eQ h20;refine aa ?_;refine gox (a2 h18b h20b) ?_;refine hk _ _ ?_;clear hk hp k kp
             by_cases h21 : (p1.code.length : Int) > 0
             ·rw [iP h21] at hm;refine ab rfl (dT h21) ?_;refine aA [124, 125] fun k kp hk hp => ?_;refine go ?_;obtain ⟨y11, hc22, hm⟩ := bd hm;refine RP (fun _ => bK 18 (-1) _ hc22) ?_;refine aa ?_;refine go ?_;refine hk _ _ ?_;clear hk hp k kp;refine ak ?_;refine ag ?_
              cases hm
              exact kr 0
             ·rw [iN h21] at hm;refine af rfl (dF h21) ?_;refine ao ?_;refine ai (hk3 _ _ ?_);refine aj [124, 126] ?_;refine ak ?_
              cases hm
              exact kr 0
            ·rw [iN h20] at hm;have h20b := nB h20;refine aa ?_;refine gox (a2 h18b h20b) ?_;refine hk _ _ ?_;clear hk hp k kp;refine af rfl rfl ?_;refine ao ?_;refine ai (hk3 _ _ ?_);refine aj [124, 126] ?_;refine ak ?_
             cases hm
             exact kr 0
theorem lW (p1 : aE) (r : (Int × (List Int) × (List Int) × (List ap) × (List Int))) (hm : hO p1 = some r) : fJ Try.prog 10 [.a [.int .i64 p1.cells, .tree 1 (p1.put.map (eK .i64)), .tree 1 (p1.get.map (eK .i64)), .tree 6 (p1.steps.map ap.enc)]] [] (fun p σ => (p = .c (.optr 0 0) ∧ σ = [.box [.int .i64 r.1, .tree 1 (r.2.1.map (eK .i64)), .tree 1 (r.2.2.1.map (eK .i64)), .tree 6 (r.2.2.2.1.map ap.enc), .osl 1 1 0 r.2.2.2.2.length], .arr 1 1 2 (r.2.2.2.2.map (eK .i64))])) (fun _ _ => False) := by
 refine aL 9 [.tmp 2] Try.func10 rfl rfl rfl (by kernel_rfl) (by simp) ?_;refine bB ?_;unfold hO at hm;refine aj [0, 2] ?_;obtain ⟨⟨hg1a, ⟨hg1bx, hg1by⟩⟩, hm⟩ := gd hm;refine rO [1, 3, 4, 5, 6, 7, 8] [0, 0, 2, 6, 15, 31, 63] [false, false, false, false, true, true, true] ?_;refine gv [.box [.int .i64 p1.cells, .tree 1 (p1.put.map (eK .i64)), .tree 1 (p1.get.map (eK .i64)), .tree 6 (p1.steps.map ap.enc)], .arr 1 0 2 ((List.replicate p1.cells.toNat 0).map (eK .i64)), .box [.int .i64 p1.cells, .tree 1 (p1.put.map (eK .i64)), .tree 1 (p1.get.map (eK .i64)), .tree 6 (p1.steps.map ap.enc), .osl 1 0 0 p1.cells.toNat]] ?_;refine d6 (jx 1 2 (by decide)) ?_;simp only [bZ, bL, reduceIte, ↓reduceIte, reduceCtorEq, Int.reduceToNat, Nat.reduceDiv, Nat.reduceMod, Nat.reduceLT, Nat.reduceLeDiff, Nat.reduceAdd, Nat.reduceSub, Nat.reduceMul, Nat.reduceEqDiff, Nat.reduceBEq, Nat.reduceBNe, Nat.reduceGT, List.length_cons, List.length_nil, List.length_append, List.cons_append, List.nil_append];refine jU (jv 3 1 (by decide) rfl rfl) ?_;refine jU (ny 0 (by simp)) ?_;refine jU (iU 0 2 (by decide) (Nat.le_of_ble_eq_true rfl) (Nat.le_of_ble_eq_true rfl) rfl rfl) ?_;refine jU (iU 1 3 (by decide) (Nat.le_of_ble_eq_true rfl) (Nat.le_of_ble_eq_true rfl) rfl rfl) ?_;refine ak ?_
 cases hm
 exact kr 2
theorem mt (p1 : aB) (r : (Int × Int × Int × (List Int) × (List Int) × (List Int) × (List ah) × Int × (List Int))) (hm : ip p1 = some r) : fJ Try.prog 11 [.a [.int .i64 p1.cells, .int .i64 p1.regs, .int .i64 p1.cost, .tree 1 (p1.put.map (eK .i64)), .tree 1 (p1.bools.map (eK .i64)), .tree 1 (p1.get.map (eK .i64)), .tree 6 (p1.code.map ah.enc)]] [] (fun p σ => (p = .c (.optr 0 0) ∧ σ = [.box [.int .i64 r.1, .int .i64 r.2.1, .int .i64 r.2.2.1, .tree 1 (r.2.2.2.1.map (eK .i64)), .tree 1 (r.2.2.2.2.1.map (eK .i64)), .tree 1 (r.2.2.2.2.2.1.map (eK .i64)), .tree 6 (r.2.2.2.2.2.2.1.map ah.enc), .osl 1 1 0 r.2.2.2.2.2.2.2.2.length, .int .i64 r.2.2.2.2.2.2.2.1], .arr 1 1 2 (r.2.2.2.2.2.2.2.2.map (eK .i64))])) (fun _ _ => False) := by
 refine aL 9 [.tmp 2] Try.func11 rfl rfl rfl (by kernel_rfl) (by simp) ?_;refine bB ?_;unfold ip at hm;refine aj [0, 2] ?_;obtain ⟨⟨hg1a, ⟨hg1bx, hg1by⟩⟩, hm⟩ := gd hm;refine rO [1, 3, 4, 5, 6, 7, 8] [0, 0, 2, 6, 15, 31, 63] [false, false, false, false, true, true, true] ?_;refine gv [.box [.int .i64 p1.cells, .int .i64 p1.regs, .int .i64 p1.cost, .tree 1 (p1.put.map (eK .i64)), .tree 1 (p1.bools.map (eK .i64)), .tree 1 (p1.get.map (eK .i64)), .tree 6 (p1.code.map ah.enc)], .arr 1 0 2 ((List.replicate p1.cells.toNat 0).map (eK .i64)), .box [.int .i64 p1.cells, .int .i64 p1.regs, .int .i64 p1.cost, .tree 1 (p1.put.map (eK .i64)), .tree 1 (p1.bools.map (eK .i64)), .tree 1 (p1.get.map (eK .i64)), .tree 6 (p1.code.map ah.enc), .osl 1 0 0 p1.cells.toNat, .int .i64 0]] ?_;refine d6 (jx 1 2 (by decide)) ?_;simp only [bZ, bL, reduceIte, ↓reduceIte, reduceCtorEq, Int.reduceToNat, Nat.reduceDiv, Nat.reduceMod, Nat.reduceLT, Nat.reduceLeDiff, Nat.reduceAdd, Nat.reduceSub, Nat.reduceMul, Nat.reduceEqDiff, Nat.reduceBEq, Nat.reduceBNe, Nat.reduceGT, List.length_cons, List.length_nil, List.length_append, List.cons_append, List.nil_append];refine jU (jv 3 1 (by decide) rfl rfl) ?_;refine jU (ny 0 (by simp)) ?_;refine jU (iU 0 2 (by decide) (Nat.le_of_ble_eq_true rfl) (Nat.le_of_ble_eq_true rfl) rfl rfl) ?_;refine jU (iU 1 3 (by decide) (Nat.le_of_ble_eq_true rfl) (Nat.le_of_ble_eq_true rfl) rfl rfl) ?_;refine ak ?_
 cases hm
 exact kr 2
theorem hP (p1 : Int) (p2 : Int) (p3 : Int) (r : Int) (hm : aI p1 p2 p3 = some r) : cr Try.prog 25 [.c (.int .i64 p1), .c (.int .i64 p2), .c (.int .i64 p3)] (.c (.int .i64 r)) := by
 refine aL 106 [.tmp 6] Try.func25 rfl rfl rfl (by kernel_rfl) (by simp) ?_;refine bB ?_;unfold aI at hm;refine aj [6] ?_;refine aj [] ?_;refine aP (S := Bool) (V := Unit) [0, 1, 2, 6, 7, 8, 9, 10, 11, 12, 13, 14, 15, 16, 17, 18, 19, 20, 21, 22, 23, 24, 25, 26, 27, 28, 29, 30, 31, 32, 33, 34, 35, 36, 37, 38, 39, 40, 41, 42, 43, 44, 45, 46, 47, 48, 49, 50, 51, 52, 53, 54, 55, 56, 57, 58, 59, 60, 61, 62, 63, 64, 65, 66, 67, 68, 69, 70, 71, 72, 73, 74, 75, 76, 77, 78, 79, 80, 81, 82, 83, 84, 85, 86, 87, 88, 89, 90, 91, 92, 93, 94, 95, 96, 97, 98, 99, 100, 101, 102, 103, 104] (fun b1 _ => [(7, .c (.bool b1))]) (fun b1 _ => []) (fun b1 => aH b1 = some r) ?_ ?_
 ·skip;refine aj [0] ?_
  refine ax ?_;refine aj [10] ?_
  by_cases h2 : p1 = 1
  ·rw [iP h2] at hm;refine ab rfl (eQ h2) ?_;refine aj [1, 2, 7, 8, 9, 11, 12, 13] ?_;refine ak ?_;refine ae (av ?_)
   cases hm
   exact kr 0
  ·rw [iN h2] at hm;refine af rfl (nB h2) ?_;refine aj [9, 15] ?_
   by_cases h3 : p1 = 2
   ·rw [iP h3] at hm;refine ab rfl (eQ h3) ?_;refine aj [1, 2, 7, 8, 14, 16, 17, 18] ?_;refine ak ?_;refine ae (av ?_)
    cases hm
    exact kr 0
   ·rw [iN h3] at hm;refine af rfl (nB h3) ?_;refine aj [14, 20] ?_
    by_cases h4 : p1 = 3
    ·rw [iP h4] at hm;refine ab rfl (eQ h4) ?_;refine aj [1, 2, 7, 8, 19, 21, 22, 23] ?_;refine ak ?_;refine ae (av ?_)
     cases hm
     exact kr 0
    ·rw [iN h4] at hm;refine af rfl (nB h4) ?_;refine aj [19, 25] ?_
     by_cases h5 : p1 = 13
     ·rw [iP h5] at hm;refine ab rfl (eQ h5) ?_;refine aj [1, 2, 7, 8, 24, 26, 27] ?_;refine ak ?_;refine ae (av ?_)
      cases hm
      exact kr 0
     ·rw [iN h5] at hm;refine af rfl (nB h5) ?_;refine aj [24, 29] ?_
      by_cases h6 : p1 = 4
      ·rw [iP h6] at hm;refine ab rfl (eQ h6) ?_;refine an fun k2 hk2 => ?_;refine aj [7, 8, 28, 30] ?_
       by_cases h7 : p3 = 0
       ·rw [iP h7] at hm;refine ab rfl (eQ h7) ?_;refine aj [1, 2, 31] ?_;refine ak ?_;refine ag (ae (av ?_))
        cases hm
        exact kr 0
       ·rw [iN h7] at hm;refine af rfl (nB h7) ?_;refine ao ?_;refine ai (hk2 _ _ ?_);refine an fun k3 hk3 => ?_;refine aj [31, 32] ?_
        by_cases h8 : p3 = (-1)
        ·rw [iP h8] at hm;refine ab rfl (eQ h8) ?_;refine aj [1, 2, 33, 34, 35] ?_;refine ak ?_;refine ag (ae (av ?_))
         cases hm
         exact kr 0
        ·rw [iN h8] at hm;refine af rfl (nB h8) ?_;refine ao ?_;refine ai (hk3 _ _ ?_);obtain ⟨hg9a, hm⟩ := gd hm;refine aj [1, 2, 33, 36, 37, 38] ?_;refine ak ?_;refine ae (av ?_)
         cases hm
         exact kr 0
      ·rw [iN h6] at hm;refine af rfl (nB h6) ?_;refine aj [28, 40] ?_
       by_cases h10 : p1 = 5
       ·rw [iP h10] at hm;refine ab rfl (eQ h10) ?_;refine an fun k4 hk4 => ?_
        by_cases h11 : p3 = 0
        ·rw [iP h11] at hm;have h11b := eQ h11;refine bf h11b [7, 8, 39, 41, 42, 43, 44, 45] ?_;refine ab rfl rfl ?_;refine aj [1, 2, 46] ?_;refine ak ?_;refine ag (ae (av ?_))
         cases hm
         exact kr 0
        ·rw [iN h11] at hm;have h11b := nB h11;refine bf h11b [7, 8, 39, 41, 42, 43, 44, 45] ?_
         by_cases h12 : p3 = (-1)
         ·rw [iP h12] at hm;refine ab rfl (eQ h12) ?_;refine aj [1, 2, 46] ?_;refine ak ?_;refine ag (ae (av ?_))
          cases hm
          exact kr 0
         ·rw [iN h12] at hm;refine af rfl (nB h12) ?_;refine ao ?_;refine ai (hk4 _ _ ?_);obtain ⟨hg13a, hm⟩ := gd hm;refine aj [1, 2, 46, 47, 48, 49, 50, 51, 52, 53] ?_;refine ak ?_;refine ae (av ?_)
          cases hm
          exact kr 0
       ·rw [iN h10] at hm;refine af rfl (nB h10) ?_;refine aj [39, 55] ?_
        by_cases h14 : p1 = 6
        ·rw [iP h14] at hm;refine ab rfl (eQ h14) ?_;refine an fun k5 hk5 => ?_;refine aj [7, 8, 54, 56, 57] ?_
         by_cases h15 : p3 < p2
         ·rw [iP h15] at hm;refine ab rfl (dT h15) ?_;refine aj [1, 2, 58, 59] ?_;refine ak ?_;refine ag (ae (av ?_))
          cases hm
          exact kr 0
         ·rw [iN h15] at hm;refine af rfl (dF h15) ?_;refine ao ?_;refine ai (hk5 _ _ ?_);refine aj [1, 2, 58, 60] ?_;refine ak ?_;refine ae (av ?_)
          cases hm
          exact kr 0
        ·rw [iN h14] at hm;refine af rfl (nB h14) ?_;refine aj [54, 62] ?_
         by_cases h16 : p1 = 7
         ·rw [iP h16] at hm;refine ab rfl (eQ h16) ?_;refine an fun k6 hk6 => ?_;refine aj [7, 8, 61, 63, 64] ?_
          by_cases h17 : p3 > p2
          ·rw [iP h17] at hm;refine ab rfl (dT h17) ?_;refine aj [1, 2, 65, 66] ?_;refine ak ?_;refine ag (ae (av ?_))
           cases hm
           exact kr 0
          ·rw [iN h17] at hm;refine af rfl (dF h17) ?_;refine ao ?_;refine ai (hk6 _ _ ?_);refine aj [1, 2, 65, 67] ?_;refine ak ?_;refine ae (av ?_)
           cases hm
           exact kr 0
         ·rw [iN h16] at hm;refine af rfl (nB h16) ?_;refine aj [61, 69] ?_
          by_cases h18 : p1 = 8
          ·rw [iP h18] at hm;refine ab rfl (eQ h18) ?_;refine bb ?_;refine am ?_;refine aw (decide (p2 < p3)) () hm ?_;exact ls
          ·rw [iN h18] at hm;refine af rfl (nB h18) ?_;refine aj [68, 74] ?_
           by_cases h19 : p1 = 9
           ·rw [iP h19] at hm;refine ab rfl (eQ h19) ?_;refine bb ?_;refine am ?_;refine aw (p2 == p3) () hm ?_;exact ls
           ·rw [iN h19] at hm;refine af rfl (nB h19) ?_;refine aj [73, 79] ?_
            by_cases h20 : p1 = 10
            ·rw [iP h20] at hm;refine ab rfl (eQ h20) ?_
             by_cases h21 : ¬ p2 = 0
             ·rw [iP h21] at hm;have h21b := bne_iff_ne.2 h21;refine pE h21b ?_;refine am ?_;refine aw (p3 != 0) () hm ?_;exact ls
             ·rw [iN h21] at hm;have h21b : (p2 != 0) = false := bne_eq_false_iff_eq.2 (Decidable.not_not.1 h21);refine pE h21b ?_;refine am ?_;refine aw false () hm ?_;exact ls
            ·rw [iN h20] at hm;refine af rfl (nB h20) ?_;refine aj [78, 87] ?_
             by_cases h22 : p1 = 11
             ·rw [iP h22] at hm;refine ab rfl (eQ h22) ?_
              by_cases h23 : ¬ p2 = 0
              ·rw [iP h23] at hm;have h23b := bne_iff_ne.2 h23;refine pE h23b ?_;refine am ?_;refine aw true () hm ?_;exact ls
              ·rw [iN h23] at hm;have h23b : (p2 != 0) = false := bne_eq_false_iff_eq.2 (Decidable.not_not.1 h23);refine pE h23b ?_;refine am ?_;refine aw (p3 != 0) () hm ?_;exact ls
             ·rw [iN h22] at hm;refine af rfl (nB h22) ?_;refine aj [86, 95] ?_
              by_cases h24 : p1 = 12
              ·rw [iP h24] at hm;refine ab rfl (eQ h24) ?_;refine bb ?_;refine am ?_;refine aw (!((p2 == 0) == (p3 == 0))) () hm ?_;exact ls
              ·rw [iN h24] at hm;refine af rfl (nB h24) ?_;refine aj [2, 8, 94, 102] ?_
               by_cases h25 : p1 = 14
               ·rw [iP h25] at hm;refine ab rfl (eQ h25) ?_;refine bb ?_;refine am ?_;refine aw (p2 == 0) () hm ?_;exact ls
               ·rw [iN h25] at hm;refine af rfl (nB h25) ?_;refine ao ?_;refine am ?_;refine aw false () hm ?_;exact ls
 ·rintro b1 _ hm;replace hm : aH b1 = some r := hm;refine aO ?_;unfold aH at hm;refine an fun k1 hk1 => ?_;refine aj [7] ?_
  by_cases h1 : b1 = true
  ·rw [iP h1] at hm;refine ab rfl (h1) ?_;refine aj [105] ?_;refine ak ?_;refine ag ?_
   cases hm
   exact kr 0
  ·rw [iN h1] at hm;refine af rfl (fB h1) ?_;refine ao ?_;refine ai (hk1 _ _ ?_);refine aj [105] ?_;refine ak ?_
   cases hm
   exact kr 0
theorem oe (p1 : Nat) (p2 : Nat) (p3 : Int) (p4 : Int) (p5 : List Int) (v0_ : Nat) (r : Int) (hm : jV p1 p2 p3 p4 p5 = some r) : fJ Try.prog 47 [.c (.osl 0 v0_ p2 p1), .c (.int .i64 p3), .c (.int .i64 p4)] [.arr 1 v0_ 2 (p5.map (eK .i64))] (fun p σ => (p = .c (.int .i64 r) ∧ σ = [.arr 1 v0_ 2 (p5.map (eK .i64))])) (fun _ _ => False) := by
 refine aL 20 [.tmp 6] Try.func47 rfl rfl rfl (by kernel_rfl) (by simp) ?_;refine bB ?_;unfold jV at hm;refine aj [6] ?_;refine an fun k1 hk1 => ?_
 by_cases h1 : p3 ≥ 0
 ·rw [iP h1] at hm;have h1b := dT h1;refine bf h1b [7, 8, 9, 10, 11, 12, 13] ?_
  by_cases h2 : p3 < (p1 : Int)
  ·rw [iP h2] at hm;refine ab rfl (dT h2) ?_;obtain ⟨⟨hg3a, hg3b⟩, hm⟩ := gd hm;refine bf (em (eK .i64) p5 (p2 + p3.toNat)) [0, 1, 2, 14, 15, 16, 17, 18] ?_;refine ak ?_;refine ag ?_
   cases hm
   exact kr 1
  ·rw [iN h2] at hm;refine af rfl (dF h2) ?_;refine ao ?_;refine ai (hk1 _ _ ?_);refine aj [0, 1, 2, 14, 19] ?_;refine ak ?_
   cases hm
   exact kr 1
 ·rw [iN h1] at hm;have h1b := dF h1;refine bf h1b [7, 8, 9, 10, 11, 12, 13] ?_;refine af rfl rfl ?_;refine ao ?_;refine ai (hk1 _ _ ?_);refine aj [0, 1, 2, 14, 19] ?_;refine ak ?_
  cases hm
  exact kr 1
theorem ka (rcf : (List au) → Int → Int → Int → (List Int) → (List Int) → (List ap) → (List Int) → Option (Int × Int)) (hrec : ∀ (p1 : List au) (p2 : Int) (p3 : Int) (p4 : Int) (p5 : List Int) (p6 : List Int) (p7 : List ap) (p8 : List Int) (v1_ : Nat) (r : (Int × Int)), rcf p1 p2 p3 p4 p5 p6 p7 p8 = some r → fJ Try.prog 37 [.c (.optr 0 0), .c (.tree 4 (p1.map au.enc)), .c (.int .i64 p2), .c (.int .i64 p3)] [.box [.int .i64 p4, .tree 1 (p5.map (eK .i64)), .tree 1 (p6.map (eK .i64)), .tree 6 (p7.map ap.enc), .osl 1 v1_ 0 p8.length], .arr 1 v1_ 2 (p8.map (eK .i64))] (fun p σ => (p = .t [.c (.int .i64 r.1), .c (.int .i64 r.2)] ∧ σ = [.box [.int .i64 p4, .tree 1 (p5.map (eK .i64)), .tree 1 (p6.map (eK .i64)), .tree 6 (p7.map ap.enc), .osl 1 v1_ 0 p8.length], .arr 1 v1_ 2 (p8.map (eK .i64))])) (fun _ _ => False)) (p1 : List au) (p2 : Int) (p3 : Int) (p4 : Int) (p5 : List Int) (p6 : List Int) (p7 : List ap) (p8 : List Int) (v1_ : Nat) (r : (Int × Int)) (hm : aU rcf p1 p2 p3 p4 p5 p6 p7 p8 = some r) : fJ Try.prog 37 [.c (.optr 0 0), .c (.tree 4 (p1.map au.enc)), .c (.int .i64 p2), .c (.int .i64 p3)] [.box [.int .i64 p4, .tree 1 (p5.map (eK .i64)), .tree 1 (p6.map (eK .i64)), .tree 6 (p7.map ap.enc), .osl 1 v1_ 0 p8.length], .arr 1 v1_ 2 (p8.map (eK .i64))] (fun p σ => (p = .t [.c (.int .i64 r.1), .c (.int .i64 r.2)] ∧ σ = [.box [.int .i64 p4, .tree 1 (p5.map (eK .i64)), .tree 1 (p6.map (eK .i64)), .tree 6 (p7.map ap.enc), .osl 1 v1_ 0 p8.length], .arr 1 v1_ 2 (p8.map (eK .i64))])) (fun _ _ => False) := by
 refine aL 140 [.tmp 8, .tmp 9] Try.func37 rfl rfl rfl (by kernel_rfl) (by simp) ?_;refine bB ?_;unfold aU at hm;refine aj [8, 9] ?_;obtain ⟨hg1a, hm⟩ := gd hm;refine bf (em au.enc p1 p2.toNat) [19, 20, 21, 22] ?_;refine an fun k1 hk1 => ?_;refine aj [23] ?_;refine ax ?_;refine aj [26] ?_
 by_cases h2 : ((p1.getD p2.toNat default).op) = 1
 ·rw [iP h2] at hm;refine ab rfl (eQ h2) ?_;refine aj [0, 1, 2, 3, 10, 24, 25, 27, 28, 29, 30] ?_;refine ak ?_;refine ae (ag ?_)
  cases hm
  exact kr 2
 ·rw [iN h2] at hm;refine af rfl (nB h2) ?_;refine aj [25, 32] ?_
  by_cases h3 : ((p1.getD p2.toNat default).op) = 2
  ·rw [iP h3] at hm;refine ab rfl (eQ h3) ?_;obtain ⟨hg4a, hm⟩ := gd hm;refine pF (em (eK .i64) p8 (((p1.getD p2.toNat default).v).toNat)) [0, 1, 2, 3, 10, 24, 31, 33, 34, 35, 36, 37, 38, 39, 40, 41, 42] [0, 1, 3, 7, 0, 16, 63, 127, 0, 256, 255, 2047] [false, false, false, false, false, false, false, false, false, false, false, true] ?_;refine ak ?_;refine ae (ag ?_)
   cases hm
   exact kr 2
  ·rw [iN h3] at hm;refine af rfl (nB h3) ?_;refine aj [31, 44] ?_
   by_cases h5 : ((p1.getD p2.toNat default).op) = 3
   ·rw [iP h5] at hm;refine ab rfl (eQ h5) ?_;obtain ⟨hg6a, hm⟩ := gd hm;refine pF (em (eK .i64) p8 ((IntKind.wrap .i64 (((p1.getD p2.toNat default).v) + p3)).toNat)) [0, 1, 2, 3, 10, 24, 43, 45, 46, 47, 48, 49, 50, 51, 52, 53, 54, 55, 56] [0, 1, 3, 7, 0, 16, 0, 112, 255, 511, 0, 1024, 1023, 8191] [false, false, false, false, false, false, false, false, false, false, false, false, false, true] ?_;refine ak ?_;refine ae (ag ?_)
    cases hm
    exact kr 2
   ·rw [iN h5] at hm;refine af rfl (nB h5) ?_;refine aj [43, 58] ?_
    by_cases h7 : ((p1.getD p2.toNat default).op) = 4
    ·rw [iP h7] at hm;refine ab rfl (eQ h7) ?_;refine aj [0, 1, 2, 3, 10, 24, 57, 59, 60, 61, 62, 63, 64] ?_;refine ak ?_;refine ae (ag ?_)
     cases hm
     exact kr 2
    ·rw [iN h7] at hm;refine af rfl (nB h7) ?_;refine aj [24, 57, 66] ?_
     by_cases h8 : ((p1.getD p2.toNat default).op) = 5
     ·rw [iP h8] at hm;refine ab rfl (eQ h8) ?_;refine aA [0, 1, 2, 3, 65, 67, 68, 69, 70, 71, 72, 73, 74, 75] fun k kp hk hp => ?_;refine go ?_;obtain ⟨y1, hc9, hm⟩ := bd hm;refine RA (hrec p1 (IntKind.wrap .i64 (p2 - 1)) p3 p4 p5 p6 p7 p8 v1_ _ hc9) [0, 1] ?_;rintro p σ' ⟨rfl, rfl⟩ _;refine aa ?_;refine go ?_;refine hk _ _ ?_;clear hk hp k kp;refine aA [10, 11, 12, 76, 77, 78, 79, 80] fun k kp hk hp => ?_;refine go ?_;obtain ⟨y2, hc11, hm⟩ := bd hm;refine RP (fun _ => hP ((p1.getD p2.toNat default).k) y1.1 0 _ hc11) ?_;refine aa ?_;refine go ?_;refine hk _ _ ?_;clear hk hp k kp;refine ak ?_;refine ae (ag ?_)
      cases hm
      exact kr 2
     ·rw [iN h8] at hm;refine af rfl (nB h8) ?_;refine ao ?_;refine am ?_;refine ai (hk1 _ _ ?_);refine aA [2, 65, 81, 82, 83, 84, 85, 86, 87, 88, 89] fun k kp hk hp => ?_;refine go ?_;obtain ⟨y3, hc12, hm⟩ := bd hm;refine RA (hrec p1 (IntKind.wrap .i64 (p2 - 1)) p3 p4 p5 p6 p7 p8 v1_ _ hc12) [0, 1] ?_;rintro p σ' ⟨rfl, rfl⟩ _;refine aa ?_;refine go ?_;refine hk _ _ ?_;clear hk hp k kp;refine aA [14, 90, 91, 92, 93, 94, 95, 96, 97] fun k kp hk hp => ?_;refine go ?_;obtain ⟨y4, hc14, hm⟩ := bd hm;refine RA (hrec p1 y3.2 p3 p4 p5 p6 p7 p8 v1_ _ hc14) [0, 1] ?_;rintro p σ' ⟨rfl, rfl⟩ _;refine aa ?_;refine go ?_;refine hk _ _ ?_;clear hk hp k kp;refine an fun k2 hk2 => ?_;refine aj [98] ?_;refine ax ?_;refine aj [101] ?_
      by_cases h16 : ((p1.getD p2.toNat default).op) = 6
      ·rw [iP h16] at hm;refine ab rfl (eQ h16) ?_;refine aA [0, 1, 3, 10, 13, 15, 16, 99, 100, 102, 103, 104, 105, 106, 107] fun k kp hk hp => ?_;refine go ?_;obtain ⟨y5, hc17, hm⟩ := bd hm;refine RP (fun _ => hP ((p1.getD p2.toNat default).k) y4.1 y3.1 _ hc17) ?_;refine aa ?_;refine go ?_;refine hk _ _ ?_;clear hk hp k kp;refine ak ?_;refine ae (ag ?_)
       cases hm
       exact kr 2
      ·rw [iN h16] at hm;refine af rfl (nB h16) ?_;refine aj [99, 100, 109] ?_
       by_cases h18 : ((p1.getD p2.toNat default).op) = 8
       ·rw [iP h18] at hm;refine ab rfl (eQ h18) ?_;obtain ⟨hg19a, hm⟩ := gd hm;refine jQ [0, 1, 3, 10, 13, 15, 16, 108, 110, 111, 112, 113, 114, 115, 116, 117, 118, 119, 120, 121, 122, 123, 124, 125] (by kernel_rfl) [0, 1, 3, 7, 0, 16, 0, 64, 0, 256, 960, 2047, 0, 0, 16383, 0, 32767, 131071] [false, false, false, false, false, false, false, false, false, false, false, false, false, false, false, false, false, true] (by kernel_rfl) fun k hk => ?_;refine ga ?_;obtain ⟨y6, hc20, hm⟩ := bd hm;refine ca (σ2 := [.box [.int .i64 p4, .tree 1 (p5.map (eK .i64)), .tree 1 (p6.map (eK .i64)), .tree 6 (p7.map ap.enc), .osl 1 v1_ 0 p8.length], .arr 1 v1_ 2 (p8.map (eK .i64)), .box [.int .i64 ((p1.getD p2.toNat default).op), .int .i64 ((p1.getD p2.toNat default).k), .int .i64 ((p1.getD p2.toNat default).v), .int .i64 ((p1.getD p2.toNat default).n)]]) (res := .c (.int .i64 y6)) (ct [1] (oe (((IntKind.wrap .i64 (((p1.getD p2.toNat default).v) + ((p1.getD p2.toNat default).n))).toNat) - (((p1.getD p2.toNat default).v).toNat)) (((p1.getD p2.toNat default).v).toNat) y4.1 y3.1 p8 v1_ _ hc20)) ?_;refine ga ?_;refine hk _ _ ?_;clear hk k;refine ak ?_;refine ae (ag ?_)
        cases hm
        exact kr 2
       ·rw [iN h18] at hm;refine af rfl (nB h18) ?_;refine ao ?_;refine am ?_;refine ai (hk2 _ _ ?_);refine aA [0, 1, 3, 10, 16, 108, 126, 127, 128, 129, 130, 131, 132, 133] fun k kp hk hp => ?_;refine go ?_;obtain ⟨y7, hc21, hm⟩ := bd hm;refine RA (hrec p1 y4.2 p3 p4 p5 p6 p7 p8 v1_ _ hc21) [0, 1] ?_;rintro p σ' ⟨rfl, rfl⟩ _;refine aa ?_;refine go ?_;refine hk _ _ ?_;clear hk hp k kp;refine an fun k3 hk3 => ?_;refine aj [17, 134] ?_
        by_cases h23 : ¬ y7.1 = 0
        ·rw [iP h23] at hm;refine ab rfl (bne_iff_ne.2 h23) ?_;refine aj [13, 15, 18, 135, 136, 137] ?_;refine ak ?_;refine ag ?_
         cases hm
         exact kr 2
        ·rw [iN h23] at hm;refine af rfl (bne_eq_false_iff_eq.2 (Decidable.not_not.1 h23)) ?_;refine ao ?_;refine ai (hk3 _ _ ?_);refine aj [13, 15, 18, 135, 138, 139] ?_;refine ak ?_
         cases hm
         exact kr 2
theorem kR (fuel : Nat) (p1 : List au) (p2 : Int) (p3 : Int) (p4 : Int) (p5 : List Int) (p6 : List Int) (p7 : List ap) (p8 : List Int) (v1_ : Nat) (r : (Int × Int)) (hm : ig fuel p1 p2 p3 p4 p5 p6 p7 p8 = some r) : fJ Try.prog 37 [.c (.optr 0 0), .c (.tree 4 (p1.map au.enc)), .c (.int .i64 p2), .c (.int .i64 p3)] [.box [.int .i64 p4, .tree 1 (p5.map (eK .i64)), .tree 1 (p6.map (eK .i64)), .tree 6 (p7.map ap.enc), .osl 1 v1_ 0 p8.length], .arr 1 v1_ 2 (p8.map (eK .i64))] (fun p σ => (p = .t [.c (.int .i64 r.1), .c (.int .i64 r.2)] ∧ σ = [.box [.int .i64 p4, .tree 1 (p5.map (eK .i64)), .tree 1 (p6.map (eK .i64)), .tree 6 (p7.map ap.enc), .osl 1 v1_ 0 p8.length], .arr 1 v1_ 2 (p8.map (eK .i64))])) (fun _ _ => False) := by
  have key : ∀ (n : Nat) (p1 : List au) (p2 : Int) (p3 : Int) (p4 : Int) (p5 : List Int) (p6 : List Int) (p7 : List ap) (p8 : List Int) (v1_ : Nat) (r : (Int × Int)), bl n p1 p2 p3 p4 p5 p6 p7 p8 = some r → fJ Try.prog 37 [.c (.optr 0 0), .c (.tree 4 (p1.map au.enc)), .c (.int .i64 p2), .c (.int .i64 p3)] [.box [.int .i64 p4, .tree 1 (p5.map (eK .i64)), .tree 1 (p6.map (eK .i64)), .tree 6 (p7.map ap.enc), .osl 1 v1_ 0 p8.length], .arr 1 v1_ 2 (p8.map (eK .i64))] (fun p σ => (p = .t [.c (.int .i64 r.1), .c (.int .i64 r.2)] ∧ σ = [.box [.int .i64 p4, .tree 1 (p5.map (eK .i64)), .tree 1 (p6.map (eK .i64)), .tree 6 (p7.map ap.enc), .osl 1 v1_ 0 p8.length], .arr 1 v1_ 2 (p8.map (eK .i64))])) (fun _ _ => False) := by
    intro n
    induction n with
    | zero =>
      intro p1 p2 p3 p4 p5 p6 p7 p8 v1_ r hm;simp [bl] at hm
    | succ n ih =>
      intro p1 p2 p3 p4 p5 p6 p7 p8 v1_ r hm;exact ka (bl n) ih p1 p2 p3 p4 p5 p6 p7 p8 v1_ r hm
  exact key fuel p1 p2 p3 p4 p5 p6 p7 p8 v1_ r hm
theorem eE (fuel : Nat) (p1 : List au) (p2 : Int) (p3 : Int) (p4 : List Int) (p5 : List Int) (p6 : List ap) (p7 : List Int) (v1_ : Nat) (r : Int) (hm : b8 fuel p1 p2 p3 p4 p5 p6 p7 = some r) : fJ Try.prog 24 [.c (.optr 0 0), .c (.tree 4 (p1.map au.enc)), .c (.int .i64 p2)] [.box [.int .i64 p3, .tree 1 (p4.map (eK .i64)), .tree 1 (p5.map (eK .i64)), .tree 6 (p6.map ap.enc), .osl 1 v1_ 0 p7.length], .arr 1 v1_ 2 (p7.map (eK .i64))] (fun p σ => (p = .c (.int .i64 r) ∧ σ = [.box [.int .i64 p3, .tree 1 (p4.map (eK .i64)), .tree 1 (p5.map (eK .i64)), .tree 6 (p6.map ap.enc), .osl 1 v1_ 0 p7.length], .arr 1 v1_ 2 (p7.map (eK .i64))])) (fun _ _ => False) := by
 refine aL 20 [.tmp 6] Try.func24 rfl rfl rfl (by kernel_rfl) (by simp) ?_;refine bB ?_;unfold b8 at hm;refine aj [6] ?_;refine aA [0, 1, 2, 8, 9, 10, 11, 12, 13, 14, 15, 16, 17, 18] fun k kp hk hp => ?_;refine go ?_;obtain ⟨y1, hc1, hm⟩ := bd hm;refine RA (kR fuel p1 (IntKind.wrap .i64 ((p1.length : Int) - 1)) p2 p3 p4 p5 p6 p7 v1_ _ hc1) [0, 1] ?_;rintro p σ' ⟨rfl, rfl⟩ _;refine aa ?_;refine go ?_;refine hk _ _ ?_;clear hk hp k kp;refine aj [7, 19] ?_;refine ak ?_
 cases hm
 exact kr 2
theorem lC (fuel : Nat) (p1 : List Int) (p2 : Int) (p3 : List Int) (p4 : List Int) (p5 : List ap) (p6 : List Int) (v1_ : Nat) (r : ((List Int) × (List Int))) (hm : fo fuel p1 p2 p3 p4 p5 p6 = some r) : fJ Try.prog 12 [.c (.optr 0 0), .c (.tree 1 (p1.map (eK .i64)))] [.box [.int .i64 p2, .tree 1 (p3.map (eK .i64)), .tree 1 (p4.map (eK .i64)), .tree 6 (p5.map ap.enc), .osl 1 v1_ 0 p6.length], .arr 1 v1_ 2 (p6.map (eK .i64))] (fun p σ => (p = .c (.tree 1 (r.1.map (eK .i64))) ∧ σ = [.box [.int .i64 p2, .tree 1 (p3.map (eK .i64)), .tree 1 (p4.map (eK .i64)), .tree 6 (p5.map ap.enc), .osl 1 v1_ 0 r.2.length], .arr 1 v1_ 2 (r.2.map (eK .i64))])) (fun _ _ => False) := by
 refine aL 162 [.tmp 4] Try.func12 rfl rfl rfl (by kernel_rfl) (by simp) ?_;refine bB ?_;unfold fo at hm;refine aj [4] ?_;refine aP (S := (List Int)) (V := Unit) [1, 5, 13, 14, 15, 16, 17, 18, 19, 20, 21, 22, 23, 24, 25, 26, 27, 28, 29, 30, 31, 32, 33, 34, 35] (fun l2 _ => []) (fun l2 _ => [.box [.int .i64 p2, .tree 1 (p3.map (eK .i64)), .tree 1 (p4.map (eK .i64)), .tree 6 (p5.map ap.enc), .osl 1 v1_ 0 l2.length], .arr 1 v1_ 2 (l2.map (eK .i64))]) (fun l2 => cX fuel p2 p3 p4 p5 l2 = some r) ?_ ?_
 ·skip;refine aj [] ?_
  refine ax ?_;obtain ⟨o5, hl5, hm5⟩ := bd hm;refine aZ (S := ((List Int) × Int)) (V := Unit) (O := (List Int)) [5, 13, 14, 15, 16, 17, 18, 19, 20, 21, 22, 23, 24, 25, 26, 27, 28, 29, 30, 31, 32, 33, 34, 35] (fun (l76, x77) _ => [(5, .c (.int .i64 x77))]) (fun (l76, x77) _ => [.box [.int .i64 p2, .tree 1 (p3.map (eK .i64)), .tree 1 (p4.map (eK .i64)), .tree 6 (p5.map ap.enc), .osl 1 v1_ 0 l76.length], .arr 1 v1_ 2 (l76.map (eK .i64))]) _ _ () hl5 ?_ ?_
  ·exact ls
  ·rintro ⟨l76, x77⟩ _ r5 hm hr5;replace hm : bW p1 p3 l76 x77 = some r5 := hm;refine aO ?_;unfold bW at hm;refine an fun k8 hk8 => ?_;refine aj [13, 14, 15] ?_
   by_cases h25 : x77 < (p1.length : Int)
   ·rw [iP h25] at hm;refine ab rfl (dT h25) ?_;refine ao ?_;refine ai (hk8 _ _ ?_);refine an fun k9 hk9 => ?_;refine ax ?_;obtain ⟨⟨hg26a, hg26b, hg26c⟩, hm⟩ := gd hm;refine ja (a2 (em (eK .i64) p3 x77.toNat) (a2 (em (eK .i64) p1 x77.toNat) (em (eK .i64) l76 ((p3.getD x77.toNat default).toNat)))) [0, 1, 3, 7, 0, 16, 48, 112, 240, 0, 1008, 2032, 0, 0, 12288, 28672, 65535, 131071] [false, false, false, false, false, false, false, false, false, false, false, false, false, false, false, false, true, true] ?_;refine am ?_;refine ai (hk9 _ _ ?_);refine bb ?_;refine aC ((l76.set ((p3.getD x77.toNat default).toNat) (p1.getD x77.toNat default)), (IntKind.wrap .i64 (x77 + 1))) () hm ?_;exact ls
   ·rw [iN h25] at hm;refine af rfl (dF h25) ?_;refine bj ?_;have ho27 := ay hm hr5;subst ho27;replace hm : cX fuel p2 p3 p4 p5 l76 = some r := hm5;refine aV (aS (aF ?_));refine aw l76 () hm ?_;exact ls
 ·rintro l2 _ hm;replace hm : cX fuel p2 p3 p4 p5 l2 = some r := hm;refine aO ?_;unfold cX at hm;refine aP (S := (List Int)) (V := Unit) [6, 7, 8, 9, 10, 36, 37, 38, 39, 40, 41, 42, 43, 44, 45, 46, 47, 48, 49, 50, 51, 52, 53, 54, 55, 56, 57, 58, 59, 60, 61, 62, 63, 64, 65, 66, 67, 68, 69, 70, 71, 72, 73, 74, 75, 76, 77, 78, 79, 80, 81, 82, 83, 84, 85, 86, 87, 88, 89, 90, 91, 92, 93, 94, 95, 96, 97, 98, 99, 100, 101, 102, 103, 104, 105, 106, 107, 108, 109, 110, 111, 112, 113, 114, 115, 116, 117, 118, 119, 120, 121, 122, 123, 124, 125, 126, 127, 128, 129, 130, 131, 132, 133] (fun l4 _ => []) (fun l4 _ => [.box [.int .i64 p2, .tree 1 (p3.map (eK .i64)), .tree 1 (p4.map (eK .i64)), .tree 6 (p5.map ap.enc), .osl 1 v1_ 0 l4.length], .arr 1 v1_ 2 (l4.map (eK .i64))]) (fun l4 => cV p4 l4 = some r) ?_ ?_
  ·skip;refine aj [] ?_
   refine ax ?_;obtain ⟨o2, hl2, hm2⟩ := bd hm;refine aZ (S := ((List Int) × Int)) (V := Unit) (O := (List Int)) [6, 7, 8, 9, 10, 36, 37, 38, 39, 40, 41, 42, 43, 44, 45, 46, 47, 48, 49, 50, 51, 52, 53, 54, 55, 56, 57, 58, 59, 60, 61, 62, 63, 64, 65, 66, 67, 68, 69, 70, 71, 72, 73, 74, 75, 76, 77, 78, 79, 80, 81, 82, 83, 84, 85, 86, 87, 88, 89, 90, 91, 92, 93, 94, 95, 96, 97, 98, 99, 100, 101, 102, 103, 104, 105, 106, 107, 108, 109, 110, 111, 112, 113, 114, 115, 116, 117, 118, 119, 120, 121, 122, 123, 124, 125, 126, 127, 128, 129, 130, 131, 132, 133] (fun (l32, x33) _ => [(6, .c (.int .i64 x33))]) (fun (l32, x33) _ => [.box [.int .i64 p2, .tree 1 (p3.map (eK .i64)), .tree 1 (p4.map (eK .i64)), .tree 6 (p5.map ap.enc), .osl 1 v1_ 0 l32.length], .arr 1 v1_ 2 (l32.map (eK .i64))]) _ _ () hl2 ?_ ?_
   ·exact ls
   ·rintro ⟨l32, x33⟩ _ r2 hm hr2;replace hm : bV fuel p2 p3 p4 p5 l32 x33 = some r2 := hm;refine aO ?_;unfold bV at hm;refine an fun k3 hk3 => ?_;refine aj [36, 37, 38, 39, 40, 41, 42] ?_
    by_cases h4 : x33 < (p5.length : Int)
    ·rw [iP h4] at hm;refine ab rfl (dT h4) ?_;refine ao ?_;refine ai (hk3 _ _ ?_);refine aP (S := (List Int)) (V := Unit) [7, 8, 9, 10, 43, 46, 47, 48, 49, 50, 51, 52, 53, 54, 55, 56, 57, 58, 59, 60, 61, 62, 63, 64, 65, 66, 67, 68, 69, 70, 71, 72, 73, 74, 75, 76, 77, 78, 79, 80, 81, 82, 83, 84, 85, 86, 87, 88, 89, 90, 91, 92, 93, 94, 95, 96, 97, 98, 99, 100, 101, 102, 103, 104, 105, 106, 107, 108, 109, 110, 111, 112, 113, 114, 115, 116, 117, 118, 119, 120, 121, 122, 123, 124, 125, 126, 127, 128, 129, 130, 131, 132, 133] (fun l35 _ => []) (fun l35 _ => [.box [.int .i64 p2, .tree 1 (p3.map (eK .i64)), .tree 1 (p4.map (eK .i64)), .tree 6 (p5.map ap.enc), .osl 1 v1_ 0 l35.length], .arr 1 v1_ 2 (l35.map (eK .i64))]) (fun l35 => bm x33 l35 = some r2) ?_ ?_
     ·skip;refine ax ?_
      obtain ⟨hg5a, hm⟩ := gd hm;refine bf (em ap.enc p5 x33.toNat) [43, 46, 47, 48, 49, 50, 51, 52, 53] ?_;refine aj [54] ?_;refine ax ?_;refine aj [100] ?_
      by_cases h6 : ((p5.getD x33.toNat default).op) = 1
      ·rw [iP h6] at hm;refine ab rfl (eQ h6) ?_;refine pC (by kernel_rfl) [0, 1, 3, 7, 0, 16, 0, 0, 128, 448, 1023, 2047] [false, false, false, false, false, false, false, false, false, false, true, true] (by kernel_rfl) fun k hk => ?_;refine ga ?_;obtain ⟨y36, hc7, hm⟩ := bd hm;refine ca (σ2 := [.box [.int .i64 p2, .tree 1 (p3.map (eK .i64)), .tree 1 (p4.map (eK .i64)), .tree 6 (p5.map ap.enc), .osl 1 v1_ 0 l32.length], .arr 1 v1_ 2 (l32.map (eK .i64)), .box [.int .i64 ((p5.getD x33.toNat default).op), .int .i64 ((p5.getD x33.toNat default).k), .int .i64 ((p5.getD x33.toNat default).n), .int .i64 ((p5.getD x33.toNat default).to), .tree 4 (((p5.getD x33.toNat default).f).map au.enc), .tree 4 (((p5.getD x33.toNat default).e).map au.enc)]]) (res := .c (.int .i64 y36)) (ct [0, 1] (eE fuel ((p5.getD x33.toNat default).e) 0 p2 p3 p4 p5 l32 v1_ _ hc7)) ?_;obtain ⟨hg8a, hm⟩ := gd hm;refine gax (em (eK .i64) l32 (((p5.getD x33.toNat default).to).toNat)) ?_;refine hk _ _ ?_;clear hk k;refine am (am ?_);refine aw (l32.set (((p5.getD x33.toNat default).to).toNat) y36) () hm ?_;exact ls
      ·rw [iN h6] at hm;refine af rfl (nB h6) ?_;refine aj [55, 99, 113] ?_
       by_cases h9 : ((p5.getD x33.toNat default).op) = 2
       ·rw [iP h9] at hm;refine ab rfl (eQ h9) ?_;refine aj [112] ?_;refine ax ?_;obtain ⟨o3, hl3, hm3⟩ := bd hm;refine aZ (S := ((List Int) × Int)) (V := Unit) (O := (List Int)) [8, 114, 115, 116, 117, 118, 119, 120, 121, 122, 123, 124, 125, 126, 127, 128, 129, 130, 131, 132, 133] (fun (l44, x45) _ => [(8, .c (.int .i64 x45))]) (fun (l44, x45) _ => [.box [.int .i64 p2, .tree 1 (p3.map (eK .i64)), .tree 1 (p4.map (eK .i64)), .tree 6 (p5.map ap.enc), .osl 1 v1_ 0 l44.length], .arr 1 v1_ 2 (l44.map (eK .i64)), .box [.int .i64 ((p5.getD x33.toNat default).op), .int .i64 ((p5.getD x33.toNat default).k), .int .i64 ((p5.getD x33.toNat default).n), .int .i64 ((p5.getD x33.toNat default).to), .tree 4 (((p5.getD x33.toNat default).f).map au.enc), .tree 4 (((p5.getD x33.toNat default).e).map au.enc)]]) _ _ () hl3 ?_ ?_
        ·exact ls
        ·rintro ⟨l44, x45⟩ _ r3 hm hr3;replace hm : bQ fuel p2 p3 p4 p5 x33 l44 x45 = some r3 := hm;refine aO ?_;unfold bQ at hm;refine an fun k4 hk4 => ?_;refine aj [114, 115, 116] ?_
         by_cases h10 : x45 < ((p5.getD x33.toNat default).n)
         ·rw [iP h10] at hm;refine ab rfl (dT h10) ?_;refine ao ?_;refine ai (hk4 _ _ ?_);refine an fun k5 hk5 => ?_;refine ax ?_;refine pC (by kernel_rfl) [0, 1, 3, 7, 0, 16, 0, 112, 0, 0, 512, 0, 3840, 8191, 16383] [false, false, false, false, false, false, false, false, false, false, false, false, false, true, true] (by kernel_rfl) fun k hk => ?_;refine ga ?_;obtain ⟨y46, hc11, hm⟩ := bd hm;refine ca (σ2 := [.box [.int .i64 p2, .tree 1 (p3.map (eK .i64)), .tree 1 (p4.map (eK .i64)), .tree 6 (p5.map ap.enc), .osl 1 v1_ 0 l44.length], .arr 1 v1_ 2 (l44.map (eK .i64)), .box [.int .i64 ((p5.getD x33.toNat default).op), .int .i64 ((p5.getD x33.toNat default).k), .int .i64 ((p5.getD x33.toNat default).n), .int .i64 ((p5.getD x33.toNat default).to), .tree 4 (((p5.getD x33.toNat default).f).map au.enc), .tree 4 (((p5.getD x33.toNat default).e).map au.enc)]]) (res := .c (.int .i64 y46)) (ct [0, 1] (eE fuel ((p5.getD x33.toNat default).e) x45 p2 p3 p4 p5 l44 v1_ _ hc11)) ?_;obtain ⟨hg12a, hm⟩ := gd hm;refine gax (em (eK .i64) l44 ((IntKind.wrap .i64 (((p5.getD x33.toNat default).to) + x45)).toNat)) ?_;refine hk _ _ ?_;clear hk k;refine am ?_;refine ai (hk5 _ _ ?_);refine bb ?_;refine aC ((l44.set ((IntKind.wrap .i64 (((p5.getD x33.toNat default).to) + x45)).toNat) y46), (IntKind.wrap .i64 (x45 + 1))) () hm ?_;exact ls
         ·rw [iN h10] at hm;refine af rfl (dF h10) ?_;refine bj ?_;have ho13 := ay hm hr3;subst ho13;replace hm : bm x33 l44 = some r2 := hm3;refine aV (aS (aF (am (am ?_))));refine aw l44 () hm ?_;exact ls
       ·rw [iN h9] at hm;refine af rfl (nB h9) ?_;refine aA [56, 57, 58, 59, 112] fun k kp hk hp => ?_;refine go ?_;obtain ⟨y48, hc14, hm⟩ := bd hm;refine RA (eE fuel ((p5.getD x33.toNat default).f) 0 p2 p3 p4 p5 l32 v1_ _ hc14) [0, 1] ?_;rintro p σ' ⟨rfl, rfl⟩ _;refine aa ?_;refine go ?_;refine hk _ _ ?_;clear hk hp k kp;refine aP (S := ((List Int) × Int)) (V := Unit) [9, 10, 60, 61, 62, 63, 64, 65, 66, 67, 68, 69, 70, 71, 72, 73, 74, 75, 76, 77, 78, 79, 80, 81, 82, 83, 84, 85, 86, 87] (fun (l50, x51) _ => [(9, .c (.int .i64 x51))]) (fun (l50, x51) _ => [.box [.int .i64 p2, .tree 1 (p3.map (eK .i64)), .tree 1 (p4.map (eK .i64)), .tree 6 (p5.map ap.enc), .osl 1 v1_ 0 l50.length], .arr 1 v1_ 2 (l50.map (eK .i64)), .box [.int .i64 ((p5.getD x33.toNat default).op), .int .i64 ((p5.getD x33.toNat default).k), .int .i64 ((p5.getD x33.toNat default).n), .int .i64 ((p5.getD x33.toNat default).to), .tree 4 (((p5.getD x33.toNat default).f).map au.enc), .tree 4 (((p5.getD x33.toNat default).e).map au.enc)]]) (fun (l50, x51) => cW p5 x33 l50 x51 = some r2) ?_ ?_
        ·skip;refine aj [] ?_
         refine ax ?_;obtain ⟨o4, hl4, hm4⟩ := bd hm;refine aZ (S := ((List Int) × Int × Int)) (V := Unit) (O := ((List Int) × Int)) [9, 10, 60, 61, 62, 63, 64, 65, 66, 67, 68, 69, 70, 71, 72, 73, 74, 75, 76, 77, 78, 79, 80, 81, 82, 83, 84, 85, 86, 87] (fun (l61, x62, x63) _ => [(9, .c (.int .i64 x62)), (10, .c (.int .i64 x63))]) (fun (l61, x62, x63) _ => [.box [.int .i64 p2, .tree 1 (p3.map (eK .i64)), .tree 1 (p4.map (eK .i64)), .tree 6 (p5.map ap.enc), .osl 1 v1_ 0 l61.length], .arr 1 v1_ 2 (l61.map (eK .i64)), .box [.int .i64 ((p5.getD x33.toNat default).op), .int .i64 ((p5.getD x33.toNat default).k), .int .i64 ((p5.getD x33.toNat default).n), .int .i64 ((p5.getD x33.toNat default).to), .tree 4 (((p5.getD x33.toNat default).f).map au.enc), .tree 4 (((p5.getD x33.toNat default).e).map au.enc)]]) _ _ () hl4 ?_ ?_
         ·exact ls
         ·rintro ⟨l61, x62, x63⟩ _ r4 hm hr4;replace hm : bU fuel p2 p3 p4 p5 x33 l61 x62 x63 = some r4 := hm;refine aO ?_;unfold bU at hm;refine an fun k6 hk6 => ?_;refine aj [60, 61, 62] ?_
          by_cases h18 : x63 < ((p5.getD x33.toNat default).n)
          ·rw [iP h18] at hm;refine ab rfl (dT h18) ?_;refine ao ?_;refine ai (hk6 _ _ ?_);refine an fun k7 hk7 => ?_;refine ax ?_;refine jQ [63, 66, 67, 68, 69, 70, 71, 72, 73, 74] (by kernel_rfl) [0, 1, 0, 0, 0, 16, 0, 120, 255, 511] [false, false, false, false, false, false, false, false, true, true] (by kernel_rfl) fun k hk => ?_;refine ga ?_;obtain ⟨y64, hc19, hm⟩ := bd hm;refine ca (σ2 := [.box [.int .i64 p2, .tree 1 (p3.map (eK .i64)), .tree 1 (p4.map (eK .i64)), .tree 6 (p5.map ap.enc), .osl 1 v1_ 0 l61.length], .arr 1 v1_ 2 (l61.map (eK .i64)), .box [.int .i64 ((p5.getD x33.toNat default).op), .int .i64 ((p5.getD x33.toNat default).k), .int .i64 ((p5.getD x33.toNat default).n), .int .i64 ((p5.getD x33.toNat default).to), .tree 4 (((p5.getD x33.toNat default).f).map au.enc), .tree 4 (((p5.getD x33.toNat default).e).map au.enc)]]) (res := .c (.int .i64 y64)) (ct [0, 1] (eE fuel ((p5.getD x33.toNat default).e) x63 p2 p3 p4 p5 l61 v1_ _ hc19)) ?_;refine ga ?_;obtain ⟨y65, hc20, hm⟩ := bd hm;refine AP (fun _ => hP ((p5.getD x33.toNat default).k) x62 y64 _ hc20) ?_;refine ga ?_;refine hk _ _ ?_;clear hk k;refine aj [75, 76] ?_
           by_cases h21 : ((p5.getD x33.toNat default).op) = 4
           ·rw [iP h21] at hm;refine ab rfl (eQ h21) ?_;obtain ⟨hg22a, hm⟩ := gd hm;refine ja (em (eK .i64) l61 ((IntKind.wrap .i64 (((p5.getD x33.toNat default).to) + x63)).toNat)) [0, 1, 3, 7, 0, 16, 0, 112, 0, 511, 1023] [false, false, false, false, false, false, false, false, false, true, true] ?_;refine am ?_;refine ai (hk7 _ _ ?_);refine bb ?_;refine aC ((l61.set ((IntKind.wrap .i64 (((p5.getD x33.toNat default).to) + x63)).toNat) y65), y65, (IntKind.wrap .i64 (x63 + 1))) () hm ?_;exact ls
           ·rw [iN h21] at hm;refine af rfl (nB h21) ?_;refine ao ?_;refine am ?_;refine ai (hk7 _ _ ?_);refine bb ?_;refine aC (l61, y65, (IntKind.wrap .i64 (x63 + 1))) () hm ?_;exact ls
          ·rw [iN h18] at hm;refine af rfl (dF h18) ?_;refine bj ?_;have ho23 := ay hm hr4;subst ho23;replace hm : cW p5 x33 l61 x62 = some r2 := hm4;refine aV (aS (aF ?_));refine aw (l61, x62) () hm ?_;exact ls
        ·rintro ⟨l50, x51⟩ _ hm;replace hm : cW p5 x33 l50 x51 = some r2 := hm;refine aO ?_;unfold cW at hm;refine aj [88, 89] ?_
         by_cases h16 : ((p5.getD x33.toNat default).op) = 3
         ·rw [iP h16] at hm;refine ab rfl (eQ h16) ?_;obtain ⟨hg17a, hm⟩ := gd hm;refine ja (em (eK .i64) l50 (((p5.getD x33.toNat default).to).toNat)) [0, 1, 3, 7, 0, 16, 0, 127, 255] [false, false, false, false, false, false, false, true, true] ?_;refine am (am ?_);refine aw (l50.set (((p5.getD x33.toNat default).to).toNat) x51) () hm ?_;exact ls
         ·rw [iN h16] at hm;refine af rfl (nB h16) ?_;refine ao ?_;refine am (am ?_);refine aw l50 () hm ?_;exact ls
     ·rintro l35 _ hm;replace hm : bm x33 l35 = some r2 := hm;refine aO ?_;unfold bm at hm;refine bb ?_;refine aC (l35, (IntKind.wrap .i64 (x33 + 1))) () hm ?_;exact ls
    ·rw [iN h4] at hm;refine af rfl (dF h4) ?_;refine bj ?_;have ho24 := ay hm hr2;subst ho24;replace hm : cV p4 l32 = some r := hm2;refine aV (aS (aF ?_));refine aw l32 () hm ?_;exact ls
  ·rintro l4 _ hm;replace hm : cV p4 l4 = some r := hm;refine aO ?_;unfold cV at hm;refine aj [] ?_;refine d6 (ml 11 1 2 (by decide) rfl (Nat.le_of_ble_eq_true rfl)) ?_;refine sM ?_;refine aP (S := (List Int)) (V := Nat) [0, 11, 12, 134, 135, 136, 137, 138, 139, 140, 141, 142, 143, 144, 145, 146, 147, 148, 149, 150, 151, 152, 153, 154, 155, 156, 157, 158, 159, 160] (fun l7 v8 => [(11, .c (.osl 2 v8 0 l7.length))]) (fun l7 v8 => [.box [.int .i64 p2, .tree 1 (p3.map (eK .i64)), .tree 1 (p4.map (eK .i64)), .tree 6 (p5.map ap.enc), .osl 1 v1_ 0 l4.length], .arr 1 v1_ 2 (l4.map (eK .i64)), .arr 1 v8 2 (l7.map (eK .i64))]) (fun l7 => dS l4 l7 = some r) ?_ ?_
   ·skip;refine aj [] ?_
    refine ax ?_;obtain ⟨o1, hl1, hm1⟩ := bd hm;refine aZ (S := ((List Int) × Int)) (V := Nat) (O := (List Int)) [11, 12, 134, 135, 136, 137, 138, 139, 140, 141, 142, 143, 144, 145, 146, 147, 148, 149, 150, 151, 152, 153, 154, 155, 156, 157, 158, 159, 160] (fun (l21, x23) v22 => [(11, .c (.osl 2 v22 0 l21.length)), (12, .c (.int .i64 x23))]) (fun (l21, x23) v22 => [.box [.int .i64 p2, .tree 1 (p3.map (eK .i64)), .tree 1 (p4.map (eK .i64)), .tree 6 (p5.map ap.enc), .osl 1 v1_ 0 l4.length], .arr 1 v1_ 2 (l4.map (eK .i64)), .arr 1 v22 2 (l21.map (eK .i64))]) _ _ 0 hl1 ?_ ?_
    ·exact ls
    ·rintro ⟨l21, x23⟩ v22 r1 hm hr1;replace hm : bP p4 l4 l21 x23 = some r1 := hm;refine aO ?_;unfold bP at hm;refine an fun k1 hk1 => ?_;refine aj [134, 135, 136, 137, 138, 139, 140] ?_
     by_cases h1 : x23 < (p4.length : Int)
     ·rw [iP h1] at hm;refine ab rfl (dT h1) ?_;refine ao ?_;refine ai (hk1 _ _ ?_);refine an fun k2 hk2 => ?_;refine ax ?_;obtain ⟨⟨hg2a, hg2b, ⟨hg2cx, hg2cy⟩⟩, hm⟩ := gd hm;refine ja (a2 (em (eK .i64) p4 x23.toNat) (em (eK .i64) l4 ((p4.getD x23.toNat default).toNat))) [0, 0, 2, 6, 14, 0, 32, 96, 224, 480, 0, 2016, 4064, 8190, 16382, 32766, 65535, 131071] [false, false, false, false, false, false, false, false, false, false, false, false, false, false, false, false, true, true] ?_;refine am ?_;refine ai (hk2 _ _ ?_);refine bb ?_;refine aC ((l21 ++ (lit ([(l4.getD ((p4.getD x23.toNat default).toNat) default)] : List Int))), (IntKind.wrap .i64 (x23 + 1))) (v22 + 1) hm ?_;exact ls
     ·rw [iN h1] at hm;refine af rfl (dF h1) ?_;refine bj ?_;have ho3 := ay hm hr1;subst ho3;replace hm : dS l4 l21 = some r := hm1;refine aV (aS (aF ?_));refine aw l21 v22 hm ?_;exact ls
   ·rintro l7 v8 hm;replace hm : dS l4 l7 = some r := hm;refine aO ?_;unfold dS at hm;refine aj [11, 161] ?_;refine jU (aR 2 rfl) ?_;refine ak ?_
    cases hm
    exact kr 2
theorem rS (p1 : List Int) (p2 : Int) (r : Bool) (hm : nE p1 p2 = some r) : cr Try.prog 26 [.c (.tree 1 (p1.map (eK .i64))), .c (.int .i64 p2)] (.c (.bool r)) := by
 refine aL 18 [.tmp 4] Try.func26 rfl rfl rfl (by kernel_rfl) (by simp) ?_;refine bB ?_;unfold nE at hm;refine aj [4] ?_;refine aP (S := Unit) (V := Unit) [0, 1, 4, 5, 6, 7, 8, 9, 10, 11, 12, 13, 14, 15, 16, 17] (fun _ _ => []) (fun _ _ => []) (fun _ => jA = some r) ?_ ?_
 ·skip;refine aj [] ?_
  refine ax ?_;obtain ⟨o1, hl1, hm1⟩ := bd hm;refine aZ (S := Int) (V := Unit) (O := Unit ⊕ Bool) [4, 5, 6, 7, 8, 9, 10, 11, 12, 13, 14, 15, 16, 17] (fun x3 _ => [(5, .c (.int .i64 x3))]) (fun x3 _ => []) _ _ () hl1 ?_ ?_
  ·exact ls
  ·rintro x3 _ r1 hm hr1;replace hm : kJ p1 p2 x3 = some r1 := hm;refine aO ?_;unfold kJ at hm;refine an fun k1 hk1 => ?_;refine aj [6, 7, 8] ?_
   by_cases h1 : x3 < (p1.length : Int)
   ·rw [iP h1] at hm;refine ab rfl (dT h1) ?_;refine ao ?_;refine ai (hk1 _ _ ?_);refine an fun k2 hk2 => ?_;refine ax ?_;obtain ⟨hg2a, hm⟩ := gd hm;refine bf (em (eK .i64) p1 x3.toNat) [9, 12, 13, 14, 15, 16] ?_
    by_cases h3 : (p1.getD x3.toNat default) = p2
    ·rw [iP h3] at hm;refine ab rfl (eQ h3) ?_;refine aj [0, 1, 5, 17] ?_;have ho4 := ay hm hr1;subst ho4;replace hm : some true = some r := hm1;refine ak ?_;refine ae (ag (aD (ae (av ?_))))
     cases hm
     exact kr 0
    ·rw [iN h3] at hm;refine af rfl (nB h3) ?_;refine ao ?_;refine am ?_;refine ai (hk2 _ _ ?_);refine bb ?_;refine aC (IntKind.wrap .i64 (x3 + 1)) () hm ?_;exact ls
   ·rw [iN h1] at hm;refine af rfl (dF h1) ?_;refine bj ?_;have ho5 := ay hm hr1;subst ho5;replace hm : jA = some r := hm1;refine aV (aS (aF ?_));refine aw () () hm ?_;exact ls
 ·rintro _ _ hm;replace hm : jA = some r := hm;refine aO ?_;unfold jA at hm;refine aj [] ?_;refine ak ?_
  cases hm
  exact kr 0
end Pam
