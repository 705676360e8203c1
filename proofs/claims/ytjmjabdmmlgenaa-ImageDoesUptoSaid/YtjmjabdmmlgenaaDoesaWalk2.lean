/- the walk of law_ImageDoes, printed by a program of ours -/
import Derived.Test.YtjmjabdmmlgenaaDoesBase2
import Derived.Test.YtjmjabdmmlgenaaDoesaFun1
import Derived.Test.YtjmjabdmmlgenaaDoesaWalk1
set_option linter.all false
set_option maxRecDepth 100000
set_option maxHeartbeats 8000000
namespace Pam
open Go Go.Proofs
theorem lp (p1 : aj) (p2 : List Int) (r : Bool) (hm : gX p1 p2 = some r) : cR Try.prog 3 [.a [.int .i64 p1.cells, .int .i64 p1.regs, .int .i64 p1.cost, .tree 1 (p1.put.map (eK .i64)), .tree 1 (p1.bools.map (eK .i64)), .tree 1 (p1.get.map (eK .i64)), .tree 6 (p1.code.map ax.enc)], .c (.tree 1 (p2.map (eK .u8)))] (.c (.bool r)) := by
 refine aR 99 [.tmp 4] Try.func3 rfl rfl rfl (by kernel_rfl) (by simp) ?_;refine cB ?_;unfold gX at hm;refine ai [0, 4] ?_;refine ap fun k1 hk1 => ?_;refine av [14] fun k kp hk hp => ?_;refine go ?_;obtain ⟨y1, hc1, hm⟩ := bd hm;refine RP (fun _ => kV  _ hc1) ?_;refine aa ?_;refine go ?_;refine hk _ _ ?_;clear hk hp k kp
 by_cases h2 : y1 = true
 ·rw [iP h2] at hm;refine ae rfl (by rw [show y1 = true from (h2)]; rfl) ?_;refine aq ?_;refine ak (hk1 _ _ ?_);refine ap fun k2 hk2 => ?_;refine av [15, 16, 17, 18, 19, 20, 21] fun k kp hk hp => ?_;refine go ?_;obtain ⟨y2, hc3, hm⟩ := bd hm;refine RP (fun _ => kW p1 _ hc3) ?_
  by_cases h4 : y2 = true
  ·rw [iP h4] at hm;have h4b := h4;refine aa ?_;refine gox h4b ?_;refine hk _ _ ?_;clear hk hp k kp;refine ab rfl rfl ?_;refine ai [1, 2, 22] ?_;refine an ?_;refine ah ?_
   cases hm
   exact kr 0
  ·rw [iN h4] at hm;have h4b := fB h4;refine aa ?_;refine gox h4b ?_;refine hk _ _ ?_;clear hk hp k kp
   by_cases h5 : (p2.length : Int) > 30000
   ·rw [iP h5] at hm;refine ab rfl (dT h5) ?_;refine ai [1, 2, 22] ?_;refine an ?_;refine ah ?_
    cases hm
    exact kr 0
   ·rw [iN h5] at hm;refine ae rfl (dF h5) ?_;refine aq ?_;refine ak (hk2 _ _ ?_);refine av [22, 23, 24] fun k kp hk hp => ?_;refine go ?_;obtain ⟨y3, hc6, hm⟩ := bd hm;refine RP (fun _ => lm p1 _ hc6) ?_;refine aa ?_;refine go ?_;refine hk _ _ ?_;clear hk hp k kp;obtain ⟨⟨hg7ax, hg7ay⟩, hm⟩ := gd hm;refine ai [25, 26] ?_;refine ib [.box [.int .i64 p1.cells, .int .i64 p1.regs, .int .i64 p1.cost, .tree 1 (p1.put.map (eK .i64)), .tree 1 (p1.bools.map (eK .i64)), .tree 1 (p1.get.map (eK .i64)), .tree 6 (p1.code.map ax.enc)], .box [.int .i64 ((y3).cells), .int .i64 ((y3).regs), .int .i64 ((y3).cost), .tree 1 (((y3).put).map (eK .i64)), .tree 1 (((y3).bools).map (eK .i64)), .tree 1 (((y3).get).map (eK .i64)), .tree 6 (((y3).code).map ax.enc)], .arr 1 0 5 (p2.map (eK .u8))] ?_;refine av [27, 28, 29, 30, 31] fun k kp hk hp => ?_;refine go ?_;obtain ⟨y4, hc8, hm⟩ := bd hm;refine RP (fun _ => jB (y3) _ hc8) ?_;refine aa ?_;refine go ?_;refine hk _ _ ?_;clear hk hp k kp;refine av [32, 33, 34, 35, 36] fun k kp hk hp => ?_;refine go ?_;refine aK (aZ 2 rfl) ?_;refine gt ?_;obtain ⟨y5, hc9, hm⟩ := bd hm;refine RP (fun _ => lL p2 _ hc9) ?_;refine aa ?_;refine go ?_;refine hk _ _ ?_;clear hk hp k kp;refine av [37, 38] fun k kp hk hp => ?_;refine go ?_;obtain ⟨y6, hc10, hm⟩ := bd hm;refine RP (fun _ => iQ p1 _ hc10) ?_;refine aa ?_;refine go ?_;refine hk _ _ ?_;clear hk hp k kp;refine av [39, 40, 41, 42, 43] fun k kp hk hp => ?_;refine go ?_;obtain ⟨y7, hc11, hm⟩ := bd hm;refine RP (fun _ => mC p2 _ hc11) ?_;refine aa ?_;refine go ?_;refine hk _ _ ?_;clear hk hp k kp;refine ap fun k3 hk3 => ?_;refine dj [1, 5, 6, 8, 9, 10, 12, 13, 44, 45, 46, 47, 48, 49, 50, 51, 52, 53, 54, 55, 56, 57, 58, 59, 60, 61, 62, 63, 64, 65, 66, 67, 68, 69, 70, 71, 72, 73, 74, 75, 76] fun k kp hk hp => ?_;refine am 4 ?_;refine go ?_
    by_cases h12 : ((y4.2).code) = ((y6).code) ∧ ((y4.2).at_) = ((y6).at_)
    ·rw [iP h12] at hm
     have h12b : ((((y4.2).code) == ((y6).code)) && (((y4.2).at_) == ((y6).at_))) = true := by simpa [Bool.and_eq_true] using h12
     have h12c : (!((((y4.2).code) == ((y6).code)) && (((y4.2).at_) == ((y6).at_)))) = false := by rw [h12b]; rfl
     refine am 5 ?_;refine gox (a2 h12b h12c) ?_
     by_cases h13 : ((y5.2).code) = ((y7.2).code) ∧ ((y5.2).at_) = ((y7.2).at_)
     ·rw [iP h13] at hm
      have h13b : ((((y5.2).code) == ((y7.2).code)) && (((y5.2).at_) == ((y7.2).at_))) = true := by simpa [Bool.and_eq_true] using h13
      have h13c : (!((((y5.2).code) == ((y7.2).code)) && (((y5.2).at_) == ((y7.2).at_)))) = false := by rw [h13b]; rfl
      refine aa ?_;refine gox (a2 h12b (a2 h12c (a2 h13b h13c))) ?_;obtain ⟨y8, hc14, hm⟩ := bd hm;refine RP (fun _ => jb (y5.1) (y7.1) _ hc14) ?_
      by_cases h15 : y8 = true
      ·rw [iP h15] at hm;have h15b := h15
       have h15c : (!y8) = false := by rw [h15b]; rfl
       refine aa ?_;refine gox (a2 h12b (a2 h12c (a2 h13b (a2 h13c (a2 h15b h15c))))) ?_;obtain ⟨y9, hc16, hm⟩ := bd hm;refine RP (fun _ => jb (y3) p1 _ hc16) ?_
       by_cases h17 : y9 = true
       ·rw [iP h17] at hm;have h17b := h17
        have h17c : (!y9) = false := by rw [h17b]; rfl
        refine am 4 ?_;refine gox (a2 h12b (a2 h12c (a2 h13b (a2 h13c (a2 h15b (a2 h15c (a2 h17b h17c))))))) ?_
        refine RS (lS rfl (by first | kernel_rfl | exact of_decide_eq_true (by kernel_rfl)) (by first | kernel_rfl | exact of_decide_eq_true (by kernel_rfl)) (by first | kernel_rfl | exact of_decide_eq_true (by kernel_rfl)) (j6 (by first | rfl | (simp only [bR, bT, tab, bX, reduceIte, ↓reduceIte, reduceCtorEq, Int.reduceToNat, Nat.reduceDiv, Nat.reduceMod, Nat.reduceLT, Nat.reduceLeDiff, Nat.reduceAdd, Nat.reduceSub, Nat.reduceMul, Nat.reduceEqDiff, Nat.reduceBEq, Nat.reduceBNe, Nat.reduceGT]; done)))) ?_
        simp only [bR, bT, tab, bX, reduceIte, ↓reduceIte, reduceCtorEq, Int.reduceToNat, Nat.reduceDiv, Nat.reduceMod, Nat.reduceLT, Nat.reduceLeDiff, Nat.reduceAdd, Nat.reduceSub, Nat.reduceMul, Nat.reduceEqDiff, Nat.reduceBEq, Nat.reduceBNe, Nat.reduceGT];refine am 1 ?_;refine gox (a2 h12b (a2 h12c (a2 h13b (a2 h13c (a2 h15b (a2 h15c (a2 h17b h17c))))))) ?_
        refine RS (lS rfl (by first | kernel_rfl | exact of_decide_eq_true (by kernel_rfl)) (by first | kernel_rfl | exact of_decide_eq_true (by kernel_rfl)) (by first | kernel_rfl | exact of_decide_eq_true (by kernel_rfl)) (j6 (by first | rfl | (simp only [bR, bT, tab, bX, reduceIte, ↓reduceIte, reduceCtorEq, Int.reduceToNat, Nat.reduceDiv, Nat.reduceMod, Nat.reduceLT, Nat.reduceLeDiff, Nat.reduceAdd, Nat.reduceSub, Nat.reduceMul, Nat.reduceEqDiff, Nat.reduceBEq, Nat.reduceBNe, Nat.reduceGT]; done)))) ?_
        simp only [bR, bT, tab, bX, reduceIte, ↓reduceIte, reduceCtorEq, Int.reduceToNat, Nat.reduceDiv, Nat.reduceMod, Nat.reduceLT, Nat.reduceLeDiff, Nat.reduceAdd, Nat.reduceSub, Nat.reduceMul, Nat.reduceEqDiff, Nat.reduceBEq, Nat.reduceBNe, Nat.reduceGT];have h18b : ((iA p2) == (iA p2)) = true := eQ rfl
        have h18c : (!((iA p2) == (iA p2))) = false := by rw [h18b]; rfl
        refine aa ?_;refine gox (a2 h12b (a2 h12c (a2 h13b (a2 h13c (a2 h15b (a2 h15c (a2 h17b (a2 h17c (a2 h18b h18c))))))))) ?_;obtain ⟨y10, hc19, hm⟩ := bd hm;refine RP (fun _ => iE p2 _ hc19) ?_;refine aa ?_;refine gox (a2 h12b (a2 h12c (a2 h13b (a2 h13c (a2 h15b (a2 h15c (a2 h17b (a2 h17c (a2 h18b h18c))))))))) ?_;obtain ⟨y11, hc20, hm⟩ := bd hm;refine RP (fun _ => kX p2 _ hc20) ?_;refine aa ?_;refine gox (a2 h12b (a2 h12c (a2 h13b (a2 h13c (a2 h15b (a2 h15c (a2 h17b (a2 h17c (a2 h18b h18c))))))))) ?_;refine hk _ _ ?_;clear hk hp k kp
        by_cases h21 : ¬ y10 = y11
        ·rw [iP h21] at hm;refine ab rfl (bne_iff_ne.2 h21) ?_;refine ai [2, 7, 11, 77] ?_;refine an ?_;refine ah ?_
         cases hm
         exact kr 0
        ·rw [iN h21] at hm;refine ae rfl (bne_eq_false_iff_eq.2 (Decidable.not_not.1 h21)) ?_;refine aq ?_;refine ak (hk3 _ _ ?_)
         by_cases h22 : ¬ ((y6).code) = 0
         ·rw [iP h22] at hm;have h22b := bne_iff_ne.2 h22
          by_cases h23 : (y4.1.length : Int) = 0
          ·rw [iP h23] at hm;have h23b := eQ h23;refine nZ [2, 7, 11, 77, 78, 79, 80, 81, 82, 83, 84, 85, 86, 87, 88, 89, 90, 91, 92, 93, 94, 95, 96, 97, 98] (by kernel_rfl) [] [0, 1, 3, 7, 15, 31, 63, 127, 255, 511, 1023, 2047, 4095, 8191, 16383, 8191, 40959, 106495, 262143, 524287, 1048575, 2097151] [true, true, true, true, true, true, true, true, true, true, true, true, true, false, false, false, false, false, true, true, true, true] [false, false, false, false, false, false, false, false, false, false, false, false, false, false, false, false, false, false, false, false, false, false] [[], [], [], [], [], [], [], [], [], [], [], [], [], [], [], [], [], [], [], [], [], []] [false, false, false, false, false, false, false, false, false, false, false, false, false, false, true, false, false, true, false, false, false, false] (by kernel_rfl) fun k hk => ?_;refine j7 14 rfl rfl rfl rfl rfl ?_;refine gpx (a2 h22b h23b) ?_
           refine kU (by first | rfl | (simp only [bA, bT, tab, bX, reduceIte, ↓reduceIte, reduceCtorEq, Int.reduceToNat, Nat.reduceDiv, Nat.reduceMod, Nat.reduceLT, Nat.reduceLeDiff, Nat.reduceAdd, Nat.reduceSub, Nat.reduceMul, Nat.reduceEqDiff, Nat.reduceBEq, Nat.reduceBNe, Nat.reduceGT]; done)) (by first | trivial | exact cz rfl) ?_
           refine gl ?_;refine j7 2 rfl rfl rfl rfl rfl ?_;refine gpx (a2 h22b h23b) ?_
           refine kU (by first | rfl | (simp only [bA, bT, tab, bX, reduceIte, ↓reduceIte, reduceCtorEq, Int.reduceToNat, Nat.reduceDiv, Nat.reduceMod, Nat.reduceLT, Nat.reduceLeDiff, Nat.reduceAdd, Nat.reduceSub, Nat.reduceMul, Nat.reduceEqDiff, Nat.reduceBEq, Nat.reduceBNe, Nat.reduceGT]; done)) (by first | trivial | exact cz rfl) ?_
           refine gl ?_;refine lT rfl ?_;refine gpx (a2 h22b h23b) ?_;refine hk _ _ ?_;clear hk k;refine an ?_
           cases hm
           exact kr 0
          ·rw [iN h23] at hm;have h23b := nB h23;have h24b : (((y6).code) == 0) = false := nB (bne_iff_ne.1 h22b);refine nZ [2, 7, 11, 77, 78, 79, 80, 81, 82, 83, 84, 85, 86, 87, 88, 89, 90, 91, 92, 93, 94, 95, 96, 97, 98] (by kernel_rfl) [] [0, 1, 3, 7, 15, 31, 63, 127, 255, 511, 1023, 2047, 4095, 8191, 16383, 8191, 40959, 106495, 262143, 524287, 1048575, 2097151] [true, true, true, true, true, true, true, true, true, true, true, true, true, false, false, false, false, false, true, true, true, true] [false, false, false, false, false, false, false, false, false, false, false, false, false, false, false, false, false, false, false, false, false, false] [[], [], [], [], [], [], [], [], [], [], [], [], [], [], [], [], [], [], [], [], [], []] [false, false, false, false, false, false, false, false, false, false, false, false, false, false, true, false, false, true, false, false, false, false] (by kernel_rfl) fun k hk => ?_;refine j7 14 rfl rfl rfl rfl rfl ?_;refine gpx (a2 h22b (a2 h23b h24b)) ?_
           refine kU (by first | rfl | (simp only [bA, bT, tab, bX, reduceIte, ↓reduceIte, reduceCtorEq, Int.reduceToNat, Nat.reduceDiv, Nat.reduceMod, Nat.reduceLT, Nat.reduceLeDiff, Nat.reduceAdd, Nat.reduceSub, Nat.reduceMul, Nat.reduceEqDiff, Nat.reduceBEq, Nat.reduceBNe, Nat.reduceGT]; done)) (by first | trivial | exact cz rfl) ?_
           refine gl ?_;refine j7 2 rfl rfl rfl rfl rfl ?_;refine gpx (a2 h22b (a2 h23b h24b)) ?_
           refine kU (by first | rfl | (simp only [bA, bT, tab, bX, reduceIte, ↓reduceIte, reduceCtorEq, Int.reduceToNat, Nat.reduceDiv, Nat.reduceMod, Nat.reduceLT, Nat.reduceLeDiff, Nat.reduceAdd, Nat.reduceSub, Nat.reduceMul, Nat.reduceEqDiff, Nat.reduceBEq, Nat.reduceBNe, Nat.reduceGT]; done)) (by first | trivial | exact cz rfl) ?_
           refine gl ?_;refine lT rfl ?_;refine gpx (a2 h22b (a2 h23b h24b)) ?_;refine hk _ _ ?_;clear hk k;refine an ?_
           cases hm
           exact kr 0
         ·rw [iN h22] at hm;have h22b : (((y6).code) != 0) = false := bne_eq_false_iff_eq.2 (Decidable.not_not.1 h22);have h25b : (((y6).code) == 0) = true := eQ (bne_eq_false_iff_eq.1 h22b);refine nZ [2, 7, 11, 77, 78, 79, 80, 81, 82, 83, 84, 85, 86, 87, 88, 89, 90, 91, 92, 93, 94, 95, 96, 97, 98] (by kernel_rfl) [] [0, 1, 3, 7, 15, 31, 63, 127, 255, 511, 1023, 2047, 4095, 8191, 16383, 8191, 40959, 106495, 262143, 524287, 1048575, 2097151] [true, true, true, true, true, true, true, true, true, true, true, true, true, false, false, false, false, false, true, true, true, true] [false, false, false, false, false, false, false, false, false, false, false, false, false, false, false, false, false, false, false, false, false, false] [[], [], [], [], [], [], [], [], [], [], [], [], [], [], [], [], [], [], [], [], [], []] [false, false, false, false, false, false, false, false, false, false, false, false, false, false, true, false, false, true, false, false, false, false] (by kernel_rfl) fun k hk => ?_;refine j7 14 rfl rfl rfl rfl rfl ?_;refine gpx (a2 h22b h25b) ?_
          refine pZ (oN rfl (by first | kernel_rfl | exact of_decide_eq_true (by kernel_rfl)) (by first | kernel_rfl | exact of_decide_eq_true (by kernel_rfl)) (by first | kernel_rfl | exact of_decide_eq_true (by kernel_rfl)) (mB (by first | rfl | (simp only [bR, bT, tab, bX, reduceIte, ↓reduceIte, reduceCtorEq, Int.reduceToNat, Nat.reduceDiv, Nat.reduceMod, Nat.reduceLT, Nat.reduceLeDiff, Nat.reduceAdd, Nat.reduceSub, Nat.reduceMul, Nat.reduceEqDiff, Nat.reduceBEq, Nat.reduceBNe, Nat.reduceGT]; done)))) (by first | rfl | (simp only [bA, bT, tab, bX, reduceIte, ↓reduceIte, reduceCtorEq, Int.reduceToNat, Nat.reduceDiv, Nat.reduceMod, Nat.reduceLT, Nat.reduceLeDiff, Nat.reduceAdd, Nat.reduceSub, Nat.reduceMul, Nat.reduceEqDiff, Nat.reduceBEq, Nat.reduceBNe, Nat.reduceGT]; done)) (by first | trivial | exact cz rfl) ?_
          refine gl ?_;refine j7 2 rfl rfl rfl rfl rfl ?_;refine gpx (a2 h22b h25b) ?_;obtain ⟨y12, hc26, hm⟩ := bd hm;refine pap (fun _ => mE p1 _ hc26) ?_;refine gpx (a2 h22b h25b) ?_
          refine pZ (oN rfl (by first | kernel_rfl | exact of_decide_eq_true (by kernel_rfl)) (by first | kernel_rfl | exact of_decide_eq_true (by kernel_rfl)) (by first | kernel_rfl | exact of_decide_eq_true (by kernel_rfl)) (mB (by first | rfl | (simp only [bR, bT, tab, bX, reduceIte, ↓reduceIte, reduceCtorEq, Int.reduceToNat, Nat.reduceDiv, Nat.reduceMod, Nat.reduceLT, Nat.reduceLeDiff, Nat.reduceAdd, Nat.reduceSub, Nat.reduceMul, Nat.reduceEqDiff, Nat.reduceBEq, Nat.reduceBNe, Nat.reduceGT]; done)))) (by first | rfl | (simp only [bA, bT, tab, bX, reduceIte, ↓reduceIte, reduceCtorEq, Int.reduceToNat, Nat.reduceDiv, Nat.reduceMod, Nat.reduceLT, Nat.reduceLeDiff, Nat.reduceAdd, Nat.reduceSub, Nat.reduceMul, Nat.reduceEqDiff, Nat.reduceBEq, Nat.reduceBNe, Nat.reduceGT]; done)) (by first | trivial | exact cz rfl) ?_
          refine gl ?_;refine lT rfl ?_;refine gpx (a2 h22b h25b) ?_;refine hk _ _ ?_;clear hk k;refine an ?_
          cases hm
          exact kr 0
       ·rw [iN h17] at hm;have h17b := fB h17
        have h17c : (!y9) = true := by rw [h17b]; rfl
        refine aa ?_;refine gox (a2 h12b (a2 h12c (a2 h13b (a2 h13c (a2 h15b (a2 h15c (a2 h17b h17c))))))) ?_;refine hk _ _ ?_;clear hk hp k kp;refine ab rfl rfl ?_;refine ai [2, 7, 11, 77] ?_;refine an ?_;refine ah ?_
        cases hm
        exact kr 0
      ·rw [iN h15] at hm;have h15b := fB h15
       have h15c : (!y8) = true := by rw [h15b]; rfl
       refine aa ?_;refine gox (a2 h12b (a2 h12c (a2 h13b (a2 h13c (a2 h15b h15c))))) ?_;refine hk _ _ ?_;clear hk hp k kp;refine ab rfl rfl ?_;refine ai [2, 7, 11, 77] ?_;refine an ?_;refine ah ?_
       cases hm
       exact kr 0
     ·rw [iN h13] at hm;have h13b : ((((y5.2).code) == ((y7.2).code)) && (((y5.2).at_) == ((y7.2).at_))) = false := fB (fun hh => h13 (by simpa [Bool.and_eq_true] using hh))
      have h13c : (!((((y5.2).code) == ((y7.2).code)) && (((y5.2).at_) == ((y7.2).at_)))) = true := by rw [h13b]; rfl
      refine aa ?_;refine gox (a2 h12b (a2 h12c (a2 h13b h13c))) ?_;refine hk _ _ ?_;clear hk hp k kp;refine ab rfl rfl ?_;refine ai [2, 7, 11, 77] ?_;refine an ?_;refine ah ?_
      cases hm
      exact kr 0
    ·rw [iN h12] at hm;have h12b : ((((y4.2).code) == ((y6).code)) && (((y4.2).at_) == ((y6).at_))) = false := fB (fun hh => h12 (by simpa [Bool.and_eq_true] using hh))
     have h12c : (!((((y4.2).code) == ((y6).code)) && (((y4.2).at_) == ((y6).at_)))) = true := by rw [h12b]; rfl
     refine aa ?_;refine gox (a2 h12b h12c) ?_;refine hk _ _ ?_;clear hk hp k kp;refine ab rfl rfl ?_;refine ai [2, 7, 11, 77] ?_;refine an ?_;refine ah ?_
     cases hm
     exact kr 0
 ·rw [iN h2] at hm;refine ab rfl (by rw [show y1 = false from (fB h2)]; rfl) ?_;refine ai [1, 2, 15] ?_;refine an ?_;refine ah ?_
  cases hm
  exact kr 0
end Pam
