/- the walk of law_TokenCovers, printed by a program of ours -/
import Derived.Test.YtmnbfnhdnloigaaDoorTBase2
import Derived.Test.YtmnbfnhdnloigaaDoorTbFun1
import Derived.Test.YtmnbfnhdnloigaaDoorTabcWalk1
set_option linter.all false
set_option maxRecDepth 100000
set_option maxHeartbeats 8000000
namespace Pam
open Go Go.Proofs
theorem gV (p1 : List UInt8) (r : Bool) (hm : dy p1 = some r) : bU Tryd.prog 4 [.c (.str p1)] (.c (.bool r)) := by
 refine aQ 134 [.tmp 2] Tryd.func4 rfl rfl rfl (by kernel_rfl) (by simp) ?_;refine c8 ?_;unfold dy at hm;refine am [2] ?_;refine az fun k1 hk1 => ?_;refine aI [10] fun k kp hk hp => ?_;refine go ?_;obtain ⟨y1, hc1, hm⟩ := bd hm;refine RP (fun _ => dU  _ hc1) ?_;refine ab ?_;refine go ?_;refine hk _ _ ?_;clear hk hp k kp
 by_cases h2 : y1 = true
 ·rw [iP h2] at hm;refine ag rfl (by rw [show y1 = true from (h2)]; rfl) ?_;refine ak ?_;refine aw (hk1 _ _ ?_);refine az fun k2 hk2 => ?_;refine am [11, 12, 13] ?_
  by_cases h3 : (p1.length : Int) > 12000
  ·rw [iP h3] at hm;refine ae rfl (dT h3) ?_;refine am [0, 14] ?_;refine ax ?_;refine aB ?_
   cases hm
   exact kr 0
  ·rw [iN h3] at hm;refine ag rfl (dF h3) ?_;refine ak ?_;refine aw (hk2 _ _ ?_);refine aI [14, 15, 16, 17, 18, 19] fun k kp hk hp => ?_;refine go ?_;obtain ⟨y2, hc4, hm⟩ := bd hm;refine RP (fun _ => cX p1 _ hc4) ?_;refine ab ?_;refine go ?_;refine hk _ _ ?_;clear hk hp k kp;refine az fun k3 hk3 => ?_;refine am [20, 21] ?_
   by_cases h5 : ¬ ((y2.2).code) = 0
   ·rw [iP h5] at hm;refine ae rfl (bne_iff_ne.2 h5) ?_;refine cR [0, 3, 4, 22, 23, 24, 25, 26, 27, 28, 29, 30, 31, 32, 33, 34, 35, 36, 37] fun k kp hk hp => ?_;refine ai 4 ?_;refine go ?_
    by_cases h6 : (y2.1.length : Int) = 0
    ·rw [iP h6] at hm;have h6b := eQ h6;refine ai 5 ?_;refine gox h6b ?_
     by_cases h7 : ((y2.2).at_) ≥ 0
     ·rw [iP h7] at hm;have h7b := dT h7;refine ab ?_;refine gox (a2 h6b h7b) ?_;refine hk _ _ ?_;clear hk hp k kp;refine ax ?_;refine aB ?_
      cases hm
      exact kr 0
     ·rw [iN h7] at hm;have h7b := dF h7;refine ab ?_;refine gox (a2 h6b h7b) ?_;refine hk _ _ ?_;clear hk hp k kp;refine ax ?_;refine aB ?_
      cases hm
      exact kr 0
    ·rw [iN h6] at hm;have h6b := nB h6;refine ab ?_;refine gox h6b ?_;refine hk _ _ ?_;clear hk hp k kp;refine ax ?_;refine aB ?_
     cases hm
     exact kr 0
   ·rw [iN h5] at hm;refine ag rfl (bne_eq_false_iff_eq.2 (Decidable.not_not.1 h5)) ?_;refine ak ?_;refine aw (hk3 _ _ ?_);refine am [4, 22] ?_;refine aV (S := Unit) (V := Unit) [0, 2, 3, 5, 6, 7, 8, 9, 38, 39, 40, 41, 42, 43, 44, 45, 46, 47, 48, 49, 50, 51, 52, 53, 54, 55, 56, 57, 58, 59, 60, 61, 62, 63, 64, 65, 66, 67, 68, 69, 70, 71, 72, 73, 74, 75, 76, 77, 78, 79, 80, 81, 82, 83, 84, 85, 86, 87, 88, 89, 90, 91, 92, 93, 94, 95, 96, 97, 98, 99, 100, 101, 102, 103, 104, 105, 106, 107, 108, 109, 110, 111, 112, 113, 114, 115, 116, 117, 118, 119, 120, 121, 122, 123, 124, 125, 126, 127, 128, 129, 130, 131, 132, 133] (fun _ _ => []) (fun _ _ => [.box [.int .i64 ((y2.2).code), .int .i64 ((y2.2).at_)]]) (fun _ => cl = some r) ?_ ?_
    ·skip;refine am [] ?_
     refine aH ?_;obtain ⟨o1, hl1, hm1⟩ := bd hm;refine cG (S := (Int × Int)) (V := Unit) (O := Unit ⊕ Bool) [2, 5, 6, 7, 8, 9, 38, 39, 40, 41, 42, 43, 44, 45, 46, 47, 48, 49, 50, 51, 52, 53, 54, 55, 56, 57, 58, 59, 60, 61, 62, 63, 64, 65, 66, 67, 68, 69, 70, 71, 72, 73, 74, 75, 76, 77, 78, 79, 80, 81, 82, 83, 84, 85, 86, 87, 88, 89, 90, 91, 92, 93, 94, 95, 96, 97, 98, 99, 100, 101, 102, 103, 104, 105, 106, 107, 108, 109, 110, 111, 112, 113, 114, 115, 116, 117, 118, 119, 120, 121, 122, 123, 124, 125, 126, 127, 128, 129, 130, 131, 132, 133] (fun (x7, x8) _ => [(5, .c (.int .i64 x7)), (6, .c (.int .i64 x8))]) (fun (x7, x8) _ => [.box [.int .i64 ((y2.2).code), .int .i64 ((y2.2).at_)]]) _ _ () hl1 ?_ ?_
     ·exact ls
     ·rintro ⟨x7, x8⟩ _ r1 hm hr1;replace hm : aL p1 y2 x7 x8 = some r1 := hm;refine bl ?_;unfold aL at hm;refine az fun k4 hk4 => ?_;refine am [38, 39, 40] ?_
      by_cases h8 : x8 ≤ (y2.1.length : Int)
      ·rw [iP h8] at hm;refine ae rfl (dT h8) ?_;refine ak ?_;refine aw (hk4 _ _ ?_);refine aV (S := Int) (V := Unit) [2, 5, 7, 8, 9, 41, 44, 45, 46, 47, 48, 49, 50, 51, 52, 53, 54, 55, 56, 57, 58, 59, 60, 61, 62, 63, 64, 65, 66, 67, 68, 69, 70, 71, 72, 73, 74, 75, 76, 77, 78, 79, 80, 81, 82, 83, 84, 85, 86, 87, 88, 89, 90, 91, 92, 93, 94, 95, 96, 97, 98, 99, 100, 101, 102, 103, 104, 105, 106, 107, 108, 109, 110, 111, 112, 113, 114, 115, 116, 117, 118, 119, 120, 121, 122, 123, 124, 125, 126, 127, 128, 129, 130, 131, 132, 133] (fun x9 _ => [(5, .c (.int .i64 x9))]) (fun x9 _ => [.box [.int .i64 ((y2.2).code), .int .i64 ((y2.2).at_)]]) (fun x9 => bn x8 x9 = some r1) ?_ ?_
       ·skip;refine aH ?_
        refine am [41, 44, 45] ?_;refine aV (S := Int) (V := Unit) [7, 46, 47, 48, 49, 50, 51, 52, 53, 54] (fun x10 _ => [(7, .c (.int .i64 x10))]) (fun x10 _ => [.box [.int .i64 ((y2.2).code), .int .i64 ((y2.2).at_)]]) (fun x10 => br p1 y2 x7 x8 x10 = some r1) ?_ ?_
        ·skip;refine am [46, 47, 48] ?_
         by_cases h34 : x8 < (y2.1.length : Int)
         ·rw [iP h34] at hm;refine ae rfl (dT h34) ?_;obtain ⟨hg35a, hm⟩ := gd hm;refine nt (em aa.enc y2.1 x8.toNat) ?_;refine ah ((y2.1.getD x8.toNat default).at_) () hm ?_;exact ls
         ·rw [iN h34] at hm;refine ag rfl (dF h34) ?_;refine ak ?_;refine ah (p1.length : Int) () hm ?_;exact ls
        ·rintro x10 _ hm;replace hm : br p1 y2 x7 x8 x10 = some r1 := hm;refine bl ?_;unfold br at hm;refine az fun k5 hk5 => ?_;refine am [55, 56] ?_
         by_cases h9 : x10 < x7
         ·rw [iP h9] at hm;refine ae rfl (dT h9) ?_;refine am [0, 3, 5, 6, 7, 57] ?_;have ho10 := aO hm hr1;subst ho10;replace hm : some false = some r := hm1;refine ax ?_;refine aB (ar (aF (bt (ar (aF ?_)))))
          cases hm
          exact kr 0
         ·rw [iN h9] at hm;refine ag rfl (dF h9) ?_;refine ak ?_;refine aw (hk5 _ _ ?_);refine am [57] ?_;refine aV (S := Int) (V := Unit) [2, 5, 7, 8, 58, 59, 60, 61, 62, 63, 64, 65, 66, 67, 68, 69, 70, 71, 72, 73, 74, 75, 76, 77, 78, 79, 80, 81, 82, 83, 84, 85, 86, 87, 88, 89, 90, 91, 92, 93, 94, 95, 96] (fun x11 _ => [(5, .c (.int .i64 x11))]) (fun x11 _ => [.box [.int .i64 ((y2.2).code), .int .i64 ((y2.2).at_)]]) (fun x11 => bo p1 y2 x8 x11 = some r1) ?_ ?_
          ·skip;refine aH ?_
           obtain ⟨o2, hl2, hm2⟩ := bd hm;refine cG (S := (Int × Bool)) (V := Unit) (O := Int ⊕ Bool) [2, 5, 8, 58, 59, 60, 61, 62, 63, 64, 65, 66, 67, 68, 69, 70, 71, 72, 73, 74, 75, 76, 77, 78, 79, 80, 81, 82, 83, 84, 85, 86, 87, 88, 89, 90, 91, 92, 93, 94, 95, 96] (fun (x16, b17) _ => [(5, .c (.int .i64 x16)), (8, .c (.bool b17))]) (fun (x16, b17) _ => [.box [.int .i64 ((y2.2).code), .int .i64 ((y2.2).at_)]]) _ _ () hl2 ?_ ?_
           ·exact ls
           ·rintro ⟨x16, b17⟩ _ r2 hm hr2;replace hm : aZ p1 x10 x16 b17 = some r2 := hm;refine bl ?_;unfold aZ at hm;refine az fun k7 hk7 => ?_;refine am [58, 59] ?_
            by_cases h20 : x16 < x10
            ·rw [iP h20] at hm;refine ae rfl (dT h20) ?_;refine ak ?_;refine aw (hk7 _ _ ?_);refine az fun k8 hk8 => ?_;refine aH ?_;refine aV (S := Bool) (V := Unit) [8, 60, 63, 64, 65, 66] (fun b18 _ => [(8, .c (.bool b18))]) (fun b18 _ => [.box [.int .i64 ((y2.2).code), .int .i64 ((y2.2).at_)]]) (fun b18 => bq p1 x16 b18 = some r2) ?_ ?_
             ·skip;obtain ⟨hg31a, hm⟩ := gd hm
              refine am [60, 63, 64, 65] ?_
              by_cases h32 : ((p1.getD x16.toNat 0).toNat : Int) = 10
              ·rw [iP h32] at hm;refine ae rfl (eQ h32) ?_;refine aR ?_;refine ah false () hm ?_;exact ls
              ·rw [iN h32] at hm;refine ag rfl (nB h32) ?_;refine ak ?_;refine ah b17 () hm ?_;exact ls
             ·rintro b18 _ hm;replace hm : bq p1 x16 b18 = some r2 := hm;refine bl ?_;unfold bq at hm;refine aV (S := Bool) (V := Unit) [8, 67, 68, 69, 70] (fun b19 _ => [(8, .c (.bool b19))]) (fun b19 _ => [.box [.int .i64 ((y2.2).code), .int .i64 ((y2.2).at_)]]) (fun b19 => bp p1 x16 b19 = some r2) ?_ ?_
              ·skip;obtain ⟨hg29a, hm⟩ := gd hm
               refine am [67, 68, 69] ?_
               by_cases h30 : ((p1.getD x16.toNat 0).toNat : Int) = 35
               ·rw [iP h30] at hm;refine ae rfl (eQ h30) ?_;refine aR ?_;refine ah true () hm ?_;exact ls
               ·rw [iN h30] at hm;refine ag rfl (nB h30) ?_;refine ak ?_;refine ah b18 () hm ?_;exact ls
              ·rintro b19 _ hm;replace hm : bp p1 x16 b19 = some r2 := hm;refine bl ?_;unfold bp at hm
               by_cases h21 : b19 = true
               ·rw [iP h21] at hm;have h21b := h21
                have h21c : (!b19) = false := by rw [h21b]; rfl
                refine eR (a2 h21b h21c) [71, 72, 73, 74, 75, 76, 77, 78, 79, 80, 81, 82, 83, 84, 85, 86, 87, 88, 89, 90, 91, 92, 93, 94, 95] ?_;refine ag rfl rfl ?_;refine ak ?_;refine af ?_;refine aw (hk8 _ _ ?_);refine aR ?_;refine an ((IntKind.wrap .i64 (x16 + 1)), b19) () hm ?_;exact la
               ·rw [iN h21] at hm;have h21b := fB h21
                have h21c : (!b19) = true := by rw [h21b]; rfl
                obtain ⟨hg22a, hm⟩ := gd hm;refine cR [71, 72, 73, 74, 75, 76, 77, 78, 79, 80, 81, 82, 83, 84, 85, 86, 87, 88, 89, 90, 91, 92, 93, 94, 95] fun k kp hk hp => ?_;refine ai 9 ?_;refine gox (a2 h21b h21c) ?_
                by_cases h23 : ¬ ((p1.getD x16.toNat 0).toNat : Int) = 32
                ·rw [iP h23] at hm;have h23b := bne_iff_ne.2 h23;refine ai 6 ?_;refine gox (a2 h21b (a2 h21c h23b)) ?_
                 by_cases h24 : ¬ ((p1.getD x16.toNat 0).toNat : Int) = 9
                 ·rw [iP h24] at hm;have h24b := bne_iff_ne.2 h24;refine ai 6 ?_;refine gox (a2 h21b (a2 h21c (a2 h23b h24b))) ?_
                  by_cases h25 : ¬ ((p1.getD x16.toNat 0).toNat : Int) = 10
                  ·rw [iP h25] at hm;have h25b := bne_iff_ne.2 h25;refine ab ?_;refine gox (a2 h21b (a2 h21c (a2 h23b (a2 h24b h25b)))) ?_;refine hk _ _ ?_;clear hk hp k kp
                   by_cases h26 : ¬ ((p1.getD x16.toNat 0).toNat : Int) = 13
                   ·rw [iP h26] at hm;refine ae rfl (bne_iff_ne.2 h26) ?_;refine am [0, 3, 5, 6, 7, 8, 96] ?_;have ho27 := aO hm hr2;subst ho27;replace hm : some (.inr (.inr false)) = some r1 := hm2;have ho28 := aO hm hr1;subst ho28;replace hm : some false = some r := hm1;refine ax ?_;refine ar (aB (bt (ar (aF (ar (aF (bt (ar (aF ?_)))))))))
                    cases hm
                    exact kr 0
                   ·rw [iN h26] at hm;refine ag rfl (bne_eq_false_iff_eq.2 (Decidable.not_not.1 h26)) ?_;refine ak ?_;refine af ?_;refine aw (hk8 _ _ ?_);refine aR ?_;refine an ((IntKind.wrap .i64 (x16 + 1)), b19) () hm ?_;exact la
                  ·rw [iN h25] at hm;have h25b : (((p1.getD x16.toNat 0).toNat : Int) != 10) = false := bne_eq_false_iff_eq.2 (Decidable.not_not.1 h25);refine ab ?_;refine gox (a2 h21b (a2 h21c (a2 h23b (a2 h24b h25b)))) ?_;refine hk _ _ ?_;clear hk hp k kp;refine ag rfl rfl ?_;refine ak ?_;refine af ?_;refine aw (hk8 _ _ ?_);refine aR ?_;refine an ((IntKind.wrap .i64 (x16 + 1)), b19) () hm ?_;exact la
                 ·rw [iN h24] at hm;have h24b : (((p1.getD x16.toNat 0).toNat : Int) != 9) = false := bne_eq_false_iff_eq.2 (Decidable.not_not.1 h24);refine ab ?_;refine gox (a2 h21b (a2 h21c (a2 h23b h24b))) ?_;refine hk _ _ ?_;clear hk hp k kp;refine ag rfl rfl ?_;refine ak ?_;refine af ?_;refine aw (hk8 _ _ ?_);refine aR ?_;refine an ((IntKind.wrap .i64 (x16 + 1)), b19) () hm ?_;exact la
                ·rw [iN h23] at hm;have h23b : (((p1.getD x16.toNat 0).toNat : Int) != 32) = false := bne_eq_false_iff_eq.2 (Decidable.not_not.1 h23);refine ab ?_;refine gox (a2 h21b (a2 h21c h23b)) ?_;refine hk _ _ ?_;clear hk hp k kp;refine ag rfl rfl ?_;refine ak ?_;refine af ?_;refine aw (hk8 _ _ ?_);refine aR ?_;refine an ((IntKind.wrap .i64 (x16 + 1)), b19) () hm ?_;exact la
            ·rw [iN h20] at hm;refine ag rfl (dF h20) ?_;refine cQ ?_;have ho33 := aO hm hr2;subst ho33;replace hm : bo p1 y2 x8 x16 = some r1 := hm2;refine cx (bB (aN ?_));refine ah x16 () hm ?_;exact ls
          ·rintro x11 _ hm;replace hm : bo p1 y2 x8 x11 = some r1 := hm;refine bl ?_;unfold bo at hm;refine am [97, 98, 99] ?_
           by_cases h11 : x8 < (y2.1.length : Int)
           ·rw [iP h11] at hm;refine ae rfl (dT h11) ?_;obtain ⟨hg12a, hm⟩ := gd hm;refine eR (em aa.enc y2.1 x8.toNat) [100, 101, 102, 103, 104, 105, 106] ?_;refine az fun k6 hk6 => ?_
            by_cases h13 : (((y2.1.getD x8.toNat default).text).length : Int) = 0
            ·rw [iP h13] at hm;have h13b := eQ h13;refine j7 [107, 108, 109, 110, 111, 112, 113, 114, 115, 116, 117, 118, 119, 120, 121, 122, 123, 124, 125, 126, 127, 128, 129] (by kernel_rfl) [0, 1, 3, 7, 7, 23, 7, 119, 255, 511, 1023, 2047, 2047, 2047, 2047, 26623, 65535, 2047, 2047, 395263, 919551, 1968127, 4194303, 8388607] [true, true, true, false, false, false, false, false, true, true, true, false, false, false, false, false, false, false, false, false, false, false, true, true] (by kernel_rfl) fun k hk => ?_;refine fY ?_;simp (maxSteps := 3000000) only [bA, bT, tab, bX, reduceIte, ↓reduceIte, reduceCtorEq, Int.reduceToNat, Nat.reduceDiv, Nat.reduceMod, Nat.reduceLT, Nat.reduceLeDiff, Nat.reduceAdd, Nat.reduceSub, Nat.reduceMul, Nat.reduceEqDiff, Nat.reduceBEq, Nat.reduceBNe, Nat.reduceGT, h13b]
             repeat refine sd ?_
             refine hk _ _ ?_;clear hk k;refine ae rfl rfl ?_;refine am [0, 3, 5, 6, 9, 130] ?_;have ho14 := aO hm hr1;subst ho14;replace hm : some false = some r := hm1;refine ax ?_;refine aB (ar (aF (bt (ar (aF ?_)))))
             cases hm
             exact kr 0
            ·rw [iN h13] at hm;have h13b := nB h13;refine j7 [107, 108, 109, 110, 111, 112, 113, 114, 115, 116, 117, 118, 119, 120, 121, 122, 123, 124, 125, 126, 127, 128, 129] (by kernel_rfl) [0, 1, 3, 7, 7, 23, 7, 119, 255, 511, 1023, 2047, 2047, 2047, 2047, 26623, 65535, 2047, 2047, 395263, 919551, 1968127, 4194303, 8388607] [true, true, true, false, false, false, false, false, true, true, true, false, false, false, false, false, false, false, false, false, false, false, true, true] (by kernel_rfl) fun k hk => ?_;refine mB 11 rfl ?_;simp (maxSteps := 3000000) only [bA, bT, tab, bX, reduceIte, ↓reduceIte, reduceCtorEq, Int.reduceToNat, Nat.reduceDiv, Nat.reduceMod, Nat.reduceLT, Nat.reduceLeDiff, Nat.reduceAdd, Nat.reduceSub, Nat.reduceMul, Nat.reduceEqDiff, Nat.reduceBEq, Nat.reduceBNe, Nat.reduceGT, h13b]
             repeat refine sd ?_
             by_cases h15 : (((y2.1.getD x8.toNat default).text).length : Int) > (IntKind.wrap .i64 ((p1.length : Int) - x11))
             ·rw [iP h15] at hm;have h15b := dT h15;refine fY ?_;simp (maxSteps := 3000000) only [bA, bT, tab, bX, reduceIte, ↓reduceIte, reduceCtorEq, Int.reduceToNat, Nat.reduceDiv, Nat.reduceMod, Nat.reduceLT, Nat.reduceLeDiff, Nat.reduceAdd, Nat.reduceSub, Nat.reduceMul, Nat.reduceEqDiff, Nat.reduceBEq, Nat.reduceBNe, Nat.reduceGT, (a2 h13b h15b)]
              repeat refine sd ?_
              refine hk _ _ ?_;clear hk k;refine ae rfl rfl ?_;refine am [0, 3, 5, 6, 9, 130] ?_;have ho16 := aO hm hr1;subst ho16;replace hm : some false = some r := hm1;refine ax ?_;refine aB (ar (aF (bt (ar (aF ?_)))))
              cases hm
              exact kr 0
             ·rw [iN h15] at hm;have h15b := dF h15;obtain ⟨hg17a, hm⟩ := gd hm;refine fY ?_;simp (maxSteps := 3000000) only [bA, bT, tab, bX, reduceIte, ↓reduceIte, reduceCtorEq, Int.reduceToNat, Nat.reduceDiv, Nat.reduceMod, Nat.reduceLT, Nat.reduceLeDiff, Nat.reduceAdd, Nat.reduceSub, Nat.reduceMul, Nat.reduceEqDiff, Nat.reduceBEq, Nat.reduceBNe, Nat.reduceGT, (a2 (em aa.enc y2.1 x8.toNat) (a2 h13b h15b))]
              repeat refine sd ?_
              refine hk _ _ ?_;clear hk k
              by_cases h18 : ((p1.take ((IntKind.wrap .i64 (x11 + (((y2.1.getD x8.toNat default).text).length : Int))).toNat)).drop x11.toNat) = ((y2.1.getD x8.toNat default).text)
              ·rw [iP h18] at hm;refine ag rfl (by rw [show (((p1.take ((IntKind.wrap .i64 (x11 + (((y2.1.getD x8.toNat default).text).length : Int))).toNat)).drop x11.toNat) == ((y2.1.getD x8.toNat default).text)) = true from (eQ h18)]; rfl) ?_;refine ak ?_;refine aw (hk6 _ _ ?_);refine aR ?_;refine af ?_;refine ah (IntKind.wrap .i64 (x11 + (((y2.1.getD x8.toNat default).text).length : Int))) () hm ?_;exact ls
              ·rw [iN h18] at hm;refine ae rfl (by rw [show (((p1.take ((IntKind.wrap .i64 (x11 + (((y2.1.getD x8.toNat default).text).length : Int))).toNat)).drop x11.toNat) == ((y2.1.getD x8.toNat default).text)) = false from (nB h18)]; rfl) ?_;refine am [0, 3, 5, 6, 9, 130] ?_;have ho19 := aO hm hr1;subst ho19;replace hm : some false = some r := hm1;refine ax ?_;refine aB (ar (aF (bt (ar (aF ?_)))))
               cases hm
               exact kr 0
           ·rw [iN h11] at hm;refine ag rfl (dF h11) ?_;refine ak ?_;refine af ?_;refine ah x11 () hm ?_;exact ls
       ·rintro x9 _ hm;replace hm : bn x8 x9 = some r1 := hm;refine bl ?_;unfold bn at hm;refine aR ?_;refine an (x9, (IntKind.wrap .i64 (x8 + 1))) () hm ?_;exact ls
      ·rw [iN h8] at hm;refine ag rfl (dF h8) ?_;refine cQ ?_;have ho36 := aO hm hr1;subst ho36;replace hm : cl = some r := hm1;refine cx (bB (aN ?_));refine ah () () hm ?_;exact ls
    ·rintro _ _ hm;replace hm : cl = some r := hm;refine bl ?_;unfold cl at hm;refine am [] ?_;refine ax ?_
     cases hm
     exact kr 0
 ·rw [iN h2] at hm;refine ae rfl (by rw [show y1 = false from (fB h2)]; rfl) ?_;refine am [0, 11] ?_;refine ax ?_;refine aB ?_
  cases hm
  exact kr 0
end Pam
