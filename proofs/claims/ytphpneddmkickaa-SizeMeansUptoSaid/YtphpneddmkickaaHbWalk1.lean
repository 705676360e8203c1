/- the walk of law_SizeMeans, printed by a program of ours -/
import Derived.Test.YtphpneddmkickaaHBase2
import Derived.Test.YtphpneddmkickaaHBase3
import Derived.Test.YtphpneddmkickaaHbcFun1
import Derived.Test.YtphpneddmkickaaHabcWalk1
import Derived.Test.YtphpneddmkickaaHabWalk1
import Derived.Test.YtphpneddmkickaaHbcWalk1
set_option linter.all false
set_option maxRecDepth 100000
set_option maxHeartbeats 8000000
namespace Pam
open Go Go.Proofs
theorem lR (fuel : Nat) (p1 : List Int) (p2 : List Int) (p3 : Int) (r : Bool) (hm : hZ fuel p1 p2 p3 = some r) : cZ Try.prog 4 [.c (.tree 1 (p1.map (eK .i64))), .c (.tree 1 (p2.map (eK .i64))), .c (.int .i64 p3)] (.c (.bool r)) := by
 refine bq 154 [.tmp 6] Try.func4 rfl rfl rfl (by kernel_rfl) (by simp) ?_;refine cU ?_;unfold hZ at hm;refine am [6] ?_;refine ak fun k1 hk1 => ?_;refine bm [24] fun k kp hk hp => ?_;refine go ?_;obtain ⟨y1, hc1, hm⟩ := bd hm;refine RP (fun _ => hI fuel  _ hc1) ?_;refine ae ?_;refine go ?_;refine hk _ _ ?_;clear hk hp k kp
 by_cases h2 : y1 = true
 ·rw [iP h2] at hm;refine ai rfl (by rw [show y1 = true from (h2)]; rfl) ?_;refine ap ?_;refine ah (hk1 _ _ ?_);refine ak fun k2 hk2 => ?_;refine eU [25, 26, 27, 28, 29, 30, 31, 32] fun k kp hk hp => ?_;refine aw 4 ?_;refine go ?_
  by_cases h3 : (p1.length : Int) > 100
  ·rw [iP h3] at hm;have h3b := dT h3;refine ae ?_;refine gox h3b ?_;refine hk _ _ ?_;clear hk hp k kp;refine af rfl rfl ?_;refine am [0, 1, 2, 33] ?_;refine az ?_;refine ao ?_
   cases hm
   exact kr 0
  ·rw [iN h3] at hm;have h3b := dF h3;refine ae ?_;refine gox h3b ?_;refine hk _ _ ?_;clear hk hp k kp
   by_cases h4 : (p2.length : Int) > 100
   ·rw [iP h4] at hm;refine af rfl (dT h4) ?_;refine am [0, 1, 2, 33] ?_;refine az ?_;refine ao ?_
    cases hm
    exact kr 0
   ·rw [iN h4] at hm;refine ai rfl (dF h4) ?_;refine ap ?_;refine ah (hk2 _ _ ?_);refine am [33, 34] ?_;refine gV [.arr 1 0 9 ((lit ([([107] : List UInt8), ([109] : List UInt8), ([110] : List UInt8)] : List (List UInt8))).map eS)] ?_;refine am [] ?_;refine cy (gZ 8 2 39 (by decide) rfl (Nat.le_of_ble_eq_true rfl)) ?_;refine mQ ?_;refine a9 (S := (List aa)) (V := Nat) [0, 7, 8, 10, 35, 36, 37, 38, 39, 40, 41, 42, 43, 44, 45, 46, 47, 48] (fun l4 v5 => [(7, .c (.osl 0 0 0 3)), (8, .c (.osl 1 v5 0 l4.length))]) (fun l4 v5 => [.arr 1 0 9 ((lit ([([107] : List UInt8), ([109] : List UInt8), ([110] : List UInt8)] : List (List UInt8))).map eS), .arr 2 v5 39 (l4.map aa.enc)]) (fun l4 => dy fuel p2 p3 l4 = some r) ?_ ?_
    ·skip;refine am [] ?_
     refine aq ?_;obtain ⟨o3, hl3, hm3⟩ := bd hm;refine bn (S := ((List aa) × Int)) (V := Nat) (O := (List aa)) [7, 8, 10, 35, 36, 37, 38, 39, 40, 41, 42, 43, 44, 45, 46, 47, 48] (fun (l63, x65) v64 => [(7, .c (.osl 0 0 0 3)), (8, .c (.osl 1 v64 0 l63.length)), (10, .c (.int .i64 x65))]) (fun (l63, x65) v64 => [.arr 1 0 9 ((lit ([([107] : List UInt8), ([109] : List UInt8), ([110] : List UInt8)] : List (List UInt8))).map eS), .arr 2 v64 39 (l63.map aa.enc)]) _ _ 0 hl3 ?_ ?_
     ·exact ls
     ·rintro ⟨l63, x65⟩ v64 r3 hm hr3;replace hm : aH p1 l63 x65 = some r3 := hm;refine aU ?_;unfold aH at hm;refine ak fun k8 hk8 => ?_;refine am [35, 36, 37] ?_
      by_cases h32 : x65 < (p1.length : Int)
      ·rw [iP h32] at hm;refine af rfl (dT h32) ?_;refine ap ?_;refine ah (hk8 _ _ ?_);refine ak fun k9 hk9 => ?_;refine aq ?_;obtain ⟨hg33a, hm⟩ := gd hm;refine fA fun k kp hk hp => ?_;refine gox (em (eK .i64) p1 x65.toNat) ?_;obtain ⟨y66, hc34, hm⟩ := bd hm;refine RP (fun _ => fd (p1.getD x65.toNat default) _ hc34) ?_;obtain ⟨⟨hg35ax, hg35ay⟩, hm⟩ := gd hm;refine ae ?_;refine go ?_;refine hk _ _ ?_;clear hk hp k kp;refine aA ?_;refine ah (hk9 _ _ ?_);refine cp ?_;refine aB ((l63 ++ (lit ([(y66)] : List aa))), (IntKind.wrap .i64 (x65 + 1))) (v64 + 1) hm ?_;exact ls
      ·rw [iN h32] at hm;refine ai rfl (dF h32) ?_;refine br ?_;have ho36 := av hm hr3;subst ho36;replace hm : dy fuel p2 p3 l63 = some r := hm3;refine a8 (aY (ar ?_));refine au l63 v64 hm ?_;exact ls
    ·rintro l4 v5 hm;replace hm : dy fuel p2 p3 l4 = some r := hm;refine aU ?_;unfold dy at hm;refine cy (gZ 9 2 39 (by decide) rfl (Nat.le_of_ble_eq_true rfl)) ?_;refine mQ ?_;refine a9 (S := (List aa)) (V := (Nat × Nat)) [1, 7, 8, 9, 11, 49, 50, 51, 52, 53, 54, 55, 56, 57, 58, 59, 60, 61, 62] (fun l10 (v9, v11) => [(7, .c (.osl 0 0 0 3)), (8, .c (.osl 1 v9 0 l4.length)), (9, .c (.osl 2 v11 0 l10.length))]) (fun l10 (v9, v11) => [.arr 1 0 9 ((lit ([([107] : List UInt8), ([109] : List UInt8), ([110] : List UInt8)] : List (List UInt8))).map eS), .arr 2 v9 39 (l4.map aa.enc), .arr 2 v11 39 (l10.map aa.enc)]) (fun l10 => dw fuel p3 l4 l10 = some r) ?_ ?_
     ·skip;refine am [] ?_
      refine aq ?_;obtain ⟨o2, hl2, hm2⟩ := bd hm;refine bn (S := ((List aa) × Int)) (V := (Nat × Nat)) (O := (List aa)) [7, 8, 9, 11, 49, 50, 51, 52, 53, 54, 55, 56, 57, 58, 59, 60, 61, 62] (fun (l46, x48) (v45, v47) => [(7, .c (.osl 0 0 0 3)), (8, .c (.osl 1 v45 0 l4.length)), (9, .c (.osl 2 v47 0 l46.length)), (11, .c (.int .i64 x48))]) (fun (l46, x48) (v45, v47) => [.arr 1 0 9 ((lit ([([107] : List UInt8), ([109] : List UInt8), ([110] : List UInt8)] : List (List UInt8))).map eS), .arr 2 v45 39 (l4.map aa.enc), .arr 2 v47 39 (l46.map aa.enc)]) _ _ (v5, 0) hl2 ?_ ?_
      ·exact ls
      ·rintro ⟨l46, x48⟩ ⟨v45, v47⟩ r2 hm hr2;replace hm : dx p2 l46 x48 = some r2 := hm;refine aU ?_;unfold dx at hm;refine ak fun k6 hk6 => ?_;refine am [49, 50, 51] ?_
       by_cases h27 : x48 < (p2.length : Int)
       ·rw [iP h27] at hm;refine af rfl (dT h27) ?_;refine ap ?_;refine ah (hk6 _ _ ?_);refine ak fun k7 hk7 => ?_;refine aq ?_;obtain ⟨hg28a, hm⟩ := gd hm;refine fA fun k kp hk hp => ?_;refine gox (em (eK .i64) p2 x48.toNat) ?_;obtain ⟨y49, hc29, hm⟩ := bd hm;refine RP (fun _ => fd (p2.getD x48.toNat default) _ hc29) ?_;obtain ⟨⟨hg30ax, hg30ay⟩, hm⟩ := gd hm;refine ae ?_;refine go ?_;refine hk _ _ ?_;clear hk hp k kp;refine aA ?_;refine ah (hk7 _ _ ?_);refine cp ?_;refine aB ((l46 ++ (lit ([(y49)] : List aa))), (IntKind.wrap .i64 (x48 + 1))) (v45, v47 + 1) hm ?_;exact ls
       ·rw [iN h27] at hm;refine ai rfl (dF h27) ?_;refine br ?_;have ho31 := av hm hr2;subst ho31;replace hm : dw fuel p3 l4 l46 = some r := hm2;refine a8 (aY (ar ?_));refine au l46 (v45, v47) hm ?_;exact ls
     ·rintro l10 ⟨v9, v11⟩ hm;replace hm : dw fuel p3 l4 l10 = some r := hm;refine aU ?_;unfold dw at hm;obtain ⟨hg5a, hm⟩ := gd hm;refine am [2, 63, 64, 65, 66, 67, 68, 69, 70] ?_;obtain ⟨⟨hg6a, ⟨hg6bx, hg6by⟩, ⟨hg6cx, hg6cy⟩⟩, hm⟩ := gd hm;refine lC [12, 71, 72, 73, 74, 75, 76, 77, 78] (by kernel_rfl) [0, 0, 3, 7, 0, 0, 48, 127, 255] [false, false, false, false, false, false, false, true, true] (by kernel_rfl) fun k hk => ?_;simp only [bA, bT, tab, bX, reduceIte, ↓reduceIte, reduceCtorEq, Int.reduceToNat, Nat.reduceDiv, Nat.reduceMod, Nat.reduceLT, Nat.reduceLeDiff, Nat.reduceAdd, Nat.reduceSub, Nat.reduceMul, Nat.reduceEqDiff, Nat.reduceBEq, Nat.reduceBNe, Nat.reduceGT]
      repeat refine ⟨by first | omega | assumption | decide | exact ka fun _ => rfl | (intro _; omega) | rfl | (simp only [List.length_take, List.length_drop, List.length_map]; omega) | (and_intros <;> first | omega | assumption | decide | exact ka fun _ => rfl | (simp only [List.length_take, List.length_drop, List.length_map]; omega)), ?_⟩
      refine hk _ _ ?_;clear hk k;refine gV [.arr 1 0 9 ((lit ([([107] : List UInt8), ([109] : List UInt8), ([110] : List UInt8)] : List (List UInt8))).map eS), .arr 2 v9 39 (l4.map aa.enc), .arr 2 v11 39 (l10.map aa.enc), .arr 2 1 39 ((((l4.drop ((IntKind.wrap .i64 ((IntKind.wrap .u64 p3).tmod (IntKind.wrap .u64 (IntKind.wrap .i64 ((l4.length : Int) + 1))))).toNat)).take (l4.length - ((IntKind.wrap .i64 ((IntKind.wrap .u64 p3).tmod (IntKind.wrap .u64 (IntKind.wrap .i64 ((l4.length : Int) + 1))))).toNat))) ++ (l4.take ((IntKind.wrap .i64 ((IntKind.wrap .u64 p3).tmod (IntKind.wrap .u64 (IntKind.wrap .i64 ((l4.length : Int) + 1))))).toNat))).map aa.enc)] ?_;refine ak fun k3 hk3 => ?_;refine bm [79, 80, 81] fun k kp hk hp => ?_;refine go ?_;refine cN (cI 1 rfl) ?_;refine gt ?_;refine cN (cI 3 rfl) ?_;refine gt ?_;obtain ⟨y12, hc7, hm⟩ := bd hm;refine RP (fun _ => jC fuel l4 (((l4.drop ((IntKind.wrap .i64 ((IntKind.wrap .u64 p3).tmod (IntKind.wrap .u64 (IntKind.wrap .i64 ((l4.length : Int) + 1))))).toNat)).take (l4.length - ((IntKind.wrap .i64 ((IntKind.wrap .u64 p3).tmod (IntKind.wrap .u64 (IntKind.wrap .i64 ((l4.length : Int) + 1))))).toNat))) ++ (l4.take ((IntKind.wrap .i64 ((IntKind.wrap .u64 p3).tmod (IntKind.wrap .u64 (IntKind.wrap .i64 ((l4.length : Int) + 1))))).toNat))) _ hc7) ?_;refine ae ?_;refine go ?_;refine hk _ _ ?_;clear hk hp k kp
      by_cases h8 : y12 = true
      ·rw [iP h8] at hm;refine ai rfl (by rw [show y12 = true from (h8)]; rfl) ?_;refine ap ?_;refine ah (hk3 _ _ ?_);refine bm [82, 83, 84, 85] fun k kp hk hp => ?_;refine go ?_;refine cN (cI 2 rfl) ?_;refine gt ?_;obtain ⟨y13, hc9, hm⟩ := bd hm;refine RP (fun _ => jC fuel l4 l10 _ hc9) ?_;refine ae ?_;refine go ?_;refine hk _ _ ?_;clear hk hp k kp;refine a9 (S := Bool) (V := Unit) [6, 7, 8, 9, 13, 15, 16, 17, 18, 19, 20, 21, 22, 23, 86, 87, 88, 89, 90, 91, 92, 93, 94, 95, 96, 97, 98, 99, 100, 101, 102, 103, 104, 105, 106, 107, 108, 109, 110, 111, 112, 113, 114, 115, 116, 117, 118, 119, 120, 121, 122, 123, 124, 125, 126, 127, 128, 129, 130, 131, 132, 133, 134, 135, 136, 137, 138, 139, 140, 141, 142, 143, 144, 145, 146, 147, 148, 149, 150] (fun b14 _ => [(15, .c (.bool b14))]) (fun b14 _ => [.dead, .dead, .dead, .dead]) (fun b14 => dv y13 b14 = some r) ?_ ?_
       ·skip;refine am [] ?_
        refine aq ?_;refine kj (cI 0 rfl) ?_;obtain ⟨o1, hl1, hm1⟩ := bd hm;refine bn (S := (Bool × Int)) (V := Unit) (O := Bool ⊕ Bool) [6, 15, 16, 17, 18, 19, 20, 21, 22, 23, 86, 87, 88, 89, 90, 91, 92, 93, 94, 95, 96, 97, 98, 99, 100, 101, 102, 103, 104, 105, 106, 107, 108, 109, 110, 111, 112, 113, 114, 115, 116, 117, 118, 119, 120, 121, 122, 123, 124, 125, 126, 127, 128, 129, 130, 131, 132, 133, 134, 135, 136, 137, 138, 139, 140, 141, 142, 143, 144, 145, 146, 147, 148, 149, 150] (fun (b19, x20) _ => [(15, .c (.bool b19)), (16, .c (.int .i64 x20))]) (fun (b19, x20) _ => [.dead, .dead, .dead, .dead]) _ _ () hl1 ?_ ?_
        ·exact ls
        ·rintro ⟨b19, x20⟩ _ r1 hm hr1;replace hm : cr fuel p3 l4 l10 y13 b19 x20 = some r1 := hm;refine aU ?_;unfold cr at hm;refine ak fun k4 hk4 => ?_;refine am [86] ?_
         by_cases h10 : x20 < 64
         ·rw [iP h10] at hm;refine af rfl (dT h10) ?_;refine ap ?_;refine ah (hk4 _ _ ?_);refine ak fun k5 hk5 => ?_;refine aq ?_;refine am [87, 90, 91, 92, 93, 94, 95, 96, 97] ?_;refine gV [.dead, .dead, .dead, .dead, .arr 1 0 3 ((lit ([(x20.tmod 4), ((IntKind.wrap .i64 (x20.tdiv 4)).tmod 4), (IntKind.wrap .i64 (x20.tdiv 16))] : List Int)).map (eK .i64))] ?_;refine bm [98, 99, 100, 101, 102, 103, 104] fun k kp hk hp => ?_;refine go ?_;refine cN (cI 4 rfl) ?_;refine gt ?_;obtain ⟨y21, hc11, hm⟩ := bd hm;refine RP (fun _ => dp fuel l4 (lit ([([107] : List UInt8), ([109] : List UInt8), ([110] : List UInt8)] : List (List UInt8))) (lit ([(x20.tmod 4), ((IntKind.wrap .i64 (x20.tdiv 4)).tmod 4), (IntKind.wrap .i64 (x20.tdiv 16))] : List Int)) _ hc11) ?_;refine ae ?_;refine go ?_;refine hk _ _ ?_;clear hk hp k kp;refine bm [105, 106, 107, 108, 109, 110, 111] fun k kp hk hp => ?_;refine go ?_;obtain ⟨y22, hc12, hm⟩ := bd hm;refine RP (fun _ => dp fuel l10 (lit ([([107] : List UInt8), ([109] : List UInt8), ([110] : List UInt8)] : List (List UInt8))) (lit ([(x20.tmod 4), ((IntKind.wrap .i64 (x20.tdiv 4)).tmod 4), (IntKind.wrap .i64 (x20.tdiv 16))] : List Int)) _ hc12) ?_;refine ae ?_;refine go ?_;refine hk _ _ ?_;clear hk hp k kp;refine bm [17, 112, 113, 114, 115, 116, 117, 118] fun k kp hk hp => ?_;refine go ?_;obtain ⟨y23, hc13, hm⟩ := bd hm;refine RP (fun _ => dp fuel (((l4.drop ((IntKind.wrap .i64 ((IntKind.wrap .u64 p3).tmod (IntKind.wrap .u64 (IntKind.wrap .i64 ((l4.length : Int) + 1))))).toNat)).take (l4.length - ((IntKind.wrap .i64 ((IntKind.wrap .u64 p3).tmod (IntKind.wrap .u64 (IntKind.wrap .i64 ((l4.length : Int) + 1))))).toNat))) ++ (l4.take ((IntKind.wrap .i64 ((IntKind.wrap .u64 p3).tmod (IntKind.wrap .u64 (IntKind.wrap .i64 ((l4.length : Int) + 1))))).toNat))) (lit ([([107] : List UInt8), ([109] : List UInt8), ([110] : List UInt8)] : List (List UInt8))) (lit ([(x20.tmod 4), ((IntKind.wrap .i64 (x20.tdiv 4)).tmod 4), (IntKind.wrap .i64 (x20.tdiv 16))] : List Int)) _ hc13) ?_;refine ae ?_;refine go ?_;refine hk _ _ ?_;clear hk hp k kp;refine a9 (S := Unit) (V := Unit) [6, 19, 21, 22, 23, 119, 120, 121, 122, 123, 124, 125, 126, 127, 128, 129, 130, 131, 132, 133, 134, 135, 136, 137, 138, 139, 140, 141, 142, 143, 144] (fun _ _ => []) (fun _ _ => [.dead, .dead, .dead, .dead, .dead, .box [.int .i64 ((y21.2).code), .int .i64 ((y21.2).at_)], .box [.int .i64 ((y22.2).code), .int .i64 ((y22.2).at_)], .box [.int .i64 ((y23.2).code), .int .i64 ((y23.2).at_)]]) (fun _ => c9 b19 x20 y21 y22 = some r1) ?_ ?_
          ·skip;refine eU [19, 21, 22, 23, 119, 120, 121, 122, 123, 124, 125, 126, 127, 128, 129, 130, 131, 132, 133, 134, 135, 136, 137, 138, 139, 140, 141, 142, 143] fun k kp hk hp => ?_
           refine aw 4 ?_;refine go ?_
           by_cases h15 : ¬ ((y21.2).code) = 0
           ·rw [iP h15] at hm;have h15b := bne_iff_ne.2 h15;refine ae ?_;refine gox h15b ?_;refine hk _ _ ?_;clear hk hp k kp;refine af rfl rfl ?_;refine am [7, 8, 9, 13, 14, 15, 16, 18, 20, 144] ?_;have ho16 := av hm hr1;subst ho16;replace hm : some false = some r := hm1;refine az ?_;refine aC (aj (ao (aR (aj (aC ?_)))))
            cases hm
            exact kr 0
           ·rw [iN h15] at hm;have h15b : (((y21.2).code) != 0) = false := bne_eq_false_iff_eq.2 (Decidable.not_not.1 h15);refine aw 5 ?_;refine gox h15b ?_
            by_cases h17 : ¬ ((y22.2).code) = 0
            ·rw [iP h17] at hm;have h17b := bne_iff_ne.2 h17;refine ae ?_;refine gox (a2 h15b h17b) ?_;refine hk _ _ ?_;clear hk hp k kp;refine af rfl rfl ?_;refine am [7, 8, 9, 13, 14, 15, 16, 18, 20, 144] ?_;have ho18 := av hm hr1;subst ho18;replace hm : some false = some r := hm1;refine az ?_;refine aC (aj (ao (aR (aj (aC ?_)))))
             cases hm
             exact kr 0
            ·rw [iN h17] at hm;have h17b : (((y22.2).code) != 0) = false := bne_eq_false_iff_eq.2 (Decidable.not_not.1 h17);refine aw 5 ?_;refine gox (a2 h15b h17b) ?_
             by_cases h19 : ¬ ((y23.2).code) = 0
             ·rw [iP h19] at hm;have h19b := bne_iff_ne.2 h19;refine ae ?_;refine gox (a2 h15b (a2 h17b h19b)) ?_;refine hk _ _ ?_;clear hk hp k kp;refine af rfl rfl ?_;refine am [7, 8, 9, 13, 14, 15, 16, 18, 20, 144] ?_;have ho20 := av hm hr1;subst ho20;replace hm : some false = some r := hm1;refine az ?_;refine aC (aj (ao (aR (aj (aC ?_)))))
              cases hm
              exact kr 0
             ·rw [iN h19] at hm;have h19b : (((y23.2).code) != 0) = false := bne_eq_false_iff_eq.2 (Decidable.not_not.1 h19);refine aw 5 ?_;refine gox (a2 h15b (a2 h17b h19b)) ?_
              by_cases h21 : ¬ y21.1 = y23.1
              ·rw [iP h21] at hm;have h21b := bne_iff_ne.2 h21;refine ae ?_;refine gox (a2 h15b (a2 h17b (a2 h19b h21b))) ?_;refine hk _ _ ?_;clear hk hp k kp;refine af rfl rfl ?_;refine am [7, 8, 9, 13, 14, 15, 16, 18, 20, 144] ?_;have ho22 := av hm hr1;subst ho22;replace hm : some false = some r := hm1;refine az ?_;refine aC (aj (ao (aR (aj (aC ?_)))))
               cases hm
               exact kr 0
              ·rw [iN h21] at hm;have h21b : (y21.1 != y23.1) = false := bne_eq_false_iff_eq.2 (Decidable.not_not.1 h21)
               by_cases h23 : y13 = true
               ·rw [iP h23] at hm;have h23b := h23;refine ae ?_;refine gox (a2 h15b (a2 h17b (a2 h19b (a2 h21b h23b)))) ?_;refine hk _ _ ?_;clear hk hp k kp
                by_cases h24 : ¬ y21.1 = y22.1
                ·rw [iP h24] at hm;refine af rfl (bne_iff_ne.2 h24) ?_;refine am [7, 8, 9, 13, 14, 15, 16, 18, 20, 144] ?_;have ho25 := av hm hr1;subst ho25;replace hm : some false = some r := hm1;refine az ?_;refine aC (aj (ao (aR (aj (aC ?_)))))
                 cases hm
                 exact kr 0
                ·rw [iN h24] at hm;refine ai rfl (bne_eq_false_iff_eq.2 (Decidable.not_not.1 h24)) ?_;refine ap ?_;refine au () () hm ?_;exact la
               ·rw [iN h23] at hm;have h23b := fB h23;refine ae ?_;refine gox (a2 h15b (a2 h17b (a2 h19b (a2 h21b h23b)))) ?_;refine hk _ _ ?_;clear hk hp k kp;refine ai rfl rfl ?_;refine ap ?_;refine au () () hm ?_;exact la
          ·rintro _ _ hm;replace hm : c9 b19 x20 y21 y22 = some r1 := hm;refine aU ?_;unfold c9 at hm
           by_cases h14 : b19 = true
           ·rw [iP h14] at hm;have h14b := h14;refine nD h14b ?_;refine aA ?_;refine ah (hk5 _ _ ?_);refine cp ?_;refine aB (true, (IntKind.wrap .i64 (x20 + 1))) () hm ?_;exact la
           ·rw [iN h14] at hm;have h14b := fB h14;refine nD h14b ?_;refine aA ?_;refine ah (hk5 _ _ ?_);refine cp ?_;refine aB ((y21.1 != y22.1), (IntKind.wrap .i64 (x20 + 1))) () hm ?_;exact la
         ·rw [iN h10] at hm;refine ai rfl (dF h10) ?_;refine br ?_;have ho26 := av hm hr1;subst ho26;replace hm : dv y13 b19 = some r := hm1;refine a8 (aY (ar ?_));refine au b19 () hm ?_;exact ls
       ·rintro b14 _ hm;replace hm : dv y13 b14 = some r := hm;refine aU ?_;unfold dv at hm;refine am [14, 15, 151, 152, 153] ?_;refine az ?_
        cases hm
        exact kr 0
      ·rw [iN h8] at hm;refine af rfl (by rw [show y12 = false from (fB h8)]; rfl) ?_;refine am [7, 8, 9, 13, 82] ?_;refine az ?_;refine ao ?_
       cases hm
       exact kr 0
 ·rw [iN h2] at hm;refine af rfl (by rw [show y1 = false from (fB h2)]; rfl) ?_;refine am [0, 1, 2, 25] ?_;refine az ?_;refine ao ?_
  cases hm
  exact kr 0
end Pam
