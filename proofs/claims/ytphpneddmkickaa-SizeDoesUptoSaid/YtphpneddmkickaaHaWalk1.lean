/- the walk of law_sizeGreat, printed by a program of ours -/
import Derived.Test.YtphpneddmkickaaHBase2
import Derived.Test.YtphpneddmkickaaHBase3
import Derived.Test.YtphpneddmkickaaHabcFun1
import Derived.Test.YtphpneddmkickaaHabcWalk1
import Derived.Test.YtphpneddmkickaaHabWalk1
set_option linter.all false
set_option maxRecDepth 100000
set_option maxHeartbeats 8000000
namespace Pam
open Go Go.Proofs
theorem lH (p1 : List aa) (p2 : List (List UInt8)) (p3 : List (List aa)) (r : Bool) (hm : gh p1 p2 p3 = some r) : cZ Try.prog 7 [.c (.tree 2 (p1.map aa.enc)), .c (.tree 1 (p2.map eS)), .c (.tree 1 (p3.map (eL 2 aa.enc)))] (.c (.bool r)) := by
 refine bq 80 [.tmp 6] Try.func7 rfl rfl rfl (by kernel_rfl) (by simp) ?_;refine cU ?_;unfold gh at hm;refine am [6] ?_;refine ak fun k1 hk1 => ?_;refine eU [11, 12, 13, 14, 15, 16, 17, 18, 19, 20, 21, 22] fun k kp hk hp => ?_;refine aw 4 ?_;refine go ?_
 by_cases h1 : (p1.length : Int) > 1100
 ·rw [iP h1] at hm;have h1b := dT h1;refine ae ?_;refine gox h1b ?_;refine hk _ _ ?_;clear hk hp k kp;refine af rfl rfl ?_;refine am [0, 1, 2, 23] ?_;refine az ?_;refine ao ?_
  cases hm
  exact kr 0
 ·rw [iN h1] at hm;have h1b := dF h1;refine aw 5 ?_;refine gox h1b ?_
  by_cases h2 : (p2.length : Int) > 100
  ·rw [iP h2] at hm;have h2b := dT h2;refine ae ?_;refine gox (a2 h1b h2b) ?_;refine hk _ _ ?_;clear hk hp k kp;refine af rfl rfl ?_;refine am [0, 1, 2, 23] ?_;refine az ?_;refine ao ?_
   cases hm
   exact kr 0
  ·rw [iN h2] at hm;have h2b := dF h2;refine ae ?_;refine gox (a2 h1b h2b) ?_;refine hk _ _ ?_;clear hk hp k kp
   by_cases h3 : (p3.length : Int) > 100
   ·rw [iP h3] at hm;refine af rfl (dT h3) ?_;refine am [0, 1, 2, 23] ?_;refine az ?_;refine ao ?_
    cases hm
    exact kr 0
   ·rw [iN h3] at hm;refine ai rfl (dF h3) ?_;refine ap ?_;refine ah (hk1 _ _ ?_);refine a9 (S := Unit) (V := Unit) [0, 6, 7, 23, 24, 25, 26, 27, 28, 29, 30, 31, 32, 33, 34, 35, 36] (fun _ _ => []) (fun _ _ => []) (fun _ => dt p2 p3 = some r) ?_ ?_
    ·skip;refine am [23] ?_
     refine aq ?_;obtain ⟨o4, hl4, hm4⟩ := bd hm;refine bn (S := Int) (V := Unit) (O := Unit ⊕ Bool) [6, 7, 24, 25, 26, 27, 28, 29, 30, 31, 32, 33, 34, 35, 36] (fun x15 _ => [(7, .c (.int .i64 x15))]) (fun x15 _ => []) _ _ () hl4 ?_ ?_
     ·exact ls
     ·rintro x15 _ r4 hm hr4;replace hm : eH p1 x15 = some r4 := hm;refine aU ?_;unfold eH at hm;refine ak fun k8 hk8 => ?_;refine am [24, 25, 26] ?_
      by_cases h20 : x15 < (p1.length : Int)
      ·rw [iP h20] at hm;refine af rfl (dT h20) ?_;refine ap ?_;refine ah (hk8 _ _ ?_);refine ak fun k9 hk9 => ?_;refine aq ?_;obtain ⟨hg21a, hm⟩ := gd hm;refine cJ (em aa.enc p1 x15.toNat) [27, 30, 31, 32, 33, 34, 35] ?_
       by_cases h22 : (((p1.getD x15.toNat default).name).length : Int) > 100
       ·rw [iP h22] at hm;refine af rfl (dT h22) ?_;refine am [0, 1, 2, 7, 36] ?_;have ho23 := av hm hr4;subst ho23;replace hm : some true = some r := hm4;refine az ?_;refine aj (ao (aR (aj (aC ?_))))
        cases hm
        exact kr 0
       ·rw [iN h22] at hm;refine ai rfl (dF h22) ?_;refine ap ?_;refine aA ?_;refine ah (hk9 _ _ ?_);refine cp ?_;refine aB (IntKind.wrap .i64 (x15 + 1)) () hm ?_;exact ls
      ·rw [iN h20] at hm;refine ai rfl (dF h20) ?_;refine br ?_;have ho24 := av hm hr4;subst ho24;replace hm : dt p2 p3 = some r := hm4;refine a8 (aY (ar ?_));refine au () () hm ?_;exact ls
    ·rintro _ _ hm;replace hm : dt p2 p3 = some r := hm;refine aU ?_;unfold dt at hm;refine a9 (S := Unit) (V := Unit) [1, 6, 8, 37, 38, 39, 40, 41, 42, 43, 44, 45, 46, 47, 48] (fun _ _ => []) (fun _ _ => []) (fun _ => dr p3 = some r) ?_ ?_
     ·skip;refine am [] ?_
      refine aq ?_;obtain ⟨o3, hl3, hm3⟩ := bd hm;refine bn (S := Int) (V := Unit) (O := Unit ⊕ Bool) [6, 8, 37, 38, 39, 40, 41, 42, 43, 44, 45, 46, 47, 48] (fun x11 _ => [(8, .c (.int .i64 x11))]) (fun x11 _ => []) _ _ () hl3 ?_ ?_
      ·exact ls
      ·rintro x11 _ r3 hm hr3;replace hm : eG p2 x11 = some r3 := hm;refine aU ?_;unfold eG at hm;refine ak fun k6 hk6 => ?_;refine am [37, 38, 39] ?_
       by_cases h15 : x11 < (p2.length : Int)
       ·rw [iP h15] at hm;refine af rfl (dT h15) ?_;refine ap ?_;refine ah (hk6 _ _ ?_);refine ak fun k7 hk7 => ?_;refine aq ?_;obtain ⟨hg16a, hm⟩ := gd hm;refine cJ (em eS p2 x11.toNat) [40, 43, 44, 45, 46, 47] ?_
        by_cases h17 : ((p2.getD x11.toNat default).length : Int) > 100
        ·rw [iP h17] at hm;refine af rfl (dT h17) ?_;refine am [1, 2, 8, 48] ?_;have ho18 := av hm hr3;subst ho18;replace hm : some true = some r := hm3;refine az ?_;refine aj (ao (aR (aj (aC ?_))))
         cases hm
         exact kr 0
        ·rw [iN h17] at hm;refine ai rfl (dF h17) ?_;refine ap ?_;refine aA ?_;refine ah (hk7 _ _ ?_);refine cp ?_;refine aB (IntKind.wrap .i64 (x11 + 1)) () hm ?_;exact ls
       ·rw [iN h15] at hm;refine ai rfl (dF h15) ?_;refine br ?_;have ho19 := av hm hr3;subst ho19;replace hm : dr p3 = some r := hm3;refine a8 (aY (ar ?_));refine au () () hm ?_;exact ls
     ·rintro _ _ hm;replace hm : dr p3 = some r := hm;refine aU ?_;unfold dr at hm;refine a9 (S := Unit) (V := Unit) [2, 6, 9, 10, 49, 50, 51, 52, 53, 54, 55, 56, 57, 58, 59, 60, 61, 62, 63, 64, 65, 66, 67, 68, 69, 70, 71, 72, 73, 74, 75, 76, 77, 78, 79] (fun _ _ => []) (fun _ _ => []) (fun _ => eC = some r) ?_ ?_
      ·skip;refine am [] ?_
       refine aq ?_;obtain ⟨o1, hl1, hm1⟩ := bd hm;refine bn (S := Int) (V := Unit) (O := Unit ⊕ Bool) [6, 9, 10, 49, 50, 51, 52, 53, 54, 55, 56, 57, 58, 59, 60, 61, 62, 63, 64, 65, 66, 67, 68, 69, 70, 71, 72, 73, 74, 75, 76, 77, 78, 79] (fun x3 _ => [(9, .c (.int .i64 x3))]) (fun x3 _ => []) _ _ () hl1 ?_ ?_
       ·exact ls
       ·rintro x3 _ r1 hm hr1;replace hm : eF p3 x3 = some r1 := hm;refine aU ?_;unfold eF at hm;refine ak fun k2 hk2 => ?_;refine am [49, 50, 51] ?_
        by_cases h4 : x3 < (p3.length : Int)
        ·rw [iP h4] at hm;refine af rfl (dT h4) ?_;refine ap ?_;refine ah (hk2 _ _ ?_);refine a9 (S := Unit) (V := Unit) [6, 10, 52, 55, 56, 57, 58, 59, 60, 61, 62, 63, 64, 65, 66, 67, 68, 69, 70, 71, 72, 73, 74, 75, 76, 77, 78, 79] (fun _ _ => []) (fun _ _ => []) (fun _ => eD x3 = some r1) ?_ ?_
         ·skip;refine aq ?_
          refine ak fun k3 hk3 => ?_;obtain ⟨hg5a, hm⟩ := gd hm;refine cJ (em (eL 2 aa.enc) p3 x3.toNat) [52, 55, 56, 57, 58, 59] ?_
          by_cases h6 : ((p3.getD x3.toNat default).length : Int) > 1100
          ·rw [iP h6] at hm;refine af rfl (dT h6) ?_;refine am [2, 9, 60] ?_;have ho7 := av hm hr1;subst ho7;replace hm : some true = some r := hm1;refine az ?_;refine ao (aj (aC (aR (aj (aC ?_)))))
           cases hm
           exact kr 0
          ·rw [iN h6] at hm;refine ai rfl (dF h6) ?_;refine ap ?_;refine ah (hk3 _ _ ?_);refine am [60] ?_;refine aq ?_;obtain ⟨o2, hl2, hm2⟩ := bd hm;refine bn (S := Int) (V := Unit) (O := Unit ⊕ Bool) [6, 10, 61, 62, 63, 64, 65, 66, 67, 68, 69, 70, 71, 72, 73, 74, 75, 76, 77, 78, 79] (fun x6 _ => [(10, .c (.int .i64 x6))]) (fun x6 _ => []) _ _ () hl2 ?_ ?_
           ·exact ls
           ·rintro x6 _ r2 hm hr2;replace hm : eE p3 x3 x6 = some r2 := hm;refine aU ?_;unfold eE at hm;refine ak fun k4 hk4 => ?_;refine cJ (em (eL 2 aa.enc) p3 x3.toNat) [61, 62, 63, 64, 65, 66] ?_
            by_cases h8 : x6 < ((p3.getD x3.toNat default).length : Int)
            ·rw [iP h8] at hm;refine af rfl (dT h8) ?_;refine ap ?_;refine ah (hk4 _ _ ?_);refine ak fun k5 hk5 => ?_;refine aq ?_;obtain ⟨hg9a, hm⟩ := gd hm;refine cJ (a2 (em (eL 2 aa.enc) p3 x3.toNat) (em aa.enc (p3.getD x3.toNat default) x6.toNat)) [67, 70, 71, 72, 73, 74, 75, 76, 77, 78] ?_
             by_cases h10 : ((((p3.getD x3.toNat default).getD x6.toNat default).name).length : Int) > 100
             ·rw [iP h10] at hm;refine af rfl (dT h10) ?_;refine am [2, 9, 10, 79] ?_;have ho11 := av hm hr2;subst ho11;replace hm : some (.inr (.inr true)) = some r1 := hm2;have ho12 := av hm hr1;subst ho12;replace hm : some true = some r := hm1;refine az ?_;refine aj (ao (aR (aj (aj (aC (aR (aj (aC ?_))))))))
              cases hm
              exact kr 0
             ·rw [iN h10] at hm;refine ai rfl (dF h10) ?_;refine ap ?_;refine aA ?_;refine ah (hk5 _ _ ?_);refine cp ?_;refine aB (IntKind.wrap .i64 (x6 + 1)) () hm ?_;exact ls
            ·rw [iN h8] at hm;refine ai rfl (dF h8) ?_;refine br ?_;have ho13 := av hm hr2;subst ho13;replace hm : eD x3 = some r1 := hm2;refine a8 (aY (ar (aA ?_)));refine au () () hm ?_;exact ls
         ·rintro _ _ hm;replace hm : eD x3 = some r1 := hm;refine aU ?_;unfold eD at hm;refine cp ?_;refine aB (IntKind.wrap .i64 (x3 + 1)) () hm ?_;exact ls
        ·rw [iN h4] at hm;refine ai rfl (dF h4) ?_;refine br ?_;have ho14 := av hm hr1;subst ho14;replace hm : eC = some r := hm1;refine a8 (aY (ar ?_));refine au () () hm ?_;exact ls
      ·rintro _ _ hm;replace hm : eC = some r := hm;refine aU ?_;unfold eC at hm;refine am [] ?_;refine az ?_
       cases hm
       exact kr 0
theorem kO (p1 : List aa) (r : Bool) (hm : fb p1 = some r) : cZ Try.prog 7 [.c (.tree 2 (p1.map aa.enc)), .c (.nils), .c (.nils)] (.c (.bool r)) := by
 refine bq 80 [.tmp 6] Try.func7 rfl rfl rfl (by kernel_rfl) (by simp) ?_;refine cU ?_;unfold fb at hm;refine am [6] ?_;refine ak fun k1 hk1 => ?_;refine eU [11, 12, 13, 14, 15, 16, 17, 18, 19, 20, 21, 22] fun k kp hk hp => ?_;refine aw 4 ?_;refine go ?_
 by_cases h1 : (p1.length : Int) > 1100
 ·rw [iP h1] at hm;have h1b := dT h1;refine ae ?_;refine gox h1b ?_;refine hk _ _ ?_;clear hk hp k kp;refine af rfl rfl ?_;refine am [0, 1, 2, 23] ?_;refine az ?_;refine ao ?_
  cases hm
  exact kr 0
 ·rw [iN h1] at hm;have h1b := dF h1;refine aw 5 ?_;refine gox h1b ?_
  by_cases h2 : (0 : Int) > 100
  ·rw [iP h2] at hm;have h2b := dT h2;refine ae ?_;refine gox (a2 h1b h2b) ?_;refine hk _ _ ?_;clear hk hp k kp;refine af rfl rfl ?_;refine am [0, 1, 2, 23] ?_;refine az ?_;refine ao ?_
   cases hm
   exact kr 0
  ·rw [iN h2] at hm;have h2b := dF h2;refine ae ?_;refine gox (a2 h1b h2b) ?_;refine hk _ _ ?_;clear hk hp k kp;refine ai rfl rfl ?_;refine ap ?_;refine ah (hk1 _ _ ?_);refine a9 (S := Unit) (V := Unit) [0, 6, 7, 23, 24, 25, 26, 27, 28, 29, 30, 31, 32, 33, 34, 35, 36] (fun _ _ => []) (fun _ _ => []) (fun _ => cP = some r) ?_ ?_
   ·skip;refine am [23] ?_
    refine aq ?_;obtain ⟨o3, hl3, hm3⟩ := bd hm;refine bn (S := Int) (V := Unit) (O := Unit ⊕ Bool) [6, 7, 24, 25, 26, 27, 28, 29, 30, 31, 32, 33, 34, 35, 36] (fun x3 _ => [(7, .c (.int .i64 x3))]) (fun x3 _ => []) _ _ () hl3 ?_ ?_
    ·exact ls
    ·rintro x3 _ r3 hm hr3;replace hm : dB p1 x3 = some r3 := hm;refine aU ?_;unfold dB at hm;refine ak fun k6 hk6 => ?_;refine am [24, 25, 26] ?_
     by_cases h7 : x3 < (p1.length : Int)
     ·rw [iP h7] at hm;refine af rfl (dT h7) ?_;refine ap ?_;refine ah (hk6 _ _ ?_);refine ak fun k7 hk7 => ?_;refine aq ?_;obtain ⟨hg8a, hm⟩ := gd hm;refine cJ (em aa.enc p1 x3.toNat) [27, 30, 31, 32, 33, 34, 35] ?_
      by_cases h9 : (((p1.getD x3.toNat default).name).length : Int) > 100
      ·rw [iP h9] at hm;refine af rfl (dT h9) ?_;refine am [0, 1, 2, 7, 36] ?_;have ho10 := av hm hr3;subst ho10;replace hm : some true = some r := hm3;refine az ?_;refine aj (ao (aR (aj (aC ?_))))
       cases hm
       exact kr 0
      ·rw [iN h9] at hm;refine ai rfl (dF h9) ?_;refine ap ?_;refine aA ?_;refine ah (hk7 _ _ ?_);refine cp ?_;refine aB (IntKind.wrap .i64 (x3 + 1)) () hm ?_;exact ls
     ·rw [iN h7] at hm;refine ai rfl (dF h7) ?_;refine br ?_;have ho11 := av hm hr3;subst ho11;replace hm : cP = some r := hm3;refine a8 (aY (ar ?_));refine au () () hm ?_;exact ls
   ·rintro _ _ hm;replace hm : cP = some r := hm;refine aU ?_;unfold cP at hm;refine a9 (S := Unit) (V := Unit) [1, 6, 8, 37, 38, 39, 40, 41, 42, 43, 44, 45, 46, 47, 48] (fun _ _ => []) (fun _ _ => []) (fun _ => c8 = some r) ?_ ?_
    ·skip;refine am [] ?_
     refine aq ?_;obtain ⟨o2, hl2, hm2⟩ := bd hm;refine bn (S := Unit) (V := Unit) (O := Unit) [6, 8, 37, 38, 39, 40, 41, 42, 43, 44, 45, 46, 47, 48] (fun _ _ => [(8, .c (.int .i64 0))]) (fun _ _ => []) _ _ () hl2 ?_ ?_
     ·exact ls
     ·rintro _ _ r2 hm hr2;replace hm : eX = some r2 := hm;refine aU ?_;unfold eX at hm;refine ak fun k4 hk4 => ?_;refine am [37, 38, 39] ?_
      by_cases h5 : (0 : Int) < 0
      ·rw [iP h5] at hm;refine af rfl (dT h5) ?_;refine ap ?_;refine ah (hk4 _ _ ?_);refine ak fun k5 hk5 => ?_;refine aq ?_
       cases hm
      ·rw [iN h5] at hm;refine ai rfl (dF h5) ?_;refine br ?_;have ho6 := av hm hr2;subst ho6;replace hm : c8 = some r := hm2;refine a8 (aY (ar ?_));refine au () () hm ?_;exact ls
    ·rintro _ _ hm;replace hm : c8 = some r := hm;refine aU ?_;unfold c8 at hm;refine a9 (S := Unit) (V := Unit) [2, 6, 9, 10, 49, 50, 51, 52, 53, 54, 55, 56, 57, 58, 59, 60, 61, 62, 63, 64, 65, 66, 67, 68, 69, 70, 71, 72, 73, 74, 75, 76, 77, 78, 79] (fun _ _ => []) (fun _ _ => []) (fun _ => dA = some r) ?_ ?_
     ·skip;refine am [] ?_
      refine aq ?_;obtain ⟨o1, hl1, hm1⟩ := bd hm;refine bn (S := Unit) (V := Unit) (O := Unit) [6, 9, 10, 49, 50, 51, 52, 53, 54, 55, 56, 57, 58, 59, 60, 61, 62, 63, 64, 65, 66, 67, 68, 69, 70, 71, 72, 73, 74, 75, 76, 77, 78, 79] (fun _ _ => [(9, .c (.int .i64 0))]) (fun _ _ => []) _ _ () hl1 ?_ ?_
      ·exact ls
      ·rintro _ _ r1 hm hr1;replace hm : eW = some r1 := hm;refine aU ?_;unfold eW at hm;refine ak fun k2 hk2 => ?_;refine am [49, 50, 51] ?_
       by_cases h3 : (0 : Int) < 0
       ·rw [iP h3] at hm;refine af rfl (dT h3) ?_;refine ap ?_;refine ah (hk2 _ _ ?_);refine a9 (S := Unit) (V := Unit) [6, 10, 52, 55, 56, 57, 58, 59, 60, 61, 62, 63, 64, 65, 66, 67, 68, 69, 70, 71, 72, 73, 74, 75, 76, 77, 78, 79] (fun _ _ => []) (fun _ _ => []) (fun _ => False) ?_ ?_
        ·skip;refine aq ?_
         refine ak fun k3 hk3 => ?_
         cases hm
        ·rintro _ _ hm;exact hm.elim
       ·rw [iN h3] at hm;refine ai rfl (dF h3) ?_;refine br ?_;have ho4 := av hm hr1;subst ho4;replace hm : dA = some r := hm1;refine a8 (aY (ar ?_));refine au () () hm ?_;exact ls
     ·rintro _ _ hm;replace hm : dA = some r := hm;refine aU ?_;unfold dA at hm;refine am [] ?_;refine az ?_
      cases hm
      exact kr 0
theorem ij (p1 : Int) (p2 : Int) (r : ag) (hm : iq p1 p2 = some r) : cZ Try.prog 24 [.c (.int .i64 p1), .c (.int .i64 p2)] (.a [.int .i64 ((r).code), .int .i64 ((r).at_)]) := by
 refine bq 8 [.cell 4 30] Try.func24 rfl rfl rfl (by kernel_rfl) (by simp) ?_;refine cU ?_;unfold iq at hm;refine am [] ?_;refine am [0, 1, 5, 6, 7] ?_;refine az ?_
 cases hm
 exact kr 0
theorem hU (p1 : Int) (r : Bool) (hm : fI p1 = some r) : cZ Try.prog 25 [.c (.int .i64 p1)] (.c (.bool r)) := by
 refine bq 9 [.tmp 2] Try.func25 rfl rfl rfl (by kernel_rfl) (by simp) ?_;refine cU ?_;unfold fI at hm;refine am [2] ?_
 by_cases h1 : p1 ≥ (-1000000)
 ·rw [iP h1] at hm;have h1b := dT h1;refine cJ h1b [0, 3, 4, 5, 6, 7, 8] ?_;refine az ?_
  cases hm
  exact kr 0
 ·rw [iN h1] at hm;have h1b := dF h1;refine cJ h1b [0, 3, 4, 5, 6, 7, 8] ?_;refine az ?_
  cases hm
  exact kr 0
theorem iZ (p1 : List aa) (r : ((List aa) × ag)) (hm : dj p1 = some r) : cZ Try.prog 9 [.c (.tree 2 (p1.map aa.enc))] (.t [.c (.tree 2 (r.1.map aa.enc)), .a [.int .i64 ((r.2).code), .int .i64 ((r.2).at_)]]) := by
 refine bq 110 [.tmp 2, .cell 3 30] Try.func9 rfl rfl rfl (by kernel_rfl) (by simp) ?_;refine cU ?_;unfold dj at hm;refine am [2] ?_;refine ak fun k1 hk1 => ?_;refine am [11, 12] ?_
 by_cases h1 : (p1.length : Int) > 1000
 ·rw [iP h1] at hm;refine af rfl (dT h1) ?_;refine bm [0, 13, 14] fun k kp hk hp => ?_;refine go ?_;obtain ⟨y1, hc2, hm⟩ := bd hm;refine RP (fun _ => ij 7 (-1) _ hc2) ?_;refine ae ?_;refine go ?_;refine hk _ _ ?_;clear hk hp k kp
  refine cy (cH 2 (.c (.tree 2 (([] : List _).map aa.enc))) rfl (by and_intros <;> trivial)) ?_
  refine gU ?_;refine az ?_;refine ao ?_
  cases hm
  exact kr 0
 ·rw [iN h1] at hm;refine ai rfl (dF h1) ?_;refine ap ?_;refine ah (hk1 _ _ ?_);refine a9 (S := Unit) (V := Unit) [2, 4, 13, 15, 16, 17, 18, 19, 20, 21, 22, 23, 24, 25, 26, 27, 28, 29] (fun _ _ => []) (fun _ _ => [.box [.int .i64 0, .int .i64 0]]) (fun _ => gx p1 = some r) ?_ ?_
  ·skip;refine am [13] ?_
   refine aq ?_;obtain ⟨o4, hl4, hm4⟩ := bd hm;refine bn (S := Int) (V := Unit) (O := Unit ⊕ ((List aa) × ag)) [2, 4, 15, 16, 17, 18, 19, 20, 21, 22, 23, 24, 25, 26, 27, 28, 29] (fun x56 _ => [(4, .c (.int .i64 x56))]) (fun x56 _ => [.box [.int .i64 0, .int .i64 0]]) _ _ () hl4 ?_ ?_
   ·exact ls
   ·rintro x56 _ r4 hm hr4;replace hm : gy p1 x56 = some r4 := hm;refine aU ?_;unfold gy at hm;refine ak fun k8 hk8 => ?_;refine am [15, 16, 17] ?_
    by_cases h22 : x56 < (p1.length : Int)
    ·rw [iP h22] at hm;refine af rfl (dT h22) ?_;refine ap ?_;refine ah (hk8 _ _ ?_);refine ak fun k9 hk9 => ?_;refine aq ?_;obtain ⟨hg23a, hm⟩ := gd hm;refine bm [18, 21, 22, 23, 24, 25, 26] fun k kp hk hp => ?_;refine gox (em aa.enc p1 x56.toNat) ?_;obtain ⟨y57, hc24, hm⟩ := bd hm;refine RP (fun _ => hU ((p1.getD x56.toNat default).n) _ hc24) ?_;refine ae ?_;refine go ?_;refine hk _ _ ?_;clear hk hp k kp
     by_cases h25 : y57 = true
     ·rw [iP h25] at hm;refine ai rfl (by rw [show y57 = true from (h25)]; rfl) ?_;refine ap ?_;refine aA ?_;refine ah (hk9 _ _ ?_);refine cp ?_;refine aB (IntKind.wrap .i64 (x56 + 1)) () hm ?_;exact ls
     ·rw [iN h25] at hm;refine af rfl (by rw [show y57 = false from (fB h25)]; rfl) ?_;refine bm [0, 4, 27, 28, 29] fun k kp hk hp => ?_;refine go ?_;obtain ⟨y58, hc26, hm⟩ := bd hm;refine RP (fun _ => ij 16 x56 _ hc26) ?_;refine ae ?_;refine go ?_;refine hk _ _ ?_;clear hk hp k kp
      refine cy (cH 2 (.c (.tree 2 (([] : List _).map aa.enc))) rfl (by and_intros <;> trivial)) ?_
      refine gU ?_;have ho27 := av hm hr4;subst ho27;replace hm : some ([], (y58)) = some r := hm4;refine az ?_;refine aj (ao (aR (aj (aC ?_))))
      cases hm
      exact kr 0
    ·rw [iN h22] at hm;refine ai rfl (dF h22) ?_;refine br ?_;have ho28 := av hm hr4;subst ho28;replace hm : gx p1 = some r := hm4;refine a8 (aY (ar ?_));refine au () () hm ?_;exact ls
  ·rintro _ _ hm;replace hm : gx p1 = some r := hm;refine aU ?_;unfold gx at hm;refine am [] ?_;refine am [] ?_;refine aq ?_;refine cy (gZ 5 2 39 (by decide) rfl (Nat.le_of_ble_eq_true rfl)) ?_;refine mQ ?_;obtain ⟨o1, hl1, hm1⟩ := bd hm;refine bn (S := ((List aa) × Int)) (V := Nat) (O := ((List aa) × ag)) [2, 5, 6, 7, 8, 9, 10, 30, 31, 32, 33, 34, 35, 36, 37, 38, 39, 40, 41, 42, 43, 44, 45, 46, 47, 48, 49, 50, 51, 52, 53, 54, 55, 56, 57, 58, 59, 60, 61, 62, 63, 64, 65, 66, 67, 68, 69, 70, 71, 72, 73, 74, 75, 76, 77, 78, 79, 80, 81, 82, 83, 84, 85, 86, 87, 88, 89, 90, 91, 92, 93, 94, 95, 96, 97, 98, 99, 100, 101, 102, 103, 104, 105, 106, 107, 108, 109] (fun (l14, x16) v15 => [(5, .c (.osl 1 v15 0 l14.length)), (6, .c (.int .i64 x16))]) (fun (l14, x16) v15 => [.box [.int .i64 0, .int .i64 0], .arr 2 v15 39 (l14.map aa.enc)]) _ _ 0 hl1 ?_ ?_
   ·exact ls
   ·rintro ⟨l14, x16⟩ v15 r1 hm hr1;replace hm : dX p1 l14 x16 = some r1 := hm;refine aU ?_;unfold dX at hm;refine aq ?_;refine am [] ?_;refine a9 (S := Int) (V := Nat) [5, 6, 7, 8, 30, 31, 32, 33, 34, 35, 36, 37, 38, 39, 40, 41, 42, 43, 44, 45, 46, 47, 48, 49, 50, 51, 52, 53, 54, 55, 56, 57, 58, 59, 60, 61, 62, 63, 64, 65, 66, 67, 68] (fun x19 v18 => [(5, .c (.osl 1 v18 0 l14.length)), (7, .c (.int .i64 x19))]) (fun x19 v18 => [.box [.int .i64 0, .int .i64 0], .arr 2 v18 39 (l14.map aa.enc)]) (fun x19 => eP p1 l14 x19 = some r1) ?_ ?_
    ·skip;refine am [] ?_
     refine aq ?_;obtain ⟨o3, hl3, hm3⟩ := bd hm;refine bn (S := (Int × Int)) (V := Nat) (O := Int) [5, 7, 8, 30, 31, 32, 33, 34, 35, 36, 37, 38, 39, 40, 41, 42, 43, 44, 45, 46, 47, 48, 49, 50, 51, 52, 53, 54, 55, 56, 57, 58, 59, 60, 61, 62, 63, 64, 65, 66, 67, 68] (fun (x50, x51) v49 => [(5, .c (.osl 1 v49 0 l14.length)), (7, .c (.int .i64 x50)), (8, .c (.int .i64 x51))]) (fun (x50, x51) v49 => [.box [.int .i64 0, .int .i64 0], .arr 2 v49 39 (l14.map aa.enc)]) _ _ v15 hl3 ?_ ?_
     ·exact ls
     ·rintro ⟨x50, x51⟩ v49 r3 hm hr3;replace hm : dW p1 x16 x50 x51 = some r3 := hm;refine aU ?_;unfold dW at hm;refine ak fun k6 hk6 => ?_;refine am [30, 31, 32] ?_
      by_cases h11 : x51 < (p1.length : Int)
      ·rw [iP h11] at hm;refine af rfl (dT h11) ?_;refine ap ?_;refine ah (hk6 _ _ ?_);refine ak fun k7 hk7 => ?_;refine aq ?_
       by_cases h12 : x16 < 0
       ·rw [iP h12] at hm;have h12b := dT h12;refine lg [33, 36, 37, 38, 39, 40, 41, 42, 43, 44, 45, 46, 47, 48, 49, 50, 51, 52, 53, 54, 55, 56, 57, 58, 59, 60, 61, 62, 63, 64, 65, 66] (by kernel_rfl) [0, 1, 3, 7, 7, 31, 63, 127, 7, 7, 775, 1799, 3847, 8191, 16383, 32767, 65535, 131071, 262143, 524287, 524287, 2097151, 4194303, 8388607, 524287, 524287, 50855935, 117964799, 252182527, 536870911, 1073741823, 2147483647] [true, true, true, false, false, false, false, false, false, false, false, false, false, true, true, true, true, true, true, false, false, false, false, false, false, false, false, false, false, true, true, true] (by kernel_rfl) fun k hk => ?_;refine pC 19 rfl ?_;refine gax h12b ?_
        by_cases h13 : x50 < 0
        ·rw [iP h13] at hm;have h13b := dT h13;refine i9 ?_;refine gax (a2 h12b h13b) ?_;refine hk _ _ ?_;clear hk k;refine af rfl rfl ?_;refine cp ?_;refine aA ?_;refine ah (hk7 _ _ ?_);refine cp ?_;refine aB (x51, (IntKind.wrap .i64 (x51 + 1))) v49 hm ?_;exact ls
        ·rw [iN h13] at hm;have h13b := dF h13;obtain ⟨⟨hg14a, hg14b⟩, hm⟩ := gd hm;refine i9 ?_;refine gax (a2 (em aa.enc p1 x51.toNat) (a2 (em aa.enc p1 x50.toNat) (a2 h12b h13b))) ?_;refine hk _ _ ?_;clear hk k
         by_cases h15 : (Op.bytesLess ((p1.getD x51.toNat default).name) ((p1.getD x50.toNat default).name)) = true
         ·rw [iP h15] at hm;refine af rfl (h15) ?_;refine cp ?_;refine aA ?_;refine ah (hk7 _ _ ?_);refine cp ?_;refine aB (x51, (IntKind.wrap .i64 (x51 + 1))) v49 hm ?_;exact ls
         ·rw [iN h15] at hm;refine ai rfl (fB h15) ?_;refine ap ?_;refine aA ?_;refine ah (hk7 _ _ ?_);refine cp ?_;refine aB (x50, (IntKind.wrap .i64 (x51 + 1))) v49 hm ?_;exact ls
       ·rw [iN h12] at hm;have h12b := dF h12;obtain ⟨⟨hg16a, hg16b⟩, hm⟩ := gd hm;refine lg [33, 36, 37, 38, 39, 40, 41, 42, 43, 44, 45, 46, 47, 48, 49, 50, 51, 52, 53, 54, 55, 56, 57, 58, 59, 60, 61, 62, 63, 64, 65, 66] (by kernel_rfl) [0, 1, 3, 7, 7, 31, 63, 127, 7, 7, 775, 1799, 3847, 8191, 16383, 32767, 65535, 131071, 262143, 524287, 524287, 2097151, 4194303, 8388607, 524287, 524287, 50855935, 117964799, 252182527, 536870911, 1073741823, 2147483647] [true, true, true, false, false, false, false, false, false, false, false, false, false, true, true, true, true, true, true, false, false, false, false, false, false, false, false, false, false, true, true, true] (by kernel_rfl) fun k hk => ?_;refine pC 16 rfl ?_;refine gax (a2 (em aa.enc p1 x51.toNat) (a2 (em aa.enc p1 x16.toNat) h12b)) ?_
        by_cases h17 : (Op.bytesLess ((p1.getD x51.toNat default).name) ((p1.getD x16.toNat default).name) || ((p1.getD x51.toNat default).name) == ((p1.getD x16.toNat default).name)) = true
        ·rw [iP h17] at hm
         have h17b := h17
         have h17c : (!(Op.bytesLess ((p1.getD x51.toNat default).name) ((p1.getD x16.toNat default).name) || ((p1.getD x51.toNat default).name) == ((p1.getD x16.toNat default).name))) = false := by rw [h17b]; rfl
         refine i9 ?_;refine gax (a2 h12b (a2 h17b h17c)) ?_;refine hk _ _ ?_;clear hk k;refine ai rfl rfl ?_;refine ap ?_;refine aA ?_;refine ah (hk7 _ _ ?_);refine cp ?_;refine aB (x50, (IntKind.wrap .i64 (x51 + 1))) v49 hm ?_;exact ls
        ·rw [iN h17] at hm
         have h17b := fB h17
         have h17c : (!(Op.bytesLess ((p1.getD x51.toNat default).name) ((p1.getD x16.toNat default).name) || ((p1.getD x51.toNat default).name) == ((p1.getD x16.toNat default).name))) = true := by rw [h17b]; rfl
         by_cases h18 : x50 < 0
         ·rw [iP h18] at hm;have h18b := dT h18;refine i9 ?_;refine gax (a2 h12b (a2 h17b (a2 h17c h18b))) ?_;refine hk _ _ ?_;clear hk k;refine af rfl rfl ?_;refine cp ?_;refine aA ?_;refine ah (hk7 _ _ ?_);refine cp ?_;refine aB (x51, (IntKind.wrap .i64 (x51 + 1))) v49 hm ?_;exact ls
         ·rw [iN h18] at hm;have h18b := dF h18;obtain ⟨hg19a, hm⟩ := gd hm;refine i9 ?_;refine gax (a2 (em aa.enc p1 x51.toNat) (a2 (em aa.enc p1 x50.toNat) (a2 h12b (a2 h17b (a2 h17c h18b))))) ?_;refine hk _ _ ?_;clear hk k
          by_cases h20 : (Op.bytesLess ((p1.getD x51.toNat default).name) ((p1.getD x50.toNat default).name)) = true
          ·rw [iP h20] at hm;refine af rfl (h20) ?_;refine cp ?_;refine aA ?_;refine ah (hk7 _ _ ?_);refine cp ?_;refine aB (x51, (IntKind.wrap .i64 (x51 + 1))) v49 hm ?_;exact ls
          ·rw [iN h20] at hm;refine ai rfl (fB h20) ?_;refine ap ?_;refine aA ?_;refine ah (hk7 _ _ ?_);refine cp ?_;refine aB (x50, (IntKind.wrap .i64 (x51 + 1))) v49 hm ?_;exact ls
      ·rw [iN h11] at hm;refine ai rfl (dF h11) ?_;refine br ?_;have ho21 := av hm hr3;subst ho21;replace hm : eP p1 l14 x50 = some r1 := hm3;refine a8 (aY (ar ?_));refine au x50 v49 hm ?_;exact ls
    ·rintro x19 v18 hm;replace hm : eP p1 l14 x19 = some r1 := hm;refine aU ?_;unfold eP at hm;refine ak fun k2 hk2 => ?_;refine am [69] ?_
     by_cases h3 : x19 < 0
     ·rw [iP h3] at hm;refine af rfl (dT h3) ?_;refine am [0, 5, 7, 70, 71, 72] ?_;refine kj (cI 1 rfl) ?_;have ho4 := av hm hr1;subst ho4;replace hm : some (l14, (ag.mk 0 0)) = some r := hm1;refine az ?_;refine ao (aj (aR (aj ?_)))
      cases hm
      exact kr 0
     ·rw [iN h3] at hm;refine ai rfl (dF h3) ?_;refine ap ?_;refine ah (hk2 _ _ ?_);refine am [70] ?_;refine a9 (S := Int) (V := Nat) [5, 9, 10, 73, 74, 75, 76, 77, 78, 79, 80, 81, 82, 83, 84, 85, 86, 87, 88, 89, 90, 91, 92, 93, 94, 95, 96] (fun x22 v21 => [(5, .c (.osl 1 v21 0 l14.length)), (9, .c (.int .i64 x22))]) (fun x22 v21 => [.box [.int .i64 0, .int .i64 0], .arr 2 v21 39 (l14.map aa.enc)]) (fun x22 => gw p1 l14 x19 x22 = some r1) ?_ ?_
      ·skip;refine am [] ?_
       refine aq ?_;obtain ⟨o2, hl2, hm2⟩ := bd hm;refine bn (S := (Int × Int)) (V := Nat) (O := Int) [5, 9, 10, 73, 74, 75, 76, 77, 78, 79, 80, 81, 82, 83, 84, 85, 86, 87, 88, 89, 90, 91, 92, 93, 94, 95, 96] (fun (x35, x36) v34 => [(5, .c (.osl 1 v34 0 l14.length)), (9, .c (.int .i64 x35)), (10, .c (.int .i64 x36))]) (fun (x35, x36) v34 => [.box [.int .i64 0, .int .i64 0], .arr 2 v34 39 (l14.map aa.enc)]) _ _ v18 hl2 ?_ ?_
       ·exact ls
       ·rintro ⟨x35, x36⟩ v34 r2 hm hr2;replace hm : dl p1 x19 x35 x36 = some r2 := hm;refine aU ?_;unfold dl at hm;refine ak fun k4 hk4 => ?_;refine am [73, 74, 75] ?_
        by_cases h7 : x36 < (p1.length : Int)
        ·rw [iP h7] at hm;refine af rfl (dT h7) ?_;refine ap ?_;refine ah (hk4 _ _ ?_);refine ak fun k5 hk5 => ?_;refine aq ?_;obtain ⟨⟨hg8a, hg8b⟩, hm⟩ := gd hm;refine rz (a2 (em aa.enc p1 x36.toNat) (em aa.enc p1 x19.toNat)) [76, 79, 80, 81, 82, 83, 84, 85, 86, 87, 88] [0, 0, 3, 7, 15, 0, 0, 96, 224, 480, 1023] [false, false, false, false, false, false, false, false, false, false, true] ?_
         by_cases h9 : ((p1.getD x36.toNat default).name) = ((p1.getD x19.toNat default).name)
         ·rw [iP h9] at hm;refine af rfl (eQ h9) ?_;refine nD (em aa.enc p1 x36.toNat) ?_;refine aA ?_;refine ah (hk5 _ _ ?_);refine cp ?_;refine aB ((IntKind.wrap .i64 (x35 + ((p1.getD x36.toNat default).n))), (IntKind.wrap .i64 (x36 + 1))) v34 hm ?_;exact ls
         ·rw [iN h9] at hm;refine ai rfl (nB h9) ?_;refine ap ?_;refine aA ?_;refine ah (hk5 _ _ ?_);refine cp ?_;refine aB (x35, (IntKind.wrap .i64 (x36 + 1))) v34 hm ?_;exact ls
        ·rw [iN h7] at hm;refine ai rfl (dF h7) ?_;refine br ?_;have ho10 := av hm hr2;subst ho10;replace hm : gw p1 l14 x19 x35 = some r1 := hm2;refine a8 (aY (ar ?_));refine au x35 v34 hm ?_;exact ls
      ·rintro x22 v21 hm;replace hm : gw p1 l14 x19 x22 = some r1 := hm;refine aU ?_;unfold gw at hm;refine ak fun k3 hk3 => ?_;refine am [97] ?_
       by_cases h5 : ¬ x22 = 0
       ·rw [iP h5] at hm;refine af rfl (bne_iff_ne.2 h5) ?_;obtain ⟨⟨hg6a, ⟨hg6bx, hg6by⟩⟩, hm⟩ := gd hm;refine nD (em aa.enc p1 x19.toNat) ?_;refine ah (hk3 _ _ ?_);refine cp ?_;refine aA ?_;refine aB ((l14 ++ (lit ([(aa.mk x22 ((p1.getD x19.toNat default).name))] : List aa))), x19) (v21 + 1) hm ?_;exact ls
       ·rw [iN h5] at hm;refine ai rfl (bne_eq_false_iff_eq.2 (Decidable.not_not.1 h5)) ?_;refine ap ?_;refine ah (hk3 _ _ ?_);refine cp ?_;refine aA ?_;refine aB (l14, x19) v21 hm ?_;exact ls
theorem oa (p1 : List aa) (p2 : List (List UInt8)) (p3 : List (List aa)) (r : ((List aa) × ag)) (hm : jk p1 p2 p3 = some r) : cZ Try.prog 10 [.c (.tree 2 (p1.map aa.enc)), .c (.tree 1 (p2.map eS)), .c (.tree 1 (p3.map (eL 2 aa.enc)))] (.t [.c (.tree 2 (r.1.map aa.enc)), .a [.int .i64 ((r.2).code), .int .i64 ((r.2).at_)]]) := by
 refine bq 88 [.tmp 6, .cell 7 30] Try.func10 rfl rfl rfl (by kernel_rfl) (by simp) ?_;refine cU ?_;unfold jk at hm;refine am [6] ?_;refine am [] ?_;refine cy (gZ 8 2 39 (by decide) rfl (Nat.le_of_ble_eq_true rfl)) ?_;refine mQ ?_;refine a9 (S := (List aa)) (V := Nat) [0, 1, 2, 6, 8, 10, 11, 13, 14, 15, 16, 17, 18, 19, 20, 21, 22, 23, 24, 25, 26, 27, 28, 29, 30, 31, 32, 33, 34, 35, 36, 37, 38, 39, 40, 41, 42, 43, 44, 45, 46, 47, 48, 49, 50, 51, 52, 53, 54, 55, 56, 57, 58, 59, 60, 61, 62, 63, 64, 65, 66, 67, 68, 69, 70, 71, 72, 73, 74, 75, 76, 77, 78, 79, 80, 81] (fun l3 v4 => [(8, .c (.osl 1 v4 0 l3.length))]) (fun l3 v4 => [.box [.int .i64 0, .int .i64 0], .arr 2 v4 39 (l3.map aa.enc)]) (fun l3 => gM l3 = some r) ?_ ?_
 ·skip;refine am [0] ?_
  refine aq ?_;obtain ⟨o1, hl1, hm1⟩ := bd hm;refine bn (S := ((List aa) × Int)) (V := Nat) (O := (List aa) ⊕ ((List aa) × ag)) [6, 8, 10, 11, 13, 16, 17, 18, 19, 20, 21, 22, 23, 24, 25, 26, 27, 28, 29, 30, 31, 32, 33, 34, 35, 36, 37, 38, 39, 40, 41, 42, 43, 44, 45, 46, 47, 48, 49, 50, 51, 52, 53, 54, 55, 56, 57, 58, 59, 60, 61, 62, 63, 64, 65, 66, 67, 68, 69, 70, 71, 72, 73, 74, 75, 76, 77, 78, 79, 80, 81] (fun (l17, x19) v18 => [(8, .c (.osl 1 v18 0 l17.length)), (16, .c (.int .i64 x19))]) (fun (l17, x19) v18 => [.box [.int .i64 0, .int .i64 0], .arr 2 v18 39 (l17.map aa.enc)]) _ _ 0 hl1 ?_ ?_
  ·exact ls
  ·rintro ⟨l17, x19⟩ v18 r1 hm hr1;replace hm : eZ p1 p2 p3 l17 x19 = some r1 := hm;refine aU ?_;unfold eZ at hm;refine am [] ?_;refine ak fun k2 hk2 => ?_
   by_cases h2 : x19 < (p1.length : Int)
   ·rw [iP h2] at hm;refine af rfl (dT h2) ?_;refine ap ?_;refine ah (hk2 _ _ ?_);refine a9 (S := (List aa)) (V := Nat) [6, 8, 10, 11, 13, 17, 18, 19, 20, 21, 22, 23, 24, 25, 26, 27, 28, 29, 30, 31, 32, 33, 34, 35, 36, 37, 38, 39, 40, 41, 42, 43, 44, 45, 46, 47, 48, 49, 50, 51, 52, 53, 54, 55, 56, 57, 58, 59, 60, 61, 62, 63, 64, 65, 66, 67, 68, 69, 70, 71, 72, 73, 74, 75, 76, 77, 78, 79, 80] (fun l22 v23 => [(8, .c (.osl 1 v23 0 l22.length))]) (fun l22 v23 => [.box [.int .i64 0, .int .i64 0], .arr 2 v23 39 (l22.map aa.enc)]) (fun l22 => dY x19 l22 = some r1) ?_ ?_
    ·skip;refine aq ?_
     obtain ⟨hg3a, hm⟩ := gd hm;refine cJ (em aa.enc p1 x19.toNat) [17, 18, 19] ?_;refine bm [20, 21, 22, 23] fun k kp hk hp => ?_;refine go ?_;obtain ⟨y24, hc4, hm⟩ := bd hm;refine RP (fun _ => df p2 ((p1.getD x19.toNat default).name) _ hc4) ?_;refine ae ?_;refine go ?_;refine hk _ _ ?_;clear hk hp k kp;refine ak fun k3 hk3 => ?_;refine eU [24, 25, 26, 27, 28, 29, 30, 31, 32, 33, 34, 35] fun k kp hk hp => ?_;refine aw 4 ?_;refine go ?_
     by_cases h5 : ((p1.getD x19.toNat default).name) = ([] : List UInt8)
     ·rw [iP h5] at hm;have h5b := eQ h5;refine ae ?_;refine gox h5b ?_;refine hk _ _ ?_;clear hk hp k kp;refine af rfl rfl ?_;obtain ⟨⟨hg6ax, hg6ay⟩, hm⟩ := gd hm;refine am [10, 11, 36, 37, 38, 39, 40] ?_;refine gV [.box [.int .i64 0, .int .i64 0], .arr 2 (v18 + 1) 39 ((l17 ++ (lit ([(p1.getD x19.toNat default)] : List aa))).map aa.enc), .box [.int .i64 ((p1.getD x19.toNat default).n), .str ((p1.getD x19.toNat default).name)], .arr 2 0 39 ((lit ([(p1.getD x19.toNat default)] : List aa)).map aa.enc)] ?_;refine br ?_;refine a8 (ar ?_);refine au (l17 ++ (lit ([(p1.getD x19.toNat default)] : List aa))) (v18 + 1) hm ?_;exact ls
     ·rw [iN h5] at hm;have h5b := nB h5;refine aw 4 ?_;refine gox h5b ?_
      by_cases h7 : y24 < 0
      ·rw [iP h7] at hm;have h7b := dT h7;refine ae ?_;refine gox (a2 h5b h7b) ?_;refine hk _ _ ?_;clear hk hp k kp;refine af rfl rfl ?_;obtain ⟨⟨hg8ax, hg8ay⟩, hm⟩ := gd hm;refine am [10, 11, 36, 37, 38, 39, 40] ?_;refine gV [.box [.int .i64 0, .int .i64 0], .arr 2 (v18 + 1) 39 ((l17 ++ (lit ([(p1.getD x19.toNat default)] : List aa))).map aa.enc), .box [.int .i64 ((p1.getD x19.toNat default).n), .str ((p1.getD x19.toNat default).name)], .arr 2 0 39 ((lit ([(p1.getD x19.toNat default)] : List aa)).map aa.enc)] ?_;refine br ?_;refine a8 (ar ?_);refine au (l17 ++ (lit ([(p1.getD x19.toNat default)] : List aa))) (v18 + 1) hm ?_;exact ls
      ·rw [iN h7] at hm;have h7b := dF h7;refine ae ?_;refine gox (a2 h5b h7b) ?_;refine hk _ _ ?_;clear hk hp k kp
       by_cases h9 : y24 ≥ (p3.length : Int)
       ·rw [iP h9] at hm;refine af rfl (dT h9) ?_;obtain ⟨⟨hg10ax, hg10ay⟩, hm⟩ := gd hm;refine am [10, 11, 36, 37, 38, 39, 40] ?_;refine gV [.box [.int .i64 0, .int .i64 0], .arr 2 (v18 + 1) 39 ((l17 ++ (lit ([(p1.getD x19.toNat default)] : List aa))).map aa.enc), .box [.int .i64 ((p1.getD x19.toNat default).n), .str ((p1.getD x19.toNat default).name)], .arr 2 0 39 ((lit ([(p1.getD x19.toNat default)] : List aa)).map aa.enc)] ?_;refine br ?_;refine a8 (ar ?_);refine au (l17 ++ (lit ([(p1.getD x19.toNat default)] : List aa))) (v18 + 1) hm ?_;exact ls
       ·rw [iN h9] at hm;refine ai rfl (dF h9) ?_;refine ap ?_;refine ah (hk3 _ _ ?_);obtain ⟨hg11a, hm⟩ := gd hm;refine cJ (em (eL 2 aa.enc) p3 y24.toNat) [11, 36, 41, 42, 43] ?_;refine aq ?_;obtain ⟨o2, hl2, hm2⟩ := bd hm;refine bn (S := ((List aa) × Int)) (V := Nat) (O := (List aa) ⊕ ((List aa) × ag)) [6, 8, 13, 46, 47, 48, 49, 50, 51, 52, 53, 54, 55, 56, 57, 58, 59, 60, 61, 62, 63, 64, 65, 66, 67, 68, 69, 70, 71, 72, 73, 74, 75, 76, 77, 78, 79, 80] (fun (l39, x41) v40 => [(8, .c (.osl 1 v40 0 l39.length)), (46, .c (.int .i64 x41))]) (fun (l39, x41) v40 => [.box [.int .i64 0, .int .i64 0], .arr 2 v40 39 (l39.map aa.enc), .box [.int .i64 ((p1.getD x19.toNat default).n), .str ((p1.getD x19.toNat default).name)]]) _ _ v18 hl2 ?_ ?_
        ·exact ls
        ·rintro ⟨l39, x41⟩ v40 r2 hm hr2;replace hm : eY p1 p3 x19 y24 l39 x41 = some r2 := hm;refine aU ?_;unfold eY at hm;refine am [] ?_;refine ak fun k4 hk4 => ?_
         by_cases h12 : x41 < ((p3.getD y24.toNat default).length : Int)
         ·rw [iP h12] at hm;refine af rfl (dT h12) ?_;refine ap ?_;refine ah (hk4 _ _ ?_);refine ak fun k5 hk5 => ?_;refine aq ?_;obtain ⟨hg13a, hm⟩ := gd hm;refine cJ (em aa.enc (p3.getD y24.toNat default) x41.toNat) [47, 48, 49] ?_;refine ak fun k6 hk6 => ?_;refine eU [50, 51, 52, 53, 54, 55, 56, 57, 58, 59, 60, 61, 62, 63, 64, 65, 66] fun k kp hk hp => ?_;refine aw 4 ?_;refine go ?_
          by_cases h14 : ((p1.getD x19.toNat default).n) < (-1000000)
          ·rw [iP h14] at hm;have h14b := dT h14;refine ae ?_;refine gox h14b ?_;refine hk _ _ ?_;clear hk hp k kp;refine af rfl rfl ?_;refine am [1, 2, 8, 10, 13, 14, 15, 16, 44, 45, 46, 67, 68] ?_
           refine cy (cH 6 (.c (.tree 2 (([] : List _).map aa.enc))) rfl (by and_intros <;> trivial)) ?_
           refine gU ?_;have ho15 := av hm hr2;subst ho15;replace hm : some (.inr (.inr ([], (ag.mk 16 (-1))))) = some r1 := hm2;have ho16 := av hm hr1;subst ho16;replace hm : some ([], (ag.mk 16 (-1))) = some r := hm1;refine az ?_;refine ao (aj (ao (aR (aj (aj (aC (aR (aj (aC ?_)))))))))
           cases hm
           exact kr 0
          ·rw [iN h14] at hm;have h14b := dF h14;refine aw 5 ?_;refine gox h14b ?_
           by_cases h17 : ((p1.getD x19.toNat default).n) > 1000000
           ·rw [iP h17] at hm;have h17b := dT h17;refine ae ?_;refine gox (a2 h14b h17b) ?_;refine hk _ _ ?_;clear hk hp k kp;refine af rfl rfl ?_;refine am [1, 2, 8, 10, 13, 14, 15, 16, 44, 45, 46, 67, 68] ?_
            refine cy (cH 6 (.c (.tree 2 (([] : List _).map aa.enc))) rfl (by and_intros <;> trivial)) ?_
            refine gU ?_;have ho18 := av hm hr2;subst ho18;replace hm : some (.inr (.inr ([], (ag.mk 16 (-1))))) = some r1 := hm2;have ho19 := av hm hr1;subst ho19;replace hm : some ([], (ag.mk 16 (-1))) = some r := hm1;refine az ?_;refine ao (aj (ao (aR (aj (aj (aC (aR (aj (aC ?_)))))))))
            cases hm
            exact kr 0
           ·rw [iN h17] at hm;have h17b := dF h17;refine aw 5 ?_;refine gox (a2 h14b h17b) ?_
            by_cases h20 : (((p3.getD y24.toNat default).getD x41.toNat default).n) < (-1000000)
            ·rw [iP h20] at hm;have h20b := dT h20;refine ae ?_;refine gox (a2 h14b (a2 h17b h20b)) ?_;refine hk _ _ ?_;clear hk hp k kp;refine af rfl rfl ?_;refine am [1, 2, 8, 10, 13, 14, 15, 16, 44, 45, 46, 67, 68] ?_
             refine cy (cH 6 (.c (.tree 2 (([] : List _).map aa.enc))) rfl (by and_intros <;> trivial)) ?_
             refine gU ?_;have ho21 := av hm hr2;subst ho21;replace hm : some (.inr (.inr ([], (ag.mk 16 (-1))))) = some r1 := hm2;have ho22 := av hm hr1;subst ho22;replace hm : some ([], (ag.mk 16 (-1))) = some r := hm1;refine az ?_;refine ao (aj (ao (aR (aj (aj (aC (aR (aj (aC ?_)))))))))
             cases hm
             exact kr 0
            ·rw [iN h20] at hm;have h20b := dF h20;refine ae ?_;refine gox (a2 h14b (a2 h17b h20b)) ?_;refine hk _ _ ?_;clear hk hp k kp
             by_cases h23 : (((p3.getD y24.toNat default).getD x41.toNat default).n) > 1000000
             ·rw [iP h23] at hm;refine af rfl (dT h23) ?_;refine am [1, 2, 8, 10, 13, 14, 15, 16, 44, 45, 46, 67, 68] ?_
              refine cy (cH 6 (.c (.tree 2 (([] : List _).map aa.enc))) rfl (by and_intros <;> trivial)) ?_
              refine gU ?_;have ho24 := av hm hr2;subst ho24;replace hm : some (.inr (.inr ([], (ag.mk 16 (-1))))) = some r1 := hm2;have ho25 := av hm hr1;subst ho25;replace hm : some ([], (ag.mk 16 (-1))) = some r := hm1;refine az ?_;refine ao (aj (ao (aR (aj (aj (aC (aR (aj (aC ?_)))))))))
              cases hm
              exact kr 0
             ·rw [iN h23] at hm;refine ai rfl (dF h23) ?_;refine ap ?_;refine ah (hk6 _ _ ?_);obtain ⟨⟨hg26ax, hg26ay⟩, hm⟩ := gd hm;refine cp ?_;refine aA ?_;refine ah (hk5 _ _ ?_);refine cp ?_;refine aB ((l39 ++ (lit ([(aa.mk (IntKind.wrap .i64 (((p1.getD x19.toNat default).n) * (((p3.getD y24.toNat default).getD x41.toNat default).n))) (((p3.getD y24.toNat default).getD x41.toNat default).name))] : List aa))), (IntKind.wrap .i64 (x41 + 1))) (v40 + 1) hm ?_;exact ls
         ·rw [iN h12] at hm;refine ai rfl (dF h12) ?_;refine br ?_;have ho27 := av hm hr2;subst ho27;replace hm : dY x19 l39 = some r1 := hm2;refine a8 (aY (ar (aA ?_)));refine au l39 v40 hm ?_;exact ls
    ·rintro l22 v23 hm;replace hm : dY x19 l22 = some r1 := hm;refine aU ?_;unfold dY at hm;refine cp ?_;refine aB (l22, (IntKind.wrap .i64 (x19 + 1))) v23 hm ?_;exact ls
   ·rw [iN h2] at hm;refine ai rfl (dF h2) ?_;refine br ?_;have ho28 := av hm hr1;subst ho28;replace hm : gM l17 = some r := hm1;refine a8 (aY (ar ?_));refine au l17 v18 hm ?_;exact ls
 ·rintro l3 v4 hm;replace hm : gM l3 = some r := hm;refine aU ?_;unfold gM at hm;refine ak fun k1 hk1 => ?_;refine am [82, 83] ?_
  by_cases h1 : (l3.length : Int) > 1000
  ·rw [iP h1] at hm;refine af rfl (dT h1) ?_;refine am [8, 84, 85] ?_
   refine cy (cH 6 (.c (.tree 2 (([] : List _).map aa.enc))) rfl (by and_intros <;> trivial)) ?_
   refine gU ?_;refine az ?_;refine ao ?_
   cases hm
   exact kr 0
  ·rw [iN h1] at hm;refine ai rfl (dF h1) ?_;refine ap ?_;refine ah (hk1 _ _ ?_);refine am [8, 84, 86, 87] ?_;refine kj (cI 1 rfl) ?_;refine az ?_
   cases hm
   exact kr 0
theorem jY (p1 : List (List UInt8)) (p2 : List UInt8) (r : Int) (hm : gz p1 p2 = some r) : cZ Try.prog 27 [.c (.tree 1 (p1.map eS)), .c (.str p2)] (.c (.int .i64 r)) := by
 refine bq 19 [.tmp 4] Try.func27 rfl rfl rfl (by kernel_rfl) (by simp) ?_;refine cU ?_;unfold gz at hm;refine am [4] ?_;refine a9 (S := Unit) (V := Unit) [0, 1, 4, 5, 6, 7, 8, 9, 10, 11, 12, 13, 14, 15, 16, 17, 18] (fun _ _ => []) (fun _ _ => []) (fun _ => fJ = some r) ?_ ?_
 ·skip;refine am [] ?_
  refine aq ?_;obtain ⟨o1, hl1, hm1⟩ := bd hm;refine bn (S := Int) (V := Unit) (O := Unit ⊕ Int) [4, 5, 6, 7, 8, 9, 10, 11, 12, 13, 14, 15, 16, 17, 18] (fun x3 _ => [(5, .c (.int .i64 x3))]) (fun x3 _ => []) _ _ () hl1 ?_ ?_
  ·exact ls
  ·rintro x3 _ r1 hm hr1;replace hm : fK p1 p2 x3 = some r1 := hm;refine aU ?_;unfold fK at hm;refine ak fun k1 hk1 => ?_;refine am [6, 7, 8] ?_
   by_cases h1 : x3 < (p1.length : Int)
   ·rw [iP h1] at hm;refine af rfl (dT h1) ?_;refine ap ?_;refine ah (hk1 _ _ ?_);refine ak fun k2 hk2 => ?_;refine aq ?_;obtain ⟨hg2a, hm⟩ := gd hm;refine cJ (em eS p1 x3.toNat) [9, 12, 13, 14, 15, 16] ?_
    by_cases h3 : (p1.getD x3.toNat default) = p2
    ·rw [iP h3] at hm;refine af rfl (eQ h3) ?_;refine am [0, 1, 5, 17, 18] ?_;have ho4 := av hm hr1;subst ho4;replace hm : some x3 = some r := hm1;refine az ?_;refine aj (ao (aR (aj (aC ?_))))
     cases hm
     exact kr 0
    ·rw [iN h3] at hm;refine ai rfl (nB h3) ?_;refine ap ?_;refine aA ?_;refine ah (hk2 _ _ ?_);refine cp ?_;refine aB (IntKind.wrap .i64 (x3 + 1)) () hm ?_;exact ls
   ·rw [iN h1] at hm;refine ai rfl (dF h1) ?_;refine br ?_;have ho5 := av hm hr1;subst ho5;replace hm : fJ = some r := hm1;refine a8 (aY (ar ?_));refine au () () hm ?_;exact ls
 ·rintro _ _ hm;replace hm : fJ = some r := hm;refine aU ?_;unfold fJ at hm;refine am [] ?_;refine az ?_
  cases hm
  exact kr 0
theorem oR (p1 : List aa) (p2 : List (List UInt8)) (p3 : List (List aa)) (r : ((List aa) × ag)) (hm : iJ p1 p2 p3 = some r) : cZ Try.prog 11 [.c (.tree 2 (p1.map aa.enc)), .c (.tree 1 (p2.map eS)), .c (.tree 1 (p3.map (eL 2 aa.enc)))] (.t [.c (.tree 2 (r.1.map aa.enc)), .a [.int .i64 ((r.2).code), .int .i64 ((r.2).at_)]]) := by
 refine bq 97 [.tmp 6, .cell 7 30] Try.func11 rfl rfl rfl (by kernel_rfl) (by simp) ?_;refine cU ?_;unfold iJ at hm;refine am [6] ?_;refine am [] ?_;refine cy (gZ 8 2 39 (by decide) rfl (Nat.le_of_ble_eq_true rfl)) ?_;refine mQ ?_;refine a9 (S := (List aa)) (V := Nat) [0, 1, 2, 6, 8, 9, 10, 11, 12, 13, 14, 15, 16, 17, 18, 19, 20, 21, 22, 23, 24, 25, 26, 27, 28, 29, 30, 31, 32, 33, 34, 35, 36, 37, 38, 39, 40, 41, 42, 43, 44, 45, 46, 47, 48, 49, 50, 51, 52, 53, 54, 55, 56, 57, 58, 59, 60, 61, 62, 63, 64, 65, 66, 67, 68, 69, 70, 71, 72, 73, 74, 75, 76, 77, 78, 79, 80, 81, 82, 83, 84, 85, 86, 87, 88, 89, 90] (fun l3 v4 => [(8, .c (.osl 1 v4 0 l3.length))]) (fun l3 v4 => [.box [.int .i64 0, .int .i64 0], .arr 2 v4 39 (l3.map aa.enc)]) (fun l3 => gA l3 = some r) ?_ ?_
 ·skip;refine am [] ?_
  refine aq ?_;obtain ⟨o1, hl1, hm1⟩ := bd hm;refine bn (S := ((List aa) × Int)) (V := Nat) (O := (List aa) ⊕ ((List aa) × ag)) [6, 8, 9, 10, 11, 12, 13, 14, 15, 16, 17, 18, 19, 20, 21, 22, 23, 24, 25, 26, 27, 28, 29, 30, 31, 32, 33, 34, 35, 36, 37, 38, 39, 40, 41, 42, 43, 44, 45, 46, 47, 48, 49, 50, 51, 52, 53, 54, 55, 56, 57, 58, 59, 60, 61, 62, 63, 64, 65, 66, 67, 68, 69, 70, 71, 72, 73, 74, 75, 76, 77, 78, 79, 80, 81, 82, 83, 84, 85, 86, 87, 88, 89, 90] (fun (l18, x20) v19 => [(8, .c (.osl 1 v19 0 l18.length)), (9, .c (.int .i64 x20))]) (fun (l18, x20) v19 => [.box [.int .i64 0, .int .i64 0], .arr 2 v19 39 (l18.map aa.enc)]) _ _ 0 hl1 ?_ ?_
  ·exact ls
  ·rintro ⟨l18, x20⟩ v19 r1 hm hr1;replace hm : cB p1 p2 p3 l18 x20 = some r1 := hm;refine aU ?_;unfold cB at hm;refine ak fun k2 hk2 => ?_;refine am [13, 14, 15] ?_
   by_cases h3 : x20 < (p1.length : Int)
   ·rw [iP h3] at hm;refine af rfl (dT h3) ?_;refine ap ?_;refine ah (hk2 _ _ ?_);refine a9 (S := (List aa)) (V := Nat) [6, 8, 10, 11, 12, 16, 19, 20, 21, 22, 23, 24, 25, 26, 27, 28, 29, 30, 31, 32, 33, 34, 35, 36, 37, 38, 39, 40, 41, 42, 43, 44, 45, 46, 47, 48, 49, 50, 51, 52, 53, 54, 55, 56, 57, 58, 59, 60, 61, 62, 63, 64, 65, 66, 67, 68, 69, 70, 71, 72, 73, 74, 75, 76, 77, 78, 79, 80, 81, 82, 83, 84, 85, 86, 87, 88, 89, 90] (fun l23 v24 => [(8, .c (.osl 1 v24 0 l23.length))]) (fun l23 v24 => [.box [.int .i64 0, .int .i64 0], .arr 2 v24 39 (l23.map aa.enc)]) (fun l23 => dZ x20 l23 = some r1) ?_ ?_
    ·skip;refine aq ?_
     refine am [16] ?_;refine a9 (S := Int) (V := Nat) [8, 10, 19, 20, 21, 22, 23, 24, 25, 26, 27, 28, 29, 30, 31] (fun x27 v26 => [(8, .c (.osl 1 v26 0 l18.length)), (10, .c (.int .i64 x27))]) (fun x27 v26 => [.box [.int .i64 0, .int .i64 0], .arr 2 v26 39 (l18.map aa.enc)]) (fun x27 => dm p1 p3 l18 x20 x27 = some r1) ?_ ?_
     ·skip;obtain ⟨hg24a, hm⟩ := gd hm
      refine cJ (em aa.enc p1 x20.toNat) [19, 20, 21, 22, 23] ?_
      by_cases h25 : ((p1.getD x20.toNat default).name) = ([] : List UInt8)
      ·rw [iP h25] at hm;refine ai rfl (by rw [show (((p1.getD x20.toNat default).name) == ([] : List UInt8)) = true from (eQ h25)]; rfl) ?_;refine ap ?_;refine au (-1) v19 hm ?_;exact ls
      ·rw [iN h25] at hm;refine af rfl (by rw [show (((p1.getD x20.toNat default).name) == ([] : List UInt8)) = false from (nB h25)]; rfl) ?_;refine fA fun k kp hk hp => ?_;refine gox (em aa.enc p1 x20.toNat) ?_;obtain ⟨y51, hc26, hm⟩ := bd hm;refine RP (fun _ => jY p2 ((p1.getD x20.toNat default).name) _ hc26) ?_;refine ae ?_;refine go ?_;refine hk _ _ ?_;clear hk hp k kp;refine au y51 v19 hm ?_;exact ls
     ·rintro x27 v26 hm;replace hm : dm p1 p3 l18 x20 x27 = some r1 := hm;refine aU ?_;unfold dm at hm;refine ak fun k3 hk3 => ?_
      by_cases h4 : x27 < 0
      ·rw [iP h4] at hm;have h4b := dT h4;refine cJ h4b [32, 33, 34, 35, 36, 37, 38] ?_;refine af rfl rfl ?_;obtain ⟨⟨hg5a, ⟨hg5bx, hg5by⟩⟩, hm⟩ := gd hm;refine cJ (em aa.enc p1 x20.toNat) [10, 39, 40, 41, 42, 43, 44, 45, 46] ?_;refine gV [.box [.int .i64 0, .int .i64 0], .arr 2 (v26 + 1) 39 ((l18 ++ (lit ([(p1.getD x20.toNat default)] : List aa))).map aa.enc), .arr 2 0 39 ((lit ([(p1.getD x20.toNat default)] : List aa)).map aa.enc)] ?_;refine br ?_;refine a8 (ar ?_);refine au (l18 ++ (lit ([(p1.getD x20.toNat default)] : List aa))) (v26 + 1) hm ?_;exact ls
      ·rw [iN h4] at hm;have h4b := dF h4;refine cJ h4b [32, 33, 34, 35, 36, 37, 38] ?_
       by_cases h6 : x27 ≥ (p3.length : Int)
       ·rw [iP h6] at hm;refine af rfl (dT h6) ?_;obtain ⟨⟨hg7a, ⟨hg7bx, hg7by⟩⟩, hm⟩ := gd hm;refine cJ (em aa.enc p1 x20.toNat) [10, 39, 40, 41, 42, 43, 44, 45, 46] ?_;refine gV [.box [.int .i64 0, .int .i64 0], .arr 2 (v26 + 1) 39 ((l18 ++ (lit ([(p1.getD x20.toNat default)] : List aa))).map aa.enc), .arr 2 0 39 ((lit ([(p1.getD x20.toNat default)] : List aa)).map aa.enc)] ?_;refine br ?_;refine a8 (ar ?_);refine au (l18 ++ (lit ([(p1.getD x20.toNat default)] : List aa))) (v26 + 1) hm ?_;exact ls
       ·rw [iN h6] at hm;refine ai rfl (dF h6) ?_;refine ap ?_;refine ah (hk3 _ _ ?_);refine am [39] ?_;refine aq ?_;obtain ⟨o2, hl2, hm2⟩ := bd hm;refine bn (S := ((List aa) × Int)) (V := Nat) (O := (List aa) ⊕ ((List aa) × ag)) [6, 8, 11, 12, 47, 48, 49, 50, 51, 52, 53, 54, 55, 56, 57, 58, 59, 60, 61, 62, 63, 64, 65, 66, 67, 68, 69, 70, 71, 72, 73, 74, 75, 76, 77, 78, 79, 80, 81, 82, 83, 84, 85, 86, 87, 88, 89, 90] (fun (l42, x44) v43 => [(8, .c (.osl 1 v43 0 l42.length)), (11, .c (.int .i64 x44))]) (fun (l42, x44) v43 => [.box [.int .i64 0, .int .i64 0], .arr 2 v43 39 (l42.map aa.enc)]) _ _ v26 hl2 ?_ ?_
        ·exact ls
        ·rintro ⟨l42, x44⟩ v43 r2 hm hr2;replace hm : cw p1 p3 x20 x27 l42 x44 = some r2 := hm;refine aU ?_;unfold cw at hm;refine ak fun k4 hk4 => ?_;obtain ⟨hg8a, hm⟩ := gd hm;refine cJ (em (eL 2 aa.enc) p3 x27.toNat) [47, 48, 49, 50, 51, 52] ?_
         by_cases h9 : x44 < ((p3.getD x27.toNat default).length : Int)
         ·rw [iP h9] at hm;refine af rfl (dT h9) ?_;refine ap ?_;refine ah (hk4 _ _ ?_);refine ak fun k5 hk5 => ?_;refine aq ?_;obtain ⟨hg10a, hm⟩ := gd hm;refine cJ (a2 (em (eL 2 aa.enc) p3 x27.toNat) (em aa.enc (p3.getD x27.toNat default) x44.toNat)) [53, 56, 57, 58, 59, 60, 61, 62] ?_;refine ak fun k6 hk6 => ?_;refine bm [63, 64, 65, 66, 67, 68, 69, 70, 71, 72, 73, 74] fun k kp hk hp => ?_;refine go ?_;obtain ⟨y45, hc11, hm⟩ := bd hm;refine RP (fun _ => hU (((p3.getD x27.toNat default).getD x44.toNat default).n) _ hc11) ?_
          by_cases h12 : y45 = true
          ·rw [iP h12] at hm;have h12b := h12
           have h12c : (!y45) = false := by rw [h12b]; rfl
           obtain ⟨hg13a, hm⟩ := gd hm;refine ae ?_;refine gox (a2 (em aa.enc p1 x20.toNat) (a2 h12b h12c)) ?_;obtain ⟨y46, hc14, hm⟩ := bd hm;refine RP (fun _ => hU ((p1.getD x20.toNat default).n) _ hc14) ?_;refine ae ?_;refine gox (a2 h12b h12c) ?_;refine hk _ _ ?_;clear hk hp k kp
           by_cases h15 : y46 = true
           ·rw [iP h15] at hm;refine ai rfl (by rw [show y46 = true from (h15)]; rfl) ?_;refine ap ?_;refine ah (hk6 _ _ ?_);obtain ⟨⟨hg16ax, hg16ay⟩, hm⟩ := gd hm;refine rA (em aa.enc p1 x20.toNat) [0, 0, 0, 6, 14, 30, 0, 64, 254, 0, 512, 2046, 4094, 8191, 16383] [false, false, false, false, false, false, false, false, false, false, false, false, false, true, true] ?_;refine aA ?_;refine ah (hk5 _ _ ?_);refine cp ?_;refine aB ((l42 ++ (lit ([(aa.mk (IntKind.wrap .i64 (((p1.getD x20.toNat default).n) * (((p3.getD x27.toNat default).getD x44.toNat default).n))) (((p3.getD x27.toNat default).getD x44.toNat default).name))] : List aa))), (IntKind.wrap .i64 (x44 + 1))) (v43 + 1) hm ?_;exact la
           ·rw [iN h15] at hm;refine af rfl (by rw [show y46 = false from (fB h15)]; rfl) ?_;refine bm [0, 1, 2, 8, 9, 10, 11, 12, 75, 76] fun k kp hk hp => ?_;refine go ?_;obtain ⟨y47, hc17, hm⟩ := bd hm;refine RP (fun _ => ij 16 (-1) _ hc17) ?_;refine ae ?_;refine go ?_;refine hk _ _ ?_;clear hk hp k kp
            refine cy (cH 6 (.c (.tree 2 (([] : List _).map aa.enc))) rfl (by and_intros <;> trivial)) ?_
            refine gU ?_;have ho18 := av hm hr2;subst ho18;replace hm : some (.inr (.inr ([], (y47)))) = some r1 := hm2;have ho19 := av hm hr1;subst ho19;replace hm : some ([], (y47)) = some r := hm1;refine az ?_;refine ao (aj (ao (aR (aj (aj (aC (aR (aj (aC ?_)))))))))
            cases hm
            exact kr 0
          ·rw [iN h12] at hm;have h12b := fB h12
           have h12c : (!y45) = true := by rw [h12b]; rfl
           refine ae ?_;refine gox (a2 h12b h12c) ?_;refine hk _ _ ?_;clear hk hp k kp;refine af rfl rfl ?_;refine bm [0, 1, 2, 8, 9, 10, 11, 12, 75, 76] fun k kp hk hp => ?_;refine go ?_;obtain ⟨y48, hc20, hm⟩ := bd hm;refine RP (fun _ => ij 16 (-1) _ hc20) ?_;refine ae ?_;refine go ?_;refine hk _ _ ?_;clear hk hp k kp
           refine cy (cH 6 (.c (.tree 2 (([] : List _).map aa.enc))) rfl (by and_intros <;> trivial)) ?_
           refine gU ?_;have ho21 := av hm hr2;subst ho21;replace hm : some (.inr (.inr ([], (y48)))) = some r1 := hm2;have ho22 := av hm hr1;subst ho22;replace hm : some ([], (y48)) = some r := hm1;refine az ?_;refine ao (aj (ao (aR (aj (aj (aC (aR (aj (aC ?_)))))))))
           cases hm
           exact kr 0
         ·rw [iN h9] at hm;refine ai rfl (dF h9) ?_;refine br ?_;have ho23 := av hm hr2;subst ho23;replace hm : dZ x20 l42 = some r1 := hm2;refine a8 (aY (ar (aA ?_)));refine au l42 v43 hm ?_;exact ls
    ·rintro l23 v24 hm;replace hm : dZ x20 l23 = some r1 := hm;refine aU ?_;unfold dZ at hm;refine cp ?_;refine aB (l23, (IntKind.wrap .i64 (x20 + 1))) v24 hm ?_;exact ls
   ·rw [iN h3] at hm;refine ai rfl (dF h3) ?_;refine br ?_;have ho27 := av hm hr1;subst ho27;replace hm : gA l18 = some r := hm1;refine a8 (aY (ar ?_));refine au l18 v19 hm ?_;exact ls
 ·rintro l3 v4 hm;replace hm : gA l3 = some r := hm;refine aU ?_;unfold gA at hm;refine ak fun k1 hk1 => ?_;refine am [91, 92] ?_
  by_cases h1 : (l3.length : Int) > 1000
  ·rw [iP h1] at hm;refine af rfl (dT h1) ?_;refine bm [8, 93, 94] fun k kp hk hp => ?_;refine go ?_;obtain ⟨y5, hc2, hm⟩ := bd hm;refine RP (fun _ => ij 7 (-1) _ hc2) ?_;refine ae ?_;refine go ?_;refine hk _ _ ?_;clear hk hp k kp
   refine cy (cH 6 (.c (.tree 2 (([] : List _).map aa.enc))) rfl (by and_intros <;> trivial)) ?_
   refine gU ?_;refine az ?_;refine ao ?_
   cases hm
   exact kr 0
  ·rw [iN h1] at hm;refine ai rfl (dF h1) ?_;refine ap ?_;refine ah (hk1 _ _ ?_);refine am [8, 93, 95, 96] ?_;refine kj (cI 1 rfl) ?_;refine az ?_
   cases hm
   exact kr 0
theorem oc (p1 : List aa) (p2 : List (List UInt8)) (p3 : List Int) (r : (Int × ag)) (hm : di p1 p2 p3 = some r) : cZ Try.prog 13 [.c (.tree 2 (p1.map aa.enc)), .c (.tree 1 (p2.map eS)), .c (.tree 1 (p3.map (eK .i64)))] (.t [.c (.int .i64 r.1), .a [.int .i64 ((r.2).code), .int .i64 ((r.2).at_)]]) := by
 refine bq 78 [.tmp 6, .cell 7 30] Try.func13 rfl rfl rfl (by kernel_rfl) (by simp) ?_;refine cU ?_;unfold di at hm;refine am [6] ?_;refine bm [0, 13, 14, 15, 16, 17] fun k kp hk hp => ?_;refine go ?_;obtain ⟨y1, hc1, hm⟩ := bd hm;refine RP (fun _ => iZ p1 _ hc1) ?_;refine ae ?_;refine go ?_;refine hk _ _ ?_;clear hk hp k kp;refine ak fun k1 hk1 => ?_;refine am [18, 19] ?_
 by_cases h2 : ¬ ((y1.2).code) = 0
 ·rw [iP h2] at hm;refine af rfl (bne_iff_ne.2 h2) ?_;refine tj [1, 2, 8, 9, 20, 21] [0, 0, 3] [false, false, true] ?_;refine az ?_;refine ao ?_
  cases hm
  exact kr 0
 ·rw [iN h2] at hm;refine ai rfl (bne_eq_false_iff_eq.2 (Decidable.not_not.1 h2)) ?_;refine ap ?_;refine ah (hk1 _ _ ?_);refine am [9, 20] ?_;refine a9 (S := Int) (V := Unit) [1, 2, 6, 8, 10, 11, 12, 22, 23, 24, 25, 26, 27, 28, 29, 30, 31, 32, 33, 34, 35, 36, 37, 38, 39, 40, 41, 42, 43, 44, 45, 46, 47, 48, 49, 50, 51, 52, 53, 54, 55, 56, 57, 58, 59, 60, 61, 62, 63, 64, 65, 66, 67, 68, 69, 70, 71, 72, 73, 74, 75] (fun x2 _ => [(10, .c (.int .i64 x2))]) (fun x2 _ => [.box [.int .i64 0, .int .i64 0], .box [.int .i64 ((y1.2).code), .int .i64 ((y1.2).at_)]]) (fun x2 => gN x2 = some r) ?_ ?_
  ·skip;refine am [] ?_
   refine aq ?_;obtain ⟨o1, hl1, hm1⟩ := bd hm;refine bn (S := (Int × Int)) (V := Unit) (O := Int ⊕ (Int × ag)) [6, 10, 11, 12, 22, 23, 24, 25, 26, 27, 28, 29, 30, 31, 32, 33, 34, 35, 36, 37, 38, 39, 40, 41, 42, 43, 44, 45, 46, 47, 48, 49, 50, 51, 52, 53, 54, 55, 56, 57, 58, 59, 60, 61, 62, 63, 64, 65, 66, 67, 68, 69, 70, 71, 72, 73, 74, 75] (fun (x7, x8) _ => [(10, .c (.int .i64 x7)), (11, .c (.int .i64 x8))]) (fun (x7, x8) _ => [.box [.int .i64 0, .int .i64 0], .box [.int .i64 ((y1.2).code), .int .i64 ((y1.2).at_)]]) _ _ () hl1 ?_ ?_
   ·exact ls
   ·rintro ⟨x7, x8⟩ _ r1 hm hr1;replace hm : aX p2 p3 y1 x7 x8 = some r1 := hm;refine aU ?_;unfold aX at hm;refine ak fun k2 hk2 => ?_;refine am [22, 23, 24] ?_
    by_cases h3 : x8 < (y1.1.length : Int)
    ·rw [iP h3] at hm;refine af rfl (dT h3) ?_;refine ap ?_;refine ah (hk2 _ _ ?_);refine ak fun k3 hk3 => ?_;refine aq ?_;refine ak fun k4 hk4 => ?_;obtain ⟨hg4a, hm⟩ := gd hm;refine cJ (em aa.enc y1.1 x8.toNat) [25, 28, 29, 30, 31, 32] ?_
     by_cases h5 : ((y1.1.getD x8.toNat default).name) = ([] : List UInt8)
     ·rw [iP h5] at hm;refine af rfl (eQ h5) ?_;refine cJ (em aa.enc y1.1 x8.toNat) [33, 34, 35, 36, 37, 38, 39, 40] ?_;refine br ?_;refine a8 (ar ?_);refine ah (hk3 _ _ ?_);refine cp ?_;refine aB ((IntKind.wrap .i64 (x7 + ((y1.1.getD x8.toNat default).n))), (IntKind.wrap .i64 (x8 + 1))) () hm ?_;exact ls
     ·rw [iN h5] at hm;refine ai rfl (nB h5) ?_;refine ap ?_;refine ah (hk4 _ _ ?_);refine bm [33, 41, 42, 43, 44, 45, 46, 47] fun k kp hk hp => ?_;refine gox (em aa.enc y1.1 x8.toNat) ?_;obtain ⟨y9, hc6, hm⟩ := bd hm;refine RP (fun _ => jY p2 ((y1.1.getD x8.toNat default).name) _ hc6) ?_;refine ae ?_;refine go ?_;refine hk _ _ ?_;clear hk hp k kp;refine ak fun k5 hk5 => ?_
      by_cases h7 : y9 < 0
      ·rw [iP h7] at hm;have h7b := dT h7;refine cJ h7b [48, 49, 50, 51, 52, 53, 54] ?_;refine af rfl rfl ?_;refine bm [1, 2, 8, 10, 11, 12, 55, 56] fun k kp hk hp => ?_;refine go ?_;obtain ⟨y10, hc8, hm⟩ := bd hm;refine RP (fun _ => ij 9 (-1) _ hc8) ?_;refine ae ?_;refine go ?_;refine hk _ _ ?_;clear hk hp k kp;have ho9 := av hm hr1;subst ho9;replace hm : some (0, (y10)) = some r := hm1;refine az ?_;refine ao (aj (ao (aR (aj (aC ?_)))))
       cases hm
       exact kr 0
      ·rw [iN h7] at hm;have h7b := dF h7;refine cJ h7b [48, 49, 50, 51, 52, 53, 54] ?_
       by_cases h10 : y9 ≥ (p3.length : Int)
       ·rw [iP h10] at hm;refine af rfl (dT h10) ?_;refine bm [1, 2, 8, 10, 11, 12, 55, 56] fun k kp hk hp => ?_;refine go ?_;obtain ⟨y11, hc11, hm⟩ := bd hm;refine RP (fun _ => ij 9 (-1) _ hc11) ?_;refine ae ?_;refine go ?_;refine hk _ _ ?_;clear hk hp k kp;have ho12 := av hm hr1;subst ho12;replace hm : some (0, (y11)) = some r := hm1;refine az ?_;refine ao (aj (ao (aR (aj (aC ?_)))))
        cases hm
        exact kr 0
       ·rw [iN h10] at hm;refine ai rfl (dF h10) ?_;refine ap ?_;refine ah (hk5 _ _ ?_);refine ak fun k6 hk6 => ?_;obtain ⟨hg13a, hm⟩ := gd hm;refine bm [55, 57, 58, 59, 60, 61] fun k kp hk hp => ?_;refine gox (em (eK .i64) p3 y9.toNat) ?_;obtain ⟨y12, hc14, hm⟩ := bd hm;refine RP (fun _ => hU (p3.getD y9.toNat default) _ hc14) ?_;refine ae ?_;refine go ?_;refine hk _ _ ?_;clear hk hp k kp
        by_cases h15 : y12 = true
        ·rw [iP h15] at hm;refine ai rfl (by rw [show y12 = true from (h15)]; rfl) ?_;refine ap ?_;refine ah (hk6 _ _ ?_);refine rA (a2 (em aa.enc y1.1 x8.toNat) (em (eK .i64) p3 y9.toNat)) [0, 0, 0, 6, 14, 30, 0, 0, 192, 448, 1022, 2047, 4095] [false, false, false, false, false, false, false, false, false, false, false, true, true] ?_;refine aA ?_;refine ah (hk3 _ _ ?_);refine cp ?_;refine aB ((IntKind.wrap .i64 (x7 + (IntKind.wrap .i64 (((y1.1.getD x8.toNat default).n) * (p3.getD y9.toNat default))))), (IntKind.wrap .i64 (x8 + 1))) () hm ?_;exact ls
        ·rw [iN h15] at hm;refine af rfl (by rw [show y12 = false from (fB h15)]; rfl) ?_;refine bm [1, 2, 8, 10, 11, 12, 62, 63] fun k kp hk hp => ?_;refine go ?_;obtain ⟨y13, hc16, hm⟩ := bd hm;refine RP (fun _ => ij 16 (-1) _ hc16) ?_;refine ae ?_;refine go ?_;refine hk _ _ ?_;clear hk hp k kp;have ho17 := av hm hr1;subst ho17;replace hm : some (0, (y13)) = some r := hm1;refine az ?_;refine ao (aj (ao (aR (aj (aC ?_)))))
         cases hm
         exact kr 0
    ·rw [iN h3] at hm;refine ai rfl (dF h3) ?_;refine br ?_;have ho18 := av hm hr1;subst ho18;replace hm : gN x7 = some r := hm1;refine a8 (aY (ar ?_));refine au x7 () hm ?_;exact ls
  ·rintro x2 _ hm;replace hm : gN x2 = some r := hm;refine aU ?_;unfold gN at hm;refine am [10, 76, 77] ?_;refine az ?_
   cases hm
   exact kr 0
theorem l9 (p1 : List aa) (p2 : List aa) (r : Bool) (hm : e7 p1 p2 = some r) : cZ Try.prog 16 [.c (.tree 2 (p1.map aa.enc)), .c (.tree 2 (p2.map aa.enc))] (.c (.bool r)) := by
 refine bq 32 [.tmp 4] Try.func16 rfl rfl rfl (by kernel_rfl) (by simp) ?_;refine cU ?_;unfold e7 at hm;refine am [4] ?_;refine bm [0, 9, 10, 11, 12, 13] fun k kp hk hp => ?_;refine go ?_;obtain ⟨y1, hc1, hm⟩ := bd hm;refine RP (fun _ => iZ p1 _ hc1) ?_;refine ae ?_;refine go ?_;refine hk _ _ ?_;clear hk hp k kp;refine bm [1, 14, 15, 16, 17, 18] fun k kp hk hp => ?_;refine go ?_;obtain ⟨y2, hc2, hm⟩ := bd hm;refine RP (fun _ => iZ p2 _ hc2) ?_;refine ae ?_;refine go ?_;refine hk _ _ ?_;clear hk hp k kp;refine eU [5, 6, 7, 8, 19, 20, 21, 22, 23, 24, 25, 26, 27, 28, 29, 30, 31] fun k kp hk hp => ?_;refine aw 4 ?_;refine go ?_
 by_cases h3 : ((y1.2).code) = 0
 ·rw [iP h3] at hm;have h3b := eQ h3;refine aw 5 ?_;refine gox h3b ?_
  by_cases h4 : ((y2.2).code) = 0
  ·rw [iP h4] at hm;have h4b := eQ h4;refine ae ?_;refine gox (a2 h3b h4b) ?_;obtain ⟨y3, hc5, hm⟩ := bd hm;refine RP (fun _ => eI y1.1 y2.1 _ hc5) ?_;refine ae ?_;refine gox (a2 h3b h4b) ?_;refine hk _ _ ?_;clear hk hp k kp;refine az ?_
   cases hm
   exact kr 0
  ·rw [iN h4] at hm;have h4b := nB h4;refine ae ?_;refine gox (a2 h3b h4b) ?_;refine hk _ _ ?_;clear hk hp k kp;refine az ?_
   cases hm
   exact kr 0
 ·rw [iN h3] at hm;have h3b := nB h3;refine ae ?_;refine gox h3b ?_;refine hk _ _ ?_;clear hk hp k kp;refine az ?_
  cases hm
  exact kr 0
theorem ma (fuel : Nat) (p1 : List aa) (p2 : List aa) (p3 : List (List UInt8)) (p4 : List (List aa)) (p5 : List Int) (r : Bool) (hm : it fuel p1 p2 p3 p4 p5 = some r) : cZ Try.prog 3 [.c (.tree 2 (p1.map aa.enc)), .c (.tree 2 (p2.map aa.enc)), .c (.tree 1 (p3.map eS)), .c (.tree 1 (p4.map (eL 2 aa.enc))), .c (.tree 1 (p5.map (eK .i64)))] (.c (.bool r)) := by
 refine bq 121 [.tmp 10] Try.func3 rfl rfl rfl (by kernel_rfl) (by simp) ?_;refine cU ?_;unfold it at hm;refine am [10] ?_;refine ak fun k1 hk1 => ?_;refine bm [24] fun k kp hk hp => ?_;refine go ?_;obtain ⟨y1, hc1, hm⟩ := bd hm;refine RP (fun _ => hI fuel  _ hc1) ?_;refine ae ?_;refine go ?_;refine hk _ _ ?_;clear hk hp k kp
 by_cases h2 : y1 = true
 ·rw [iP h2] at hm;refine ai rfl (by rw [show y1 = true from (h2)]; rfl) ?_;refine ap ?_;refine ah (hk1 _ _ ?_);refine ak fun k2 hk2 => ?_;refine bm [25, 26, 27, 28, 29, 30, 31, 32, 33, 34, 35, 36, 37] fun k kp hk hp => ?_;refine go ?_;obtain ⟨y2, hc3, hm⟩ := bd hm;refine RP (fun _ => lH p1 p3 p4 _ hc3) ?_
  by_cases h4 : y2 = true
  ·rw [iP h4] at hm;have h4b := h4;refine ae ?_;refine gox h4b ?_;refine hk _ _ ?_;clear hk hp k kp;refine af rfl rfl ?_;refine am [0, 1, 2, 3, 4, 38] ?_;refine az ?_;refine ao ?_
   cases hm
   exact kr 0
  ·rw [iN h4] at hm;have h4b := fB h4;refine ae ?_;refine gox h4b ?_;obtain ⟨y3, hc5, hm⟩ := bd hm;refine RP (fun _ => kO p2 _ hc5) ?_
   by_cases h6 : y3 = true
   ·rw [iP h6] at hm;have h6b := h6;refine ae ?_;refine gox (a2 h4b h6b) ?_;refine hk _ _ ?_;clear hk hp k kp;refine af rfl rfl ?_;refine am [0, 1, 2, 3, 4, 38] ?_;refine az ?_;refine ao ?_
    cases hm
    exact kr 0
   ·rw [iN h6] at hm;have h6b := fB h6;refine ae ?_;refine gox (a2 h4b h6b) ?_;refine hk _ _ ?_;clear hk hp k kp
    by_cases h7 : (p5.length : Int) > 1000
    ·rw [iP h7] at hm;refine af rfl (dT h7) ?_;refine am [0, 1, 2, 3, 4, 38] ?_;refine az ?_;refine ao ?_
     cases hm
     exact kr 0
    ·rw [iN h7] at hm;refine ai rfl (dF h7) ?_;refine ap ?_;refine ah (hk2 _ _ ?_);obtain ⟨⟨hg8ax, hg8ay⟩, hm⟩ := gd hm;refine am [38, 39, 40] ?_;refine gV [.arr 2 0 39 (p1.map aa.enc)] ?_;refine bm [41, 42, 43, 44, 45] fun k kp hk hp => ?_;refine go ?_;refine cN (cI 0 rfl) ?_;refine gt ?_;obtain ⟨y4, hc9, hm⟩ := bd hm;refine RP (fun _ => fV fuel p1 _ hc9) ?_;refine ae ?_;refine go ?_;refine hk _ _ ?_;clear hk hp k kp;refine bm [46, 47, 48, 49, 50] fun k kp hk hp => ?_;refine go ?_;obtain ⟨y5, hc10, hm⟩ := bd hm;refine RP (fun _ => iZ p1 _ hc10) ?_;refine ae ?_;refine go ?_;refine hk _ _ ?_;clear hk hp k kp;refine bm [51, 52, 53, 54, 55, 56, 57] fun k kp hk hp => ?_;refine go ?_;obtain ⟨y6, hc11, hm⟩ := bd hm;refine RP (fun _ => oa p1 p3 p4 _ hc11) ?_;refine ae ?_;refine go ?_;refine hk _ _ ?_;clear hk hp k kp;refine bm [3, 58, 59, 60, 61, 62, 63, 64] fun k kp hk hp => ?_;refine go ?_;obtain ⟨y7, hc12, hm⟩ := bd hm;refine RP (fun _ => oR p1 p3 p4 _ hc12) ?_;refine ae ?_;refine go ?_;refine hk _ _ ?_;clear hk hp k kp;refine bm [65, 66, 67, 68, 69, 70, 71] fun k kp hk hp => ?_;refine go ?_;obtain ⟨y8, hc13, hm⟩ := bd hm;refine RP (fun _ => dp fuel p1 p3 p5 _ hc13) ?_;refine ae ?_;refine go ?_;refine hk _ _ ?_;clear hk hp k kp;refine bm [2, 4, 72, 73, 74, 75, 76, 77, 78] fun k kp hk hp => ?_;refine go ?_;obtain ⟨y9, hc14, hm⟩ := bd hm;refine RP (fun _ => oc p1 p3 p5 _ hc14) ?_;refine ae ?_;refine go ?_;refine hk _ _ ?_;clear hk hp k kp;refine eU [0, 1, 11, 12, 13, 14, 15, 16, 17, 18, 19, 20, 21, 22, 23, 79, 80, 81, 82, 83, 84, 85, 86, 87, 88, 89, 90, 91, 92, 93, 94, 95, 96, 97, 98, 99, 100, 101, 102, 103, 104, 105, 106, 107, 108, 109, 110, 111, 112, 113, 114, 115, 116, 117, 118, 119, 120] fun k kp hk hp => ?_;refine aw 4 ?_;refine go ?_
     by_cases h15 : ((y4.2).code) = ((y5.2).code) ∧ ((y4.2).at_) = ((y5.2).at_)
     ·rw [iP h15] at hm
      have h15b : ((((y4.2).code) == ((y5.2).code)) && (((y4.2).at_) == ((y5.2).at_))) = true := by simpa [Bool.and_eq_true] using h15
      refine ae ?_;refine gox h15b ?_;obtain ⟨y10, hc16, hm⟩ := bd hm;refine RP (fun _ => eI y4.1 y5.1 _ hc16) ?_
      by_cases h17 : y10 = true
      ·rw [iP h17] at hm;have h17b := h17;refine aw 7 ?_;refine gox (a2 h15b h17b) ?_
       by_cases h18 : ((y6.2).code) = ((y7.2).code) ∧ ((y6.2).at_) = ((y7.2).at_)
       ·rw [iP h18] at hm
        have h18b : ((((y6.2).code) == ((y7.2).code)) && (((y6.2).at_) == ((y7.2).at_))) = true := by simpa [Bool.and_eq_true] using h18
        refine ae ?_;refine gox (a2 h15b (a2 h17b h18b)) ?_;obtain ⟨y11, hc19, hm⟩ := bd hm;refine RP (fun _ => eI y6.1 y7.1 _ hc19) ?_
        by_cases h20 : y11 = true
        ·rw [iP h20] at hm;have h20b := h20;refine aw 7 ?_;refine gox (a2 h15b (a2 h17b (a2 h18b h20b))) ?_
         by_cases h21 : y8.1 = y9.1
         ·rw [iP h21] at hm;have h21b := eQ h21;refine aw 5 ?_;refine gox (a2 h15b (a2 h17b (a2 h18b (a2 h20b h21b)))) ?_
          by_cases h22 : ((y8.2).code) = ((y9.2).code) ∧ ((y8.2).at_) = ((y9.2).at_)
          ·rw [iP h22] at hm
           have h22b : ((((y8.2).code) == ((y9.2).code)) && (((y8.2).at_) == ((y9.2).at_))) = true := by simpa [Bool.and_eq_true] using h22
           refine ae ?_;refine gox (a2 h15b (a2 h17b (a2 h18b (a2 h20b (a2 h21b h22b))))) ?_;obtain ⟨y12, hc23, hm⟩ := bd hm;refine RP (fun _ => jC fuel p1 p2 _ hc23) ?_;refine ae ?_;refine gox (a2 h15b (a2 h17b (a2 h18b (a2 h20b (a2 h21b h22b))))) ?_;obtain ⟨y13, hc24, hm⟩ := bd hm;refine RP (fun _ => l9 p1 p2 _ hc24) ?_
           by_cases h25 : y12 = y13
           ·rw [iP h25] at hm;have h25b := eQ h25;refine ae ?_;refine gox (a2 h15b (a2 h17b (a2 h18b (a2 h20b (a2 h21b (a2 h22b h25b)))))) ?_;obtain ⟨y14, hc26, hm⟩ := bd hm;refine RP (fun _ => eI p1 p1 _ hc26) ?_;refine ae ?_;refine gox (a2 h15b (a2 h17b (a2 h18b (a2 h20b (a2 h21b (a2 h22b h25b)))))) ?_;refine hk _ _ ?_;clear hk hp k kp;refine az ?_
            cases hm
            exact kr 0
           ·rw [iN h25] at hm;have h25b := nB h25;refine ae ?_;refine gox (a2 h15b (a2 h17b (a2 h18b (a2 h20b (a2 h21b (a2 h22b h25b)))))) ?_;refine hk _ _ ?_;clear hk hp k kp;refine az ?_
            cases hm
            exact kr 0
          ·rw [iN h22] at hm;have h22b : ((((y8.2).code) == ((y9.2).code)) && (((y8.2).at_) == ((y9.2).at_))) = false := fB (fun hh => h22 (by simpa [Bool.and_eq_true] using hh));refine ae ?_;refine gox (a2 h15b (a2 h17b (a2 h18b (a2 h20b (a2 h21b h22b))))) ?_;refine hk _ _ ?_;clear hk hp k kp;refine az ?_
           cases hm
           exact kr 0
         ·rw [iN h21] at hm;have h21b := nB h21;refine ae ?_;refine gox (a2 h15b (a2 h17b (a2 h18b (a2 h20b h21b)))) ?_;refine hk _ _ ?_;clear hk hp k kp;refine az ?_
          cases hm
          exact kr 0
        ·rw [iN h20] at hm;have h20b := fB h20;refine ae ?_;refine gox (a2 h15b (a2 h17b (a2 h18b h20b))) ?_;refine hk _ _ ?_;clear hk hp k kp;refine az ?_
         cases hm
         exact kr 0
       ·rw [iN h18] at hm;have h18b : ((((y6.2).code) == ((y7.2).code)) && (((y6.2).at_) == ((y7.2).at_))) = false := fB (fun hh => h18 (by simpa [Bool.and_eq_true] using hh));refine ae ?_;refine gox (a2 h15b (a2 h17b h18b)) ?_;refine hk _ _ ?_;clear hk hp k kp;refine az ?_
        cases hm
        exact kr 0
      ·rw [iN h17] at hm;have h17b := fB h17;refine ae ?_;refine gox (a2 h15b h17b) ?_;refine hk _ _ ?_;clear hk hp k kp;refine az ?_
       cases hm
       exact kr 0
     ·rw [iN h15] at hm;have h15b : ((((y4.2).code) == ((y5.2).code)) && (((y4.2).at_) == ((y5.2).at_))) = false := fB (fun hh => h15 (by simpa [Bool.and_eq_true] using hh));refine ae ?_;refine gox h15b ?_;refine hk _ _ ?_;clear hk hp k kp;refine az ?_
      cases hm
      exact kr 0
 ·rw [iN h2] at hm;refine af rfl (by rw [show y1 = false from (fB h2)]; rfl) ?_;refine am [0, 1, 2, 3, 4, 25] ?_;refine az ?_;refine ao ?_
  cases hm
  exact kr 0
end Pam
