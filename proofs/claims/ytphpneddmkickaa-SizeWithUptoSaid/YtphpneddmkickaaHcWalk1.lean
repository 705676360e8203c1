/- the walk of slices_Index_string_string_2, printed by a program of ours -/
import Derived.Test.YtphpneddmkickaaHBase2
import Derived.Test.YtphpneddmkickaaHBase3
import Derived.Test.YtphpneddmkickaaHcFun1
import Derived.Test.YtphpneddmkickaaHabcWalk1
import Derived.Test.YtphpneddmkickaaHcBase1
import Derived.Test.YtphpneddmkickaaHbcWalk1
set_option linter.all false
set_option maxRecDepth 100000
set_option maxHeartbeats 8000000
namespace Pam
open Go Go.Proofs
theorem gT (p1 : Nat) (p2 : List UInt8) (p3 : List (List UInt8)) (v0_ : Nat) (r : Int) (hm : cn p1 p2 p3 = some r) : gD Try.prog 26 [.c (.osl 0 v0_ 0 p1), .c (.str p2)] [.arr 1 v0_ 9 (p3.map eS)] (fun p σ => (p = .c (.int .i64 r) ∧ σ = [.arr 1 v0_ 9 (p3.map eS)])) (fun _ _ => False) := by
 refine bq 19 [.tmp 4] Try.func26 rfl rfl rfl (by kernel_rfl) (by simp) ?_;refine cU ?_;unfold cn at hm;refine am [4] ?_;refine a9 (S := Unit) (V := Unit) [0, 1, 4, 5, 6, 7, 8, 9, 10, 11, 12, 13, 14, 15, 16, 17, 18] (fun _ _ => []) (fun _ _ => [.arr 1 v0_ 9 (p3.map eS)]) (fun _ => bY = some r) ?_ ?_
 ·skip;refine am [6] ?_
  refine aq ?_;obtain ⟨o1, hl1, hm1⟩ := bd hm;refine bn (S := Int) (V := Unit) (O := Unit ⊕ Int) [0, 4, 5, 8, 9, 10, 11, 12, 13, 14, 15, 16, 17, 18] (fun x3 _ => [(0, .c (.osl 0 v0_ 0 p1)), (8, .c (.int .i64 x3))]) (fun x3 _ => [.arr 1 v0_ 9 (p3.map eS)]) _ _ () hl1 ?_ ?_
  ·exact ls
  ·rintro x3 _ r1 hm hr1;replace hm : b8 p1 p2 p3 x3 = some r1 := hm;refine aU ?_;unfold b8 at hm;refine am [] ?_;refine ak fun k1 hk1 => ?_
   by_cases h1 : x3 < (p1 : Int)
   ·rw [iP h1] at hm;refine af rfl (dT h1) ?_;refine ap ?_;refine ah (hk1 _ _ ?_);refine ak fun k2 hk2 => ?_;refine aq ?_;refine am [9, 10] ?_;obtain ⟨⟨hg2a, hg2b⟩, hm⟩ := gd hm;refine cJ (em eS p3 x3.toNat) [11, 12, 13, 14, 15] ?_
    by_cases h3 : p2 = (p3.getD x3.toNat default)
    ·rw [iP h3] at hm;refine af rfl (eQ h3) ?_;refine am [0, 1, 5, 7, 8, 16, 17] ?_;have ho4 := av hm hr1;subst ho4;replace hm : some x3 = some r := hm1;refine az ?_;refine aj (ao (aR (aj (aC ?_))))
     cases hm
     exact kr 1
    ·rw [iN h3] at hm;refine ai rfl (nB h3) ?_;refine ap ?_;refine aA ?_;refine ah (hk2 _ _ ?_);refine cp ?_;refine aB (IntKind.wrap .i64 (x3 + 1)) () hm ?_;exact ls
   ·rw [iN h1] at hm;refine ai rfl (dF h1) ?_;refine br ?_;have ho5 := av hm hr1;subst ho5;replace hm : bY = some r := hm1;refine a8 (aY (ar ?_));refine au () () hm ?_;exact ls
 ·rintro _ _ hm;replace hm : bY = some r := hm;refine aU ?_;unfold bY at hm;refine am [] ?_;refine az ?_
  cases hm
  exact kr 1
theorem m7 (p1 : List aa) (p2 : Nat) (p3 : List (List aa)) (p4 : List (List UInt8)) (v0_ : Nat) (r : ((List aa) × ag)) (hm : gB p1 p2 p3 p4 = some r) : gD Try.prog 10 [.c (.tree 2 (p1.map aa.enc)), .c (.osl 0 v0_ 0 p2), .c (.tree 1 (p3.map (eL 2 aa.enc)))] [.arr 1 v0_ 9 (p4.map eS)] (fun p σ => (p = .t [.c (.tree 2 (r.1.map aa.enc)), .a [.int .i64 ((r.2).code), .int .i64 ((r.2).at_)]] ∧ σ = [.arr 1 v0_ 9 (p4.map eS)])) (fun _ _ => False) := by
 refine bq 88 [.tmp 6, .cell 7 30] Try.func10 rfl rfl rfl (by kernel_rfl) (by simp) ?_;refine cU ?_;unfold gB at hm;refine am [6] ?_;refine am [] ?_;refine cy (gZ 8 2 39 (by decide) rfl (Nat.le_of_ble_eq_true rfl)) ?_;refine mQ ?_;refine a9 (S := (List aa)) (V := Nat) [0, 1, 2, 6, 8, 10, 11, 13, 14, 15, 16, 17, 18, 19, 20, 21, 22, 23, 24, 25, 26, 27, 28, 29, 30, 31, 32, 33, 34, 35, 36, 37, 38, 39, 40, 41, 42, 43, 44, 45, 46, 47, 48, 49, 50, 51, 52, 53, 54, 55, 56, 57, 58, 59, 60, 61, 62, 63, 64, 65, 66, 67, 68, 69, 70, 71, 72, 73, 74, 75, 76, 77, 78, 79, 80, 81] (fun l3 v4 => [(8, .c (.osl 2 v4 0 l3.length))]) (fun l3 v4 => [.arr 1 v0_ 9 (p4.map eS), .box [.int .i64 0, .int .i64 0], .arr 2 v4 39 (l3.map aa.enc)]) (fun l3 => eN l3 = some r) ?_ ?_
 ·skip;refine am [0] ?_
  refine aq ?_;obtain ⟨o1, hl1, hm1⟩ := bd hm;refine bn (S := ((List aa) × Int)) (V := Nat) (O := (List aa) ⊕ ((List aa) × ag)) [1, 6, 8, 10, 11, 13, 16, 17, 18, 19, 20, 21, 22, 23, 24, 25, 26, 27, 28, 29, 30, 31, 32, 33, 34, 35, 36, 37, 38, 39, 40, 41, 42, 43, 44, 45, 46, 47, 48, 49, 50, 51, 52, 53, 54, 55, 56, 57, 58, 59, 60, 61, 62, 63, 64, 65, 66, 67, 68, 69, 70, 71, 72, 73, 74, 75, 76, 77, 78, 79, 80, 81] (fun (l17, x19) v18 => [(1, .c (.osl 0 v0_ 0 p2)), (8, .c (.osl 2 v18 0 l17.length)), (16, .c (.int .i64 x19))]) (fun (l17, x19) v18 => [.arr 1 v0_ 9 (p4.map eS), .box [.int .i64 0, .int .i64 0], .arr 2 v18 39 (l17.map aa.enc)]) _ _ 0 hl1 ?_ ?_
  ·exact ls
  ·rintro ⟨l17, x19⟩ v18 r1 hm hr1;replace hm : cM p1 p2 p3 p4 l17 x19 = some r1 := hm;refine aU ?_;unfold cM at hm;refine am [] ?_;refine ak fun k2 hk2 => ?_
   by_cases h2 : x19 < (p1.length : Int)
   ·rw [iP h2] at hm;refine af rfl (dT h2) ?_;refine ap ?_;refine ah (hk2 _ _ ?_);refine a9 (S := (List aa)) (V := Nat) [1, 6, 8, 10, 11, 13, 17, 18, 19, 20, 21, 22, 23, 24, 25, 26, 27, 28, 29, 30, 31, 32, 33, 34, 35, 36, 37, 38, 39, 40, 41, 42, 43, 44, 45, 46, 47, 48, 49, 50, 51, 52, 53, 54, 55, 56, 57, 58, 59, 60, 61, 62, 63, 64, 65, 66, 67, 68, 69, 70, 71, 72, 73, 74, 75, 76, 77, 78, 79, 80] (fun l22 v23 => [(1, .c (.osl 0 v0_ 0 p2)), (8, .c (.osl 2 v23 0 l22.length))]) (fun l22 v23 => [.arr 1 v0_ 9 (p4.map eS), .box [.int .i64 0, .int .i64 0], .arr 2 v23 39 (l22.map aa.enc)]) (fun l22 => cC x19 l22 = some r1) ?_ ?_
    ·skip;refine aq ?_
     obtain ⟨hg3a, hm⟩ := gd hm;refine cJ (em aa.enc p1 x19.toNat) [17, 18, 19] ?_;refine bm [20, 21, 22, 23] fun k kp hk hp => ?_;refine go ?_;obtain ⟨y24, hc4, hm⟩ := bd hm;refine RA (gT p2 ((p1.getD x19.toNat default).name) p4 v0_ _ hc4) [0] ?_;rintro p σ' ⟨rfl, rfl⟩ _;refine ae ?_;refine go ?_;refine hk _ _ ?_;clear hk hp k kp;refine ak fun k3 hk3 => ?_;refine eU [24, 25, 26, 27, 28, 29, 30, 31, 32, 33, 34, 35] fun k kp hk hp => ?_;refine aw 4 ?_;refine go ?_
     by_cases h6 : ((p1.getD x19.toNat default).name) = ([] : List UInt8)
     ·rw [iP h6] at hm;have h6b := eQ h6;refine ae ?_;refine gox h6b ?_;refine hk _ _ ?_;clear hk hp k kp;refine af rfl rfl ?_;obtain ⟨⟨hg7ax, hg7ay⟩, hm⟩ := gd hm;refine am [10, 11, 36, 37, 38, 39, 40] ?_;refine gV [.arr 1 v0_ 9 (p4.map eS), .box [.int .i64 0, .int .i64 0], .arr 2 (v18 + 1) 39 ((l17 ++ (lit ([(p1.getD x19.toNat default)] : List aa))).map aa.enc), .box [.int .i64 ((p1.getD x19.toNat default).n), .str ((p1.getD x19.toNat default).name)], .arr 2 0 39 ((lit ([(p1.getD x19.toNat default)] : List aa)).map aa.enc)] ?_;refine br ?_;refine a8 (ar ?_);refine au (l17 ++ (lit ([(p1.getD x19.toNat default)] : List aa))) (v18 + 1) hm ?_;exact ls
     ·rw [iN h6] at hm;have h6b := nB h6;refine aw 4 ?_;refine gox h6b ?_
      by_cases h8 : y24 < 0
      ·rw [iP h8] at hm;have h8b := dT h8;refine ae ?_;refine gox (a2 h6b h8b) ?_;refine hk _ _ ?_;clear hk hp k kp;refine af rfl rfl ?_;obtain ⟨⟨hg9ax, hg9ay⟩, hm⟩ := gd hm;refine am [10, 11, 36, 37, 38, 39, 40] ?_;refine gV [.arr 1 v0_ 9 (p4.map eS), .box [.int .i64 0, .int .i64 0], .arr 2 (v18 + 1) 39 ((l17 ++ (lit ([(p1.getD x19.toNat default)] : List aa))).map aa.enc), .box [.int .i64 ((p1.getD x19.toNat default).n), .str ((p1.getD x19.toNat default).name)], .arr 2 0 39 ((lit ([(p1.getD x19.toNat default)] : List aa)).map aa.enc)] ?_;refine br ?_;refine a8 (ar ?_);refine au (l17 ++ (lit ([(p1.getD x19.toNat default)] : List aa))) (v18 + 1) hm ?_;exact ls
      ·rw [iN h8] at hm;have h8b := dF h8;refine ae ?_;refine gox (a2 h6b h8b) ?_;refine hk _ _ ?_;clear hk hp k kp
       by_cases h10 : y24 ≥ (p3.length : Int)
       ·rw [iP h10] at hm;refine af rfl (dT h10) ?_;obtain ⟨⟨hg11ax, hg11ay⟩, hm⟩ := gd hm;refine am [10, 11, 36, 37, 38, 39, 40] ?_;refine gV [.arr 1 v0_ 9 (p4.map eS), .box [.int .i64 0, .int .i64 0], .arr 2 (v18 + 1) 39 ((l17 ++ (lit ([(p1.getD x19.toNat default)] : List aa))).map aa.enc), .box [.int .i64 ((p1.getD x19.toNat default).n), .str ((p1.getD x19.toNat default).name)], .arr 2 0 39 ((lit ([(p1.getD x19.toNat default)] : List aa)).map aa.enc)] ?_;refine br ?_;refine a8 (ar ?_);refine au (l17 ++ (lit ([(p1.getD x19.toNat default)] : List aa))) (v18 + 1) hm ?_;exact ls
       ·rw [iN h10] at hm;refine ai rfl (dF h10) ?_;refine ap ?_;refine ah (hk3 _ _ ?_);obtain ⟨hg12a, hm⟩ := gd hm;refine cJ (em (eL 2 aa.enc) p3 y24.toNat) [11, 36, 41, 42, 43] ?_;refine aq ?_;obtain ⟨o2, hl2, hm2⟩ := bd hm;refine bn (S := ((List aa) × Int)) (V := Nat) (O := (List aa) ⊕ ((List aa) × ag)) [1, 6, 8, 13, 46, 47, 48, 49, 50, 51, 52, 53, 54, 55, 56, 57, 58, 59, 60, 61, 62, 63, 64, 65, 66, 67, 68, 69, 70, 71, 72, 73, 74, 75, 76, 77, 78, 79, 80] (fun (l39, x41) v40 => [(1, .c (.osl 0 v0_ 0 p2)), (8, .c (.osl 2 v40 0 l39.length)), (46, .c (.int .i64 x41))]) (fun (l39, x41) v40 => [.arr 1 v0_ 9 (p4.map eS), .box [.int .i64 0, .int .i64 0], .arr 2 v40 39 (l39.map aa.enc), .box [.int .i64 ((p1.getD x19.toNat default).n), .str ((p1.getD x19.toNat default).name)]]) _ _ v18 hl2 ?_ ?_
        ·exact ls
        ·rintro ⟨l39, x41⟩ v40 r2 hm hr2;replace hm : cL p1 p3 x19 y24 l39 x41 = some r2 := hm;refine aU ?_;unfold cL at hm;refine am [] ?_;refine ak fun k4 hk4 => ?_
         by_cases h13 : x41 < ((p3.getD y24.toNat default).length : Int)
         ·rw [iP h13] at hm;refine af rfl (dT h13) ?_;refine ap ?_;refine ah (hk4 _ _ ?_);refine ak fun k5 hk5 => ?_;refine aq ?_;obtain ⟨hg14a, hm⟩ := gd hm;refine cJ (em aa.enc (p3.getD y24.toNat default) x41.toNat) [47, 48, 49] ?_;refine ak fun k6 hk6 => ?_;refine eU [50, 51, 52, 53, 54, 55, 56, 57, 58, 59, 60, 61, 62, 63, 64, 65, 66] fun k kp hk hp => ?_;refine aw 4 ?_;refine go ?_
          by_cases h15 : ((p1.getD x19.toNat default).n) < (-1000000)
          ·rw [iP h15] at hm;have h15b := dT h15;refine ae ?_;refine gox h15b ?_;refine hk _ _ ?_;clear hk hp k kp;refine af rfl rfl ?_;refine am [1, 2, 8, 10, 13, 14, 15, 16, 44, 45, 46, 67, 68] ?_
           refine cy (cH 6 (.c (.tree 2 (([] : List _).map aa.enc))) rfl (by and_intros <;> trivial)) ?_
           refine gU ?_;have ho16 := av hm hr2;subst ho16;replace hm : some (.inr (.inr ([], (ag.mk 16 (-1))))) = some r1 := hm2;have ho17 := av hm hr1;subst ho17;replace hm : some ([], (ag.mk 16 (-1))) = some r := hm1;refine az ?_;refine ao (aj (ao (aR (aj (aj (aC (aR (aj (aC ?_)))))))))
           cases hm
           exact kr 1
          ·rw [iN h15] at hm;have h15b := dF h15;refine aw 5 ?_;refine gox h15b ?_
           by_cases h18 : ((p1.getD x19.toNat default).n) > 1000000
           ·rw [iP h18] at hm;have h18b := dT h18;refine ae ?_;refine gox (a2 h15b h18b) ?_;refine hk _ _ ?_;clear hk hp k kp;refine af rfl rfl ?_;refine am [1, 2, 8, 10, 13, 14, 15, 16, 44, 45, 46, 67, 68] ?_
            refine cy (cH 6 (.c (.tree 2 (([] : List _).map aa.enc))) rfl (by and_intros <;> trivial)) ?_
            refine gU ?_;have ho19 := av hm hr2;subst ho19;replace hm : some (.inr (.inr ([], (ag.mk 16 (-1))))) = some r1 := hm2;have ho20 := av hm hr1;subst ho20;replace hm : some ([], (ag.mk 16 (-1))) = some r := hm1;refine az ?_;refine ao (aj (ao (aR (aj (aj (aC (aR (aj (aC ?_)))))))))
            cases hm
            exact kr 1
           ·rw [iN h18] at hm;have h18b := dF h18;refine aw 5 ?_;refine gox (a2 h15b h18b) ?_
            by_cases h21 : (((p3.getD y24.toNat default).getD x41.toNat default).n) < (-1000000)
            ·rw [iP h21] at hm;have h21b := dT h21;refine ae ?_;refine gox (a2 h15b (a2 h18b h21b)) ?_;refine hk _ _ ?_;clear hk hp k kp;refine af rfl rfl ?_;refine am [1, 2, 8, 10, 13, 14, 15, 16, 44, 45, 46, 67, 68] ?_
             refine cy (cH 6 (.c (.tree 2 (([] : List _).map aa.enc))) rfl (by and_intros <;> trivial)) ?_
             refine gU ?_;have ho22 := av hm hr2;subst ho22;replace hm : some (.inr (.inr ([], (ag.mk 16 (-1))))) = some r1 := hm2;have ho23 := av hm hr1;subst ho23;replace hm : some ([], (ag.mk 16 (-1))) = some r := hm1;refine az ?_;refine ao (aj (ao (aR (aj (aj (aC (aR (aj (aC ?_)))))))))
             cases hm
             exact kr 1
            ·rw [iN h21] at hm;have h21b := dF h21;refine ae ?_;refine gox (a2 h15b (a2 h18b h21b)) ?_;refine hk _ _ ?_;clear hk hp k kp
             by_cases h24 : (((p3.getD y24.toNat default).getD x41.toNat default).n) > 1000000
             ·rw [iP h24] at hm;refine af rfl (dT h24) ?_;refine am [1, 2, 8, 10, 13, 14, 15, 16, 44, 45, 46, 67, 68] ?_
              refine cy (cH 6 (.c (.tree 2 (([] : List _).map aa.enc))) rfl (by and_intros <;> trivial)) ?_
              refine gU ?_;have ho25 := av hm hr2;subst ho25;replace hm : some (.inr (.inr ([], (ag.mk 16 (-1))))) = some r1 := hm2;have ho26 := av hm hr1;subst ho26;replace hm : some ([], (ag.mk 16 (-1))) = some r := hm1;refine az ?_;refine ao (aj (ao (aR (aj (aj (aC (aR (aj (aC ?_)))))))))
              cases hm
              exact kr 1
             ·rw [iN h24] at hm;refine ai rfl (dF h24) ?_;refine ap ?_;refine ah (hk6 _ _ ?_);obtain ⟨⟨hg27ax, hg27ay⟩, hm⟩ := gd hm;refine cp ?_;refine aA ?_;refine ah (hk5 _ _ ?_);refine cp ?_;refine aB ((l39 ++ (lit ([(aa.mk (IntKind.wrap .i64 (((p1.getD x19.toNat default).n) * (((p3.getD y24.toNat default).getD x41.toNat default).n))) (((p3.getD y24.toNat default).getD x41.toNat default).name))] : List aa))), (IntKind.wrap .i64 (x41 + 1))) (v40 + 1) hm ?_;exact ls
         ·rw [iN h13] at hm;refine ai rfl (dF h13) ?_;refine br ?_;have ho28 := av hm hr2;subst ho28;replace hm : cC x19 l39 = some r1 := hm2;refine a8 (aY (ar (aA ?_)));refine au l39 v40 hm ?_;exact ls
    ·rintro l22 v23 hm;replace hm : cC x19 l22 = some r1 := hm;refine aU ?_;unfold cC at hm;refine cp ?_;refine aB (l22, (IntKind.wrap .i64 (x19 + 1))) v23 hm ?_;exact ls
   ·rw [iN h2] at hm;refine ai rfl (dF h2) ?_;refine br ?_;have ho29 := av hm hr1;subst ho29;replace hm : eN l17 = some r := hm1;refine a8 (aY (ar ?_));refine au l17 v18 hm ?_;exact ls
 ·rintro l3 v4 hm;replace hm : eN l3 = some r := hm;refine aU ?_;unfold eN at hm;refine ak fun k1 hk1 => ?_;refine am [82, 83] ?_
  by_cases h1 : (l3.length : Int) > 1000
  ·rw [iP h1] at hm;refine af rfl (dT h1) ?_;refine am [8, 84, 85] ?_
   refine cy (cH 6 (.c (.tree 2 (([] : List _).map aa.enc))) rfl (by and_intros <;> trivial)) ?_
   refine gU ?_;refine az ?_;refine ao ?_
   cases hm
   exact kr 1
  ·rw [iN h1] at hm;refine ai rfl (dF h1) ?_;refine ap ?_;refine ah (hk1 _ _ ?_);refine am [8, 84, 86, 87] ?_;refine kj (cI 2 rfl) ?_;refine az ?_
   cases hm
   exact kr 1
theorem mb (fuel : Nat) (p1 : List aa) (p2 : List (List UInt8)) (p3 : List Int) (v0_ : Nat) (r : (Int × ag)) (hm : gS fuel p1 p2 p3 = some r) : gD Try.prog 12 [.c (.tree 2 (p1.map aa.enc)), .c (.tree 1 (p2.map eS)), .c (.osl 0 v0_ 0 p3.length)] [.arr 1 v0_ 3 (p3.map (eK .i64))] (fun p σ => (p = .t [.c (.int .i64 r.1), .a [.int .i64 ((r.2).code), .int .i64 ((r.2).at_)]] ∧ σ = [.arr 1 v0_ 3 (p3.map (eK .i64))])) (fun _ _ => False) := by
 refine bq 66 [.tmp 6, .cell 7 30] Try.func12 rfl rfl rfl (by kernel_rfl) (by simp) ?_;refine cU ?_;unfold gS at hm;refine am [6] ?_;refine bm [0, 15, 16, 17, 18, 19] fun k kp hk hp => ?_;refine go ?_;obtain ⟨y1, hc1, hm⟩ := bd hm;refine RP (fun _ => fV fuel p1 _ hc1) ?_;refine ae ?_;refine go ?_;refine hk _ _ ?_;clear hk hp k kp;refine ak fun k1 hk1 => ?_;refine am [20, 21] ?_
 by_cases h2 : ¬ ((y1.2).code) = 0
 ·rw [iP h2] at hm;refine af rfl (bne_iff_ne.2 h2) ?_;refine tj [1, 2, 8, 9, 22, 23] [0, 0, 3] [false, false, true] ?_;refine az ?_;refine ao ?_
  cases hm
  exact kr 1
 ·rw [iN h2] at hm;refine ai rfl (bne_eq_false_iff_eq.2 (Decidable.not_not.1 h2)) ?_;refine ap ?_;refine ah (hk1 _ _ ?_);refine am [9, 22] ?_;refine a9 (S := Int) (V := Unit) [1, 2, 6, 8, 10, 12, 13, 14, 24, 25, 26, 27, 28, 29, 30, 31, 32, 33, 34, 35, 36, 37, 38, 39, 40, 41, 42, 43, 44, 45, 46, 47, 48, 49, 50, 51, 52, 53, 54, 55, 56, 57, 58, 59, 60, 61, 62, 63] (fun x2 _ => [(10, .c (.int .i64 x2))]) (fun x2 _ => [.arr 1 v0_ 3 (p3.map (eK .i64)), .box [.int .i64 0, .int .i64 0], .box [.int .i64 ((y1.2).code), .int .i64 ((y1.2).at_)]]) (fun x2 => fe x2 = some r) ?_ ?_
  ·skip;refine am [8] ?_
   refine aq ?_;obtain ⟨o1, hl1, hm1⟩ := bd hm;refine bn (S := (Int × Int)) (V := Unit) (O := Int ⊕ (Int × ag)) [2, 6, 10, 12, 13, 14, 26, 27, 28, 29, 30, 31, 32, 33, 34, 35, 36, 37, 38, 39, 40, 41, 42, 43, 44, 45, 46, 47, 48, 49, 50, 51, 52, 53, 54, 55, 56, 57, 58, 59, 60, 61, 62, 63] (fun (x7, x8) _ => [(2, .c (.osl 0 v0_ 0 p3.length)), (10, .c (.int .i64 x7)), (26, .c (.int .i64 x8))]) (fun (x7, x8) _ => [.arr 1 v0_ 3 (p3.map (eK .i64)), .box [.int .i64 0, .int .i64 0], .box [.int .i64 ((y1.2).code), .int .i64 ((y1.2).at_)]]) _ _ () hl1 ?_ ?_
   ·exact ls
   ·rintro ⟨x7, x8⟩ _ r1 hm hr1;replace hm : io p2 p3 y1 x7 x8 = some r1 := hm;refine aU ?_;unfold io at hm;refine am [] ?_;refine ak fun k2 hk2 => ?_
    by_cases h3 : x8 < (y1.1.length : Int)
    ·rw [iP h3] at hm;refine af rfl (dT h3) ?_;refine ap ?_;refine ah (hk2 _ _ ?_);refine ak fun k3 hk3 => ?_;refine aq ?_;obtain ⟨hg4a, hm⟩ := gd hm;refine cJ (em aa.enc y1.1 x8.toNat) [27, 28, 29] ?_;refine am [] ?_;refine a9 (S := Int) (V := Unit) [2, 6, 13, 14, 30, 31, 32, 33, 34, 35, 36, 37, 38, 39, 40, 41, 42, 43, 44, 45, 46, 47, 48, 49] (fun x9 _ => [(2, .c (.osl 0 v0_ 0 p3.length)), (13, .c (.int .i64 x9))]) (fun x9 _ => [.arr 1 v0_ 3 (p3.map (eK .i64)), .box [.int .i64 0, .int .i64 0], .box [.int .i64 ((y1.2).code), .int .i64 ((y1.2).at_)], .box [.int .i64 ((y1.1.getD x8.toNat default).n), .str ((y1.1.getD x8.toNat default).name)]]) (fun x9 => ff y1 x7 x8 x9 = some r1) ?_ ?_
     ·skip;refine am [30, 31] ?_
      by_cases h9 : ((y1.1.getD x8.toNat default).name) = ([] : List UInt8)
      ·rw [iP h9] at hm;refine ai rfl (by rw [show (((y1.1.getD x8.toNat default).name) == ([] : List UInt8)) = true from (eQ h9)]; rfl) ?_;refine ap ?_;refine au 1 () hm ?_;exact ls
      ·rw [iN h9] at hm;refine af rfl (by rw [show (((y1.1.getD x8.toNat default).name) == ([] : List UInt8)) = false from (nB h9)]; rfl) ?_;refine bm [13, 32, 33, 34, 35, 36] fun k kp hk hp => ?_;refine go ?_;obtain ⟨y10, hc10, hm⟩ := bd hm;refine RP (fun _ => df p2 ((y1.1.getD x8.toNat default).name) _ hc10) ?_;refine ae ?_;refine go ?_;refine hk _ _ ?_;clear hk hp k kp;refine ak fun k5 hk5 => ?_
       by_cases h11 : y10 < 0
       ·rw [iP h11] at hm;have h11b := dT h11;refine cJ h11b [37, 38, 39, 40, 41, 42, 43] ?_;refine af rfl rfl ?_;refine am [1, 2, 10, 12, 14, 24, 25, 26, 44, 45] ?_;have ho12 := av hm hr1;subst ho12;replace hm : some (0, (ag.mk 9 (-1))) = some r := hm1;refine az ?_;refine ao (aC (aj (ao (aR (aj (aC ?_))))))
        cases hm
        exact kr 1
       ·rw [iN h11] at hm;have h11b := dF h11;refine cJ h11b [37, 38, 39, 40, 41, 42, 43] ?_
        by_cases h13 : y10 ≥ (p3.length : Int)
        ·rw [iP h13] at hm;refine af rfl (dT h13) ?_;refine am [1, 2, 10, 12, 14, 24, 25, 26, 44, 45] ?_;have ho14 := av hm hr1;subst ho14;replace hm : some (0, (ag.mk 9 (-1))) = some r := hm1;refine az ?_;refine ao (aC (aj (ao (aR (aj (aC ?_))))))
         cases hm
         exact kr 1
        ·rw [iN h13] at hm;refine ai rfl (dF h13) ?_;refine ap ?_;refine ah (hk5 _ _ ?_);obtain ⟨hg15a, hm⟩ := gd hm;refine nD (em (eK .i64) p3 y10.toNat) ?_;refine au (p3.getD y10.toNat default) () hm ?_;exact ls
     ·rintro x9 _ hm;replace hm : ff y1 x7 x8 x9 = some r1 := hm;refine aU ?_;unfold ff at hm;refine ak fun k4 hk4 => ?_
      by_cases h5 : x9 < (-1000000)
      ·rw [iP h5] at hm;have h5b := dT h5;refine cJ h5b [50, 51, 52, 53, 54] ?_;refine af rfl rfl ?_;refine am [1, 2, 10, 12, 13, 24, 25, 26, 55, 56] ?_;have ho6 := av hm hr1;subst ho6;replace hm : some (0, (ag.mk 16 (-1))) = some r := hm1;refine az ?_;refine ao (aj (ao (aR (aj (aC ?_)))))
       cases hm
       exact kr 1
      ·rw [iN h5] at hm;have h5b := dF h5;refine cJ h5b [50, 51, 52, 53, 54] ?_
       by_cases h7 : x9 > 1000000
       ·rw [iP h7] at hm;refine af rfl (dT h7) ?_;refine am [1, 2, 10, 12, 13, 24, 25, 26, 55, 56] ?_;have ho8 := av hm hr1;subst ho8;replace hm : some (0, (ag.mk 16 (-1))) = some r := hm1;refine az ?_;refine ao (aj (ao (aR (aj (aC ?_)))))
        cases hm
        exact kr 1
       ·rw [iN h7] at hm;refine ai rfl (dF h7) ?_;refine ap ?_;refine ah (hk4 _ _ ?_);refine cp ?_;refine aA ?_;refine ah (hk3 _ _ ?_);refine cp ?_;refine aB ((IntKind.wrap .i64 (x7 + (IntKind.wrap .i64 (((y1.1.getD x8.toNat default).n) * x9)))), (IntKind.wrap .i64 (x8 + 1))) () hm ?_;exact ls
    ·rw [iN h3] at hm;refine ai rfl (dF h3) ?_;refine br ?_;have ho16 := av hm hr1;subst ho16;replace hm : fe x7 = some r := hm1;refine a8 (aY (ar ?_));refine au x7 () hm ?_;exact ls
  ·rintro x2 _ hm;replace hm : fe x2 = some r := hm;refine aU ?_;unfold fe at hm;refine am [10, 64, 65] ?_;refine az ?_
   cases hm
   exact kr 1
theorem mc (fuel : Nat) (p1 : List Int) (p2 : List Int) (p3 : List Int) (p4 : Int) (r : Bool) (hm : iv fuel p1 p2 p3 p4 = some r) : cZ Try.prog 5 [.c (.tree 1 (p1.map (eK .i64))), .c (.tree 1 (p2.map (eK .i64))), .c (.tree 1 (p3.map (eK .i64))), .c (.int .i64 p4)] (.c (.bool r)) := by
 refine bq 177 [.tmp 8] Try.func5 rfl rfl rfl (by kernel_rfl) (by simp) ?_;refine cU ?_;unfold iv at hm;refine am [8] ?_;refine ak fun k1 hk1 => ?_;refine bm [25] fun k kp hk hp => ?_;refine go ?_;obtain ⟨y1, hc1, hm⟩ := bd hm;refine RP (fun _ => hI fuel  _ hc1) ?_;refine ae ?_;refine go ?_;refine hk _ _ ?_;clear hk hp k kp
 by_cases h2 : y1 = true
 ·rw [iP h2] at hm;refine ai rfl (by rw [show y1 = true from (h2)]; rfl) ?_;refine ap ?_;refine ah (hk1 _ _ ?_);refine ak fun k2 hk2 => ?_;refine eU [26, 27, 28, 29, 30, 31, 32, 33, 34, 35, 36, 37, 38] fun k kp hk hp => ?_;refine aw 4 ?_;refine go ?_
  by_cases h3 : (p1.length : Int) > 20
  ·rw [iP h3] at hm;have h3b := dT h3;refine ae ?_;refine gox h3b ?_;refine hk _ _ ?_;clear hk hp k kp;refine af rfl rfl ?_;refine am [0, 1, 2, 3, 39] ?_;refine az ?_;refine ao ?_
   cases hm
   exact kr 0
  ·rw [iN h3] at hm;have h3b := dF h3;refine aw 5 ?_;refine gox h3b ?_
   by_cases h4 : (p2.length : Int) > 20
   ·rw [iP h4] at hm;have h4b := dT h4;refine ae ?_;refine gox (a2 h3b h4b) ?_;refine hk _ _ ?_;clear hk hp k kp;refine af rfl rfl ?_;refine am [0, 1, 2, 3, 39] ?_;refine az ?_;refine ao ?_
    cases hm
    exact kr 0
   ·rw [iN h4] at hm;have h4b := dF h4;refine ae ?_;refine gox (a2 h3b h4b) ?_;refine hk _ _ ?_;clear hk hp k kp
    by_cases h5 : (p3.length : Int) > 20
    ·rw [iP h5] at hm;refine af rfl (dT h5) ?_;refine am [0, 1, 2, 3, 39] ?_;refine az ?_;refine ao ?_
     cases hm
     exact kr 0
    ·rw [iN h5] at hm;refine ai rfl (dF h5) ?_;refine ap ?_;refine ah (hk2 _ _ ?_);refine am [39] ?_;refine kj (kJ 0 0 2 39 (by decide) rfl rfl) ?_;refine a9 (S := (List aa)) (V := Nat) [0, 10, 40, 41, 42, 43, 44, 45, 46, 47, 48, 49, 50, 51, 52, 53, 54, 55] (fun l4 v5 => []) (fun l4 v5 => [.box [.osl 1 v5 0 l4.length, .nils, .nils], .arr 2 v5 39 (l4.map aa.enc)]) (fun l4 => dM fuel p2 p3 p4 l4 = some r) ?_ ?_
     ·skip;refine am [] ?_
      refine aq ?_;obtain ⟨o3, hl3, hm3⟩ := bd hm;refine bn (S := ((List aa) × Int)) (V := Nat) (O := (List aa)) [10, 40, 41, 42, 43, 44, 45, 46, 47, 48, 49, 50, 51, 52, 53, 54, 55] (fun (l95, x97) v96 => [(10, .c (.int .i64 x97))]) (fun (l95, x97) v96 => [.box [.osl 1 v96 0 l95.length, .nils, .nils], .arr 2 v96 39 (l95.map aa.enc)]) _ _ 0 hl3 ?_ ?_
      ·exact ls
      ·rintro ⟨l95, x97⟩ v96 r3 hm hr3;replace hm : dN p1 l95 x97 = some r3 := hm;refine aU ?_;unfold dN at hm;refine ak fun k7 hk7 => ?_;refine am [40, 41, 42] ?_
       by_cases h28 : x97 < (p1.length : Int)
       ·rw [iP h28] at hm;refine af rfl (dT h28) ?_;refine ap ?_;refine ah (hk7 _ _ ?_);refine ak fun k8 hk8 => ?_;refine aq ?_;obtain ⟨hg29a, hm⟩ := gd hm;refine pS (by kernel_rfl) [0, 1, 0, 0, 12, 28, 60, 124, 255, 511, 1023] [false, false, false, false, false, false, false, false, true, true, true] (by kernel_rfl) fun k hk => ?_;refine gax (em (eK .i64) p1 x97.toNat) ?_;obtain ⟨y98, hc30, hm⟩ := bd hm;refine AP (fun _ => fd (p1.getD x97.toNat default) _ hc30) ?_;obtain ⟨⟨hg31ax, hg31ay⟩, hm⟩ := gd hm;refine ga ?_;refine hk _ _ ?_;clear hk k;refine aA ?_;refine ah (hk8 _ _ ?_);refine cp ?_;refine aB ((l95 ++ (lit ([(y98)] : List aa))), (IntKind.wrap .i64 (x97 + 1))) (v96 + 1) hm ?_;exact ls
       ·rw [iN h28] at hm;refine ai rfl (dF h28) ?_;refine br ?_;have ho32 := av hm hr3;subst ho32;replace hm : dM fuel p2 p3 p4 l95 = some r := hm3;refine a8 (aY (ar ?_));refine au l95 v96 hm ?_;exact ls
     ·rintro l4 v5 hm;replace hm : dM fuel p2 p3 p4 l4 = some r := hm;refine aU ?_;unfold dM at hm;refine kj (kJ 0 1 2 39 (by decide) rfl rfl) ?_;refine a9 (S := (List aa)) (V := (Nat × Nat)) [1, 11, 56, 57, 58, 59, 60, 61, 62, 63, 64, 65, 66, 67, 68, 69, 70, 71] (fun l10 (v9, v11) => []) (fun l10 (v9, v11) => [.box [.osl 1 v9 0 l4.length, .osl 2 v11 0 l10.length, .nils], .arr 2 v9 39 (l4.map aa.enc), .arr 2 v11 39 (l10.map aa.enc)]) (fun l10 => dK fuel p3 p4 l4 l10 = some r) ?_ ?_
      ·skip;refine am [] ?_
       refine aq ?_;obtain ⟨o2, hl2, hm2⟩ := bd hm;refine bn (S := ((List aa) × Int)) (V := (Nat × Nat)) (O := (List aa)) [11, 56, 57, 58, 59, 60, 61, 62, 63, 64, 65, 66, 67, 68, 69, 70, 71] (fun (l78, x80) (v77, v79) => [(11, .c (.int .i64 x80))]) (fun (l78, x80) (v77, v79) => [.box [.osl 1 v77 0 l4.length, .osl 2 v79 0 l78.length, .nils], .arr 2 v77 39 (l4.map aa.enc), .arr 2 v79 39 (l78.map aa.enc)]) _ _ (v5, 0) hl2 ?_ ?_
       ·exact ls
       ·rintro ⟨l78, x80⟩ ⟨v77, v79⟩ r2 hm hr2;replace hm : dL p2 l78 x80 = some r2 := hm;refine aU ?_;unfold dL at hm;refine ak fun k5 hk5 => ?_;refine am [56, 57, 58] ?_
        by_cases h23 : x80 < (p2.length : Int)
        ·rw [iP h23] at hm;refine af rfl (dT h23) ?_;refine ap ?_;refine ah (hk5 _ _ ?_);refine ak fun k6 hk6 => ?_;refine aq ?_;obtain ⟨hg24a, hm⟩ := gd hm;refine pS (by kernel_rfl) [0, 1, 0, 0, 12, 28, 60, 124, 255, 511, 1023] [false, false, false, false, false, false, false, false, true, true, true] (by kernel_rfl) fun k hk => ?_;refine gax (em (eK .i64) p2 x80.toNat) ?_;obtain ⟨y81, hc25, hm⟩ := bd hm;refine AP (fun _ => fd (p2.getD x80.toNat default) _ hc25) ?_;obtain ⟨⟨hg26ax, hg26ay⟩, hm⟩ := gd hm;refine ga ?_;refine hk _ _ ?_;clear hk k;refine aA ?_;refine ah (hk6 _ _ ?_);refine cp ?_;refine aB ((l78 ++ (lit ([(y81)] : List aa))), (IntKind.wrap .i64 (x80 + 1))) (v77, v79 + 1) hm ?_;exact ls
        ·rw [iN h23] at hm;refine ai rfl (dF h23) ?_;refine br ?_;have ho27 := av hm hr2;subst ho27;replace hm : dK fuel p3 p4 l4 l78 = some r := hm2;refine a8 (aY (ar ?_));refine au l78 (v77, v79) hm ?_;exact ls
      ·rintro l10 ⟨v9, v11⟩ hm;replace hm : dK fuel p3 p4 l4 l10 = some r := hm;refine aU ?_;unfold dK at hm;refine kj (kJ 0 2 2 39 (by decide) rfl rfl) ?_;refine a9 (S := (List aa)) (V := (Nat × Nat × Nat)) [2, 12, 72, 73, 74, 75, 76, 77, 78, 79, 80, 81, 82, 83, 84, 85, 86, 87] (fun l18 (v16, v17, v19) => []) (fun l18 (v16, v17, v19) => [.box [.osl 1 v16 0 l4.length, .osl 2 v17 0 l10.length, .osl 3 v19 0 l18.length], .arr 2 v16 39 (l4.map aa.enc), .arr 2 v17 39 (l10.map aa.enc), .arr 2 v19 39 (l18.map aa.enc)]) (fun l18 => dI fuel p4 l4 l10 l18 = some r) ?_ ?_
       ·skip;refine am [] ?_
        refine aq ?_;obtain ⟨o1, hl1, hm1⟩ := bd hm;refine bn (S := ((List aa) × Int)) (V := (Nat × Nat × Nat)) (O := (List aa)) [12, 72, 73, 74, 75, 76, 77, 78, 79, 80, 81, 82, 83, 84, 85, 86, 87] (fun (l53, x55) (v51, v52, v54) => [(12, .c (.int .i64 x55))]) (fun (l53, x55) (v51, v52, v54) => [.box [.osl 1 v51 0 l4.length, .osl 2 v52 0 l10.length, .osl 3 v54 0 l53.length], .arr 2 v51 39 (l4.map aa.enc), .arr 2 v52 39 (l10.map aa.enc), .arr 2 v54 39 (l53.map aa.enc)]) _ _ (v9, v11, 0) hl1 ?_ ?_
        ·exact ls
        ·rintro ⟨l53, x55⟩ ⟨v51, v52, v54⟩ r1 hm hr1;replace hm : dJ p3 l53 x55 = some r1 := hm;refine aU ?_;unfold dJ at hm;refine ak fun k3 hk3 => ?_;refine am [72, 73, 74] ?_
         by_cases h18 : x55 < (p3.length : Int)
         ·rw [iP h18] at hm;refine af rfl (dT h18) ?_;refine ap ?_;refine ah (hk3 _ _ ?_);refine ak fun k4 hk4 => ?_;refine aq ?_;obtain ⟨hg19a, hm⟩ := gd hm;refine pS (by kernel_rfl) [0, 1, 0, 0, 12, 28, 60, 124, 255, 511, 1023] [false, false, false, false, false, false, false, false, true, true, true] (by kernel_rfl) fun k hk => ?_;refine gax (em (eK .i64) p3 x55.toNat) ?_;obtain ⟨y56, hc20, hm⟩ := bd hm;refine AP (fun _ => fd (p3.getD x55.toNat default) _ hc20) ?_;obtain ⟨⟨hg21ax, hg21ay⟩, hm⟩ := gd hm;refine ga ?_;refine hk _ _ ?_;clear hk k;refine aA ?_;refine ah (hk4 _ _ ?_);refine cp ?_;refine aB ((l53 ++ (lit ([(y56)] : List aa))), (IntKind.wrap .i64 (x55 + 1))) (v51, v52, v54 + 1) hm ?_;exact ls
         ·rw [iN h18] at hm;refine ai rfl (dF h18) ?_;refine br ?_;have ho22 := av hm hr1;subst ho22;replace hm : dI fuel p4 l4 l10 l53 = some r := hm1;refine a8 (aY (ar ?_));refine au l53 (v51, v52, v54) hm ?_;exact ls
       ·rintro l18 ⟨v16, v17, v19⟩ hm;replace hm : dI fuel p4 l4 l10 l18 = some r := hm;refine aU ?_;unfold dI at hm;refine am [88] ?_;refine gV [.box [.osl 1 v16 0 l4.length, .osl 2 v17 0 l10.length, .osl 3 v19 0 l18.length], .arr 2 v16 39 (l4.map aa.enc), .arr 2 v17 39 (l10.map aa.enc), .arr 2 v19 39 (l18.map aa.enc), .arr 1 0 9 ((lit ([([107] : List UInt8), ([109] : List UInt8), ([110] : List UInt8)] : List (List UInt8))).map eS)] ?_;refine am [3, 89, 90, 91, 92, 93, 94, 95, 96, 97, 98, 99, 100, 101, 102, 103] ?_;refine gV [.box [.osl 1 v16 0 l4.length, .osl 2 v17 0 l10.length, .osl 3 v19 0 l18.length], .arr 2 v16 39 (l4.map aa.enc), .arr 2 v17 39 (l10.map aa.enc), .arr 2 v19 39 (l18.map aa.enc), .arr 1 0 9 ((lit ([([107] : List UInt8), ([109] : List UInt8), ([110] : List UInt8)] : List (List UInt8))).map eS), .arr 1 0 3 ((lit ([(IntKind.wrap .i64 ((IntKind.wrap .u64 p4).tmod 5)), (IntKind.wrap .i64 ((IntKind.wrap .u64 ((IntKind.wrap .u64 p4).tdiv 5)).tmod 5)), (IntKind.wrap .i64 ((IntKind.wrap .u64 ((IntKind.wrap .u64 p4).tdiv 25)).tmod 5))] : List Int)).map (eK .i64))] ?_;refine kj (cI 1 rfl) ?_;refine kj (cI 2 rfl) ?_;refine kj (cI 3 rfl) ?_;refine cy (qW 9 0 0 ((lit ([l4, l10, l18] : List (List aa))).map (eL 2 aa.enc)) rfl rfl rfl (by simp) rfl) ?_;refine ny (by simp only [bE, Nat.reduceDiv, Nat.reduceMod, Nat.reduceLT, Nat.reduceLeDiff, Nat.reduceAdd, Nat.reduceSub, Nat.reduceMul, Nat.reduceEqDiff, Nat.reduceBEq, Nat.reduceBNe, Nat.reduceGT, Int.reduceToNat]; rfl) (by simp only [bZ, bL, reduceIte, ↓reduceIte, reduceCtorEq, Int.reduceToNat, Nat.reduceDiv, Nat.reduceMod, Nat.reduceLT, Nat.reduceLeDiff, Nat.reduceAdd, Nat.reduceSub, Nat.reduceMul, Nat.reduceEqDiff, Nat.reduceBEq, Nat.reduceBNe, Nat.reduceGT]; rfl) ?_;obtain ⟨hg6a, hm⟩ := gd hm;refine qb [104, 105, 106, 107, 108, 109, 110, 111, 112] [16] [0, 1, 0, 4, 0, 31, 63, 127, 127, 0, 767, 2047] [false, false, false, false, false, false, false, false, false, false, false, true] (by kernel_rfl) (by kernel_rfl) (by decide) fun k kp hk => ?_;simp only [dH, jl, l6, iK];refine gax (em (eL 2 aa.enc) (lit ([l4, l10, l18] : List (List aa))) 0) ?_;obtain ⟨y20, hc7, hm⟩ := bd hm
        refine ca (σ2 := [.dead, .dead, .dead, .dead, .arr 1 0 9 ((lit ([([107] : List UInt8), ([109] : List UInt8), ([110] : List UInt8)] : List (List UInt8))).map eS), .arr 1 0 3 ((lit ([(IntKind.wrap .i64 ((IntKind.wrap .u64 p4).tmod 5)), (IntKind.wrap .i64 ((IntKind.wrap .u64 ((IntKind.wrap .u64 p4).tdiv 5)).tmod 5)), (IntKind.wrap .i64 ((IntKind.wrap .u64 ((IntKind.wrap .u64 p4).tdiv 25)).tmod 5))] : List Int)).map (eK .i64))]) (res := .t [.c (.tree 2 (y20.1.map aa.enc)), .a [.int .i64 ((y20.2).code), .int .i64 ((y20.2).at_)]]) (ct [4] (m7 ((lit ([l4, l10, l18] : List (List aa))).getD 0 default) 2 ((lit ([l4, l10, l18] : List (List aa))).drop 1) (lit ([([107] : List UInt8), ([109] : List UInt8), ([110] : List UInt8)] : List (List UInt8))) 0 _ hc7)) ?_;refine ga ?_;refine go ?_;refine hk _ _ ?_;clear hk k kp;refine bm [15, 113, 114, 115, 116, 117, 118, 119] fun k kp hk hp => ?_;refine go ?_;refine cN (cI 4 rfl) ?_;refine gt ?_;refine cN (cI 5 rfl) ?_;refine gt ?_;obtain ⟨y21, hc8, hm⟩ := bd hm;refine RP (fun _ => dp fuel y20.1 (lit ([([107] : List UInt8), ([109] : List UInt8), ([110] : List UInt8)] : List (List UInt8))) (lit ([(IntKind.wrap .i64 ((IntKind.wrap .u64 p4).tmod 5)), (IntKind.wrap .i64 ((IntKind.wrap .u64 ((IntKind.wrap .u64 p4).tdiv 5)).tmod 5)), (IntKind.wrap .i64 ((IntKind.wrap .u64 ((IntKind.wrap .u64 p4).tdiv 25)).tmod 5))] : List Int)) _ hc8) ?_;refine ae ?_;refine go ?_;refine hk _ _ ?_;clear hk hp k kp;refine bm [120, 121, 122, 123, 124, 125, 126, 127] fun k kp hk hp => ?_;refine gox (em (eL 2 aa.enc) (lit ([l4, l10, l18] : List (List aa))) 1) ?_;obtain ⟨y22, hc9, hm⟩ := bd hm;refine RP (fun _ => dp fuel ((lit ([l4, l10, l18] : List (List aa))).getD 1 default) (lit ([([107] : List UInt8), ([109] : List UInt8), ([110] : List UInt8)] : List (List UInt8))) (lit ([(IntKind.wrap .i64 ((IntKind.wrap .u64 p4).tmod 5)), (IntKind.wrap .i64 ((IntKind.wrap .u64 ((IntKind.wrap .u64 p4).tdiv 5)).tmod 5)), (IntKind.wrap .i64 ((IntKind.wrap .u64 ((IntKind.wrap .u64 p4).tdiv 25)).tmod 5))] : List Int)) _ hc9) ?_;refine ae ?_;refine go ?_;refine hk _ _ ?_;clear hk hp k kp;refine bm [128, 129, 130, 131, 132, 133, 134, 135] fun k kp hk hp => ?_;refine gox (em (eL 2 aa.enc) (lit ([l4, l10, l18] : List (List aa))) 2) ?_;obtain ⟨y23, hc10, hm⟩ := bd hm;refine RP (fun _ => dp fuel ((lit ([l4, l10, l18] : List (List aa))).getD 2 default) (lit ([([107] : List UInt8), ([109] : List UInt8), ([110] : List UInt8)] : List (List UInt8))) (lit ([(IntKind.wrap .i64 ((IntKind.wrap .u64 p4).tmod 5)), (IntKind.wrap .i64 ((IntKind.wrap .u64 ((IntKind.wrap .u64 p4).tdiv 5)).tmod 5)), (IntKind.wrap .i64 ((IntKind.wrap .u64 ((IntKind.wrap .u64 p4).tdiv 25)).tmod 5))] : List Int)) _ hc10) ?_;refine ae ?_;refine go ?_;refine hk _ _ ?_;clear hk hp k kp;obtain ⟨hg11a, hm⟩ := gd hm
        refine qb [9, 13, 14, 19, 21, 136, 137, 138, 139, 140, 141, 142, 143, 144, 145, 146, 147, 148] [24] [0, 1, 0, 0, 0, 0, 32, 96, 248, 511, 1023, 2047, 2047, 0, 12287, 32767] [false, false, false, false, false, false, false, false, false, false, false, false, false, false, false, true] (by kernel_rfl) (by kernel_rfl) (by decide) fun k kp hk => ?_;simp only [dH, jl, l6, iK];refine gax (a2 (em (eL 2 aa.enc) (lit ([l4, l10, l18] : List (List aa))) 0) (em (eK .i64) (lit ([(IntKind.wrap .i64 ((IntKind.wrap .u64 p4).tmod 5)), (IntKind.wrap .i64 ((IntKind.wrap .u64 ((IntKind.wrap .u64 p4).tdiv 5)).tmod 5)), (IntKind.wrap .i64 ((IntKind.wrap .u64 ((IntKind.wrap .u64 p4).tdiv 25)).tmod 5))] : List Int)) 2)) ?_;obtain ⟨y24, hc12, hm⟩ := bd hm;refine ca (σ2 := [.dead, .dead, .dead, .dead, .dead, .dead, .box [.int .i64 ((y20.2).code), .int .i64 ((y20.2).at_)], .box [.int .i64 ((y21.2).code), .int .i64 ((y21.2).at_)], .box [.int .i64 ((y22.2).code), .int .i64 ((y22.2).at_)], .box [.int .i64 ((y23.2).code), .int .i64 ((y23.2).at_)], .arr 1 0 3 ((lit ([y22.1, y23.1, ((lit ([(IntKind.wrap .i64 ((IntKind.wrap .u64 p4).tmod 5)), (IntKind.wrap .i64 ((IntKind.wrap .u64 ((IntKind.wrap .u64 p4).tdiv 5)).tmod 5)), (IntKind.wrap .i64 ((IntKind.wrap .u64 ((IntKind.wrap .u64 p4).tdiv 25)).tmod 5))] : List Int)).getD 2 default)] : List Int)).map (eK .i64))]) (res := .t [.c (.int .i64 y24.1), .a [.int .i64 ((y24.2).code), .int .i64 ((y24.2).at_)]]) (ct [10] (mb fuel ((lit ([l4, l10, l18] : List (List aa))).getD 0 default) (lit ([([107] : List UInt8), ([109] : List UInt8), ([110] : List UInt8)] : List (List UInt8))) (lit ([y22.1, y23.1, ((lit ([(IntKind.wrap .i64 ((IntKind.wrap .u64 p4).tmod 5)), (IntKind.wrap .i64 ((IntKind.wrap .u64 ((IntKind.wrap .u64 p4).tdiv 5)).tmod 5)), (IntKind.wrap .i64 ((IntKind.wrap .u64 ((IntKind.wrap .u64 p4).tdiv 25)).tmod 5))] : List Int)).getD 2 default)] : List Int)) 0 _ hc12)) ?_;refine ga ?_;refine go ?_;refine hk _ _ ?_;clear hk k kp;refine gV [.dead, .dead, .dead, .dead, .dead, .dead, .box [.int .i64 ((y20.2).code), .int .i64 ((y20.2).at_)], .box [.int .i64 ((y21.2).code), .int .i64 ((y21.2).at_)], .box [.int .i64 ((y22.2).code), .int .i64 ((y22.2).at_)], .box [.int .i64 ((y23.2).code), .int .i64 ((y23.2).at_)], .arr 1 0 3 ((lit ([y22.1, y23.1, ((lit ([(IntKind.wrap .i64 ((IntKind.wrap .u64 p4).tmod 5)), (IntKind.wrap .i64 ((IntKind.wrap .u64 ((IntKind.wrap .u64 p4).tdiv 5)).tmod 5)), (IntKind.wrap .i64 ((IntKind.wrap .u64 ((IntKind.wrap .u64 p4).tdiv 25)).tmod 5))] : List Int)).getD 2 default)] : List Int)).map (eK .i64)), .box [.int .i64 ((y24.2).code), .int .i64 ((y24.2).at_)]] ?_;refine eU [16, 17, 18, 20, 22, 23, 24, 149, 150, 151, 152, 153, 154, 155, 156, 157, 158, 159, 160, 161, 162, 163, 164, 165, 166, 167, 168, 169, 170, 171, 172, 173, 174, 175, 176] fun k kp hk hp => ?_;refine aw 4 ?_;refine go ?_
        by_cases h13 : ((y20.2).code) = 0
        ·rw [iP h13] at hm;have h13b := eQ h13;refine aw 5 ?_;refine gox h13b ?_
         by_cases h14 : ((y21.2).code) = 0
         ·rw [iP h14] at hm;have h14b := eQ h14;refine aw 5 ?_;refine gox (a2 h13b h14b) ?_
          by_cases h15 : ((y22.2).code) = 0
          ·rw [iP h15] at hm;have h15b := eQ h15;refine aw 5 ?_;refine gox (a2 h13b (a2 h14b h15b)) ?_
           by_cases h16 : ((y23.2).code) = 0
           ·rw [iP h16] at hm;have h16b := eQ h16;refine aw 5 ?_;refine gox (a2 h13b (a2 h14b (a2 h15b h16b))) ?_
            by_cases h17 : ((y24.2).code) = 0
            ·rw [iP h17] at hm;have h17b := eQ h17;refine ae ?_;refine gox (a2 h13b (a2 h14b (a2 h15b (a2 h16b h17b)))) ?_;refine hk _ _ ?_;clear hk hp k kp;refine az ?_
             cases hm
             exact kr 0
            ·rw [iN h17] at hm;have h17b := nB h17;refine ae ?_;refine gox (a2 h13b (a2 h14b (a2 h15b (a2 h16b h17b)))) ?_;refine hk _ _ ?_;clear hk hp k kp;refine az ?_
             cases hm
             exact kr 0
           ·rw [iN h16] at hm;have h16b := nB h16;refine ae ?_;refine gox (a2 h13b (a2 h14b (a2 h15b h16b))) ?_;refine hk _ _ ?_;clear hk hp k kp;refine az ?_
            cases hm
            exact kr 0
          ·rw [iN h15] at hm;have h15b := nB h15;refine ae ?_;refine gox (a2 h13b (a2 h14b h15b)) ?_;refine hk _ _ ?_;clear hk hp k kp;refine az ?_
           cases hm
           exact kr 0
         ·rw [iN h14] at hm;have h14b := nB h14;refine ae ?_;refine gox (a2 h13b h14b) ?_;refine hk _ _ ?_;clear hk hp k kp;refine az ?_
          cases hm
          exact kr 0
        ·rw [iN h13] at hm;have h13b := nB h13;refine ae ?_;refine gox h13b ?_;refine hk _ _ ?_;clear hk hp k kp;refine az ?_
         cases hm
         exact kr 0
 ·rw [iN h2] at hm;refine af rfl (by rw [show y1 = false from (fB h2)]; rfl) ?_;refine am [0, 1, 2, 3, 26] ?_;refine az ?_;refine ao ?_
  cases hm
  exact kr 0
end Pam
