/- the walk of law_TokenJoins, printed by a program of ours -/
import Derived.Test.YtmnbfnhdnloigaaDoorTBase2
import Derived.Test.YtmnbfnhdnloigaaDoorTcFun1
import Derived.Test.YtmnbfnhdnloigaaDoorTabcWalk1
set_option linter.all false
set_option maxRecDepth 100000
set_option maxHeartbeats 8000000
namespace Pam
open Go Go.Proofs
theorem ii (p1 : List UInt8) (p2 : List UInt8) (r : Bool) (hm : dW p1 p2 = some r) : bU Tryd.prog 5 [.c (.str p1), .c (.str p2)] (.c (.bool r)) := by
 refine aQ 114 [.tmp 4] Tryd.func5 rfl rfl rfl (by kernel_rfl) (by simp) ?_;refine c8 ?_;unfold dW at hm;refine am [4] ?_;refine az fun k1 hk1 => ?_;refine aI [13] fun k kp hk hp => ?_;refine go ?_;obtain ⟨y1, hc1, hm⟩ := bd hm;refine RP (fun _ => dU  _ hc1) ?_;refine ab ?_;refine go ?_;refine hk _ _ ?_;clear hk hp k kp
 by_cases h2 : y1 = true
 ·rw [iP h2] at hm;refine ag rfl (by rw [show y1 = true from (h2)]; rfl) ?_;refine ak ?_;refine aw (hk1 _ _ ?_);refine az fun k2 hk2 => ?_;refine cR [14, 15, 16, 17, 18, 19, 20, 21] fun k kp hk hp => ?_;refine ai 4 ?_;refine go ?_
  by_cases h3 : (p1.length : Int) > 5900
  ·rw [iP h3] at hm;have h3b := dT h3;refine ab ?_;refine gox h3b ?_;refine hk _ _ ?_;clear hk hp k kp;refine ae rfl rfl ?_;refine am [0, 1, 22] ?_;refine ax ?_;refine aB ?_
   cases hm
   exact kr 0
  ·rw [iN h3] at hm;have h3b := dF h3;refine ab ?_;refine gox h3b ?_;refine hk _ _ ?_;clear hk hp k kp
   by_cases h4 : (p2.length : Int) > 5900
   ·rw [iP h4] at hm;refine ae rfl (dT h4) ?_;refine am [0, 1, 22] ?_;refine ax ?_;refine aB ?_
    cases hm
    exact kr 0
   ·rw [iN h4] at hm;refine ag rfl (dF h4) ?_;refine ak ?_;refine aw (hk2 _ _ ?_);refine aI [22, 23, 24, 25, 26, 27] fun k kp hk hp => ?_;refine go ?_;obtain ⟨y2, hc5, hm⟩ := bd hm;refine RP (fun _ => cX p1 _ hc5) ?_;refine ab ?_;refine go ?_;refine hk _ _ ?_;clear hk hp k kp;refine aI [28, 29, 30, 31, 32] fun k kp hk hp => ?_;refine go ?_;obtain ⟨y3, hc6, hm⟩ := bd hm;refine RP (fun _ => cX p2 _ hc6) ?_;refine ab ?_;refine go ?_;refine hk _ _ ?_;clear hk hp k kp;obtain ⟨⟨hg7a, hg7b⟩, hm⟩ := gd hm;refine aI [1, 33, 34, 35, 36, 37, 38, 39, 40] fun k kp hk hp => ?_;refine go ?_;obtain ⟨y4, hc8, hm⟩ := bd hm;refine RP (fun _ => cX ((p1 ++ ([10] : List UInt8)) ++ p2) _ hc8) ?_;refine ab ?_;refine go ?_;refine hk _ _ ?_;clear hk hp k kp;refine az fun k3 hk3 => ?_;refine am [41, 42] ?_
    by_cases h9 : ¬ ((y2.2).code) = 0
    ·rw [iP h9] at hm;refine ae rfl (bne_iff_ne.2 h9) ?_;refine am [0, 5, 6, 7, 8, 9, 10, 43, 44, 45, 46] ?_;refine ax ?_;refine aB ?_
     cases hm
     exact kr 0
    ·rw [iN h9] at hm;refine ag rfl (bne_eq_false_iff_eq.2 (Decidable.not_not.1 h9)) ?_;refine ak ?_;refine aw (hk3 _ _ ?_);refine az fun k4 hk4 => ?_;refine am [6, 43, 47, 48] ?_
     by_cases h10 : ¬ ((y3.2).code) = 0
     ·rw [iP h10] at hm;refine ae rfl (bne_iff_ne.2 h10) ?_;refine cR [0, 5, 7, 8, 9, 10, 49, 50, 51, 52, 53, 54, 55, 56, 57, 58, 59, 60, 61, 62, 63, 64, 65] fun k kp hk hp => ?_;refine ai 6 ?_;refine go ?_
      by_cases h11 : ((y4.2).code) = ((y3.2).code)
      ·rw [iP h11] at hm;have h11b := eQ h11;refine ab ?_;refine gox h11b ?_;refine hk _ _ ?_;clear hk hp k kp;refine ax ?_;refine aB ?_
       cases hm
       exact kr 0
      ·rw [iN h11] at hm;have h11b := nB h11;refine ab ?_;refine gox h11b ?_;refine hk _ _ ?_;clear hk hp k kp;refine ax ?_;refine aB ?_
       cases hm
       exact kr 0
     ·rw [iN h10] at hm;refine ag rfl (bne_eq_false_iff_eq.2 (Decidable.not_not.1 h10)) ?_;refine ak ?_;refine aw (hk4 _ _ ?_);refine az fun k5 hk5 => ?_;refine cR [8, 10, 49, 66, 67, 68, 69, 70, 71, 72, 73, 74, 75, 76, 77] fun k kp hk hp => ?_;refine ai 4 ?_;refine go ?_
      by_cases h12 : ¬ ((y4.2).code) = 0
      ·rw [iP h12] at hm;have h12b := bne_iff_ne.2 h12;refine ab ?_;refine gox h12b ?_;refine hk _ _ ?_;clear hk hp k kp;refine ae rfl rfl ?_;refine am [0, 5, 7, 9, 78] ?_;refine ax ?_;refine aB ?_
       cases hm
       exact kr 0
      ·rw [iN h12] at hm;have h12b : (((y4.2).code) != 0) = false := bne_eq_false_iff_eq.2 (Decidable.not_not.1 h12);refine ab ?_;refine gox h12b ?_;refine hk _ _ ?_;clear hk hp k kp
       by_cases h13 : ¬ (y4.1.length : Int) = (IntKind.wrap .i64 ((y2.1.length : Int) + (y3.1.length : Int)))
       ·rw [iP h13] at hm;refine ae rfl (bne_iff_ne.2 h13) ?_;refine am [0, 5, 7, 9, 78] ?_;refine ax ?_;refine aB ?_
        cases hm
        exact kr 0
       ·rw [iN h13] at hm;refine ag rfl (bne_eq_false_iff_eq.2 (Decidable.not_not.1 h13)) ?_;refine ak ?_;refine aw (hk5 _ _ ?_);refine aV (S := Unit) (V := Unit) [0, 4, 5, 7, 9, 11, 12, 78, 79, 80, 81, 82, 83, 84, 85, 86, 87, 88, 89, 90, 91, 92, 93, 94, 95, 96, 97, 98, 99, 100, 101, 102, 103, 104, 105, 106, 107, 108, 109, 110, 111, 112, 113] (fun _ _ => []) (fun _ _ => [.box [.int .i64 ((y2.2).code), .int .i64 ((y2.2).at_)], .box [.int .i64 ((y3.2).code), .int .i64 ((y3.2).at_)], .box [.int .i64 ((y4.2).code), .int .i64 ((y4.2).at_)]]) (fun _ => cA = some r) ?_ ?_
        ·skip;refine am [78] ?_
         refine aH ?_;obtain ⟨o1, hl1, hm1⟩ := bd hm;refine cG (S := Int) (V := Unit) (O := Unit ⊕ Bool) [4, 11, 12, 79, 80, 81, 82, 83, 84, 85, 86, 87, 88, 89, 90, 91, 92, 93, 94, 95, 96, 97, 98, 99, 100, 101, 102, 103, 104, 105, 106, 107, 108, 109, 110, 111, 112, 113] (fun x7 _ => [(11, .c (.int .i64 x7))]) (fun x7 _ => [.box [.int .i64 ((y2.2).code), .int .i64 ((y2.2).at_)], .box [.int .i64 ((y3.2).code), .int .i64 ((y3.2).at_)], .box [.int .i64 ((y4.2).code), .int .i64 ((y4.2).at_)]]) _ _ () hl1 ?_ ?_
         ·exact ls
         ·rintro x7 _ r1 hm hr1;replace hm : aU p1 y2 y3 y4 x7 = some r1 := hm;refine bl ?_;unfold aU at hm;refine az fun k6 hk6 => ?_;refine am [79, 80, 81] ?_
          by_cases h14 : x7 < (y4.1.length : Int)
          ·rw [iP h14] at hm;refine ae rfl (dT h14) ?_;refine ak ?_;refine aw (hk6 _ _ ?_);refine az fun k7 hk7 => ?_;refine aH ?_;refine am [82, 85] ?_;refine aV (S := (Int × Int × (List UInt8) × Int)) (V := Unit) [86, 87, 88, 89, 90, 91, 92, 93, 94, 95, 96, 97, 98, 99, 100, 101, 102, 103, 104, 105, 106, 107] (fun (x8, x9, s10, x11) _ => []) (fun (x8, x9, s10, x11) _ => [.box [.int .i64 ((y2.2).code), .int .i64 ((y2.2).at_)], .box [.int .i64 ((y3.2).code), .int .i64 ((y3.2).at_)], .box [.int .i64 ((y4.2).code), .int .i64 ((y4.2).at_)], .box [.int .i64 x8, .int .i64 x9, .str s10, .int .i64 x11]]) (fun (x8, x9, s10, x11) => b9 y4 x7 x8 x9 s10 x11 = some r1) ?_ ?_
           ·skip;refine am [86, 87, 88] ?_
            by_cases h18 : x7 < (y2.1.length : Int)
            ·rw [iP h18] at hm;refine ae rfl (dT h18) ?_;obtain ⟨hg19a, hm⟩ := gd hm;refine nt (em aa.enc y2.1 x7.toNat) ?_;refine ah ((y2.1.getD x7.toNat default).kind, (y2.1.getD x7.toNat default).at_, (y2.1.getD x7.toNat default).text, (y2.1.getD x7.toNat default).n) () hm ?_;exact ls
            ·rw [iN h18] at hm;refine ag rfl (dF h18) ?_;obtain ⟨hg20a, hm⟩ := gd hm;refine eR (em aa.enc y3.1 ((IntKind.wrap .i64 (x7 - (y2.1.length : Int))).toNat)) [89, 94, 95, 96, 97, 98, 99, 100] ?_;refine aR ?_;refine ah ((y3.1.getD ((IntKind.wrap .i64 (x7 - (y2.1.length : Int))).toNat) default).kind, (IntKind.wrap .i64 (((y3.1.getD ((IntKind.wrap .i64 (x7 - (y2.1.length : Int))).toNat) default).at_) + (IntKind.wrap .i64 ((p1.length : Int) + 1)))), (y3.1.getD ((IntKind.wrap .i64 (x7 - (y2.1.length : Int))).toNat) default).text, (y3.1.getD ((IntKind.wrap .i64 (x7 - (y2.1.length : Int))).toNat) default).n) () hm ?_;exact ls
           ·rintro ⟨x8, x9, s10, x11⟩ _ hm;replace hm : b9 y4 x7 x8 x9 s10 x11 = some r1 := hm;refine bl ?_;unfold b9 at hm;obtain ⟨hg15a, hm⟩ := gd hm;refine nu (em aa.enc y4.1 x7.toNat) [12, 108, 109, 110, 111, 112] [0, 0, 3, 7, 0, 31] [false, false, false, false, false, true] ?_
            by_cases h16 : ((y4.1.getD x7.toNat default).kind) = x8 ∧ ((y4.1.getD x7.toNat default).at_) = x9 ∧ ((y4.1.getD x7.toNat default).text) = s10 ∧ ((y4.1.getD x7.toNat default).n) = x11
            ·rw [iP h16] at hm;refine ag rfl (by rw [show ((((y4.1.getD x7.toNat default).kind) == x8) && ((((y4.1.getD x7.toNat default).at_) == x9) && ((((y4.1.getD x7.toNat default).text) == s10) && (((y4.1.getD x7.toNat default).n) == x11)))) = true from (by simpa [Bool.and_eq_true] using h16)]; rfl) ?_;refine ak ?_;refine af ?_;refine aw (hk7 _ _ ?_);refine aR ?_;refine an (IntKind.wrap .i64 (x7 + 1)) () hm ?_;exact ls
            ·rw [iN h16] at hm;refine ae rfl (by rw [show ((((y4.1.getD x7.toNat default).kind) == x8) && ((((y4.1.getD x7.toNat default).at_) == x9) && ((((y4.1.getD x7.toNat default).text) == s10) && (((y4.1.getD x7.toNat default).n) == x11)))) = false from (fB (fun hh => h16 (by simpa [Bool.and_eq_true] using hh)))]; rfl) ?_;refine am [0, 5, 7, 9, 11, 113] ?_;have ho17 := aO hm hr1;subst ho17;replace hm : some false = some r := hm1;refine ax ?_;refine ar (aB (bt (ar (aF ?_))))
             cases hm
             exact kr 0
          ·rw [iN h14] at hm;refine ag rfl (dF h14) ?_;refine cQ ?_;have ho21 := aO hm hr1;subst ho21;replace hm : cA = some r := hm1;refine cx (bB (aN ?_));refine ah () () hm ?_;exact ls
        ·rintro _ _ hm;replace hm : cA = some r := hm;refine bl ?_;unfold cA at hm;refine am [] ?_;refine ax ?_
         cases hm
         exact kr 0
 ·rw [iN h2] at hm;refine ae rfl (by rw [show y1 = false from (fB h2)]; rfl) ?_;refine am [0, 1, 14] ?_;refine ax ?_;refine aB ?_
  cases hm
  exact kr 0
end Pam
