/- the walk of law_MeanCauses, printed by a program of ours -/
import Derived.Test.YthafkijdkbmdgaaMBase3
import Derived.Test.YthafkijdkbmdgaaMBase2
import Derived.Test.YthafkijdkbmdgaaMbFun1
import Derived.Test.YthafkijdkbmdgaaMabWalk3
import Derived.Test.YthafkijdkbmdgaaMabWalk4
set_option linter.all false
set_option maxRecDepth 100000
set_option maxHeartbeats 8000000
namespace Pam
open Go Go.Proofs
theorem pZ (p1 : ae) (p2 : List (List Int)) (p3 : List (List Int)) (r : Bool) (hm : jT p1 p2 p3 = some r) : dw Try.prog 4 [.a [.tree 2 (p1.vars.map ah.enc), .tree 1 (p1.in_.map (eK .i64)), .tree 1 (p1.out_.map (eK .i64)), .tree 6 (p1.rules.map ab.enc)], .c (.tree 1 (p2.map (eL 1 (eK .i64)))), .c (.tree 1 (p3.map (eL 1 (eK .i64))))] (.c (.bool r)) := by
 refine aC 171 [.tmp 6] Try.func4 rfl rfl rfl (by kernel_rfl) (by simp) ?_;refine bo ?_;unfold jT at hm;refine ak [0, 6] ?_;refine ap fun k1 hk1 => ?_;refine aF [26] fun k kp hk hp => ?_;refine go ?_;obtain ⟨y1, hc1, hm⟩ := bd hm;refine RP (fun _ => mh  _ hc1) ?_;refine aa ?_;refine go ?_;refine hk _ _ ?_;clear hk hp k kp
 by_cases h2 : y1 = true
 ·rw [iP h2] at hm;refine ai rfl (by rw [show y1 = true from (h2)]; rfl) ?_;refine au ?_;refine an (hk1 _ _ ?_);refine ap fun k2 hk2 => ?_;refine aF [27, 28, 29, 30, 31, 32, 33, 34, 35, 36] fun k kp hk hp => ?_;refine go ?_;obtain ⟨y2, hc3, hm⟩ := bd hm;refine RP (fun _ => ln p1 150 _ hc3) ?_
  by_cases h4 : y2 = true
  ·rw [iP h4] at hm;have h4b := h4;refine aa ?_;refine gox h4b ?_;refine hk _ _ ?_;clear hk hp k kp;refine af rfl rfl ?_;refine ak [1, 2, 3, 37] ?_;refine am ?_;refine ag ?_
   cases hm
   exact kr 0
  ·rw [iN h4] at hm;have h4b := fB h4;refine aa ?_;refine gox h4b ?_;obtain ⟨y3, hc5, hm⟩ := bd hm;refine RP (fun _ => j7 p2 _ hc5) ?_
   by_cases h6 : y3 = true
   ·rw [iP h6] at hm;have h6b := h6;refine aa ?_;refine gox (a2 h4b h6b) ?_;refine hk _ _ ?_;clear hk hp k kp;refine af rfl rfl ?_;refine ak [1, 2, 3, 37] ?_;refine am ?_;refine ag ?_
    cases hm
    exact kr 0
   ·rw [iN h6] at hm;have h6b := fB h6;refine aa ?_;refine gox (a2 h4b h6b) ?_;obtain ⟨y4, hc7, hm⟩ := bd hm;refine RP (fun _ => j7 p3 _ hc7) ?_;refine aa ?_;refine gox (a2 h4b h6b) ?_;refine hk _ _ ?_;clear hk hp k kp
    by_cases h8 : y4 = true
    ·rw [iP h8] at hm;refine af rfl (h8) ?_;refine ak [1, 2, 3, 37] ?_;refine am ?_;refine ag ?_
     cases hm
     exact kr 0
    ·rw [iN h8] at hm;refine ai rfl (fB h8) ?_;refine au ?_;refine an (hk2 _ _ ?_);refine aF [37, 38, 39, 40, 41, 42] fun k kp hk hp => ?_;refine go ?_;obtain ⟨y5, hc9, hm⟩ := bd hm;refine RA (d4 p1  _ hc9) [] ?_;rintro p σ' hq10 _
     rcases y5 with y6 | y7
     ·skip;simp only [Sum.elim_inl, Sum.elim_inr] at hm hq10
      obtain ⟨rfl, rfl⟩ := hq10;refine aa ?_;refine go ?_;refine hk _ _ ?_;clear hk hp k kp;refine aF [43, 44, 45, 46, 47] fun k kp hk hp => ?_;refine go ?_;obtain ⟨y8, hc11, hm⟩ := bd hm;refine RA (d4 p1  _ hc11) [] ?_;rintro p σ' hq12 _
      rcases y8 with y9 | y10
      ·skip;simp only [Sum.elim_inl, Sum.elim_inr] at hm hq12
       obtain ⟨rfl, rfl⟩ := hq12;refine aa ?_;refine go ?_;refine hk _ _ ?_;clear hk hp k kp;refine aF [48, 49, 50, 51, 52] fun k kp hk hp => ?_;refine go ?_;obtain ⟨y11, hc13, hm⟩ := bd hm;refine RA (d4 p1  _ hc13) [] ?_;rintro p σ' hq14 _
       rcases y11 with y12 | y13
       ·skip;simp only [Sum.elim_inl, Sum.elim_inr] at hm hq14
        obtain ⟨rfl, rfl⟩ := hq14;refine aa ?_;refine go ?_;refine hk _ _ ?_;clear hk hp k kp;refine ap fun k3 hk3 => ?_;refine bl [53, 54, 55, 56, 57, 58, 59, 60, 61, 62, 63, 64] fun k kp hk hp => ?_;refine ao 4 ?_;refine go ?_
        by_cases h15 : ¬ ((y6).code) = 0
        ·rw [iP h15] at hm;have h15b := bne_iff_ne.2 h15;refine aa ?_;refine gox h15b ?_;refine hk _ _ ?_;clear hk hp k kp;refine af rfl rfl ?_;refine bl [1, 2, 3, 7, 8, 9, 10, 11, 12, 65, 66, 67, 68, 69, 70, 71, 72, 73] fun k kp hk hp => ?_;refine ao 4 ?_;refine go ?_
         by_cases h16 : ((y6).code) = ((y9).code) ∧ ((y6).at_) = ((y9).at_)
         ·rw [iP h16] at hm
          have h16b : ((((y6).code) == ((y9).code)) && (((y6).at_) == ((y9).at_))) = true := by simpa [Bool.and_eq_true] using h16
          refine aa ?_;refine gox h16b ?_;refine hk _ _ ?_;clear hk hp k kp;refine am ?_;refine ag ?_
          cases hm
          exact kr 0
         ·rw [iN h16] at hm;have h16b : ((((y6).code) == ((y9).code)) && (((y6).at_) == ((y9).at_))) = false := fB (fun hh => h16 (by simpa [Bool.and_eq_true] using hh));refine aa ?_;refine gox h16b ?_;refine hk _ _ ?_;clear hk hp k kp;refine am ?_;refine ag ?_
          cases hm
          exact kr 0
        ·rw [iN h15] at hm;have h15b : (((y6).code) != 0) = false := bne_eq_false_iff_eq.2 (Decidable.not_not.1 h15);refine ao 5 ?_;refine gox h15b ?_
         by_cases h17 : ¬ ((y9).code) = 0
         ·rw [iP h17] at hm;have h17b := bne_iff_ne.2 h17;refine aa ?_;refine gox (a2 h15b h17b) ?_;refine hk _ _ ?_;clear hk hp k kp;refine af rfl rfl ?_;refine bl [1, 2, 3, 7, 8, 9, 10, 11, 12, 65, 66, 67, 68, 69, 70, 71, 72, 73] fun k kp hk hp => ?_;refine ao 4 ?_;refine go ?_
          by_cases h18 : ((y6).code) = ((y9).code) ∧ ((y6).at_) = ((y9).at_)
          ·rw [iP h18] at hm
           have h18b : ((((y6).code) == ((y9).code)) && (((y6).at_) == ((y9).at_))) = true := by simpa [Bool.and_eq_true] using h18
           refine aa ?_;refine gox h18b ?_;refine hk _ _ ?_;clear hk hp k kp;refine am ?_;refine ag ?_
           cases hm
           exact kr 0
          ·rw [iN h18] at hm;have h18b : ((((y6).code) == ((y9).code)) && (((y6).at_) == ((y9).at_))) = false := fB (fun hh => h18 (by simpa [Bool.and_eq_true] using hh));refine aa ?_;refine gox h18b ?_;refine hk _ _ ?_;clear hk hp k kp;refine am ?_;refine ag ?_
           cases hm
           exact kr 0
         ·rw [iN h17] at hm;have h17b : (((y9).code) != 0) = false := bne_eq_false_iff_eq.2 (Decidable.not_not.1 h17);refine aa ?_;refine gox (a2 h15b h17b) ?_;refine hk _ _ ?_;clear hk hp k kp
          by_cases h19 : ¬ ((y12).code) = 0
          ·rw [iP h19] at hm;refine af rfl (bne_iff_ne.2 h19) ?_;refine bl [1, 2, 3, 7, 8, 9, 10, 11, 12, 65, 66, 67, 68, 69, 70, 71, 72, 73] fun k kp hk hp => ?_;refine ao 4 ?_;refine go ?_
           by_cases h20 : ((y6).code) = ((y9).code) ∧ ((y6).at_) = ((y9).at_)
           ·rw [iP h20] at hm
            have h20b : ((((y6).code) == ((y9).code)) && (((y6).at_) == ((y9).at_))) = true := by simpa [Bool.and_eq_true] using h20
            refine aa ?_;refine gox h20b ?_;refine hk _ _ ?_;clear hk hp k kp;refine am ?_;refine ag ?_
            cases hm
            exact kr 0
           ·rw [iN h20] at hm;have h20b : ((((y6).code) == ((y9).code)) && (((y6).at_) == ((y9).at_))) = false := fB (fun hh => h20 (by simpa [Bool.and_eq_true] using hh));refine aa ?_;refine gox h20b ?_;refine hk _ _ ?_;clear hk hp k kp;refine am ?_;refine ag ?_
            cases hm
            exact kr 0
          ·rw [iN h19] at hm;refine ai rfl (bne_eq_false_iff_eq.2 (Decidable.not_not.1 h19)) ?_;refine au ?_;refine an (hk3 _ _ ?_);refine ak [8, 10, 12, 65] ?_;refine aH (S := Unit) (V := Unit) [6, 7, 11, 13, 14, 15, 16, 17, 18, 19, 74, 75, 76, 77, 78, 79, 80, 81, 82, 83, 84, 85, 86, 87, 88, 89, 90, 91, 92, 93, 94, 95, 96, 97, 98, 99, 100, 101, 102, 103, 104, 105, 106, 107, 108, 109, 110, 111, 112, 113, 114, 115, 116, 117, 118, 119, 120, 121, 122, 123, 124, 125, 126, 127, 128, 129, 130, 131] (fun _ _ => [(13, .c (.nils))]) (fun _ _ => [.box [.tree 2 (p1.vars.map ah.enc), .tree 1 (p1.in_.map (eK .i64)), .tree 1 (p1.out_.map (eK .i64)), .tree 6 (p1.rules.map ab.enc)], .box [.int .i64 ((y6).code), .int .i64 ((y6).at_)], .box [.int .i64 ((y9).code), .int .i64 ((y9).at_)], .box [.int .i64 ((y12).code), .int .i64 ((y12).at_)]]) (fun _ => False) ?_ ?_
           ·skip;refine ak [] ?_
            refine aw ?_
            cases hm
           ·rintro _ _ hm;exact hm.elim
       ·skip;simp only [Sum.elim_inl, Sum.elim_inr] at hm hq14
        obtain ⟨rfl, rfl⟩ := hq14;refine aa ?_;refine go ?_;refine hk _ _ ?_;clear hk hp k kp;refine ap fun k4 hk4 => ?_;refine bl [53, 54, 55, 56, 57, 58, 59, 60, 61, 62, 63, 64] fun k kp hk hp => ?_;refine ao 4 ?_;refine go ?_
        by_cases h21 : ¬ ((y6).code) = 0
        ·rw [iP h21] at hm;have h21b := bne_iff_ne.2 h21;refine aa ?_;refine gox h21b ?_;refine hk _ _ ?_;clear hk hp k kp;refine af rfl rfl ?_;refine bl [1, 2, 3, 7, 8, 9, 10, 11, 12, 65, 66, 67, 68, 69, 70, 71, 72, 73] fun k kp hk hp => ?_;refine ao 4 ?_;refine go ?_
         by_cases h22 : ((y6).code) = ((y9).code) ∧ ((y6).at_) = ((y9).at_)
         ·rw [iP h22] at hm
          have h22b : ((((y6).code) == ((y9).code)) && (((y6).at_) == ((y9).at_))) = true := by simpa [Bool.and_eq_true] using h22
          refine aa ?_;refine gox h22b ?_;refine hk _ _ ?_;clear hk hp k kp;refine am ?_;refine ag ?_
          cases hm
          exact kr 0
         ·rw [iN h22] at hm;have h22b : ((((y6).code) == ((y9).code)) && (((y6).at_) == ((y9).at_))) = false := fB (fun hh => h22 (by simpa [Bool.and_eq_true] using hh));refine aa ?_;refine gox h22b ?_;refine hk _ _ ?_;clear hk hp k kp;refine am ?_;refine ag ?_
          cases hm
          exact kr 0
        ·rw [iN h21] at hm;have h21b : (((y6).code) != 0) = false := bne_eq_false_iff_eq.2 (Decidable.not_not.1 h21);refine ao 5 ?_;refine gox h21b ?_
         by_cases h23 : ¬ ((y9).code) = 0
         ·rw [iP h23] at hm;have h23b := bne_iff_ne.2 h23;refine aa ?_;refine gox (a2 h21b h23b) ?_;refine hk _ _ ?_;clear hk hp k kp;refine af rfl rfl ?_;refine bl [1, 2, 3, 7, 8, 9, 10, 11, 12, 65, 66, 67, 68, 69, 70, 71, 72, 73] fun k kp hk hp => ?_;refine ao 4 ?_;refine go ?_
          by_cases h24 : ((y6).code) = ((y9).code) ∧ ((y6).at_) = ((y9).at_)
          ·rw [iP h24] at hm
           have h24b : ((((y6).code) == ((y9).code)) && (((y6).at_) == ((y9).at_))) = true := by simpa [Bool.and_eq_true] using h24
           refine aa ?_;refine gox h24b ?_;refine hk _ _ ?_;clear hk hp k kp;refine am ?_;refine ag ?_
           cases hm
           exact kr 0
          ·rw [iN h24] at hm;have h24b : ((((y6).code) == ((y9).code)) && (((y6).at_) == ((y9).at_))) = false := fB (fun hh => h24 (by simpa [Bool.and_eq_true] using hh));refine aa ?_;refine gox h24b ?_;refine hk _ _ ?_;clear hk hp k kp;refine am ?_;refine ag ?_
           cases hm
           exact kr 0
         ·rw [iN h23] at hm;have h23b : (((y9).code) != 0) = false := bne_eq_false_iff_eq.2 (Decidable.not_not.1 h23);refine aa ?_;refine gox (a2 h21b h23b) ?_;refine hk _ _ ?_;clear hk hp k kp
          by_cases h25 : ¬ ((y13.1).code) = 0
          ·rw [iP h25] at hm;refine af rfl (bne_iff_ne.2 h25) ?_;refine bl [1, 2, 3, 7, 8, 9, 10, 11, 12, 65, 66, 67, 68, 69, 70, 71, 72, 73] fun k kp hk hp => ?_;refine ao 4 ?_;refine go ?_
           by_cases h26 : ((y6).code) = ((y9).code) ∧ ((y6).at_) = ((y9).at_)
           ·rw [iP h26] at hm
            have h26b : ((((y6).code) == ((y9).code)) && (((y6).at_) == ((y9).at_))) = true := by simpa [Bool.and_eq_true] using h26
            refine aa ?_;refine gox h26b ?_;refine hk _ _ ?_;clear hk hp k kp;refine am ?_;refine ag ?_
            cases hm
            exact kr 0
           ·rw [iN h26] at hm;have h26b : ((((y6).code) == ((y9).code)) && (((y6).at_) == ((y9).at_))) = false := fB (fun hh => h26 (by simpa [Bool.and_eq_true] using hh));refine aa ?_;refine gox h26b ?_;refine hk _ _ ?_;clear hk hp k kp;refine am ?_;refine ag ?_
            cases hm
            exact kr 0
          ·rw [iN h25] at hm;refine ai rfl (bne_eq_false_iff_eq.2 (Decidable.not_not.1 h25)) ?_;refine au ?_;refine an (hk4 _ _ ?_);refine ak [8, 10, 12, 65] ?_;refine aH (S := Unit) (V := Unit) [6, 7, 11, 13, 14, 15, 16, 17, 18, 19, 74, 75, 76, 77, 78, 79, 80, 81, 82, 83, 84, 85, 86, 87, 88, 89, 90, 91, 92, 93, 94, 95, 96, 97, 98, 99, 100, 101, 102, 103, 104, 105, 106, 107, 108, 109, 110, 111, 112, 113, 114, 115, 116, 117, 118, 119, 120, 121, 122, 123, 124, 125, 126, 127, 128, 129, 130, 131] (fun _ _ => [(13, .c (.nils))]) (fun _ _ => [.box [.tree 2 (p1.vars.map ah.enc), .tree 1 (p1.in_.map (eK .i64)), .tree 1 (p1.out_.map (eK .i64)), .tree 6 (p1.rules.map ab.enc)], .box [.int .i64 ((y6).code), .int .i64 ((y6).at_)], .box [.int .i64 ((y9).code), .int .i64 ((y9).at_)], .mp Try.prog 3 (y13.2.1.map mIL), .box [.int .i64 y13.2.2.1, .int .i64 y13.2.2.2.1], .box [.tree 2 (y13.2.2.2.2.1.map ah.enc), .tree 1 (y13.2.2.2.2.2.1.map (eK .i64)), .tree 1 (y13.2.2.2.2.2.2.1.map (eK .i64)), .tree 6 (y13.2.2.2.2.2.2.2.map ab.enc), .optr 3 0], .box [.int .i64 ((y13.1).code), .int .i64 ((y13.1).at_)]]) (fun _ => False) ?_ ?_
           ·skip;refine ak [] ?_
            refine aw ?_
            cases hm
           ·rintro _ _ hm;exact hm.elim
      ·skip;simp only [Sum.elim_inl, Sum.elim_inr] at hm hq12
       obtain ⟨rfl, rfl⟩ := hq12;refine aa ?_;refine go ?_;refine hk _ _ ?_;clear hk hp k kp;refine aF [48, 49, 50, 51, 52] fun k kp hk hp => ?_;refine go ?_;obtain ⟨y14, hc27, hm⟩ := bd hm;refine RA (d4 p1  _ hc27) [] ?_;rintro p σ' hq28 _
       rcases y14 with y15 | y16
       ·skip;simp only [Sum.elim_inl, Sum.elim_inr] at hm hq28
        obtain ⟨rfl, rfl⟩ := hq28;refine aa ?_;refine go ?_;refine hk _ _ ?_;clear hk hp k kp;refine ap fun k5 hk5 => ?_;refine bl [53, 54, 55, 56, 57, 58, 59, 60, 61, 62, 63, 64] fun k kp hk hp => ?_;refine ao 4 ?_;refine go ?_
        by_cases h29 : ¬ ((y6).code) = 0
        ·rw [iP h29] at hm;have h29b := bne_iff_ne.2 h29;refine aa ?_;refine gox h29b ?_;refine hk _ _ ?_;clear hk hp k kp;refine af rfl rfl ?_;refine bl [1, 2, 3, 7, 8, 9, 10, 11, 12, 65, 66, 67, 68, 69, 70, 71, 72, 73] fun k kp hk hp => ?_;refine ao 4 ?_;refine go ?_
         by_cases h30 : ((y6).code) = ((y10.1).code) ∧ ((y6).at_) = ((y10.1).at_)
         ·rw [iP h30] at hm
          have h30b : ((((y6).code) == ((y10.1).code)) && (((y6).at_) == ((y10.1).at_))) = true := by simpa [Bool.and_eq_true] using h30
          refine aa ?_;refine gox h30b ?_;refine hk _ _ ?_;clear hk hp k kp;refine am ?_;refine ag ?_
          cases hm
          exact kr 0
         ·rw [iN h30] at hm;have h30b : ((((y6).code) == ((y10.1).code)) && (((y6).at_) == ((y10.1).at_))) = false := fB (fun hh => h30 (by simpa [Bool.and_eq_true] using hh));refine aa ?_;refine gox h30b ?_;refine hk _ _ ?_;clear hk hp k kp;refine am ?_;refine ag ?_
          cases hm
          exact kr 0
        ·rw [iN h29] at hm;have h29b : (((y6).code) != 0) = false := bne_eq_false_iff_eq.2 (Decidable.not_not.1 h29);refine ao 5 ?_;refine gox h29b ?_
         by_cases h31 : ¬ ((y10.1).code) = 0
         ·rw [iP h31] at hm;have h31b := bne_iff_ne.2 h31;refine aa ?_;refine gox (a2 h29b h31b) ?_;refine hk _ _ ?_;clear hk hp k kp;refine af rfl rfl ?_;refine bl [1, 2, 3, 7, 8, 9, 10, 11, 12, 65, 66, 67, 68, 69, 70, 71, 72, 73] fun k kp hk hp => ?_;refine ao 4 ?_;refine go ?_
          by_cases h32 : ((y6).code) = ((y10.1).code) ∧ ((y6).at_) = ((y10.1).at_)
          ·rw [iP h32] at hm
           have h32b : ((((y6).code) == ((y10.1).code)) && (((y6).at_) == ((y10.1).at_))) = true := by simpa [Bool.and_eq_true] using h32
           refine aa ?_;refine gox h32b ?_;refine hk _ _ ?_;clear hk hp k kp;refine am ?_;refine ag ?_
           cases hm
           exact kr 0
          ·rw [iN h32] at hm;have h32b : ((((y6).code) == ((y10.1).code)) && (((y6).at_) == ((y10.1).at_))) = false := fB (fun hh => h32 (by simpa [Bool.and_eq_true] using hh));refine aa ?_;refine gox h32b ?_;refine hk _ _ ?_;clear hk hp k kp;refine am ?_;refine ag ?_
           cases hm
           exact kr 0
         ·rw [iN h31] at hm;have h31b : (((y10.1).code) != 0) = false := bne_eq_false_iff_eq.2 (Decidable.not_not.1 h31);refine aa ?_;refine gox (a2 h29b h31b) ?_;refine hk _ _ ?_;clear hk hp k kp
          by_cases h33 : ¬ ((y15).code) = 0
          ·rw [iP h33] at hm;refine af rfl (bne_iff_ne.2 h33) ?_;refine bl [1, 2, 3, 7, 8, 9, 10, 11, 12, 65, 66, 67, 68, 69, 70, 71, 72, 73] fun k kp hk hp => ?_;refine ao 4 ?_;refine go ?_
           by_cases h34 : ((y6).code) = ((y10.1).code) ∧ ((y6).at_) = ((y10.1).at_)
           ·rw [iP h34] at hm
            have h34b : ((((y6).code) == ((y10.1).code)) && (((y6).at_) == ((y10.1).at_))) = true := by simpa [Bool.and_eq_true] using h34
            refine aa ?_;refine gox h34b ?_;refine hk _ _ ?_;clear hk hp k kp;refine am ?_;refine ag ?_
            cases hm
            exact kr 0
           ·rw [iN h34] at hm;have h34b : ((((y6).code) == ((y10.1).code)) && (((y6).at_) == ((y10.1).at_))) = false := fB (fun hh => h34 (by simpa [Bool.and_eq_true] using hh));refine aa ?_;refine gox h34b ?_;refine hk _ _ ?_;clear hk hp k kp;refine am ?_;refine ag ?_
            cases hm
            exact kr 0
          ·rw [iN h33] at hm;refine ai rfl (bne_eq_false_iff_eq.2 (Decidable.not_not.1 h33)) ?_;refine au ?_;refine an (hk5 _ _ ?_);refine ak [8, 10, 12, 65] ?_;refine aH (S := Unit) (V := Unit) [6, 7, 11, 13, 14, 15, 16, 17, 18, 19, 74, 75, 76, 77, 78, 79, 80, 81, 82, 83, 84, 85, 86, 87, 88, 89, 90, 91, 92, 93, 94, 95, 96, 97, 98, 99, 100, 101, 102, 103, 104, 105, 106, 107, 108, 109, 110, 111, 112, 113, 114, 115, 116, 117, 118, 119, 120, 121, 122, 123, 124, 125, 126, 127, 128, 129, 130, 131] (fun _ _ => [(13, .c (.nils))]) (fun _ _ => [.box [.tree 2 (p1.vars.map ah.enc), .tree 1 (p1.in_.map (eK .i64)), .tree 1 (p1.out_.map (eK .i64)), .tree 6 (p1.rules.map ab.enc)], .box [.int .i64 ((y6).code), .int .i64 ((y6).at_)], .mp Try.prog 3 (y10.2.1.map mIL), .box [.int .i64 y10.2.2.1, .int .i64 y10.2.2.2.1], .box [.tree 2 (y10.2.2.2.2.1.map ah.enc), .tree 1 (y10.2.2.2.2.2.1.map (eK .i64)), .tree 1 (y10.2.2.2.2.2.2.1.map (eK .i64)), .tree 6 (y10.2.2.2.2.2.2.2.map ab.enc), .optr 2 0], .box [.int .i64 ((y10.1).code), .int .i64 ((y10.1).at_)], .box [.int .i64 ((y15).code), .int .i64 ((y15).at_)]]) (fun _ => False) ?_ ?_
           ·skip;refine ak [] ?_
            refine aw ?_
            cases hm
           ·rintro _ _ hm;exact hm.elim
       ·skip;simp only [Sum.elim_inl, Sum.elim_inr] at hm hq28
        obtain ⟨rfl, rfl⟩ := hq28;refine aa ?_;refine go ?_;refine hk _ _ ?_;clear hk hp k kp;refine ap fun k6 hk6 => ?_;refine bl [53, 54, 55, 56, 57, 58, 59, 60, 61, 62, 63, 64] fun k kp hk hp => ?_;refine ao 4 ?_;refine go ?_
        by_cases h35 : ¬ ((y6).code) = 0
        ·rw [iP h35] at hm;have h35b := bne_iff_ne.2 h35;refine aa ?_;refine gox h35b ?_;refine hk _ _ ?_;clear hk hp k kp;refine af rfl rfl ?_;refine bl [1, 2, 3, 7, 8, 9, 10, 11, 12, 65, 66, 67, 68, 69, 70, 71, 72, 73] fun k kp hk hp => ?_;refine ao 4 ?_;refine go ?_
         by_cases h36 : ((y6).code) = ((y10.1).code) ∧ ((y6).at_) = ((y10.1).at_)
         ·rw [iP h36] at hm
          have h36b : ((((y6).code) == ((y10.1).code)) && (((y6).at_) == ((y10.1).at_))) = true := by simpa [Bool.and_eq_true] using h36
          refine aa ?_;refine gox h36b ?_;refine hk _ _ ?_;clear hk hp k kp;refine am ?_;refine ag ?_
          cases hm
          exact kr 0
         ·rw [iN h36] at hm;have h36b : ((((y6).code) == ((y10.1).code)) && (((y6).at_) == ((y10.1).at_))) = false := fB (fun hh => h36 (by simpa [Bool.and_eq_true] using hh));refine aa ?_;refine gox h36b ?_;refine hk _ _ ?_;clear hk hp k kp;refine am ?_;refine ag ?_
          cases hm
          exact kr 0
        ·rw [iN h35] at hm;have h35b : (((y6).code) != 0) = false := bne_eq_false_iff_eq.2 (Decidable.not_not.1 h35);refine ao 5 ?_;refine gox h35b ?_
         by_cases h37 : ¬ ((y10.1).code) = 0
         ·rw [iP h37] at hm;have h37b := bne_iff_ne.2 h37;refine aa ?_;refine gox (a2 h35b h37b) ?_;refine hk _ _ ?_;clear hk hp k kp;refine af rfl rfl ?_;refine bl [1, 2, 3, 7, 8, 9, 10, 11, 12, 65, 66, 67, 68, 69, 70, 71, 72, 73] fun k kp hk hp => ?_;refine ao 4 ?_;refine go ?_
          by_cases h38 : ((y6).code) = ((y10.1).code) ∧ ((y6).at_) = ((y10.1).at_)
          ·rw [iP h38] at hm
           have h38b : ((((y6).code) == ((y10.1).code)) && (((y6).at_) == ((y10.1).at_))) = true := by simpa [Bool.and_eq_true] using h38
           refine aa ?_;refine gox h38b ?_;refine hk _ _ ?_;clear hk hp k kp;refine am ?_;refine ag ?_
           cases hm
           exact kr 0
          ·rw [iN h38] at hm;have h38b : ((((y6).code) == ((y10.1).code)) && (((y6).at_) == ((y10.1).at_))) = false := fB (fun hh => h38 (by simpa [Bool.and_eq_true] using hh));refine aa ?_;refine gox h38b ?_;refine hk _ _ ?_;clear hk hp k kp;refine am ?_;refine ag ?_
           cases hm
           exact kr 0
         ·rw [iN h37] at hm;have h37b : (((y10.1).code) != 0) = false := bne_eq_false_iff_eq.2 (Decidable.not_not.1 h37);refine aa ?_;refine gox (a2 h35b h37b) ?_;refine hk _ _ ?_;clear hk hp k kp
          by_cases h39 : ¬ ((y16.1).code) = 0
          ·rw [iP h39] at hm;refine af rfl (bne_iff_ne.2 h39) ?_;refine bl [1, 2, 3, 7, 8, 9, 10, 11, 12, 65, 66, 67, 68, 69, 70, 71, 72, 73] fun k kp hk hp => ?_;refine ao 4 ?_;refine go ?_
           by_cases h40 : ((y6).code) = ((y10.1).code) ∧ ((y6).at_) = ((y10.1).at_)
           ·rw [iP h40] at hm
            have h40b : ((((y6).code) == ((y10.1).code)) && (((y6).at_) == ((y10.1).at_))) = true := by simpa [Bool.and_eq_true] using h40
            refine aa ?_;refine gox h40b ?_;refine hk _ _ ?_;clear hk hp k kp;refine am ?_;refine ag ?_
            cases hm
            exact kr 0
           ·rw [iN h40] at hm;have h40b : ((((y6).code) == ((y10.1).code)) && (((y6).at_) == ((y10.1).at_))) = false := fB (fun hh => h40 (by simpa [Bool.and_eq_true] using hh));refine aa ?_;refine gox h40b ?_;refine hk _ _ ?_;clear hk hp k kp;refine am ?_;refine ag ?_
            cases hm
            exact kr 0
          ·rw [iN h39] at hm;refine ai rfl (bne_eq_false_iff_eq.2 (Decidable.not_not.1 h39)) ?_;refine au ?_;refine an (hk6 _ _ ?_);refine ak [8, 10, 12, 65] ?_;refine aH (S := Unit) (V := Unit) [6, 7, 11, 13, 14, 15, 16, 17, 18, 19, 74, 75, 76, 77, 78, 79, 80, 81, 82, 83, 84, 85, 86, 87, 88, 89, 90, 91, 92, 93, 94, 95, 96, 97, 98, 99, 100, 101, 102, 103, 104, 105, 106, 107, 108, 109, 110, 111, 112, 113, 114, 115, 116, 117, 118, 119, 120, 121, 122, 123, 124, 125, 126, 127, 128, 129, 130, 131] (fun _ _ => [(13, .c (.nils))]) (fun _ _ => [.box [.tree 2 (p1.vars.map ah.enc), .tree 1 (p1.in_.map (eK .i64)), .tree 1 (p1.out_.map (eK .i64)), .tree 6 (p1.rules.map ab.enc)], .box [.int .i64 ((y6).code), .int .i64 ((y6).at_)], .mp Try.prog 3 (y10.2.1.map mIL), .box [.int .i64 y10.2.2.1, .int .i64 y10.2.2.2.1], .box [.tree 2 (y10.2.2.2.2.1.map ah.enc), .tree 1 (y10.2.2.2.2.2.1.map (eK .i64)), .tree 1 (y10.2.2.2.2.2.2.1.map (eK .i64)), .tree 6 (y10.2.2.2.2.2.2.2.map ab.enc), .optr 2 0], .box [.int .i64 ((y10.1).code), .int .i64 ((y10.1).at_)], .mp Try.prog 3 (y16.2.1.map mIL), .box [.int .i64 y16.2.2.1, .int .i64 y16.2.2.2.1], .box [.tree 2 (y16.2.2.2.2.1.map ah.enc), .tree 1 (y16.2.2.2.2.2.1.map (eK .i64)), .tree 1 (y16.2.2.2.2.2.2.1.map (eK .i64)), .tree 6 (y16.2.2.2.2.2.2.2.map ab.enc), .optr 6 0], .box [.int .i64 ((y16.1).code), .int .i64 ((y16.1).at_)]]) (fun _ => False) ?_ ?_
           ·skip;refine ak [] ?_
            refine aw ?_
            cases hm
           ·rintro _ _ hm;exact hm.elim
     ·skip;simp only [Sum.elim_inl, Sum.elim_inr] at hm hq10
      obtain ⟨rfl, rfl⟩ := hq10;refine aa ?_;refine go ?_;refine hk _ _ ?_;clear hk hp k kp;refine aF [43, 44, 45, 46, 47] fun k kp hk hp => ?_;refine go ?_;obtain ⟨y17, hc41, hm⟩ := bd hm;refine RA (d4 p1  _ hc41) [] ?_;rintro p σ' hq42 _
      rcases y17 with y18 | y19
      ·skip;simp only [Sum.elim_inl, Sum.elim_inr] at hm hq42
       obtain ⟨rfl, rfl⟩ := hq42;refine aa ?_;refine go ?_;refine hk _ _ ?_;clear hk hp k kp;refine aF [48, 49, 50, 51, 52] fun k kp hk hp => ?_;refine go ?_;obtain ⟨y20, hc43, hm⟩ := bd hm;refine RA (d4 p1  _ hc43) [] ?_;rintro p σ' hq44 _
       rcases y20 with y21 | y22
       ·skip;simp only [Sum.elim_inl, Sum.elim_inr] at hm hq44
        obtain ⟨rfl, rfl⟩ := hq44;refine aa ?_;refine go ?_;refine hk _ _ ?_;clear hk hp k kp;refine ap fun k7 hk7 => ?_;refine bl [53, 54, 55, 56, 57, 58, 59, 60, 61, 62, 63, 64] fun k kp hk hp => ?_;refine ao 4 ?_;refine go ?_
        by_cases h45 : ¬ ((y7.1).code) = 0
        ·rw [iP h45] at hm;have h45b := bne_iff_ne.2 h45;refine aa ?_;refine gox h45b ?_;refine hk _ _ ?_;clear hk hp k kp;refine af rfl rfl ?_;refine bl [1, 2, 3, 7, 8, 9, 10, 11, 12, 65, 66, 67, 68, 69, 70, 71, 72, 73] fun k kp hk hp => ?_;refine ao 4 ?_;refine go ?_
         by_cases h46 : ((y7.1).code) = ((y18).code) ∧ ((y7.1).at_) = ((y18).at_)
         ·rw [iP h46] at hm
          have h46b : ((((y7.1).code) == ((y18).code)) && (((y7.1).at_) == ((y18).at_))) = true := by simpa [Bool.and_eq_true] using h46
          refine aa ?_;refine gox h46b ?_;refine hk _ _ ?_;clear hk hp k kp;refine am ?_;refine ag ?_
          cases hm
          exact kr 0
         ·rw [iN h46] at hm;have h46b : ((((y7.1).code) == ((y18).code)) && (((y7.1).at_) == ((y18).at_))) = false := fB (fun hh => h46 (by simpa [Bool.and_eq_true] using hh));refine aa ?_;refine gox h46b ?_;refine hk _ _ ?_;clear hk hp k kp;refine am ?_;refine ag ?_
          cases hm
          exact kr 0
        ·rw [iN h45] at hm;have h45b : (((y7.1).code) != 0) = false := bne_eq_false_iff_eq.2 (Decidable.not_not.1 h45);refine ao 5 ?_;refine gox h45b ?_
         by_cases h47 : ¬ ((y18).code) = 0
         ·rw [iP h47] at hm;have h47b := bne_iff_ne.2 h47;refine aa ?_;refine gox (a2 h45b h47b) ?_;refine hk _ _ ?_;clear hk hp k kp;refine af rfl rfl ?_;refine bl [1, 2, 3, 7, 8, 9, 10, 11, 12, 65, 66, 67, 68, 69, 70, 71, 72, 73] fun k kp hk hp => ?_;refine ao 4 ?_;refine go ?_
          by_cases h48 : ((y7.1).code) = ((y18).code) ∧ ((y7.1).at_) = ((y18).at_)
          ·rw [iP h48] at hm
           have h48b : ((((y7.1).code) == ((y18).code)) && (((y7.1).at_) == ((y18).at_))) = true := by simpa [Bool.and_eq_true] using h48
           refine aa ?_;refine gox h48b ?_;refine hk _ _ ?_;clear hk hp k kp;refine am ?_;refine ag ?_
           cases hm
           exact kr 0
          ·rw [iN h48] at hm;have h48b : ((((y7.1).code) == ((y18).code)) && (((y7.1).at_) == ((y18).at_))) = false := fB (fun hh => h48 (by simpa [Bool.and_eq_true] using hh));refine aa ?_;refine gox h48b ?_;refine hk _ _ ?_;clear hk hp k kp;refine am ?_;refine ag ?_
           cases hm
           exact kr 0
         ·rw [iN h47] at hm;have h47b : (((y18).code) != 0) = false := bne_eq_false_iff_eq.2 (Decidable.not_not.1 h47);refine aa ?_;refine gox (a2 h45b h47b) ?_;refine hk _ _ ?_;clear hk hp k kp
          by_cases h49 : ¬ ((y21).code) = 0
          ·rw [iP h49] at hm;refine af rfl (bne_iff_ne.2 h49) ?_;refine bl [1, 2, 3, 7, 8, 9, 10, 11, 12, 65, 66, 67, 68, 69, 70, 71, 72, 73] fun k kp hk hp => ?_;refine ao 4 ?_;refine go ?_
           by_cases h50 : ((y7.1).code) = ((y18).code) ∧ ((y7.1).at_) = ((y18).at_)
           ·rw [iP h50] at hm
            have h50b : ((((y7.1).code) == ((y18).code)) && (((y7.1).at_) == ((y18).at_))) = true := by simpa [Bool.and_eq_true] using h50
            refine aa ?_;refine gox h50b ?_;refine hk _ _ ?_;clear hk hp k kp;refine am ?_;refine ag ?_
            cases hm
            exact kr 0
           ·rw [iN h50] at hm;have h50b : ((((y7.1).code) == ((y18).code)) && (((y7.1).at_) == ((y18).at_))) = false := fB (fun hh => h50 (by simpa [Bool.and_eq_true] using hh));refine aa ?_;refine gox h50b ?_;refine hk _ _ ?_;clear hk hp k kp;refine am ?_;refine ag ?_
            cases hm
            exact kr 0
          ·rw [iN h49] at hm;refine ai rfl (bne_eq_false_iff_eq.2 (Decidable.not_not.1 h49)) ?_;refine au ?_;refine an (hk7 _ _ ?_);refine ak [8, 10, 12, 65] ?_;refine aH (S := Unit) (V := Unit) [6, 7, 11, 13, 14, 15, 16, 17, 18, 19, 74, 75, 76, 77, 78, 79, 80, 81, 82, 83, 84, 85, 86, 87, 88, 89, 90, 91, 92, 93, 94, 95, 96, 97, 98, 99, 100, 101, 102, 103, 104, 105, 106, 107, 108, 109, 110, 111, 112, 113, 114, 115, 116, 117, 118, 119, 120, 121, 122, 123, 124, 125, 126, 127, 128, 129, 130, 131] (fun _ _ => [(13, .c (.nils))]) (fun _ _ => [.box [.tree 2 (p1.vars.map ah.enc), .tree 1 (p1.in_.map (eK .i64)), .tree 1 (p1.out_.map (eK .i64)), .tree 6 (p1.rules.map ab.enc)], .mp Try.prog 3 (y7.2.1.map mIL), .box [.int .i64 y7.2.2.1, .int .i64 y7.2.2.2.1], .box [.tree 2 (y7.2.2.2.2.1.map ah.enc), .tree 1 (y7.2.2.2.2.2.1.map (eK .i64)), .tree 1 (y7.2.2.2.2.2.2.1.map (eK .i64)), .tree 6 (y7.2.2.2.2.2.2.2.map ab.enc), .optr 1 0], .box [.int .i64 ((y7.1).code), .int .i64 ((y7.1).at_)], .box [.int .i64 ((y18).code), .int .i64 ((y18).at_)], .box [.int .i64 ((y21).code), .int .i64 ((y21).at_)]]) (fun _ => False) ?_ ?_
           ·skip;refine ak [] ?_
            refine aw ?_
            cases hm
           ·rintro _ _ hm;exact hm.elim
       ·skip;simp only [Sum.elim_inl, Sum.elim_inr] at hm hq44
        obtain ⟨rfl, rfl⟩ := hq44;refine aa ?_;refine go ?_;refine hk _ _ ?_;clear hk hp k kp;refine ap fun k8 hk8 => ?_;refine bl [53, 54, 55, 56, 57, 58, 59, 60, 61, 62, 63, 64] fun k kp hk hp => ?_;refine ao 4 ?_;refine go ?_
        by_cases h51 : ¬ ((y7.1).code) = 0
        ·rw [iP h51] at hm;have h51b := bne_iff_ne.2 h51;refine aa ?_;refine gox h51b ?_;refine hk _ _ ?_;clear hk hp k kp;refine af rfl rfl ?_;refine bl [1, 2, 3, 7, 8, 9, 10, 11, 12, 65, 66, 67, 68, 69, 70, 71, 72, 73] fun k kp hk hp => ?_;refine ao 4 ?_;refine go ?_
         by_cases h52 : ((y7.1).code) = ((y18).code) ∧ ((y7.1).at_) = ((y18).at_)
         ·rw [iP h52] at hm
          have h52b : ((((y7.1).code) == ((y18).code)) && (((y7.1).at_) == ((y18).at_))) = true := by simpa [Bool.and_eq_true] using h52
          refine aa ?_;refine gox h52b ?_;refine hk _ _ ?_;clear hk hp k kp;refine am ?_;refine ag ?_
          cases hm
          exact kr 0
         ·rw [iN h52] at hm;have h52b : ((((y7.1).code) == ((y18).code)) && (((y7.1).at_) == ((y18).at_))) = false := fB (fun hh => h52 (by simpa [Bool.and_eq_true] using hh));refine aa ?_;refine gox h52b ?_;refine hk _ _ ?_;clear hk hp k kp;refine am ?_;refine ag ?_
          cases hm
          exact kr 0
        ·rw [iN h51] at hm;have h51b : (((y7.1).code) != 0) = false := bne_eq_false_iff_eq.2 (Decidable.not_not.1 h51);refine ao 5 ?_;refine gox h51b ?_
         by_cases h53 : ¬ ((y18).code) = 0
         ·rw [iP h53] at hm;have h53b := bne_iff_ne.2 h53;refine aa ?_;refine gox (a2 h51b h53b) ?_;refine hk _ _ ?_;clear hk hp k kp;refine af rfl rfl ?_;refine bl [1, 2, 3, 7, 8, 9, 10, 11, 12, 65, 66, 67, 68, 69, 70, 71, 72, 73] fun k kp hk hp => ?_;refine ao 4 ?_;refine go ?_
          by_cases h54 : ((y7.1).code) = ((y18).code) ∧ ((y7.1).at_) = ((y18).at_)
          ·rw [iP h54] at hm
           have h54b : ((((y7.1).code) == ((y18).code)) && (((y7.1).at_) == ((y18).at_))) = true := by simpa [Bool.and_eq_true] using h54
           refine aa ?_;refine gox h54b ?_;refine hk _ _ ?_;clear hk hp k kp;refine am ?_;refine ag ?_
           cases hm
           exact kr 0
          ·rw [iN h54] at hm;have h54b : ((((y7.1).code) == ((y18).code)) && (((y7.1).at_) == ((y18).at_))) = false := fB (fun hh => h54 (by simpa [Bool.and_eq_true] using hh));refine aa ?_;refine gox h54b ?_;refine hk _ _ ?_;clear hk hp k kp;refine am ?_;refine ag ?_
           cases hm
           exact kr 0
         ·rw [iN h53] at hm;have h53b : (((y18).code) != 0) = false := bne_eq_false_iff_eq.2 (Decidable.not_not.1 h53);refine aa ?_;refine gox (a2 h51b h53b) ?_;refine hk _ _ ?_;clear hk hp k kp
          by_cases h55 : ¬ ((y22.1).code) = 0
          ·rw [iP h55] at hm;refine af rfl (bne_iff_ne.2 h55) ?_;refine bl [1, 2, 3, 7, 8, 9, 10, 11, 12, 65, 66, 67, 68, 69, 70, 71, 72, 73] fun k kp hk hp => ?_;refine ao 4 ?_;refine go ?_
           by_cases h56 : ((y7.1).code) = ((y18).code) ∧ ((y7.1).at_) = ((y18).at_)
           ·rw [iP h56] at hm
            have h56b : ((((y7.1).code) == ((y18).code)) && (((y7.1).at_) == ((y18).at_))) = true := by simpa [Bool.and_eq_true] using h56
            refine aa ?_;refine gox h56b ?_;refine hk _ _ ?_;clear hk hp k kp;refine am ?_;refine ag ?_
            cases hm
            exact kr 0
           ·rw [iN h56] at hm;have h56b : ((((y7.1).code) == ((y18).code)) && (((y7.1).at_) == ((y18).at_))) = false := fB (fun hh => h56 (by simpa [Bool.and_eq_true] using hh));refine aa ?_;refine gox h56b ?_;refine hk _ _ ?_;clear hk hp k kp;refine am ?_;refine ag ?_
            cases hm
            exact kr 0
          ·rw [iN h55] at hm;refine ai rfl (bne_eq_false_iff_eq.2 (Decidable.not_not.1 h55)) ?_;refine au ?_;refine an (hk8 _ _ ?_);refine ak [8, 10, 12, 65] ?_;refine aH (S := Unit) (V := Unit) [6, 7, 11, 13, 14, 15, 16, 17, 18, 19, 74, 75, 76, 77, 78, 79, 80, 81, 82, 83, 84, 85, 86, 87, 88, 89, 90, 91, 92, 93, 94, 95, 96, 97, 98, 99, 100, 101, 102, 103, 104, 105, 106, 107, 108, 109, 110, 111, 112, 113, 114, 115, 116, 117, 118, 119, 120, 121, 122, 123, 124, 125, 126, 127, 128, 129, 130, 131] (fun _ _ => [(13, .c (.nils))]) (fun _ _ => [.box [.tree 2 (p1.vars.map ah.enc), .tree 1 (p1.in_.map (eK .i64)), .tree 1 (p1.out_.map (eK .i64)), .tree 6 (p1.rules.map ab.enc)], .mp Try.prog 3 (y7.2.1.map mIL), .box [.int .i64 y7.2.2.1, .int .i64 y7.2.2.2.1], .box [.tree 2 (y7.2.2.2.2.1.map ah.enc), .tree 1 (y7.2.2.2.2.2.1.map (eK .i64)), .tree 1 (y7.2.2.2.2.2.2.1.map (eK .i64)), .tree 6 (y7.2.2.2.2.2.2.2.map ab.enc), .optr 1 0], .box [.int .i64 ((y7.1).code), .int .i64 ((y7.1).at_)], .box [.int .i64 ((y18).code), .int .i64 ((y18).at_)], .mp Try.prog 3 (y22.2.1.map mIL), .box [.int .i64 y22.2.2.1, .int .i64 y22.2.2.2.1], .box [.tree 2 (y22.2.2.2.2.1.map ah.enc), .tree 1 (y22.2.2.2.2.2.1.map (eK .i64)), .tree 1 (y22.2.2.2.2.2.2.1.map (eK .i64)), .tree 6 (y22.2.2.2.2.2.2.2.map ab.enc), .optr 6 0], .box [.int .i64 ((y22.1).code), .int .i64 ((y22.1).at_)]]) (fun _ => False) ?_ ?_
           ·skip;refine ak [] ?_
            refine aw ?_
            cases hm
           ·rintro _ _ hm;exact hm.elim
      ·skip;simp only [Sum.elim_inl, Sum.elim_inr] at hm hq42
       obtain ⟨rfl, rfl⟩ := hq42;refine aa ?_;refine go ?_;refine hk _ _ ?_;clear hk hp k kp;refine aF [48, 49, 50, 51, 52] fun k kp hk hp => ?_;refine go ?_;obtain ⟨y23, hc57, hm⟩ := bd hm;refine RA (d4 p1  _ hc57) [] ?_;rintro p σ' hq58 _
       rcases y23 with y24 | y25
       ·skip;simp only [Sum.elim_inl, Sum.elim_inr] at hm hq58
        obtain ⟨rfl, rfl⟩ := hq58;refine aa ?_;refine go ?_;refine hk _ _ ?_;clear hk hp k kp;refine ap fun k9 hk9 => ?_;refine bl [53, 54, 55, 56, 57, 58, 59, 60, 61, 62, 63, 64] fun k kp hk hp => ?_;refine ao 4 ?_;refine go ?_
        by_cases h59 : ¬ ((y7.1).code) = 0
        ·rw [iP h59] at hm;have h59b := bne_iff_ne.2 h59;refine aa ?_;refine gox h59b ?_;refine hk _ _ ?_;clear hk hp k kp;refine af rfl rfl ?_;refine bl [1, 2, 3, 7, 8, 9, 10, 11, 12, 65, 66, 67, 68, 69, 70, 71, 72, 73] fun k kp hk hp => ?_;refine ao 4 ?_;refine go ?_
         by_cases h60 : ((y7.1).code) = ((y19.1).code) ∧ ((y7.1).at_) = ((y19.1).at_)
         ·rw [iP h60] at hm
          have h60b : ((((y7.1).code) == ((y19.1).code)) && (((y7.1).at_) == ((y19.1).at_))) = true := by simpa [Bool.and_eq_true] using h60
          refine aa ?_;refine gox h60b ?_;refine hk _ _ ?_;clear hk hp k kp;refine am ?_;refine ag ?_
          cases hm
          exact kr 0
         ·rw [iN h60] at hm;have h60b : ((((y7.1).code) == ((y19.1).code)) && (((y7.1).at_) == ((y19.1).at_))) = false := fB (fun hh => h60 (by simpa [Bool.and_eq_true] using hh));refine aa ?_;refine gox h60b ?_;refine hk _ _ ?_;clear hk hp k kp;refine am ?_;refine ag ?_
          cases hm
          exact kr 0
        ·rw [iN h59] at hm;have h59b : (((y7.1).code) != 0) = false := bne_eq_false_iff_eq.2 (Decidable.not_not.1 h59);refine ao 5 ?_;refine gox h59b ?_
         by_cases h61 : ¬ ((y19.1).code) = 0
         ·rw [iP h61] at hm;have h61b := bne_iff_ne.2 h61;refine aa ?_;refine gox (a2 h59b h61b) ?_;refine hk _ _ ?_;clear hk hp k kp;refine af rfl rfl ?_;refine bl [1, 2, 3, 7, 8, 9, 10, 11, 12, 65, 66, 67, 68, 69, 70, 71, 72, 73] fun k kp hk hp => ?_;refine ao 4 ?_;refine go ?_
          by_cases h62 : ((y7.1).code) = ((y19.1).code) ∧ ((y7.1).at_) = ((y19.1).at_)
          ·rw [iP h62] at hm
           have h62b : ((((y7.1).code) == ((y19.1).code)) && (((y7.1).at_) == ((y19.1).at_))) = true := by simpa [Bool.and_eq_true] using h62
           refine aa ?_;refine gox h62b ?_;refine hk _ _ ?_;clear hk hp k kp;refine am ?_;refine ag ?_
           cases hm
           exact kr 0
          ·rw [iN h62] at hm;have h62b : ((((y7.1).code) == ((y19.1).code)) && (((y7.1).at_) == ((y19.1).at_))) = false := fB (fun hh => h62 (by simpa [Bool.and_eq_true] using hh));refine aa ?_;refine gox h62b ?_;refine hk _ _ ?_;clear hk hp k kp;refine am ?_;refine ag ?_
           cases hm
           exact kr 0
         ·rw [iN h61] at hm;have h61b : (((y19.1).code) != 0) = false := bne_eq_false_iff_eq.2 (Decidable.not_not.1 h61);refine aa ?_;refine gox (a2 h59b h61b) ?_;refine hk _ _ ?_;clear hk hp k kp
          by_cases h63 : ¬ ((y24).code) = 0
          ·rw [iP h63] at hm;refine af rfl (bne_iff_ne.2 h63) ?_;refine bl [1, 2, 3, 7, 8, 9, 10, 11, 12, 65, 66, 67, 68, 69, 70, 71, 72, 73] fun k kp hk hp => ?_;refine ao 4 ?_;refine go ?_
           by_cases h64 : ((y7.1).code) = ((y19.1).code) ∧ ((y7.1).at_) = ((y19.1).at_)
           ·rw [iP h64] at hm
            have h64b : ((((y7.1).code) == ((y19.1).code)) && (((y7.1).at_) == ((y19.1).at_))) = true := by simpa [Bool.and_eq_true] using h64
            refine aa ?_;refine gox h64b ?_;refine hk _ _ ?_;clear hk hp k kp;refine am ?_;refine ag ?_
            cases hm
            exact kr 0
           ·rw [iN h64] at hm;have h64b : ((((y7.1).code) == ((y19.1).code)) && (((y7.1).at_) == ((y19.1).at_))) = false := fB (fun hh => h64 (by simpa [Bool.and_eq_true] using hh));refine aa ?_;refine gox h64b ?_;refine hk _ _ ?_;clear hk hp k kp;refine am ?_;refine ag ?_
            cases hm
            exact kr 0
          ·rw [iN h63] at hm;refine ai rfl (bne_eq_false_iff_eq.2 (Decidable.not_not.1 h63)) ?_;refine au ?_;refine an (hk9 _ _ ?_);refine ak [8, 10, 12, 65] ?_;refine aH (S := Unit) (V := Unit) [6, 7, 11, 13, 14, 15, 16, 17, 18, 19, 74, 75, 76, 77, 78, 79, 80, 81, 82, 83, 84, 85, 86, 87, 88, 89, 90, 91, 92, 93, 94, 95, 96, 97, 98, 99, 100, 101, 102, 103, 104, 105, 106, 107, 108, 109, 110, 111, 112, 113, 114, 115, 116, 117, 118, 119, 120, 121, 122, 123, 124, 125, 126, 127, 128, 129, 130, 131] (fun _ _ => [(13, .c (.nils))]) (fun _ _ => [.box [.tree 2 (p1.vars.map ah.enc), .tree 1 (p1.in_.map (eK .i64)), .tree 1 (p1.out_.map (eK .i64)), .tree 6 (p1.rules.map ab.enc)], .mp Try.prog 3 (y7.2.1.map mIL), .box [.int .i64 y7.2.2.1, .int .i64 y7.2.2.2.1], .box [.tree 2 (y7.2.2.2.2.1.map ah.enc), .tree 1 (y7.2.2.2.2.2.1.map (eK .i64)), .tree 1 (y7.2.2.2.2.2.2.1.map (eK .i64)), .tree 6 (y7.2.2.2.2.2.2.2.map ab.enc), .optr 1 0], .box [.int .i64 ((y7.1).code), .int .i64 ((y7.1).at_)], .mp Try.prog 3 (y19.2.1.map mIL), .box [.int .i64 y19.2.2.1, .int .i64 y19.2.2.2.1], .box [.tree 2 (y19.2.2.2.2.1.map ah.enc), .tree 1 (y19.2.2.2.2.2.1.map (eK .i64)), .tree 1 (y19.2.2.2.2.2.2.1.map (eK .i64)), .tree 6 (y19.2.2.2.2.2.2.2.map ab.enc), .optr 5 0], .box [.int .i64 ((y19.1).code), .int .i64 ((y19.1).at_)], .box [.int .i64 ((y24).code), .int .i64 ((y24).at_)]]) (fun _ => False) ?_ ?_
           ·skip;refine ak [] ?_
            refine aw ?_
            cases hm
           ·rintro _ _ hm;exact hm.elim
       ·skip;simp only [Sum.elim_inl, Sum.elim_inr] at hm hq58
        obtain ⟨rfl, rfl⟩ := hq58;refine aa ?_;refine go ?_;refine hk _ _ ?_;clear hk hp k kp;refine ap fun k10 hk10 => ?_;refine bl [53, 54, 55, 56, 57, 58, 59, 60, 61, 62, 63, 64] fun k kp hk hp => ?_;refine ao 4 ?_;refine go ?_
        by_cases h65 : ¬ ((y7.1).code) = 0
        ·rw [iP h65] at hm;have h65b := bne_iff_ne.2 h65;refine aa ?_;refine gox h65b ?_;refine hk _ _ ?_;clear hk hp k kp;refine af rfl rfl ?_;refine bl [1, 2, 3, 7, 8, 9, 10, 11, 12, 65, 66, 67, 68, 69, 70, 71, 72, 73] fun k kp hk hp => ?_;refine ao 4 ?_;refine go ?_
         by_cases h66 : ((y7.1).code) = ((y19.1).code) ∧ ((y7.1).at_) = ((y19.1).at_)
         ·rw [iP h66] at hm
          have h66b : ((((y7.1).code) == ((y19.1).code)) && (((y7.1).at_) == ((y19.1).at_))) = true := by simpa [Bool.and_eq_true] using h66
          refine aa ?_;refine gox h66b ?_;refine hk _ _ ?_;clear hk hp k kp;refine am ?_;refine ag ?_
          cases hm
          exact kr 0
         ·rw [iN h66] at hm;have h66b : ((((y7.1).code) == ((y19.1).code)) && (((y7.1).at_) == ((y19.1).at_))) = false := fB (fun hh => h66 (by simpa [Bool.and_eq_true] using hh));refine aa ?_;refine gox h66b ?_;refine hk _ _ ?_;clear hk hp k kp;refine am ?_;refine ag ?_
          cases hm
          exact kr 0
        ·rw [iN h65] at hm;have h65b : (((y7.1).code) != 0) = false := bne_eq_false_iff_eq.2 (Decidable.not_not.1 h65);refine ao 5 ?_;refine gox h65b ?_
         by_cases h67 : ¬ ((y19.1).code) = 0
         ·rw [iP h67] at hm;have h67b := bne_iff_ne.2 h67;refine aa ?_;refine gox (a2 h65b h67b) ?_;refine hk _ _ ?_;clear hk hp k kp;refine af rfl rfl ?_;refine bl [1, 2, 3, 7, 8, 9, 10, 11, 12, 65, 66, 67, 68, 69, 70, 71, 72, 73] fun k kp hk hp => ?_;refine ao 4 ?_;refine go ?_
          by_cases h68 : ((y7.1).code) = ((y19.1).code) ∧ ((y7.1).at_) = ((y19.1).at_)
          ·rw [iP h68] at hm
           have h68b : ((((y7.1).code) == ((y19.1).code)) && (((y7.1).at_) == ((y19.1).at_))) = true := by simpa [Bool.and_eq_true] using h68
           refine aa ?_;refine gox h68b ?_;refine hk _ _ ?_;clear hk hp k kp;refine am ?_;refine ag ?_
           cases hm
           exact kr 0
          ·rw [iN h68] at hm;have h68b : ((((y7.1).code) == ((y19.1).code)) && (((y7.1).at_) == ((y19.1).at_))) = false := fB (fun hh => h68 (by simpa [Bool.and_eq_true] using hh));refine aa ?_;refine gox h68b ?_;refine hk _ _ ?_;clear hk hp k kp;refine am ?_;refine ag ?_
           cases hm
           exact kr 0
         ·rw [iN h67] at hm;have h67b : (((y19.1).code) != 0) = false := bne_eq_false_iff_eq.2 (Decidable.not_not.1 h67);refine aa ?_;refine gox (a2 h65b h67b) ?_;refine hk _ _ ?_;clear hk hp k kp
          by_cases h69 : ¬ ((y25.1).code) = 0
          ·rw [iP h69] at hm;refine af rfl (bne_iff_ne.2 h69) ?_;refine bl [1, 2, 3, 7, 8, 9, 10, 11, 12, 65, 66, 67, 68, 69, 70, 71, 72, 73] fun k kp hk hp => ?_;refine ao 4 ?_;refine go ?_
           by_cases h70 : ((y7.1).code) = ((y19.1).code) ∧ ((y7.1).at_) = ((y19.1).at_)
           ·rw [iP h70] at hm
            have h70b : ((((y7.1).code) == ((y19.1).code)) && (((y7.1).at_) == ((y19.1).at_))) = true := by simpa [Bool.and_eq_true] using h70
            refine aa ?_;refine gox h70b ?_;refine hk _ _ ?_;clear hk hp k kp;refine am ?_;refine ag ?_
            cases hm
            exact kr 0
           ·rw [iN h70] at hm;have h70b : ((((y7.1).code) == ((y19.1).code)) && (((y7.1).at_) == ((y19.1).at_))) = false := fB (fun hh => h70 (by simpa [Bool.and_eq_true] using hh));refine aa ?_;refine gox h70b ?_;refine hk _ _ ?_;clear hk hp k kp;refine am ?_;refine ag ?_
            cases hm
            exact kr 0
          ·rw [iN h69] at hm;refine ai rfl (bne_eq_false_iff_eq.2 (Decidable.not_not.1 h69)) ?_;refine au ?_;refine an (hk10 _ _ ?_);refine ak [8, 10, 12, 65] ?_;refine dq (fg 13 1 38 (by decide) rfl (Nat.le_of_ble_eq_true rfl)) ?_;refine ma ?_;refine aH (S := ((List (Int × List Int)) × (List (Int × List Int)) × (List (Int × List Int)) × (List (List Int)))) (V := Nat) [6, 7, 11, 13, 14, 15, 16, 17, 18, 19, 74, 75, 76, 77, 78, 79, 80, 81, 82, 83, 84, 85, 86, 87, 88, 89, 90, 91, 92, 93, 94, 95, 96, 97, 98, 99, 100, 101, 102, 103, 104, 105, 106, 107, 108, 109, 110, 111, 112, 113, 114, 115, 116, 117, 118, 119, 120, 121, 122, 123, 124, 125, 126, 127, 128, 129, 130, 131] (fun (l31, l32, l33, l34) v35 => [(13, .c (.osl 13 v35 0 l34.length))]) (fun (l31, l32, l33, l34) v35 => [.box [.tree 2 (p1.vars.map ah.enc), .tree 1 (p1.in_.map (eK .i64)), .tree 1 (p1.out_.map (eK .i64)), .tree 6 (p1.rules.map ab.enc)], .mp Try.prog 3 (l31.map mIL), .box [.int .i64 y7.2.2.1, .int .i64 y7.2.2.2.1], .box [.tree 2 (y7.2.2.2.2.1.map ah.enc), .tree 1 (y7.2.2.2.2.2.1.map (eK .i64)), .tree 1 (y7.2.2.2.2.2.2.1.map (eK .i64)), .tree 6 (y7.2.2.2.2.2.2.2.map ab.enc), .optr 1 0], .box [.int .i64 ((y7.1).code), .int .i64 ((y7.1).at_)], .mp Try.prog 3 (l32.map mIL), .box [.int .i64 y19.2.2.1, .int .i64 y19.2.2.2.1], .box [.tree 2 (y19.2.2.2.2.1.map ah.enc), .tree 1 (y19.2.2.2.2.2.1.map (eK .i64)), .tree 1 (y19.2.2.2.2.2.2.1.map (eK .i64)), .tree 6 (y19.2.2.2.2.2.2.2.map ab.enc), .optr 5 0], .box [.int .i64 ((y19.1).code), .int .i64 ((y19.1).at_)], .mp Try.prog 3 (l33.map mIL), .box [.int .i64 y25.2.2.1, .int .i64 y25.2.2.2.1], .box [.tree 2 (y25.2.2.2.2.1.map ah.enc), .tree 1 (y25.2.2.2.2.2.1.map (eK .i64)), .tree 1 (y25.2.2.2.2.2.2.1.map (eK .i64)), .tree 6 (y25.2.2.2.2.2.2.2.map ab.enc), .optr 9 0], .box [.int .i64 ((y25.1).code), .int .i64 ((y25.1).at_)], .arr 1 v35 38 (l34.map (eL 1 (eK .i64)))]) (fun (l31, l32, l33, l34) => eV p1 p2 p3 y19 l31 l32 l33 l34 = some r) ?_ ?_
           ·skip;refine ak [] ?_
            refine aw ?_;obtain ⟨o3, hl3, hm3⟩ := bd hm;refine bj (S := ((List (Int × List Int)) × (List (Int × List Int)) × (List (Int × List Int)) × (List (List Int)) × Int)) (V := Nat) (O := ((List (Int × List Int)) × (List (Int × List Int)) × (List (Int × List Int)) × (List (List Int))) ⊕ Bool) [6, 13, 14, 15, 16, 17, 18, 19, 74, 75, 76, 77, 78, 79, 80, 81, 82, 83, 84, 85, 86, 87, 88, 89, 90, 91, 92, 93, 94, 95, 96, 97, 98, 99, 100, 101, 102, 103, 104, 105, 106, 107, 108, 109, 110, 111, 112, 113, 114, 115, 116, 117, 118, 119, 120, 121, 122, 123, 124, 125, 126, 127, 128, 129, 130, 131] (fun (l116, l117, l118, l119, x121) v120 => [(13, .c (.osl 13 v120 0 l119.length)), (14, .c (.int .i64 x121))]) (fun (l116, l117, l118, l119, x121) v120 => [.box [.tree 2 (p1.vars.map ah.enc), .tree 1 (p1.in_.map (eK .i64)), .tree 1 (p1.out_.map (eK .i64)), .tree 6 (p1.rules.map ab.enc)], .mp Try.prog 3 (l116.map mIL), .box [.int .i64 y7.2.2.1, .int .i64 y7.2.2.2.1], .box [.tree 2 (y7.2.2.2.2.1.map ah.enc), .tree 1 (y7.2.2.2.2.2.1.map (eK .i64)), .tree 1 (y7.2.2.2.2.2.2.1.map (eK .i64)), .tree 6 (y7.2.2.2.2.2.2.2.map ab.enc), .optr 1 0], .box [.int .i64 ((y7.1).code), .int .i64 ((y7.1).at_)], .mp Try.prog 3 (l117.map mIL), .box [.int .i64 y19.2.2.1, .int .i64 y19.2.2.2.1], .box [.tree 2 (y19.2.2.2.2.1.map ah.enc), .tree 1 (y19.2.2.2.2.2.1.map (eK .i64)), .tree 1 (y19.2.2.2.2.2.2.1.map (eK .i64)), .tree 6 (y19.2.2.2.2.2.2.2.map ab.enc), .optr 5 0], .box [.int .i64 ((y19.1).code), .int .i64 ((y19.1).at_)], .mp Try.prog 3 (l118.map mIL), .box [.int .i64 y25.2.2.1, .int .i64 y25.2.2.2.1], .box [.tree 2 (y25.2.2.2.2.1.map ah.enc), .tree 1 (y25.2.2.2.2.2.1.map (eK .i64)), .tree 1 (y25.2.2.2.2.2.2.1.map (eK .i64)), .tree 6 (y25.2.2.2.2.2.2.2.map ab.enc), .optr 9 0], .box [.int .i64 ((y25.1).code), .int .i64 ((y25.1).at_)], .arr 1 v120 38 (l119.map (eL 1 (eK .i64)))]) _ _ 0 hl3 ?_ ?_
            ·exact ls
            ·rintro ⟨l116, l117, l118, l119, x121⟩ v120 r3 hm hr3;replace hm : cN p2 y7 y19 y25 l116 l117 l118 l119 x121 = some r3 := hm;refine aM ?_;unfold cN at hm;refine ap fun k15 hk15 => ?_;refine ak [74, 75, 76] ?_
             by_cases h87 : x121 < (p2.length : Int)
             ·rw [iP h87] at hm;refine af rfl (dT h87) ?_;refine au ?_;refine an (hk15 _ _ ?_);refine ap fun k16 hk16 => ?_;refine aw ?_;obtain ⟨hg88a, hm⟩ := gd hm;refine aF [77, 80, 81, 82, 83, 84, 85, 86, 87, 88] fun k kp hk hp => ?_;refine gox (em (eL 1 (eK .i64)) p2 x121.toNat) ?_;obtain ⟨y122, hc89, hm⟩ := bd hm;refine RA (bY (p2.getD x121.toNat default) y7.2.2.2.2.1 y7.2.2.2.2.2.1 y7.2.2.2.2.2.2.1 y7.2.2.2.2.2.2.2 l116 0 _ hc89) [3, 1] ?_;rintro p σ' ⟨rfl, rfl⟩ _;refine aa ?_;refine go ?_;refine hk _ _ ?_;clear hk hp k kp;refine aF [89, 90, 91, 92, 93, 94, 95, 96, 97] fun k kp hk hp => ?_;refine gox (em (eL 1 (eK .i64)) p2 x121.toNat) ?_;obtain ⟨y123, hc91, hm⟩ := bd hm;refine RA (bY (p2.getD x121.toNat default) y19.2.2.2.2.1 y19.2.2.2.2.2.1 y19.2.2.2.2.2.2.1 y19.2.2.2.2.2.2.2 l117 0 _ hc91) [7, 5] ?_;rintro p σ' ⟨rfl, rfl⟩ _;refine aa ?_;refine go ?_;refine hk _ _ ?_;clear hk hp k kp;refine ap fun k17 hk17 => ?_;refine bl [17, 18, 98, 99, 100, 101, 102, 103, 104, 105] fun k kp hk hp => ?_;refine ao 4 ?_;refine go ?_
              by_cases h93 : ((y122.2.1).code) = ((y123.2.1).code) ∧ ((y122.2.1).at_) = ((y123.2.1).at_)
              ·rw [iP h93] at hm
               have h93b : ((((y122.2.1).code) == ((y123.2.1).code)) && (((y122.2.1).at_) == ((y123.2.1).at_))) = true := by simpa [Bool.and_eq_true] using h93
               have h93c : (!((((y122.2.1).code) == ((y123.2.1).code)) && (((y122.2.1).at_) == ((y123.2.1).at_)))) = false := by rw [h93b]; rfl
               refine aa ?_;refine gox (a2 h93b h93c) ?_;obtain ⟨y124, hc94, hm⟩ := bd hm;refine RP (fun _ => fm y122.1 y123.1 _ hc94) ?_;refine aa ?_;refine gox (a2 h93b h93c) ?_;refine hk _ _ ?_;clear hk hp k kp
               by_cases h95 : y124 = true
               ·rw [iP h95] at hm;refine ai rfl (by rw [show y124 = true from (h95)]; rfl) ?_;refine au ?_;refine an (hk17 _ _ ?_);obtain ⟨⟨hg96ax, hg96ay⟩, hm⟩ := gd hm;refine ak [106, 107, 108, 109, 110] ?_;refine fo [.box [.tree 2 (p1.vars.map ah.enc), .tree 1 (p1.in_.map (eK .i64)), .tree 1 (p1.out_.map (eK .i64)), .tree 6 (p1.rules.map ab.enc)], .mp Try.prog 3 (y122.2.2.map mIL), .box [.int .i64 y7.2.2.1, .int .i64 y7.2.2.2.1], .box [.tree 2 (y7.2.2.2.2.1.map ah.enc), .tree 1 (y7.2.2.2.2.2.1.map (eK .i64)), .tree 1 (y7.2.2.2.2.2.2.1.map (eK .i64)), .tree 6 (y7.2.2.2.2.2.2.2.map ab.enc), .optr 1 0], .box [.int .i64 ((y7.1).code), .int .i64 ((y7.1).at_)], .mp Try.prog 3 (y123.2.2.map mIL), .box [.int .i64 y19.2.2.1, .int .i64 y19.2.2.2.1], .box [.tree 2 (y19.2.2.2.2.1.map ah.enc), .tree 1 (y19.2.2.2.2.2.1.map (eK .i64)), .tree 1 (y19.2.2.2.2.2.2.1.map (eK .i64)), .tree 6 (y19.2.2.2.2.2.2.2.map ab.enc), .optr 5 0], .box [.int .i64 ((y19.1).code), .int .i64 ((y19.1).at_)], .mp Try.prog 3 (l118.map mIL), .box [.int .i64 y25.2.2.1, .int .i64 y25.2.2.2.1], .box [.tree 2 (y25.2.2.2.2.1.map ah.enc), .tree 1 (y25.2.2.2.2.2.1.map (eK .i64)), .tree 1 (y25.2.2.2.2.2.2.1.map (eK .i64)), .tree 6 (y25.2.2.2.2.2.2.2.map ab.enc), .optr 9 0], .box [.int .i64 ((y25.1).code), .int .i64 ((y25.1).at_)], .arr 1 (v120 + 1) 38 ((l119 ++ (lit ([y122.1] : List (List Int)))).map (eL 1 (eK .i64))), .box [.int .i64 ((y122.2.1).code), .int .i64 ((y122.2.1).at_)], .box [.int .i64 ((y123.2.1).code), .int .i64 ((y123.2.1).at_)], .arr 1 0 38 ((lit ([y122.1] : List (List Int))).map (eL 1 (eK .i64)))] ?_;refine ap fun k18 hk18 => ?_;refine ak [111, 112] ?_
                by_cases h97 : ¬ ((y122.2.1).code) = 0
                ·rw [iP h97] at hm;refine af rfl (bne_iff_ne.2 h97) ?_;refine bB ?_;refine bg (aG ?_);refine an (hk16 _ _ ?_);refine ck ?_;refine aL (y122.2.2, y123.2.2, l118, (l119 ++ (lit ([y122.1] : List (List Int)))), (IntKind.wrap .i64 (x121 + 1))) (v120 + 1) hm ?_;exact ls
                ·rw [iN h97] at hm;refine ai rfl (bne_eq_false_iff_eq.2 (Decidable.not_not.1 h97)) ?_;refine au ?_;refine an (hk18 _ _ ?_);refine aF [113, 114, 115, 116, 117, 118, 119, 120, 121, 122] fun k kp hk hp => ?_;refine gox (em (eL 1 (eK .i64)) p2 x121.toNat) ?_;obtain ⟨y125, hc98, hm⟩ := bd hm;refine RA (bY (p2.getD x121.toNat default) y25.2.2.2.2.1 y25.2.2.2.2.2.1 y25.2.2.2.2.2.2.1 y25.2.2.2.2.2.2.2 l118 0 _ hc98) [11, 9] ?_;rintro p σ' ⟨rfl, rfl⟩ _;refine aa ?_;refine go ?_;refine hk _ _ ?_;clear hk hp k kp;refine bl [15, 16, 19, 123, 124, 125, 126, 127, 128, 129, 130] fun k kp hk hp => ?_;refine ao 4 ?_;refine go ?_
                 by_cases h100 : ¬ ((y125.2.1).code) = 0
                 ·rw [iP h100] at hm;have h100b := bne_iff_ne.2 h100;refine aa ?_;refine gox h100b ?_;refine hk _ _ ?_;clear hk hp k kp;refine af rfl rfl ?_;refine ak [1, 2, 3, 7, 9, 11, 13, 14, 131] ?_;have ho101 := aQ hm hr3;subst ho101;replace hm : some false = some r := hm3;refine am ?_;refine aj (ag (bC (aj (aZ ?_))))
                  cases hm
                  exact kr 0
                 ·rw [iN h100] at hm;have h100b : (((y125.2.1).code) != 0) = false := bne_eq_false_iff_eq.2 (Decidable.not_not.1 h100);refine aa ?_;refine gox h100b ?_;obtain ⟨y126, hc102, hm⟩ := bd hm;refine RP (fun _ => fm y122.1 y125.1 _ hc102) ?_;refine aa ?_;refine gox h100b ?_;refine hk _ _ ?_;clear hk hp k kp
                  by_cases h103 : y126 = true
                  ·rw [iP h103] at hm;refine ai rfl (by rw [show y126 = true from (h103)]; rfl) ?_;refine au ?_;refine aB ?_;refine an (hk16 _ _ ?_);refine ck ?_;refine aL (y122.2.2, y123.2.2, y125.2.2, (l119 ++ (lit ([y122.1] : List (List Int)))), (IntKind.wrap .i64 (x121 + 1))) (v120 + 1) hm ?_;exact ls
                  ·rw [iN h103] at hm;refine af rfl (by rw [show y126 = false from (fB h103)]; rfl) ?_;refine ak [1, 2, 3, 7, 9, 11, 13, 14, 131] ?_;have ho104 := aQ hm hr3;subst ho104;replace hm : some false = some r := hm3;refine am ?_;refine aj (ag (bC (aj (aZ ?_))))
                   cases hm
                   exact kr 0
               ·rw [iN h95] at hm;refine af rfl (by rw [show y124 = false from (fB h95)]; rfl) ?_;refine ak [1, 2, 3, 7, 9, 11, 13, 14, 15, 16, 106] ?_;have ho105 := aQ hm hr3;subst ho105;replace hm : some false = some r := hm3;refine am ?_;refine ag (aj (ag (bC (aj (aZ ?_)))))
                cases hm
                exact kr 0
              ·rw [iN h93] at hm;have h93b : ((((y122.2.1).code) == ((y123.2.1).code)) && (((y122.2.1).at_) == ((y123.2.1).at_))) = false := fB (fun hh => h93 (by simpa [Bool.and_eq_true] using hh))
               have h93c : (!((((y122.2.1).code) == ((y123.2.1).code)) && (((y122.2.1).at_) == ((y123.2.1).at_)))) = true := by rw [h93b]; rfl
               refine aa ?_;refine gox (a2 h93b h93c) ?_;refine hk _ _ ?_;clear hk hp k kp;refine af rfl rfl ?_;refine ak [1, 2, 3, 7, 9, 11, 13, 14, 15, 16, 106] ?_;have ho106 := aQ hm hr3;subst ho106;replace hm : some false = some r := hm3;refine am ?_;refine ag (aj (ag (bC (aj (aZ ?_)))))
               cases hm
               exact kr 0
             ·rw [iN h87] at hm;refine ai rfl (dF h87) ?_;refine bB ?_;have ho107 := aQ hm hr3;subst ho107;replace hm : eV p1 p2 p3 y19 l116 l117 l118 l119 = some r := hm3;refine bg (aY (aG ?_));refine ay (l116, l117, l118, l119) v120 hm ?_;exact ls
           ·rintro ⟨l31, l32, l33, l34⟩ v35 hm;replace hm : eV p1 p2 p3 y19 l31 l32 l33 l34 = some r := hm;refine aM ?_;unfold eV at hm;refine aH (S := (List (Int × List Int))) (V := Nat) [2, 9, 13, 20, 132, 133, 134, 135, 136, 137, 138, 139, 140, 141, 142, 143] (fun l38 v39 => [(13, .c (.osl 13 v39 0 l34.length))]) (fun l38 v39 => [.box [.tree 2 (p1.vars.map ah.enc), .tree 1 (p1.in_.map (eK .i64)), .tree 1 (p1.out_.map (eK .i64)), .tree 6 (p1.rules.map ab.enc)], .mp Try.prog 3 (l31.map mIL), .box [.int .i64 y7.2.2.1, .int .i64 y7.2.2.2.1], .box [.tree 2 (y7.2.2.2.2.1.map ah.enc), .tree 1 (y7.2.2.2.2.2.1.map (eK .i64)), .tree 1 (y7.2.2.2.2.2.2.1.map (eK .i64)), .tree 6 (y7.2.2.2.2.2.2.2.map ab.enc), .optr 1 0], .box [.int .i64 ((y7.1).code), .int .i64 ((y7.1).at_)], .mp Try.prog 3 (l38.map mIL), .box [.int .i64 y19.2.2.1, .int .i64 y19.2.2.2.1], .box [.tree 2 (y19.2.2.2.2.1.map ah.enc), .tree 1 (y19.2.2.2.2.2.1.map (eK .i64)), .tree 1 (y19.2.2.2.2.2.2.1.map (eK .i64)), .tree 6 (y19.2.2.2.2.2.2.2.map ab.enc), .optr 5 0], .box [.int .i64 ((y19.1).code), .int .i64 ((y19.1).at_)], .mp Try.prog 3 (l33.map mIL), .box [.int .i64 y25.2.2.1, .int .i64 y25.2.2.2.1], .box [.tree 2 (y25.2.2.2.2.1.map ah.enc), .tree 1 (y25.2.2.2.2.2.1.map (eK .i64)), .tree 1 (y25.2.2.2.2.2.2.1.map (eK .i64)), .tree 6 (y25.2.2.2.2.2.2.2.map ab.enc), .optr 9 0], .box [.int .i64 ((y25.1).code), .int .i64 ((y25.1).at_)], .arr 1 v39 38 (l34.map (eL 1 (eK .i64)))]) (fun l38 => eU p1 p2 l34 l38 = some r) ?_ ?_
            ·skip;refine ak [] ?_
             refine aw ?_;obtain ⟨o2, hl2, hm2⟩ := bd hm;refine bj (S := ((List (Int × List Int)) × Int)) (V := Nat) (O := (List (Int × List Int))) [13, 20, 132, 133, 134, 135, 136, 137, 138, 139, 140, 141, 142, 143] (fun (l84, x86) v85 => [(13, .c (.osl 13 v85 0 l34.length)), (20, .c (.int .i64 x86))]) (fun (l84, x86) v85 => [.box [.tree 2 (p1.vars.map ah.enc), .tree 1 (p1.in_.map (eK .i64)), .tree 1 (p1.out_.map (eK .i64)), .tree 6 (p1.rules.map ab.enc)], .mp Try.prog 3 (l31.map mIL), .box [.int .i64 y7.2.2.1, .int .i64 y7.2.2.2.1], .box [.tree 2 (y7.2.2.2.2.1.map ah.enc), .tree 1 (y7.2.2.2.2.2.1.map (eK .i64)), .tree 1 (y7.2.2.2.2.2.2.1.map (eK .i64)), .tree 6 (y7.2.2.2.2.2.2.2.map ab.enc), .optr 1 0], .box [.int .i64 ((y7.1).code), .int .i64 ((y7.1).at_)], .mp Try.prog 3 (l84.map mIL), .box [.int .i64 y19.2.2.1, .int .i64 y19.2.2.2.1], .box [.tree 2 (y19.2.2.2.2.1.map ah.enc), .tree 1 (y19.2.2.2.2.2.1.map (eK .i64)), .tree 1 (y19.2.2.2.2.2.2.1.map (eK .i64)), .tree 6 (y19.2.2.2.2.2.2.2.map ab.enc), .optr 5 0], .box [.int .i64 ((y19.1).code), .int .i64 ((y19.1).at_)], .mp Try.prog 3 (l33.map mIL), .box [.int .i64 y25.2.2.1, .int .i64 y25.2.2.2.1], .box [.tree 2 (y25.2.2.2.2.1.map ah.enc), .tree 1 (y25.2.2.2.2.2.1.map (eK .i64)), .tree 1 (y25.2.2.2.2.2.2.1.map (eK .i64)), .tree 6 (y25.2.2.2.2.2.2.2.map ab.enc), .optr 9 0], .box [.int .i64 ((y25.1).code), .int .i64 ((y25.1).at_)], .arr 1 v85 38 (l34.map (eL 1 (eK .i64)))]) _ _ v35 hl2 ?_ ?_
             ·exact ls
             ·rintro ⟨l84, x86⟩ v85 r2 hm hr2;replace hm : cM p3 y19 l84 x86 = some r2 := hm;refine aM ?_;unfold cM at hm;refine ap fun k13 hk13 => ?_;refine ak [132, 133, 134] ?_
              by_cases h82 : x86 < (p3.length : Int)
              ·rw [iP h82] at hm;refine af rfl (dT h82) ?_;refine au ?_;refine an (hk13 _ _ ?_);refine ap fun k14 hk14 => ?_;refine aw ?_;obtain ⟨hg83a, hm⟩ := gd hm;refine je fun k kp hk hp => ?_;refine gox (em (eL 1 (eK .i64)) p3 x86.toNat) ?_;obtain ⟨y87, hc84, hm⟩ := bd hm;refine RA (bY (p3.getD x86.toNat default) y19.2.2.2.2.1 y19.2.2.2.2.2.1 y19.2.2.2.2.2.2.1 y19.2.2.2.2.2.2.2 l84 0 _ hc84) [7, 5] ?_;rintro p σ' ⟨rfl, rfl⟩ _;refine aa ?_;refine gox (em (eL 1 (eK .i64)) p3 x86.toNat) ?_;refine hk _ _ ?_;clear hk hp k kp;refine aB ?_;refine an (hk14 _ _ ?_);refine ck ?_;refine aL (y87.2.2, (IntKind.wrap .i64 (x86 + 1))) v85 hm ?_;exact ls
              ·rw [iN h82] at hm;refine ai rfl (dF h82) ?_;refine bB ?_;have ho86 := aQ hm hr2;subst ho86;replace hm : eU p1 p2 l34 l84 = some r := hm2;refine bg (aY (aG ?_));refine ay l84 v85 hm ?_;exact ls
            ·rintro l38 v39 hm;replace hm : eU p1 p2 l34 l38 = some r := hm;refine aM ?_;unfold eU at hm;refine aF [3, 22, 144, 145, 146, 147, 148] fun k kp hk hp => ?_;refine go ?_;obtain ⟨y40, hc71, hm⟩ := bd hm;refine RA (d4 p1  _ hc71) [] ?_;rintro p σ' hq72 _
             rcases y40 with y41 | y42
             ·skip;simp only [Sum.elim_inl, Sum.elim_inr] at hm hq72
              obtain ⟨rfl, rfl⟩ := hq72;refine aa ?_;refine go ?_;refine hk _ _ ?_;clear hk hp k kp;refine aH (S := Unit) (V := Nat) [1, 6, 13, 21, 23, 24, 25, 149, 150, 151, 152, 153, 154, 155, 156, 157, 158, 159, 160, 161, 162, 163, 164, 165, 166, 167, 168, 169, 170] (fun _ v44 => []) (fun _ v44 => [.box [.tree 2 (p1.vars.map ah.enc), .tree 1 (p1.in_.map (eK .i64)), .tree 1 (p1.out_.map (eK .i64)), .tree 6 (p1.rules.map ab.enc)], .mp Try.prog 3 (l31.map mIL), .box [.int .i64 y7.2.2.1, .int .i64 y7.2.2.2.1], .box [.tree 2 (y7.2.2.2.2.1.map ah.enc), .tree 1 (y7.2.2.2.2.2.1.map (eK .i64)), .tree 1 (y7.2.2.2.2.2.2.1.map (eK .i64)), .tree 6 (y7.2.2.2.2.2.2.2.map ab.enc), .optr 1 0], .box [.int .i64 ((y7.1).code), .int .i64 ((y7.1).at_)], .mp Try.prog 3 (l38.map mIL), .box [.int .i64 y19.2.2.1, .int .i64 y19.2.2.2.1], .box [.tree 2 (y19.2.2.2.2.1.map ah.enc), .tree 1 (y19.2.2.2.2.2.1.map (eK .i64)), .tree 1 (y19.2.2.2.2.2.2.1.map (eK .i64)), .tree 6 (y19.2.2.2.2.2.2.2.map ab.enc), .optr 5 0], .box [.int .i64 ((y19.1).code), .int .i64 ((y19.1).at_)], .mp Try.prog 3 (l33.map mIL), .box [.int .i64 y25.2.2.1, .int .i64 y25.2.2.2.1], .box [.tree 2 (y25.2.2.2.2.1.map ah.enc), .tree 1 (y25.2.2.2.2.2.1.map (eK .i64)), .tree 1 (y25.2.2.2.2.2.2.1.map (eK .i64)), .tree 6 (y25.2.2.2.2.2.2.2.map ab.enc), .optr 9 0], .box [.int .i64 ((y25.1).code), .int .i64 ((y25.1).at_)], .arr 1 v44 38 (l34.map (eL 1 (eK .i64))), .box [.int .i64 ((y41).code), .int .i64 ((y41).at_)]]) (fun _ => False) ?_ ?_
              ·skip;refine ak [] ?_
               refine aw ?_
               cases hm
              ·rintro _ _ hm;exact hm.elim
             ·skip;simp only [Sum.elim_inl, Sum.elim_inr] at hm hq72
              obtain ⟨rfl, rfl⟩ := hq72;refine aa ?_;refine go ?_;refine hk _ _ ?_;clear hk hp k kp;refine aH (S := (List (Int × List Int))) (V := Nat) [1, 6, 13, 21, 23, 24, 25, 149, 150, 151, 152, 153, 154, 155, 156, 157, 158, 159, 160, 161, 162, 163, 164, 165, 166, 167, 168, 169, 170] (fun l48 v47 => []) (fun l48 v47 => [.box [.tree 2 (p1.vars.map ah.enc), .tree 1 (p1.in_.map (eK .i64)), .tree 1 (p1.out_.map (eK .i64)), .tree 6 (p1.rules.map ab.enc)], .mp Try.prog 3 (l31.map mIL), .box [.int .i64 y7.2.2.1, .int .i64 y7.2.2.2.1], .box [.tree 2 (y7.2.2.2.2.1.map ah.enc), .tree 1 (y7.2.2.2.2.2.1.map (eK .i64)), .tree 1 (y7.2.2.2.2.2.2.1.map (eK .i64)), .tree 6 (y7.2.2.2.2.2.2.2.map ab.enc), .optr 1 0], .box [.int .i64 ((y7.1).code), .int .i64 ((y7.1).at_)], .mp Try.prog 3 (l38.map mIL), .box [.int .i64 y19.2.2.1, .int .i64 y19.2.2.2.1], .box [.tree 2 (y19.2.2.2.2.1.map ah.enc), .tree 1 (y19.2.2.2.2.2.1.map (eK .i64)), .tree 1 (y19.2.2.2.2.2.2.1.map (eK .i64)), .tree 6 (y19.2.2.2.2.2.2.2.map ab.enc), .optr 5 0], .box [.int .i64 ((y19.1).code), .int .i64 ((y19.1).at_)], .mp Try.prog 3 (l33.map mIL), .box [.int .i64 y25.2.2.1, .int .i64 y25.2.2.2.1], .box [.tree 2 (y25.2.2.2.2.1.map ah.enc), .tree 1 (y25.2.2.2.2.2.1.map (eK .i64)), .tree 1 (y25.2.2.2.2.2.2.1.map (eK .i64)), .tree 6 (y25.2.2.2.2.2.2.2.map ab.enc), .optr 9 0], .box [.int .i64 ((y25.1).code), .int .i64 ((y25.1).at_)], .arr 1 v47 38 (l34.map (eL 1 (eK .i64))), .mp Try.prog 3 (l48.map mIL), .box [.int .i64 y42.2.2.1, .int .i64 y42.2.2.2.1], .box [.tree 2 (y42.2.2.2.2.1.map ah.enc), .tree 1 (y42.2.2.2.2.2.1.map (eK .i64)), .tree 1 (y42.2.2.2.2.2.2.1.map (eK .i64)), .tree 6 (y42.2.2.2.2.2.2.2.map ab.enc), .optr 14 0], .box [.int .i64 ((y42.1).code), .int .i64 ((y42.1).at_)]]) (fun l48 => fF l48 = some r) ?_ ?_
              ·skip;refine ak [] ?_
               refine aw ?_;obtain ⟨o1, hl1, hm1⟩ := bd hm;refine bj (S := ((List (Int × List Int)) × Int)) (V := Nat) (O := (List (Int × List Int)) ⊕ Bool) [6, 13, 23, 24, 25, 149, 150, 151, 152, 153, 154, 155, 156, 157, 158, 159, 160, 161, 162, 163, 164, 165, 166, 167, 168, 169, 170] (fun (l64, x65) v63 => [(13, .c (.osl 13 v63 0 l34.length)), (23, .c (.int .i64 x65))]) (fun (l64, x65) v63 => [.box [.tree 2 (p1.vars.map ah.enc), .tree 1 (p1.in_.map (eK .i64)), .tree 1 (p1.out_.map (eK .i64)), .tree 6 (p1.rules.map ab.enc)], .mp Try.prog 3 (l31.map mIL), .box [.int .i64 y7.2.2.1, .int .i64 y7.2.2.2.1], .box [.tree 2 (y7.2.2.2.2.1.map ah.enc), .tree 1 (y7.2.2.2.2.2.1.map (eK .i64)), .tree 1 (y7.2.2.2.2.2.2.1.map (eK .i64)), .tree 6 (y7.2.2.2.2.2.2.2.map ab.enc), .optr 1 0], .box [.int .i64 ((y7.1).code), .int .i64 ((y7.1).at_)], .mp Try.prog 3 (l38.map mIL), .box [.int .i64 y19.2.2.1, .int .i64 y19.2.2.2.1], .box [.tree 2 (y19.2.2.2.2.1.map ah.enc), .tree 1 (y19.2.2.2.2.2.1.map (eK .i64)), .tree 1 (y19.2.2.2.2.2.2.1.map (eK .i64)), .tree 6 (y19.2.2.2.2.2.2.2.map ab.enc), .optr 5 0], .box [.int .i64 ((y19.1).code), .int .i64 ((y19.1).at_)], .mp Try.prog 3 (l33.map mIL), .box [.int .i64 y25.2.2.1, .int .i64 y25.2.2.2.1], .box [.tree 2 (y25.2.2.2.2.1.map ah.enc), .tree 1 (y25.2.2.2.2.2.1.map (eK .i64)), .tree 1 (y25.2.2.2.2.2.2.1.map (eK .i64)), .tree 6 (y25.2.2.2.2.2.2.2.map ab.enc), .optr 9 0], .box [.int .i64 ((y25.1).code), .int .i64 ((y25.1).at_)], .arr 1 v63 38 (l34.map (eL 1 (eK .i64))), .mp Try.prog 3 (l64.map mIL), .box [.int .i64 y42.2.2.1, .int .i64 y42.2.2.2.1], .box [.tree 2 (y42.2.2.2.2.1.map ah.enc), .tree 1 (y42.2.2.2.2.2.1.map (eK .i64)), .tree 1 (y42.2.2.2.2.2.2.1.map (eK .i64)), .tree 6 (y42.2.2.2.2.2.2.2.map ab.enc), .optr 14 0], .box [.int .i64 ((y42.1).code), .int .i64 ((y42.1).at_)]]) _ _ v39 hl1 ?_ ?_
               ·exact ls
               ·rintro ⟨l64, x65⟩ v63 r1 hm hr1;replace hm : cL p2 l34 y42 l64 x65 = some r1 := hm;refine aM ?_;unfold cL at hm;refine ap fun k11 hk11 => ?_;refine ak [149, 150, 151] ?_
                by_cases h73 : x65 < (p2.length : Int)
                ·rw [iP h73] at hm;refine af rfl (dT h73) ?_;refine au ?_;refine an (hk11 _ _ ?_);refine ap fun k12 hk12 => ?_;refine aw ?_;obtain ⟨hg74a, hm⟩ := gd hm;refine aF [25, 152, 155, 156, 157, 158, 159, 160, 161, 162, 163] fun k kp hk hp => ?_;refine gox (em (eL 1 (eK .i64)) p2 x65.toNat) ?_;obtain ⟨y66, hc75, hm⟩ := bd hm;refine RA (bY (p2.getD x65.toNat default) y42.2.2.2.2.1 y42.2.2.2.2.2.1 y42.2.2.2.2.2.2.1 y42.2.2.2.2.2.2.2 l64 0 _ hc75) [16, 14] ?_;rintro p σ' ⟨rfl, rfl⟩ _;refine aa ?_;refine go ?_;refine hk _ _ ?_;clear hk hp k kp;obtain ⟨hg77a, hm⟩ := gd hm;refine aF [24, 164, 165, 166, 167, 168, 169] fun k kp hk hp => ?_;refine gox (em (eL 1 (eK .i64)) l34 x65.toNat) ?_;obtain ⟨y67, hc78, hm⟩ := bd hm;refine RP (fun _ => fm y66.1 (l34.getD x65.toNat default) _ hc78) ?_;refine aa ?_;refine go ?_;refine hk _ _ ?_;clear hk hp k kp
                 by_cases h79 : y67 = true
                 ·rw [iP h79] at hm;refine ai rfl (by rw [show y67 = true from (h79)]; rfl) ?_;refine au ?_;refine aB ?_;refine an (hk12 _ _ ?_);refine ck ?_;refine aL (y66.2.2, (IntKind.wrap .i64 (x65 + 1))) v63 hm ?_;exact ls
                 ·rw [iN h79] at hm;refine af rfl (by rw [show y67 = false from (fB h79)]; rfl) ?_;refine ak [1, 13, 21, 23, 170] ?_;have ho80 := aQ hm hr1;subst ho80;replace hm : some false = some r := hm1;refine am ?_;refine aj (ag (bC (aj (aZ ?_))))
                  cases hm
                  exact kr 0
                ·rw [iN h73] at hm;refine ai rfl (dF h73) ?_;refine bB ?_;have ho81 := aQ hm hr1;subst ho81;replace hm : fF l64 = some r := hm1;refine bg (aY (aG ?_));refine ay l64 v63 hm ?_;exact ls
              ·rintro l48 v47 hm;replace hm : fF l48 = some r := hm;refine aM ?_;unfold fF at hm;refine ak [] ?_;refine am ?_
               cases hm
               exact kr 0
 ·rw [iN h2] at hm;refine af rfl (by rw [show y1 = false from (fB h2)]; rfl) ?_;refine ak [1, 2, 3, 27] ?_;refine am ?_;refine ag ?_
  cases hm
  exact kr 0
end Pam
