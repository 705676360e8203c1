/- the walk of ref_SysFault, printed by a program of ours -/
import Derived.Test.YtbkohebnociapaaBBase3
import Derived.Test.YtbkohebnociapaaBBase2
import Derived.Test.YtbkohebnociapaaBaFun1
import Derived.Test.YtbkohebnociapaaBaWalk3
import Derived.Test.YtbkohebnociapaaBaWalk1
set_option linter.all false
set_option maxRecDepth 100000
set_option maxHeartbeats 8000000
namespace Pam
open Go Go.Proofs
theorem ql (p1 : ae) (r : ay) (hm : jG p1 = some r) : bu Try.prog 13 [.a [.tree 2 (p1.vars.map ap.enc), .tree 1 (p1.in_.map (eK .i64)), .tree 1 (p1.out_.map (eK .i64)), .tree 6 (p1.rules.map ah.enc)]] (.a [.int .i64 ((r).code), .int .i64 ((r).at_)]) := by
 refine aG 182 [.cell 2 30] Try.func13 rfl rfl rfl (by kernel_rfl) (by simp) ?_;refine bk ?_;unfold jG at hm;refine ao [0] ?_;refine aq fun k1 hk1 => ?_;refine aL [13, 14] fun k kp hk hp => ?_;refine go ?_;obtain ⟨y1, hc1, hm⟩ := bd hm;refine RP (fun _ => rT p1 _ hc1) ?_;refine aa ?_;refine go ?_;refine hk _ _ ?_;clear hk hp k kp;refine ao [15, 16] ?_
 by_cases h2 : ¬ ((y1).code) = 0
 ·rw [iP h2] at hm;refine af rfl (bne_iff_ne.2 h2) ?_;refine ao [1, 3, 17, 18] ?_;refine ak ?_;refine ag ?_
  cases hm
  exact kr 0
 ·rw [iN h2] at hm;refine ai rfl (bne_eq_false_iff_eq.2 (Decidable.not_not.1 h2)) ?_;refine au ?_;refine am (hk1 _ _ ?_);refine aI (S := Unit) (V := Unit) [3, 4, 5, 6, 7, 17, 19, 20, 21, 22, 23, 24, 25, 26, 27, 28, 29, 30, 31, 32, 33, 34, 35, 36, 37, 38, 39, 40, 41, 42, 43, 44, 45, 46, 47, 48, 49, 50, 51, 52, 53, 54, 55, 56, 57, 58, 59, 60, 61, 62, 63, 64, 65, 66, 67, 68, 69, 70, 71, 72, 73, 74, 75, 76, 77, 78, 79, 80, 81, 82, 83, 84, 85, 86, 87, 88, 89, 90, 91, 92, 93, 94, 95, 96, 97, 98, 99, 100, 101, 102, 103, 104, 105, 106, 107, 108, 109, 110] (fun _ _ => []) (fun _ _ => [.box [.tree 2 (p1.vars.map ap.enc), .tree 1 (p1.in_.map (eK .i64)), .tree 1 (p1.out_.map (eK .i64)), .tree 6 (p1.rules.map ah.enc)], .box [.int .i64 0, .int .i64 0], .box [.int .i64 ((y1).code), .int .i64 ((y1).at_)]]) (fun _ => eT p1 = some r) ?_ ?_
  ·skip;refine ao [3, 17] ?_
   refine az ?_;obtain ⟨o4, hl4, hm4⟩ := bd hm;refine aZ (S := Int) (V := Unit) (O := Unit ⊕ ay) [4, 5, 6, 7, 19, 20, 21, 22, 23, 24, 25, 26, 27, 28, 29, 30, 31, 32, 33, 34, 35, 36, 37, 38, 39, 40, 41, 42, 43, 44, 45, 46, 47, 48, 49, 50, 51, 52, 53, 54, 55, 56, 57, 58, 59, 60, 61, 62, 63, 64, 65, 66, 67, 68, 69, 70, 71, 72, 73, 74, 75, 76, 77, 78, 79, 80, 81, 82, 83, 84, 85, 86, 87, 88, 89, 90, 91, 92, 93, 94, 95, 96, 97, 98, 99, 100, 101, 102, 103, 104, 105, 106, 107, 108, 109, 110] (fun x24 _ => [(4, .c (.int .i64 x24))]) (fun x24 _ => [.box [.tree 2 (p1.vars.map ap.enc), .tree 1 (p1.in_.map (eK .i64)), .tree 1 (p1.out_.map (eK .i64)), .tree 6 (p1.rules.map ah.enc)], .box [.int .i64 0, .int .i64 0], .box [.int .i64 ((y1).code), .int .i64 ((y1).at_)]]) _ _ () hl4 ?_ ?_
   ·exact ls
   ·rintro x24 _ r4 hm hr4;replace hm : eV p1 x24 = some r4 := hm;refine aH ?_;unfold eV at hm;refine aq fun k7 hk7 => ?_;refine ao [19, 20, 21, 22] ?_
    by_cases h27 : x24 < (p1.rules.length : Int)
    ·rw [iP h27] at hm;refine af rfl (dT h27) ?_;refine au ?_;refine am (hk7 _ _ ?_);refine aI (S := Unit) (V := Unit) [5, 6, 7, 23, 26, 27, 28, 29, 30, 31, 32, 33, 34, 35, 36, 37, 38, 39, 40, 41, 42, 43, 44, 45, 46, 47, 48, 49, 50, 51, 52, 53, 54, 55, 56, 57, 58, 59, 60, 61, 62, 63, 64, 65, 66, 67, 68, 69, 70, 71, 72, 73, 74, 75, 76, 77, 78, 79, 80, 81, 82, 83, 84, 85, 86, 87, 88, 89, 90, 91, 92, 93, 94, 95, 96, 97, 98, 99, 100, 101, 102, 103, 104, 105, 106, 107, 108, 109, 110] (fun _ _ => []) (fun _ _ => [.box [.tree 2 (p1.vars.map ap.enc), .tree 1 (p1.in_.map (eK .i64)), .tree 1 (p1.out_.map (eK .i64)), .tree 6 (p1.rules.map ah.enc)], .box [.int .i64 0, .int .i64 0], .box [.int .i64 ((y1).code), .int .i64 ((y1).at_)]]) (fun _ => gS x24 = some r4) ?_ ?_
     ·skip;refine az ?_
      obtain ⟨hg28a, hm⟩ := gd hm;refine bi (em ah.enc p1.rules x24.toNat) [23, 26, 27, 28, 29, 30] ?_;refine aq fun k8 hk8 => ?_;refine bz [31, 32, 33, 34, 35, 36, 37, 38, 39, 40] fun k kp hk hp => ?_;refine an 4 ?_;refine go ?_
      by_cases h29 : ((p1.rules.getD x24.toNat default).out_) < 0
      ·rw [iP h29] at hm;have h29b := dT h29;refine aa ?_;refine gox h29b ?_;refine hk _ _ ?_;clear hk hp k kp;refine af rfl rfl ?_;refine aL [1, 4, 5, 41, 42, 43] fun k kp hk hp => ?_;refine go ?_;obtain ⟨y25, hc30, hm⟩ := bd hm;refine RP (fun _ => bN 16 x24 _ hc30) ?_;refine aa ?_;refine go ?_;refine hk _ _ ?_;clear hk hp k kp;have ho31 := aA hm hr4;subst ho31;replace hm : some (y25) = some r := hm4;refine ak ?_;refine ag (ab (ax (aD (ab (ax ?_)))))
       cases hm
       exact kr 0
      ·rw [iN h29] at hm;have h29b := dF h29;refine aa ?_;refine gox h29b ?_;refine hk _ _ ?_;clear hk hp k kp
       by_cases h32 : ((p1.rules.getD x24.toNat default).out_) ≥ (p1.vars.length : Int)
       ·rw [iP h32] at hm;refine af rfl (dT h32) ?_;refine aL [1, 4, 5, 41, 42, 43] fun k kp hk hp => ?_;refine go ?_;obtain ⟨y26, hc33, hm⟩ := bd hm;refine RP (fun _ => bN 16 x24 _ hc33) ?_;refine aa ?_;refine go ?_;refine hk _ _ ?_;clear hk hp k kp;have ho34 := aA hm hr4;subst ho34;replace hm : some (y26) = some r := hm4;refine ak ?_;refine ag (ab (ax (aD (ab (ax ?_)))))
        cases hm
        exact kr 0
       ·rw [iN h32] at hm;refine ai rfl (dF h32) ?_;refine au ?_;refine am (hk8 _ _ ?_);refine aq fun k9 hk9 => ?_;refine cS [41, 44, 45, 46, 47, 48, 49, 50, 51, 52, 53, 54, 55] (by kernel_rfl) [0, 1, 0, 4, 15, 31, 63, 63, 255, 63, 575, 2047, 4095] [false, false, false, false, true, true, false, false, false, false, false, true, true] (by kernel_rfl) fun k hk => ?_;refine aM ?_;refine ga ?_;obtain ⟨y27, hc35, hm⟩ := bd hm;refine pat (fun _ => jp p1.in_ ((p1.rules.getD x24.toNat default).out_) _ hc35) ?_
        by_cases h36 : y27 = true
        ·rw [iP h36] at hm;have h36b := h36;refine aM ?_;refine gax h36b ?_;refine hk _ _ ?_;clear hk k;refine af rfl rfl ?_;refine aL [1, 4, 5, 56, 57, 58] fun k kp hk hp => ?_;refine go ?_;obtain ⟨y28, hc37, hm⟩ := bd hm;refine RP (fun _ => bN 8 x24 _ hc37) ?_;refine aa ?_;refine go ?_;refine hk _ _ ?_;clear hk hp k kp;have ho38 := aA hm hr4;subst ho38;replace hm : some (y28) = some r := hm4;refine ak ?_;refine ag (ab (ax (aD (ab (ax ?_)))))
         cases hm
         exact kr 0
        ·rw [iN h36] at hm;have h36b := fB h36;refine aM ?_;refine gax h36b ?_;obtain ⟨y29, hc39, hm⟩ := bd hm;refine pat (fun _ => pV p1 x24 _ hc39) ?_;refine aM ?_;refine gax h36b ?_;obtain ⟨y30, hc40, hm⟩ := bd hm;refine pat (fun _ => jp y29 ((p1.rules.getD x24.toNat default).out_) _ hc40) ?_;refine aM ?_;refine gax h36b ?_;refine hk _ _ ?_;clear hk k
         by_cases h41 : y30 = true
         ·rw [iP h41] at hm;refine af rfl (h41) ?_;refine aL [1, 4, 5, 56, 57, 58] fun k kp hk hp => ?_;refine go ?_;obtain ⟨y31, hc42, hm⟩ := bd hm;refine RP (fun _ => bN 8 x24 _ hc42) ?_;refine aa ?_;refine go ?_;refine hk _ _ ?_;clear hk hp k kp;have ho43 := aA hm hr4;subst ho43;replace hm : some (y31) = some r := hm4;refine ak ?_;refine ag (ab (ax (aD (ab (ax ?_)))))
          cases hm
          exact kr 0
         ·rw [iN h41] at hm;refine ai rfl (fB h41) ?_;refine au ?_;refine am (hk9 _ _ ?_);refine aq fun k10 hk10 => ?_;refine cS [56, 59, 60, 61, 62, 63, 64, 65, 66, 67, 68, 69, 70] (by kernel_rfl) [0, 1, 3, 7, 15, 31, 63, 127, 31, 287, 799, 2047, 4095] [true, true, true, true, true, false, false, false, false, false, false, true, true] (by kernel_rfl) fun k hk => ?_;refine aM ?_;refine ga ?_;obtain ⟨y32, hc44, hm⟩ := bd hm;refine pat (fun _ => ns ((p1.rules.getD x24.toNat default).op) _ hc44) ?_
          by_cases h45 : y32 < 0
          ·rw [iP h45] at hm;have h45b := dT h45;refine aM ?_;refine gax h45b ?_;refine hk _ _ ?_;clear hk k;refine af rfl rfl ?_;refine aL [1, 4, 5, 71, 72, 73] fun k kp hk hp => ?_;refine go ?_;obtain ⟨y33, hc46, hm⟩ := bd hm;refine RP (fun _ => bN 4 x24 _ hc46) ?_;refine aa ?_;refine go ?_;refine hk _ _ ?_;clear hk hp k kp;have ho47 := aA hm hr4;subst ho47;replace hm : some (y33) = some r := hm4;refine ak ?_;refine ag (ab (ax (aD (ab (ax ?_)))))
           cases hm
           exact kr 0
          ·rw [iN h45] at hm;have h45b := dF h45;refine aM ?_;refine gax h45b ?_;obtain ⟨y34, hc48, hm⟩ := bd hm;refine pat (fun _ => ns ((p1.rules.getD x24.toNat default).op) _ hc48) ?_;refine aM ?_;refine gax h45b ?_;refine hk _ _ ?_;clear hk k
           by_cases h49 : ¬ y34 = (((p1.rules.getD x24.toNat default).a).length : Int)
           ·rw [iP h49] at hm;refine af rfl (bne_iff_ne.2 h49) ?_;refine aL [1, 4, 5, 71, 72, 73] fun k kp hk hp => ?_;refine go ?_;obtain ⟨y35, hc50, hm⟩ := bd hm;refine RP (fun _ => bN 4 x24 _ hc50) ?_;refine aa ?_;refine go ?_;refine hk _ _ ?_;clear hk hp k kp;have ho51 := aA hm hr4;subst ho51;replace hm : some (y35) = some r := hm4;refine ak ?_;refine ag (ab (ax (aD (ab (ax ?_)))))
            cases hm
            exact kr 0
           ·rw [iN h49] at hm;refine ai rfl (bne_eq_false_iff_eq.2 (Decidable.not_not.1 h49)) ?_;refine au ?_;refine am (hk10 _ _ ?_);refine aq fun k11 hk11 => ?_;refine ao [71, 74, 75, 76] ?_
            by_cases h52 : (((p1.rules.getD x24.toNat default).e).length : Int) > 24
            ·rw [iP h52] at hm;refine af rfl (dT h52) ?_;refine aL [1, 4, 5, 77, 78, 79] fun k kp hk hp => ?_;refine go ?_;obtain ⟨y36, hc53, hm⟩ := bd hm;refine RP (fun _ => bN 7 x24 _ hc53) ?_;refine aa ?_;refine go ?_;refine hk _ _ ?_;clear hk hp k kp;have ho54 := aA hm hr4;subst ho54;replace hm : some (y36) = some r := hm4;refine ak ?_;refine ag (ab (ax (aD (ab (ax ?_)))))
             cases hm
             exact kr 0
            ·rw [iN h52] at hm;refine ai rfl (dF h52) ?_;refine au ?_;refine am (hk11 _ _ ?_);refine aL [77, 80, 81] fun k kp hk hp => ?_;refine go ?_;obtain ⟨y37, hc55, hm⟩ := bd hm;refine RP (fun _ => nt (p1.rules.getD x24.toNat default) _ hc55) ?_;refine aa ?_;refine go ?_;refine hk _ _ ?_;clear hk hp k kp;refine aI (S := Unit) (V := Unit) [6, 7, 82, 83, 84, 85, 86, 87, 88, 89, 90, 91, 92, 93, 94, 95, 96, 97, 98, 99, 100, 101, 102, 103, 104] (fun _ _ => []) (fun _ _ => [.box [.tree 2 (p1.vars.map ap.enc), .tree 1 (p1.in_.map (eK .i64)), .tree 1 (p1.out_.map (eK .i64)), .tree 6 (p1.rules.map ah.enc)], .box [.int .i64 0, .int .i64 0], .box [.int .i64 ((y1).code), .int .i64 ((y1).at_)], .box [.int .i64 ((p1.rules.getD x24.toNat default).op), .int .i64 ((p1.rules.getD x24.toNat default).k), .int .i64 ((p1.rules.getD x24.toNat default).out_), .int .i64 ((p1.rules.getD x24.toNat default).n), .tree 1 (((p1.rules.getD x24.toNat default).a).map (eK .i64)), .tree 4 (((p1.rules.getD x24.toNat default).e).map aj.enc)]]) (fun _ => eU p1 x24 = some r4) ?_ ?_
             ·skip;refine ao [] ?_
              refine az ?_;obtain ⟨o5, hl5, hm5⟩ := bd hm;refine aZ (S := Int) (V := Unit) (O := Unit ⊕ ay) [7, 82, 83, 84, 85, 86, 87, 88, 89, 90, 91, 92, 93, 94, 95, 96, 97, 98, 99, 100, 101, 102, 103, 104] (fun x42 _ => [(7, .c (.int .i64 x42))]) (fun x42 _ => [.box [.tree 2 (p1.vars.map ap.enc), .tree 1 (p1.in_.map (eK .i64)), .tree 1 (p1.out_.map (eK .i64)), .tree 6 (p1.rules.map ah.enc)], .box [.int .i64 0, .int .i64 0], .box [.int .i64 ((y1).code), .int .i64 ((y1).at_)], .box [.int .i64 ((p1.rules.getD x24.toNat default).op), .int .i64 ((p1.rules.getD x24.toNat default).k), .int .i64 ((p1.rules.getD x24.toNat default).out_), .int .i64 ((p1.rules.getD x24.toNat default).n), .tree 1 (((p1.rules.getD x24.toNat default).a).map (eK .i64)), .tree 4 (((p1.rules.getD x24.toNat default).e).map aj.enc)]]) _ _ () hl5 ?_ ?_
              ·exact ls
              ·rintro x42 _ r5 hm hr5;replace hm : gT p1 x24 y37 x42 = some r5 := hm;refine aH ?_;unfold gT at hm;refine aq fun k12 hk12 => ?_;refine ao [82, 83, 84] ?_
               by_cases h60 : x42 < (y37.length : Int)
               ·rw [iP h60] at hm;refine af rfl (dT h60) ?_;refine au ?_;refine am (hk12 _ _ ?_);refine aq fun k13 hk13 => ?_;refine az ?_;obtain ⟨hg61a, hm⟩ := gd hm;refine cS [85, 88, 89, 90, 91, 92, 93, 94, 95, 96, 97, 98, 99, 100, 101] (by kernel_rfl) [0, 0, 3, 7, 15, 31, 63, 63, 255, 511, 63, 1087, 3135, 8191, 16383] [false, false, true, true, true, true, false, false, false, false, false, false, false, true, true] (by kernel_rfl) fun k hk => ?_;refine c8 6 rfl ?_;refine gax (em (eK .i64) y37 x42.toNat) ?_
                by_cases h62 : (y37.getD x42.toNat default) < 0
                ·rw [iP h62] at hm;have h62b := dT h62;refine aM ?_;refine gax h62b ?_;refine hk _ _ ?_;clear hk k;refine af rfl rfl ?_;refine aL [1, 4, 5, 6, 7, 102, 103, 104] fun k kp hk hp => ?_;refine go ?_;obtain ⟨y43, hc63, hm⟩ := bd hm;refine RP (fun _ => bN 16 x24 _ hc63) ?_;refine aa ?_;refine go ?_;refine hk _ _ ?_;clear hk hp k kp;have ho64 := aA hm hr5;subst ho64;replace hm : some (.inr (.inr (y43))) = some r4 := hm5;have ho65 := aA hm hr4;subst ho65;replace hm : some (y43) = some r := hm4;refine ak ?_;refine ab (ag (aD (ab (ax (ab (ax (aD (ab (ax ?_)))))))))
                 cases hm
                 exact kr 0
                ·rw [iN h62] at hm;have h62b := dF h62;refine aM ?_;refine gax (a2 (em (eK .i64) y37 x42.toNat) h62b) ?_;refine hk _ _ ?_;clear hk k
                 by_cases h66 : (y37.getD x42.toNat default) ≥ (p1.vars.length : Int)
                 ·rw [iP h66] at hm;refine af rfl (dT h66) ?_;refine aL [1, 4, 5, 6, 7, 102, 103, 104] fun k kp hk hp => ?_;refine go ?_;obtain ⟨y44, hc67, hm⟩ := bd hm;refine RP (fun _ => bN 16 x24 _ hc67) ?_;refine aa ?_;refine go ?_;refine hk _ _ ?_;clear hk hp k kp;have ho68 := aA hm hr5;subst ho68;replace hm : some (.inr (.inr (y44))) = some r4 := hm5;have ho69 := aA hm hr4;subst ho69;replace hm : some (y44) = some r := hm4;refine ak ?_;refine ab (ag (aD (ab (ax (ab (ax (aD (ab (ax ?_)))))))))
                  cases hm
                  exact kr 0
                 ·rw [iN h66] at hm;refine ai rfl (dF h66) ?_;refine au ?_;refine ar ?_;refine am (hk13 _ _ ?_);refine a8 ?_;refine aB (IntKind.wrap .i64 (x42 + 1)) () hm ?_;exact ls
               ·rw [iN h60] at hm;refine ai rfl (dF h60) ?_;refine bj ?_;have ho70 := aA hm hr5;subst ho70;replace hm : eU p1 x24 = some r4 := hm5;refine aY (aQ (aF ?_));refine aw () () hm ?_;exact ls
             ·rintro _ _ hm;replace hm : eU p1 x24 = some r4 := hm;refine aH ?_;unfold eU at hm;refine aL [5, 105, 106, 107] fun k kp hk hp => ?_;refine go ?_;obtain ⟨y38, hc56, hm⟩ := bd hm;refine RP (fun _ => qk p1 (p1.rules.getD x24.toNat default) _ hc56) ?_;refine aa ?_;refine go ?_;refine hk _ _ ?_;clear hk hp k kp
              by_cases h57 : y38 = true
              ·rw [iP h57] at hm;refine ai rfl (by rw [show y38 = true from (h57)]; rfl) ?_;refine au ?_;refine ar ?_;refine aw () () hm ?_;exact ls
              ·rw [iN h57] at hm;refine af rfl (by rw [show y38 = false from (fB h57)]; rfl) ?_;refine aL [1, 4, 108, 109, 110] fun k kp hk hp => ?_;refine go ?_;obtain ⟨y39, hc58, hm⟩ := bd hm;refine RP (fun _ => bN 10 x24 _ hc58) ?_;refine aa ?_;refine go ?_;refine hk _ _ ?_;clear hk hp k kp;have ho59 := aA hm hr4;subst ho59;replace hm : some (y39) = some r := hm4;refine ak ?_;refine ab (ax (aD (ab (ax ?_))))
               cases hm
               exact kr 0
     ·rintro _ _ hm;replace hm : gS x24 = some r4 := hm;refine aH ?_;unfold gS at hm;refine a8 ?_;refine aB (IntKind.wrap .i64 (x24 + 1)) () hm ?_;exact ls
    ·rw [iN h27] at hm;refine ai rfl (dF h27) ?_;refine bj ?_;have ho71 := aA hm hr4;subst ho71;replace hm : eT p1 = some r := hm4;refine aY (aQ (aF ?_));refine aw () () hm ?_;exact ls
  ·rintro _ _ hm;replace hm : eT p1 = some r := hm;refine aH ?_;unfold eT at hm;refine aL [111, 112, 113, 114, 115] fun k kp hk hp => ?_;refine go ?_;obtain ⟨y2, hc3, hm⟩ := bd hm;refine RP (fun _ => pV p1 (p1.rules.length : Int) _ hc3) ?_;refine aa ?_;refine go ?_;refine hk _ _ ?_;clear hk hp k kp;refine aI (S := Unit) (V := Unit) [9, 10, 11, 116, 117, 118, 119, 120, 121, 122, 123, 124, 125, 126, 127, 128, 129, 130, 131, 132, 133, 134, 135, 136, 137, 138, 139, 140, 141, 142, 143, 144, 145, 146, 147, 148, 149, 150, 151, 152, 153] (fun _ _ => []) (fun _ _ => [.box [.tree 2 (p1.vars.map ap.enc), .tree 1 (p1.in_.map (eK .i64)), .tree 1 (p1.out_.map (eK .i64)), .tree 6 (p1.rules.map ah.enc)], .box [.int .i64 0, .int .i64 0], .box [.int .i64 ((y1).code), .int .i64 ((y1).at_)]]) (fun _ => eO p1 y2 = some r) ?_ ?_
   ·skip;refine ao [] ?_
    refine az ?_;obtain ⟨o2, hl2, hm2⟩ := bd hm;refine aZ (S := Int) (V := Unit) (O := Unit ⊕ ay) [9, 10, 11, 116, 117, 118, 119, 120, 121, 122, 123, 124, 125, 126, 127, 128, 129, 130, 131, 132, 133, 134, 135, 136, 137, 138, 139, 140, 141, 142, 143, 144, 145, 146, 147, 148, 149, 150, 151, 152, 153] (fun x12 _ => [(9, .c (.int .i64 x12))]) (fun x12 _ => [.box [.tree 2 (p1.vars.map ap.enc), .tree 1 (p1.in_.map (eK .i64)), .tree 1 (p1.out_.map (eK .i64)), .tree 6 (p1.rules.map ah.enc)], .box [.int .i64 0, .int .i64 0], .box [.int .i64 ((y1).code), .int .i64 ((y1).at_)]]) _ _ () hl2 ?_ ?_
    ·exact ls
    ·rintro x12 _ r2 hm hr2;replace hm : eR p1 y2 x12 = some r2 := hm;refine aH ?_;unfold eR at hm;refine aq fun k4 hk4 => ?_;refine ao [116, 117, 118, 119] ?_
     by_cases h13 : x12 < (p1.rules.length : Int)
     ·rw [iP h13] at hm;refine af rfl (dT h13) ?_;refine au ?_;refine am (hk4 _ _ ?_);refine aI (S := Unit) (V := Unit) [10, 11, 120, 123, 124, 125, 126, 127, 128, 129, 130, 131, 132, 133, 134, 135, 136, 137, 138, 139, 140, 141, 142, 143, 144, 145, 146, 147, 148, 149, 150, 151, 152, 153] (fun _ _ => []) (fun _ _ => [.box [.tree 2 (p1.vars.map ap.enc), .tree 1 (p1.in_.map (eK .i64)), .tree 1 (p1.out_.map (eK .i64)), .tree 6 (p1.rules.map ah.enc)], .box [.int .i64 0, .int .i64 0], .box [.int .i64 ((y1).code), .int .i64 ((y1).at_)]]) (fun _ => eP x12 = some r2) ?_ ?_
      ·skip;refine az ?_
       obtain ⟨hg14a, hm⟩ := gd hm;refine aL [120, 123, 124, 125, 126, 127, 128] fun k kp hk hp => ?_;refine gox (em ah.enc p1.rules x12.toNat) ?_;obtain ⟨y13, hc15, hm⟩ := bd hm;refine RP (fun _ => nt (p1.rules.getD x12.toNat default) _ hc15) ?_;refine aa ?_;refine go ?_;refine hk _ _ ?_;clear hk hp k kp;refine ao [] ?_;refine az ?_;obtain ⟨o3, hl3, hm3⟩ := bd hm;refine aZ (S := Int) (V := Unit) (O := Unit ⊕ ay) [11, 129, 130, 131, 132, 133, 134, 135, 136, 137, 138, 139, 140, 141, 142, 143, 144, 145, 146, 147, 148, 149, 150, 151, 152, 153] (fun x16 _ => [(11, .c (.int .i64 x16))]) (fun x16 _ => [.box [.tree 2 (p1.vars.map ap.enc), .tree 1 (p1.in_.map (eK .i64)), .tree 1 (p1.out_.map (eK .i64)), .tree 6 (p1.rules.map ah.enc)], .box [.int .i64 0, .int .i64 0], .box [.int .i64 ((y1).code), .int .i64 ((y1).at_)]]) _ _ () hl3 ?_ ?_
       ·exact ls
       ·rintro x16 _ r3 hm hr3;replace hm : gR p1 y2 x12 y13 x16 = some r3 := hm;refine aH ?_;unfold gR at hm;refine aq fun k5 hk5 => ?_;refine ao [129, 130, 131] ?_
        by_cases h16 : x16 < (y13.length : Int)
        ·rw [iP h16] at hm;refine af rfl (dT h16) ?_;refine au ?_;refine am (hk5 _ _ ?_);refine aq fun k6 hk6 => ?_;refine az ?_;obtain ⟨hg17a, hm⟩ := gd hm;refine cS [132, 135, 136, 137, 138, 139, 140, 141, 142, 143, 144, 145, 146, 147, 148, 149, 150] (by kernel_rfl) [0, 1, 0, 0, 12, 28, 63, 127, 255, 511, 511, 511, 3583, 7679, 16383, 32767, 65535] [false, false, false, false, false, false, true, true, true, false, false, false, false, false, true, true, true] (by kernel_rfl) fun k hk => ?_;refine aM ?_;refine gax (em (eK .i64) y13 x16.toNat) ?_;obtain ⟨y17, hc18, hm⟩ := bd hm;refine pat (fun _ => jp p1.in_ (y13.getD x16.toNat default) _ hc18) ?_
         by_cases h19 : y17 = true
         ·rw [iP h19] at hm;have h19b := h19
          have h19c : (!y17) = false := by rw [h19b]; rfl
          refine aM ?_;refine gax (a2 h19b h19c) ?_;refine hk _ _ ?_;clear hk k;refine ai rfl rfl ?_;refine au ?_;refine ar ?_;refine am (hk6 _ _ ?_);refine a8 ?_;refine aB (IntKind.wrap .i64 (x16 + 1)) () hm ?_;exact la
         ·rw [iN h19] at hm;have h19b := fB h19
          have h19c : (!y17) = true := by rw [h19b]; rfl
          refine aM ?_;refine gax (a2 (em (eK .i64) y13 x16.toNat) (a2 h19b h19c)) ?_;obtain ⟨y18, hc20, hm⟩ := bd hm;refine pat (fun _ => jp y2 (y13.getD x16.toNat default) _ hc20) ?_;refine aM ?_;refine gax (a2 h19b h19c) ?_;refine hk _ _ ?_;clear hk k
          by_cases h21 : y18 = true
          ·rw [iP h21] at hm;refine ai rfl (by rw [show y18 = true from (h21)]; rfl) ?_;refine au ?_;refine ar ?_;refine am (hk6 _ _ ?_);refine a8 ?_;refine aB (IntKind.wrap .i64 (x16 + 1)) () hm ?_;exact la
          ·rw [iN h21] at hm;refine af rfl (by rw [show y18 = false from (fB h21)]; rfl) ?_;refine aL [1, 8, 9, 10, 11, 151, 152, 153] fun k kp hk hp => ?_;refine go ?_;obtain ⟨y19, hc22, hm⟩ := bd hm;refine RP (fun _ => bN 9 x12 _ hc22) ?_;refine aa ?_;refine go ?_;refine hk _ _ ?_;clear hk hp k kp;have ho23 := aA hm hr3;subst ho23;replace hm : some (.inr (.inr (y19))) = some r2 := hm3;have ho24 := aA hm hr2;subst ho24;replace hm : some (y19) = some r := hm2;refine ak ?_;refine ab (ag (aD (ab (ab (ax (aD (ab (ax ?_))))))))
           cases hm
           exact kr 0
        ·rw [iN h16] at hm;refine ai rfl (dF h16) ?_;refine bj ?_;have ho25 := aA hm hr3;subst ho25;replace hm : eP x12 = some r2 := hm3;refine aY (aQ (aF (ar ?_)));refine aw () () hm ?_;exact ls
      ·rintro _ _ hm;replace hm : eP x12 = some r2 := hm;refine aH ?_;unfold eP at hm;refine a8 ?_;refine aB (IntKind.wrap .i64 (x12 + 1)) () hm ?_;exact ls
     ·rw [iN h13] at hm;refine ai rfl (dF h13) ?_;refine bj ?_;have ho26 := aA hm hr2;subst ho26;replace hm : eO p1 y2 = some r := hm2;refine aY (aQ (aF ?_));refine aw () () hm ?_;exact ls
   ·rintro _ _ hm;replace hm : eO p1 y2 = some r := hm;refine aH ?_;unfold eO at hm;refine aI (S := Unit) (V := Unit) [1, 8, 12, 154, 155, 156, 157, 158, 159, 160, 161, 162, 163, 164, 165, 166, 167, 168, 169, 170, 171, 172, 173, 174, 175, 176, 177, 178, 179, 180] (fun _ _ => []) (fun _ _ => [.box [.tree 2 (p1.vars.map ap.enc), .tree 1 (p1.in_.map (eK .i64)), .tree 1 (p1.out_.map (eK .i64)), .tree 6 (p1.rules.map ah.enc)], .box [.int .i64 0, .int .i64 0], .box [.int .i64 ((y1).code), .int .i64 ((y1).at_)]]) (fun _ => gQ = some r) ?_ ?_
    ·skip;refine ao [] ?_
     refine az ?_;obtain ⟨o1, hl1, hm1⟩ := bd hm;refine aZ (S := Int) (V := Unit) (O := Unit ⊕ ay) [12, 154, 155, 156, 157, 158, 159, 160, 161, 162, 163, 164, 165, 166, 167, 168, 169, 170, 171, 172, 173, 174, 175, 176, 177, 178, 179, 180] (fun x5 _ => [(12, .c (.int .i64 x5))]) (fun x5 _ => [.box [.tree 2 (p1.vars.map ap.enc), .tree 1 (p1.in_.map (eK .i64)), .tree 1 (p1.out_.map (eK .i64)), .tree 6 (p1.rules.map ah.enc)], .box [.int .i64 0, .int .i64 0], .box [.int .i64 ((y1).code), .int .i64 ((y1).at_)]]) _ _ () hl1 ?_ ?_
     ·exact ls
     ·rintro x5 _ r1 hm hr1;replace hm : eN p1 y2 x5 = some r1 := hm;refine aH ?_;unfold eN at hm;refine aq fun k2 hk2 => ?_;refine ao [154, 155, 156, 157] ?_
      by_cases h4 : x5 < (p1.out_.length : Int)
      ·rw [iP h4] at hm;refine af rfl (dT h4) ?_;refine au ?_;refine am (hk2 _ _ ?_);refine aq fun k3 hk3 => ?_;refine az ?_;obtain ⟨hg5a, hm⟩ := gd hm;refine cS [158, 161, 162, 163, 164, 165, 166, 167, 168, 169, 170, 171, 172, 173, 174, 175, 176, 177, 178] (by kernel_rfl) [0, 1, 0, 4, 0, 28, 60, 127, 255, 511, 1023, 1023, 3071, 1023, 15359, 31743, 65535, 131071, 262143] [false, false, false, false, false, false, false, true, true, true, false, false, false, false, false, false, true, true, true] (by kernel_rfl) fun k hk => ?_;refine aM ?_;refine gax (em (eK .i64) p1.out_ x5.toNat) ?_;obtain ⟨y6, hc6, hm⟩ := bd hm;refine pat (fun _ => jp p1.in_ (p1.out_.getD x5.toNat default) _ hc6) ?_
       by_cases h7 : y6 = true
       ·rw [iP h7] at hm;have h7b := h7
        have h7c : (!y6) = false := by rw [h7b]; rfl
        refine aM ?_;refine gax (a2 h7b h7c) ?_;refine hk _ _ ?_;clear hk k;refine ai rfl rfl ?_;refine au ?_;refine ar ?_;refine am (hk3 _ _ ?_);refine a8 ?_;refine aB (IntKind.wrap .i64 (x5 + 1)) () hm ?_;exact la
       ·rw [iN h7] at hm;have h7b := fB h7
        have h7c : (!y6) = true := by rw [h7b]; rfl
        refine aM ?_;refine gax (a2 (em (eK .i64) p1.out_ x5.toNat) (a2 h7b h7c)) ?_;obtain ⟨y7, hc8, hm⟩ := bd hm;refine pat (fun _ => jp y2 (p1.out_.getD x5.toNat default) _ hc8) ?_;refine aM ?_;refine gax (a2 h7b h7c) ?_;refine hk _ _ ?_;clear hk k
        by_cases h9 : y7 = true
        ·rw [iP h9] at hm;refine ai rfl (by rw [show y7 = true from (h9)]; rfl) ?_;refine au ?_;refine ar ?_;refine am (hk3 _ _ ?_);refine a8 ?_;refine aB (IntKind.wrap .i64 (x5 + 1)) () hm ?_;exact la
        ·rw [iN h9] at hm;refine af rfl (by rw [show y7 = false from (fB h9)]; rfl) ?_;refine aL [1, 8, 12, 179, 180] fun k kp hk hp => ?_;refine go ?_;obtain ⟨y8, hc10, hm⟩ := bd hm;refine RP (fun _ => bN 9 (-1) _ hc10) ?_;refine aa ?_;refine go ?_;refine hk _ _ ?_;clear hk hp k kp;have ho11 := aA hm hr1;subst ho11;replace hm : some (y8) = some r := hm1;refine ak ?_;refine ab (ag (aD (ab (ax ?_))))
         cases hm
         exact kr 0
      ·rw [iN h4] at hm;refine ai rfl (dF h4) ?_;refine bj ?_;have ho12 := aA hm hr1;subst ho12;replace hm : gQ = some r := hm1;refine aY (aQ (aF ?_));refine aw () () hm ?_;exact ls
    ·rintro _ _ hm;replace hm : gQ = some r := hm;refine aH ?_;unfold gQ at hm;refine ao [181] ?_;refine ak ?_
     cases hm
     exact kr 0
theorem tg (p1 : ah) (r : (List Int)) (hm : mf p1 = some r) : bu Try.prog 85 [.a [.int .i64 p1.op, .int .i64 p1.k, .int .i64 p1.out_, .int .i64 p1.n, .tree 1 (p1.a.map (eK .i64)), .tree 4 (p1.e.map aj.enc)]] (.c (.tree 1 (r.map (eK .i64)))) := by
 refine aG 19 [.tmp 2] Try.func85 rfl rfl rfl (by kernel_rfl) (by simp) ?_;refine bk ?_;unfold mf at hm;refine ao [0, 2] ?_;refine aI (S := Unit) (V := Unit) [2, 3, 4, 5, 6, 7, 8, 9, 10, 11, 12, 13, 14, 15, 16] (fun _ _ => []) (fun _ _ => [.box [.int .i64 p1.op, .int .i64 p1.k, .int .i64 p1.out_, .int .i64 p1.n, .tree 1 (p1.a.map (eK .i64)), .tree 4 (p1.e.map aj.enc)]]) (fun _ => gE p1 = some r) ?_ ?_
 ·skip;refine bz [3, 4, 5, 6, 7, 8, 9, 10] fun k kp hk hp => ?_
  refine an 4 ?_;refine go ?_
  by_cases h2 : p1.op = 13
  ·rw [iP h2] at hm;have h2b := eQ h2;refine aa ?_;refine gox h2b ?_;refine hk _ _ ?_;clear hk hp k kp
   by_cases h3 : (p1.a.length : Int) = 2
   ·rw [iP h3] at hm;refine af rfl (eQ h3) ?_;obtain ⟨hg4a, hm⟩ := gd hm;refine bi (em (eK .i64) p1.a 0) [1, 11, 12, 13, 14, 15, 16] ?_;refine i2 [.box [.int .i64 p1.op, .int .i64 p1.k, .int .i64 p1.out_, .int .i64 p1.n, .tree 1 (p1.a.map (eK .i64)), .tree 4 (p1.e.map aj.enc)], .arr 1 0 3 ((lit ([(p1.a.getD 0 default)] : List Int)).map (eK .i64))] ?_;refine iZ (bw 1 rfl) ?_;refine ak ?_;refine ax ?_
    cases hm
    exact kr 0
   ·rw [iN h3] at hm;refine ai rfl (nB h3) ?_;refine au ?_;refine aw () () hm ?_;exact ls
  ·rw [iN h2] at hm;have h2b := nB h2;refine aa ?_;refine gox h2b ?_;refine hk _ _ ?_;clear hk hp k kp;refine ai rfl rfl ?_;refine au ?_;refine aw () () hm ?_;exact ls
 ·rintro _ _ hm;replace hm : gE p1 = some r := hm;refine aH ?_;unfold gE at hm;refine aL [1, 17, 18] fun k kp hk hp => ?_;refine go ?_;obtain ⟨y1, hc1, hm⟩ := bd hm;refine RP (fun _ => nt p1 _ hc1) ?_;refine aa ?_;refine go ?_;refine hk _ _ ?_;clear hk hp k kp;refine ak ?_
  cases hm
  exact kr 0
theorem th (p1 : ae) (p2 : ah) (p3 : List Int) (v0_ : Nat) (r : Bool) (hm : mg p1 p2 p3 = some r) : e9 Try.prog 80 [.a [.tree 2 (p1.vars.map ap.enc), .tree 1 (p1.in_.map (eK .i64)), .tree 1 (p1.out_.map (eK .i64)), .tree 6 (p1.rules.map ah.enc)], .a [.int .i64 p2.op, .int .i64 p2.k, .int .i64 p2.out_, .int .i64 p2.n, .tree 1 (p2.a.map (eK .i64)), .tree 4 (p2.e.map aj.enc)], .c (.osl 0 v0_ 0 p3.length)] [.arr 1 v0_ 3 (p3.map (eK .i64))] (fun p σ => (p = .c (.bool r) ∧ σ = [.arr 1 v0_ 3 (p3.map (eK .i64))])) (fun _ _ => False) := by
 refine aG 51 [.tmp 6] Try.func80 rfl rfl rfl (by kernel_rfl) (by simp) ?_;refine bk ?_;unfold mg at hm;refine ao [0, 1, 6] ?_;refine aL [4, 11, 12] fun k kp hk hp => ?_;refine go ?_;obtain ⟨y1, hc1, hm⟩ := bd hm;refine RP (fun _ => tg p2 _ hc1) ?_;refine aa ?_;refine go ?_;refine hk _ _ ?_;clear hk hp k kp;refine aI (S := Unit) (V := Unit) [2, 3, 6, 7, 8, 9, 10, 13, 14, 15, 16, 17, 18, 19, 20, 21, 22, 23, 24, 25, 26, 27, 28, 29, 30, 31, 32, 33, 34, 35, 36, 37, 38, 39, 40, 41, 42, 43, 44, 45, 46, 47, 48, 49, 50] (fun _ _ => []) (fun _ _ => [.arr 1 v0_ 3 (p3.map (eK .i64)), .box [.tree 2 (p1.vars.map ap.enc), .tree 1 (p1.in_.map (eK .i64)), .tree 1 (p1.out_.map (eK .i64)), .tree 6 (p1.rules.map ah.enc)], .box [.int .i64 p2.op, .int .i64 p2.k, .int .i64 p2.out_, .int .i64 p2.n, .tree 1 (p2.a.map (eK .i64)), .tree 4 (p2.e.map aj.enc)]]) (fun _ => jH = some r) ?_ ?_
 ·skip;refine ao [] ?_
  refine az ?_;obtain ⟨o1, hl1, hm1⟩ := bd hm;refine aZ (S := Int) (V := Unit) (O := Unit ⊕ Bool) [2, 6, 8, 9, 10, 13, 14, 15, 16, 17, 18, 19, 20, 21, 22, 23, 24, 25, 26, 27, 28, 29, 30, 31, 32, 33, 34, 35, 36, 37, 38, 39, 40, 41, 42, 43, 44, 45, 46, 47, 48, 49, 50] (fun x4 _ => [(2, .c (.osl 0 v0_ 0 p3.length)), (8, .c (.int .i64 x4))]) (fun x4 _ => [.arr 1 v0_ 3 (p3.map (eK .i64)), .box [.tree 2 (p1.vars.map ap.enc), .tree 1 (p1.in_.map (eK .i64)), .tree 1 (p1.out_.map (eK .i64)), .tree 6 (p1.rules.map ah.enc)], .box [.int .i64 p2.op, .int .i64 p2.k, .int .i64 p2.out_, .int .i64 p2.n, .tree 1 (p2.a.map (eK .i64)), .tree 4 (p2.e.map aj.enc)]]) _ _ () hl1 ?_ ?_
  ·exact ls
  ·rintro x4 _ r1 hm hr1;replace hm : jJ p1 p3 y1 x4 = some r1 := hm;refine aH ?_;unfold jJ at hm;refine aq fun k1 hk1 => ?_;refine ao [13, 14, 15] ?_
   by_cases h2 : x4 < (y1.length : Int)
   ·rw [iP h2] at hm;refine af rfl (dT h2) ?_;refine au ?_;refine am (hk1 _ _ ?_);refine aI (S := Unit) (V := Unit) [2, 6, 9, 10, 16, 19, 20, 21, 22, 23, 24, 25, 26, 27, 28, 29, 30, 31, 32, 33, 34, 35, 36, 37, 38, 39, 40, 41, 42, 43, 44, 45, 46, 47, 48, 49, 50] (fun _ _ => [(2, .c (.osl 0 v0_ 0 p3.length))]) (fun _ _ => [.arr 1 v0_ 3 (p3.map (eK .i64)), .box [.tree 2 (p1.vars.map ap.enc), .tree 1 (p1.in_.map (eK .i64)), .tree 1 (p1.out_.map (eK .i64)), .tree 6 (p1.rules.map ah.enc)], .box [.int .i64 p2.op, .int .i64 p2.k, .int .i64 p2.out_, .int .i64 p2.n, .tree 1 (p2.a.map (eK .i64)), .tree 4 (p2.e.map aj.enc)]]) (fun _ => jI x4 = some r1) ?_ ?_
    ·skip;refine az ?_
     obtain ⟨hg3a, hm⟩ := gd hm;refine jx [16, 19, 20, 21, 22, 23, 24, 25] (by kernel_rfl) [0, 1, 0, 0, 12, 28, 63, 127] [false, false, false, false, false, false, true, true] (by kernel_rfl) fun k hk => ?_;refine gax (em (eK .i64) y1 x4.toNat) ?_;obtain ⟨y5, hc4, hm⟩ := bd hm;refine AP (fun _ => jp p1.in_ (y1.getD x4.toNat default) _ hc4) ?_;refine ga ?_;refine hk _ _ ?_;clear hk k;refine aI (S := Bool) (V := Unit) [2, 9, 10, 26, 27, 28, 29, 30, 31, 32, 33, 34, 35, 36, 37, 38, 39, 40, 41, 42, 43, 44, 45, 46, 47, 48] (fun b6 _ => [(2, .c (.osl 0 v0_ 0 p3.length)), (9, .c (.bool b6))]) (fun b6 _ => [.arr 1 v0_ 3 (p3.map (eK .i64)), .box [.tree 2 (p1.vars.map ap.enc), .tree 1 (p1.in_.map (eK .i64)), .tree 1 (p1.out_.map (eK .i64)), .tree 6 (p1.rules.map ah.enc)], .box [.int .i64 p2.op, .int .i64 p2.k, .int .i64 p2.out_, .int .i64 p2.n, .tree 1 (p2.a.map (eK .i64)), .tree 4 (p2.e.map aj.enc)]]) (fun b6 => gF x4 b6 = some r1) ?_ ?_
     ·skip;refine ao [] ?_
      refine az ?_;obtain ⟨o2, hl2, hm2⟩ := bd hm;refine aZ (S := (Bool × Int)) (V := Unit) (O := Bool) [2, 9, 10, 26, 27, 28, 29, 30, 31, 32, 33, 34, 35, 36, 37, 38, 39, 40, 41, 42, 43, 44, 45, 46, 47, 48] (fun (b11, x12) _ => [(2, .c (.osl 0 v0_ 0 p3.length)), (9, .c (.bool b11)), (10, .c (.int .i64 x12))]) (fun (b11, x12) _ => [.arr 1 v0_ 3 (p3.map (eK .i64)), .box [.tree 2 (p1.vars.map ap.enc), .tree 1 (p1.in_.map (eK .i64)), .tree 1 (p1.out_.map (eK .i64)), .tree 6 (p1.rules.map ah.enc)], .box [.int .i64 p2.op, .int .i64 p2.k, .int .i64 p2.out_, .int .i64 p2.n, .tree 1 (p2.a.map (eK .i64)), .tree 4 (p2.e.map aj.enc)]]) _ _ () hl2 ?_ ?_
      ·exact ls
      ·rintro ⟨b11, x12⟩ _ r2 hm hr2;replace hm : dO p1 p3 y1 x4 b11 x12 = some r2 := hm;refine aH ?_;unfold dO at hm;refine aq fun k2 hk2 => ?_;refine ao [26, 27, 28] ?_
       by_cases h7 : x12 < (p3.length : Int)
       ·rw [iP h7] at hm;refine af rfl (dT h7) ?_;refine au ?_;refine am (hk2 _ _ ?_);refine aq fun k3 hk3 => ?_;refine az ?_
        by_cases h8 : b11 = true
        ·rw [iP h8] at hm;have h8b := h8;refine s6 (by kernel_rfl) [0, 1, 3, 7, 3, 3, 51, 115, 255, 511, 1023, 3, 3, 6147, 14339, 32767, 65535, 131071] [true, true, false, false, false, false, false, false, false, false, false, false, false, false, false, true, true, true] (by kernel_rfl) fun k hk => ?_;refine aM ?_;refine gax h8b ?_;refine hk _ _ ?_;clear hk k;refine ar ?_;refine am (hk3 _ _ ?_);refine a8 ?_;refine aB (true, (IntKind.wrap .i64 (x12 + 1))) () hm ?_;exact la
        ·rw [iN h8] at hm;have h8b := fB h8;obtain ⟨⟨hg9a, hg9b⟩, hm⟩ := gd hm;refine s6 (by kernel_rfl) [0, 1, 3, 7, 3, 3, 51, 115, 255, 511, 1023, 3, 3, 6147, 14339, 32767, 65535, 131071] [true, true, false, false, false, false, false, false, false, false, false, false, false, false, false, true, true, true] (by kernel_rfl) fun k hk => ?_;refine aM ?_;refine gax (a2 (em (eK .i64) p3 x12.toNat) (a2 (em ah.enc p1.rules ((p3.getD x12.toNat default).toNat)) (a2 (em (eK .i64) y1 x4.toNat) h8b))) ?_;refine hk _ _ ?_;clear hk k;refine ar ?_;refine am (hk3 _ _ ?_);refine a8 ?_;refine aB ((((p1.rules.getD ((p3.getD x12.toNat default).toNat) default).out_) == (y1.getD x4.toNat default)), (IntKind.wrap .i64 (x12 + 1))) () hm ?_;exact la
       ·rw [iN h7] at hm;refine ai rfl (dF h7) ?_;refine bj ?_;have ho10 := aA hm hr2;subst ho10;replace hm : gF x4 b11 = some r1 := hm2;refine aY (aQ (aF ?_));refine aw b11 () hm ?_;exact ls
     ·rintro b6 _ hm;replace hm : gF x4 b6 = some r1 := hm;refine aH ?_;unfold gF at hm;refine ao [9, 49] ?_
      by_cases h5 : b6 = true
      ·rw [iP h5] at hm;refine ai rfl (by rw [show b6 = true from (h5)]; rfl) ?_;refine au ?_;refine ar ?_;refine aw () () hm ?_;exact ls
      ·rw [iN h5] at hm;refine af rfl (by rw [show b6 = false from (fB h5)]; rfl) ?_;refine ao [2, 3, 7, 8, 50] ?_;have ho6 := aA hm hr1;subst ho6;replace hm : some false = some r := hm1;refine ak ?_;refine ab (ax (aD (ab (ax ?_))))
       cases hm
       exact kr 1
    ·rintro _ _ hm;replace hm : jI x4 = some r1 := hm;refine aH ?_;unfold jI at hm;refine a8 ?_;refine aB (IntKind.wrap .i64 (x4 + 1)) () hm ?_;exact ls
   ·rw [iN h2] at hm;refine ai rfl (dF h2) ?_;refine bj ?_;have ho11 := aA hm hr1;subst ho11;replace hm : jH = some r := hm1;refine aY (aQ (aF ?_));refine aw () () hm ?_;exact ls
 ·rintro _ _ hm;replace hm : jH = some r := hm;refine aH ?_;unfold jH at hm;refine ao [] ?_;refine ak ?_
  cases hm
  exact kr 1
theorem qm (p1 : ae) (r : Bool) (hm : jK p1 = some r) : bu Try.prog 27 [.a [.tree 2 (p1.vars.map ap.enc), .tree 1 (p1.in_.map (eK .i64)), .tree 1 (p1.out_.map (eK .i64)), .tree 6 (p1.rules.map ah.enc)]] (.c (.bool r)) := by
 refine aG 25 [.tmp 2] Try.func27 rfl rfl rfl (by kernel_rfl) (by simp) ?_;refine bk ?_;unfold jK at hm;refine ao [0, 2] ?_;refine ao [] ?_;refine aI (S := Unit) (V := Unit) [1, 2, 3, 4, 5, 6, 7, 8, 9, 10, 11, 12, 13, 14, 15, 16, 17, 18, 19, 20, 21, 22, 23, 24] (fun _ _ => []) (fun _ _ => [.box [.tree 2 (p1.vars.map ap.enc), .tree 1 (p1.in_.map (eK .i64)), .tree 1 (p1.out_.map (eK .i64)), .tree 6 (p1.rules.map ah.enc)]]) (fun _ => eW = some r) ?_ ?_
 ·skip;refine ao [] ?_
  refine az ?_;refine bD (ew 3 1 3 (by decide) rfl (Nat.le_of_ble_eq_true rfl)) ?_;refine lZ ?_;obtain ⟨o1, hl1, hm1⟩ := bd hm;refine aZ (S := ((List Int) × Int)) (V := Nat) (O := Unit ⊕ Bool) [2, 3, 4, 5, 6, 7, 8, 9, 10, 11, 12, 13, 14, 15, 16, 17, 18, 19, 20, 21, 22, 23, 24] (fun (l13, x15) v14 => [(3, .c (.osl 1 v14 0 l13.length)), (4, .c (.int .i64 x15))]) (fun (l13, x15) v14 => [.box [.tree 2 (p1.vars.map ap.enc), .tree 1 (p1.in_.map (eK .i64)), .tree 1 (p1.out_.map (eK .i64)), .tree 6 (p1.rules.map ah.enc)], .arr 1 v14 3 (l13.map (eK .i64))]) _ _ 0 hl1 ?_ ?_
  ·exact ls
  ·rintro ⟨l13, x15⟩ v14 r1 hm hr1;replace hm : cX p1 l13 x15 = some r1 := hm;refine aH ?_;unfold cX at hm;refine aq fun k1 hk1 => ?_;refine ao [5, 6, 7, 8] ?_
   by_cases h1 : x15 < (p1.rules.length : Int)
   ·rw [iP h1] at hm;refine af rfl (dT h1) ?_;refine au ?_;refine am (hk1 _ _ ?_);refine aq fun k2 hk2 => ?_;refine az ?_;refine aq fun k3 hk3 => ?_;obtain ⟨hg2a, hm⟩ := gd hm;refine jx [9, 12, 13, 14, 15, 16, 17, 18, 19] (by kernel_rfl) [0, 0, 2, 0, 14, 30, 0, 127, 255] [false, false, false, false, false, false, false, true, true] (by kernel_rfl) fun k hk => ?_;refine gax (em ah.enc p1.rules x15.toNat) ?_;obtain ⟨y16, hc3, hm⟩ := bd hm;refine ca (σ2 := [.box [.tree 2 (p1.vars.map ap.enc), .tree 1 (p1.in_.map (eK .i64)), .tree 1 (p1.out_.map (eK .i64)), .tree 6 (p1.rules.map ah.enc)], .arr 1 v14 3 (l13.map (eK .i64))]) (res := .c (.bool y16)) (ct [1] (th p1 (p1.rules.getD x15.toNat default) l13 v14 _ hc3)) ?_;refine ga ?_;refine hk _ _ ?_;clear hk k
    by_cases h4 : y16 = true
    ·rw [iP h4] at hm;refine ai rfl (by rw [show y16 = true from (h4)]; rfl) ?_;refine au ?_;refine am (hk3 _ _ ?_);obtain ⟨⟨hg5ax, hg5ay⟩, hm⟩ := gd hm;refine a8 ?_;refine ar ?_;refine am (hk2 _ _ ?_);refine a8 ?_;refine aB ((l13 ++ (lit ([x15] : List Int))), (IntKind.wrap .i64 (x15 + 1))) (v14 + 1) hm ?_;exact ls
    ·rw [iN h4] at hm;refine af rfl (by rw [show y16 = false from (fB h4)]; rfl) ?_;refine ao [1, 3, 4, 20] ?_;have ho6 := aA hm hr1;subst ho6;replace hm : some false = some r := hm1;refine ak ?_;refine ag (ab (ag (aD (ab (ax ?_)))))
     cases hm
     exact kr 0
   ·rw [iN h1] at hm;refine ai rfl (dF h1) ?_;refine bj ?_;have ho7 := aA hm hr1;subst ho7;replace hm : eW = some r := hm1;refine aY (aQ (aF ?_));refine aw () () hm ?_;exact ls
 ·rintro _ _ hm;replace hm : eW = some r := hm;refine aH ?_;unfold eW at hm;refine ao [] ?_;refine ak ?_
  cases hm
  exact kr 0
theorem jQ (p1 : aK) (p2 : Int) (p3 : Int) (r : Bool) (hm : gf p1 p2 p3 = some r) : bu Try.prog 117 [.a [.tree 1 (p1.at_.map (eK .i64)), .tree 1 (p1.keep.map (eK .i64)), .int .i64 p1.cells], .c (.int .i64 p2), .c (.int .i64 p3)] (.c (.bool r)) := by
 refine aG 18 [.tmp 6] Try.func117 rfl rfl rfl (by kernel_rfl) (by simp) ?_;refine bk ?_;unfold gf at hm;refine ao [0, 6] ?_
 by_cases h1 : p2 ≥ 1
 ·rw [iP h1] at hm;have h1b := dT h1;refine cS [1, 2, 3, 7, 8, 9, 10, 11, 12, 13, 14, 15, 16, 17] (by kernel_rfl) [0, 1, 3, 7, 7, 23, 7, 71, 247, 511, 1023, 2047] [true, true, true, false, false, false, false, false, false, true, true, true] (by kernel_rfl) fun k hk => ?_;refine aM ?_;refine gax h1b ?_;obtain ⟨y1, hc2, hm⟩ := bd hm;refine pat (fun _ => kM p3 _ hc2) ?_;refine aM ?_;refine gax h1b ?_;refine hk _ _ ?_;clear hk k;refine ak ?_
  cases hm
  exact kr 0
 ·rw [iN h1] at hm;have h1b := dF h1;refine cS [1, 2, 3, 7, 8, 9, 10, 11, 12, 13, 14, 15, 16, 17] (by kernel_rfl) [0, 1, 3, 7, 7, 23, 7, 71, 247, 511, 1023, 2047] [true, true, true, false, false, false, false, false, false, true, true, true] (by kernel_rfl) fun k hk => ?_;refine aM ?_;refine gax h1b ?_;refine hk _ _ ?_;clear hk k;refine ak ?_
  cases hm
  exact kr 0
theorem qn (p1 : ae) (p2 : aK) (r : Bool) (hm : jL p1 p2 = some r) : bu Try.prog 69 [.a [.tree 2 (p1.vars.map ap.enc), .tree 1 (p1.in_.map (eK .i64)), .tree 1 (p1.out_.map (eK .i64)), .tree 6 (p1.rules.map ah.enc)], .a [.tree 1 (p2.at_.map (eK .i64)), .tree 1 (p2.keep.map (eK .i64)), .int .i64 p2.cells]] (.c (.bool r)) := by
 refine aG 124 [.tmp 4] Try.func69 rfl rfl rfl (by kernel_rfl) (by simp) ?_;refine bk ?_;unfold jL at hm;refine ao [0, 1, 4] ?_;refine aq fun k1 hk1 => ?_;refine bz [8, 9, 10, 11, 12, 13, 14, 15, 16, 17, 18, 19, 20, 21, 22, 23, 24, 25, 26, 27, 28, 29, 30, 31, 32] fun k kp hk hp => ?_;refine an 8 ?_;refine go ?_
 by_cases h1 : ¬ (p2.at_.length : Int) = (p1.vars.length : Int)
 ·rw [iP h1] at hm;have h1b := bne_iff_ne.2 h1;refine aa ?_;refine gox h1b ?_;refine hk _ _ ?_;clear hk hp k kp;refine af rfl rfl ?_;refine ao [2, 3, 33] ?_;refine ak ?_;refine ag ?_
  cases hm
  exact kr 0
 ·rw [iN h1] at hm;have h1b : ((p2.at_.length : Int) != (p1.vars.length : Int)) = false := bne_eq_false_iff_eq.2 (Decidable.not_not.1 h1);refine an 9 ?_;refine gox h1b ?_
  by_cases h2 : ¬ (p2.keep.length : Int) = (p1.rules.length : Int)
  ·rw [iP h2] at hm;have h2b := bne_iff_ne.2 h2;refine aa ?_;refine gox (a2 h1b h2b) ?_;refine hk _ _ ?_;clear hk hp k kp;refine af rfl rfl ?_;refine ao [2, 3, 33] ?_;refine ak ?_;refine ag ?_
   cases hm
   exact kr 0
  ·rw [iN h2] at hm;have h2b : ((p2.keep.length : Int) != (p1.rules.length : Int)) = false := bne_eq_false_iff_eq.2 (Decidable.not_not.1 h2);refine an 5 ?_;refine gox (a2 h1b h2b) ?_
   by_cases h3 : p2.cells < 1
   ·rw [iP h3] at hm;have h3b := dT h3;refine aa ?_;refine gox (a2 h1b (a2 h2b h3b)) ?_;refine hk _ _ ?_;clear hk hp k kp;refine af rfl rfl ?_;refine ao [2, 3, 33] ?_;refine ak ?_;refine ag ?_
    cases hm
    exact kr 0
   ·rw [iN h3] at hm;have h3b := dF h3;refine aa ?_;refine gox (a2 h1b (a2 h2b h3b)) ?_;refine hk _ _ ?_;clear hk hp k kp
    by_cases h4 : p2.cells > 6000
    ·rw [iP h4] at hm;refine af rfl (dT h4) ?_;refine ao [2, 3, 33] ?_;refine ak ?_;refine ag ?_
     cases hm
     exact kr 0
    ·rw [iN h4] at hm;refine ai rfl (dF h4) ?_;refine au ?_;refine am (hk1 _ _ ?_);refine aI (S := Unit) (V := Unit) [4, 5, 33, 34, 35, 36, 37, 38, 39, 40, 41, 42, 43, 44, 45, 46, 47, 48, 49, 50, 51, 52, 53, 54, 55, 56, 57, 58, 59, 60, 61, 62] (fun _ _ => []) (fun _ _ => [.box [.tree 2 (p1.vars.map ap.enc), .tree 1 (p1.in_.map (eK .i64)), .tree 1 (p1.out_.map (eK .i64)), .tree 6 (p1.rules.map ah.enc)], .box [.tree 1 (p2.at_.map (eK .i64)), .tree 1 (p2.keep.map (eK .i64)), .int .i64 p2.cells]]) (fun _ => eY p1 p2 = some r) ?_ ?_
     ·skip;refine ao [33] ?_
      refine az ?_;obtain ⟨o2, hl2, hm2⟩ := bd hm;refine aZ (S := Int) (V := Unit) (O := Unit ⊕ Bool) [4, 5, 34, 35, 36, 37, 38, 39, 40, 41, 42, 43, 44, 45, 46, 47, 48, 49, 50, 51, 52, 53, 54, 55, 56, 57, 58, 59, 60, 61, 62] (fun x10 _ => [(5, .c (.int .i64 x10))]) (fun x10 _ => [.box [.tree 2 (p1.vars.map ap.enc), .tree 1 (p1.in_.map (eK .i64)), .tree 1 (p1.out_.map (eK .i64)), .tree 6 (p1.rules.map ah.enc)], .box [.tree 1 (p2.at_.map (eK .i64)), .tree 1 (p2.keep.map (eK .i64)), .int .i64 p2.cells]]) _ _ () hl2 ?_ ?_
      ·exact ls
      ·rintro x10 _ r2 hm hr2;replace hm : gV p1 p2 x10 = some r2 := hm;refine aH ?_;unfold gV at hm;refine aq fun k5 hk5 => ?_;refine ao [34, 35, 36, 37] ?_
       by_cases h25 : x10 < (p1.in_.length : Int)
       ·rw [iP h25] at hm;refine af rfl (dT h25) ?_;refine au ?_;refine am (hk5 _ _ ?_);refine aq fun k6 hk6 => ?_;refine az ?_;obtain ⟨⟨hg26a, hg26b, hg26c⟩, hm⟩ := gd hm;refine jx [38, 41, 42, 43, 44, 45, 46, 47, 48, 49, 50, 51, 52, 53, 54, 55, 56, 57, 58, 59, 60, 61] (by kernel_rfl) [0, 0, 2, 0, 8, 0, 56, 120, 254, 510, 0, 1024, 0, 4096, 0, 28672, 61440, 130048, 261120, 523264, 1048575, 2097151] [false, false, false, false, false, false, false, false, false, false, false, false, false, false, false, false, false, false, false, false, true, true] (by kernel_rfl) fun k hk => ?_;refine gax (a2 (em (eK .i64) p1.in_ x10.toNat) (a2 (em (eK .i64) p2.at_ ((p1.in_.getD x10.toNat default).toNat)) (em ap.enc p1.vars ((p1.in_.getD x10.toNat default).toNat)))) ?_;obtain ⟨y11, hc27, hm⟩ := bd hm;refine AP (fun _ => jQ p2 (p2.at_.getD ((p1.in_.getD x10.toNat default).toNat) default) ((p1.vars.getD ((p1.in_.getD x10.toNat default).toNat) default).n) _ hc27) ?_;refine ga ?_;refine hk _ _ ?_;clear hk k
        by_cases h28 : y11 = true
        ·rw [iP h28] at hm;refine ai rfl (by rw [show y11 = true from (h28)]; rfl) ?_;refine au ?_;refine ar ?_;refine am (hk6 _ _ ?_);refine a8 ?_;refine aB (IntKind.wrap .i64 (x10 + 1)) () hm ?_;exact ls
        ·rw [iN h28] at hm;refine af rfl (by rw [show y11 = false from (fB h28)]; rfl) ?_;refine ao [2, 3, 5, 62] ?_;have ho29 := aA hm hr2;subst ho29;replace hm : some false = some r := hm2;refine ak ?_;refine ab (ag (aD (ab (ax ?_))))
         cases hm
         exact kr 0
       ·rw [iN h25] at hm;refine ai rfl (dF h25) ?_;refine bj ?_;have ho30 := aA hm hr2;subst ho30;replace hm : eY p1 p2 = some r := hm2;refine aY (aQ (aF ?_));refine aw () () hm ?_;exact ls
     ·rintro _ _ hm;replace hm : eY p1 p2 = some r := hm;refine aH ?_;unfold eY at hm;refine aI (S := Unit) (V := Unit) [2, 3, 4, 6, 7, 63, 64, 65, 66, 67, 68, 69, 70, 71, 72, 73, 74, 75, 76, 77, 78, 79, 80, 81, 82, 83, 84, 85, 86, 87, 88, 89, 90, 91, 92, 93, 94, 95, 96, 97, 98, 99, 100, 101, 102, 103, 104, 105, 106, 107, 108, 109, 110, 111, 112, 113, 114, 115, 116, 117, 118, 119, 120, 121, 122, 123] (fun _ _ => []) (fun _ _ => [.box [.tree 2 (p1.vars.map ap.enc), .tree 1 (p1.in_.map (eK .i64)), .tree 1 (p1.out_.map (eK .i64)), .tree 6 (p1.rules.map ah.enc)], .box [.tree 1 (p2.at_.map (eK .i64)), .tree 1 (p2.keep.map (eK .i64)), .int .i64 p2.cells]]) (fun _ => gU = some r) ?_ ?_
      ·skip;refine ao [] ?_
       refine az ?_;obtain ⟨o1, hl1, hm1⟩ := bd hm;refine aZ (S := Int) (V := Unit) (O := Unit ⊕ Bool) [4, 6, 7, 63, 64, 65, 66, 67, 68, 69, 70, 71, 72, 73, 74, 75, 76, 77, 78, 79, 80, 81, 82, 83, 84, 85, 86, 87, 88, 89, 90, 91, 92, 93, 94, 95, 96, 97, 98, 99, 100, 101, 102, 103, 104, 105, 106, 107, 108, 109, 110, 111, 112, 113, 114, 115, 116, 117, 118, 119, 120, 121, 122, 123] (fun x3 _ => [(6, .c (.int .i64 x3))]) (fun x3 _ => [.box [.tree 2 (p1.vars.map ap.enc), .tree 1 (p1.in_.map (eK .i64)), .tree 1 (p1.out_.map (eK .i64)), .tree 6 (p1.rules.map ah.enc)], .box [.tree 1 (p2.at_.map (eK .i64)), .tree 1 (p2.keep.map (eK .i64)), .int .i64 p2.cells]]) _ _ () hl1 ?_ ?_
       ·exact ls
       ·rintro x3 _ r1 hm hr1;replace hm : eX p1 p2 x3 = some r1 := hm;refine aH ?_;unfold eX at hm;refine aq fun k2 hk2 => ?_;refine ao [63, 64, 65, 66] ?_
        by_cases h5 : x3 < (p1.rules.length : Int)
        ·rw [iP h5] at hm;refine af rfl (dT h5) ?_;refine au ?_;refine am (hk2 _ _ ?_);refine aq fun k3 hk3 => ?_;refine az ?_;obtain ⟨hg6a, hm⟩ := gd hm;refine bi (em ah.enc p1.rules x3.toNat) [67, 70, 71, 72, 73, 74] ?_;refine aq fun k4 hk4 => ?_;obtain ⟨⟨hg7a, hg7b⟩, hm⟩ := gd hm;refine jx [75, 76, 77, 78, 79, 80, 81, 82, 83, 84, 85, 86, 87, 88, 89] (by kernel_rfl) [0, 0, 2, 0, 8, 30, 62, 0, 128, 0, 512, 1920, 3968, 8064, 16383, 32767] [false, false, false, false, false, false, false, false, false, false, false, false, false, false, true, true] (by kernel_rfl) fun k hk => ?_;refine gax (a2 (em (eK .i64) p2.at_ (((p1.rules.getD x3.toNat default).out_).toNat)) (em ap.enc p1.vars (((p1.rules.getD x3.toNat default).out_).toNat))) ?_;obtain ⟨y4, hc8, hm⟩ := bd hm;refine AP (fun _ => jQ p2 (p2.at_.getD (((p1.rules.getD x3.toNat default).out_).toNat) default) ((p1.vars.getD (((p1.rules.getD x3.toNat default).out_).toNat) default).n) _ hc8) ?_;refine ga ?_;refine hk _ _ ?_;clear hk k
         by_cases h9 : y4 = true
         ·rw [iP h9] at hm;refine ai rfl (by rw [show y4 = true from (h9)]; rfl) ?_;refine au ?_;refine am (hk4 _ _ ?_);refine cS [7, 90, 91, 92, 93, 94, 95, 96, 97, 98, 99, 100, 101, 102, 103, 104, 105, 106, 107, 108, 109, 110, 111, 112, 113, 114, 115, 116, 117, 118, 119, 120, 121, 122] (by kernel_rfl) [0, 1, 3, 7, 15, 31, 15, 127, 255, 511, 1023, 2047, 4095, 8191, 16383, 32767, 65535, 65535, 196607, 65535, 983039, 2031615, 65535, 4259839, 65535, 16842751, 62980095, 130088959, 264306687, 536870911, 1073741823, 2147483647, 4294967295] [true, true, true, true, false, false, false, true, true, true, true, true, true, true, true, true, false, false, false, false, false, false, false, false, false, false, false, false, false, true, true, true, true] (by kernel_rfl) fun k hk => ?_;refine c8 4 rfl ?_;refine ga ?_
          by_cases h10 : ¬ ((p1.rules.getD x3.toNat default).op) = 13
          ·rw [iP h10] at hm;have h10b := bne_iff_ne.2 h10;obtain ⟨hg11a, hm⟩ := gd hm;refine c8 8 rfl ?_;refine gax (a2 (em (eK .i64) p2.keep x3.toNat) h10b) ?_
           by_cases h12 : (p2.keep.getD x3.toNat default) ≥ 0
           ·rw [iP h12] at hm;have h12b := dT h12;refine aM ?_;refine gax (a2 h10b h12b) ?_;refine hk _ _ ?_;clear hk k;refine af rfl rfl ?_;refine ao [2, 3, 6, 123] ?_;have ho13 := aA hm hr1;subst ho13;replace hm : some false = some r := hm1;refine ak ?_;refine ab (ag (aD (ab (ax ?_))))
            cases hm
            exact kr 0
           ·rw [iN h12] at hm;have h12b := dF h12;refine c8 4 rfl ?_;refine gax (a2 h10b h12b) ?_
            by_cases h14 : ((p1.rules.getD x3.toNat default).op) = 13
            ·rw [iP h14] at hm;have h14b := eQ h14;refine aM ?_;refine gax (a2 (em (eK .i64) p2.keep x3.toNat) (a2 (em ap.enc p1.vars (((p1.rules.getD x3.toNat default).out_).toNat)) (a2 h10b (a2 h12b h14b)))) ?_;obtain ⟨y5, hc15, hm⟩ := bd hm;refine pat (fun _ => jQ p2 (p2.keep.getD x3.toNat default) ((p1.vars.getD (((p1.rules.getD x3.toNat default).out_).toNat) default).n) _ hc15) ?_;refine aM ?_;refine gax (a2 h10b (a2 h12b h14b)) ?_;refine hk _ _ ?_;clear hk k
             by_cases h16 : y5 = true
             ·rw [iP h16] at hm;refine ai rfl (by rw [show y5 = true from (h16)]; rfl) ?_;refine au ?_;refine ar ?_;refine am (hk3 _ _ ?_);refine a8 ?_;refine aB (IntKind.wrap .i64 (x3 + 1)) () hm ?_;exact ls
             ·rw [iN h16] at hm;refine af rfl (by rw [show y5 = false from (fB h16)]; rfl) ?_;refine ao [2, 3, 6, 123] ?_;have ho17 := aA hm hr1;subst ho17;replace hm : some false = some r := hm1;refine ak ?_;refine ab (ag (aD (ab (ax ?_))))
              cases hm
              exact kr 0
            ·rw [iN h14] at hm;have h14b := nB h14;refine aM ?_;refine gax (a2 h10b (a2 h12b h14b)) ?_;refine hk _ _ ?_;clear hk k;refine ai rfl rfl ?_;refine au ?_;refine ar ?_;refine am (hk3 _ _ ?_);refine a8 ?_;refine aB (IntKind.wrap .i64 (x3 + 1)) () hm ?_;exact ls
          ·rw [iN h10] at hm;have h10b : (((p1.rules.getD x3.toNat default).op) != 13) = false := bne_eq_false_iff_eq.2 (Decidable.not_not.1 h10);refine c8 12 rfl ?_;refine gax h10b ?_
           by_cases h18 : ((p1.rules.getD x3.toNat default).op) = 13
           ·rw [iP h18] at hm;have h18b := eQ h18;obtain ⟨hg19a, hm⟩ := gd hm;refine aM ?_;refine gax (a2 (em (eK .i64) p2.keep x3.toNat) (a2 (em ap.enc p1.vars (((p1.rules.getD x3.toNat default).out_).toNat)) (a2 h10b h18b))) ?_;obtain ⟨y6, hc20, hm⟩ := bd hm;refine pat (fun _ => jQ p2 (p2.keep.getD x3.toNat default) ((p1.vars.getD (((p1.rules.getD x3.toNat default).out_).toNat) default).n) _ hc20) ?_;refine aM ?_;refine gax (a2 h10b h18b) ?_;refine hk _ _ ?_;clear hk k
            by_cases h21 : y6 = true
            ·rw [iP h21] at hm;refine ai rfl (by rw [show y6 = true from (h21)]; rfl) ?_;refine au ?_;refine ar ?_;refine am (hk3 _ _ ?_);refine a8 ?_;refine aB (IntKind.wrap .i64 (x3 + 1)) () hm ?_;exact ls
            ·rw [iN h21] at hm;refine af rfl (by rw [show y6 = false from (fB h21)]; rfl) ?_;refine ao [2, 3, 6, 123] ?_;have ho22 := aA hm hr1;subst ho22;replace hm : some false = some r := hm1;refine ak ?_;refine ab (ag (aD (ab (ax ?_))))
             cases hm
             exact kr 0
           ·rw [iN h18] at hm;have h18b := nB h18;refine aM ?_;refine gax (a2 h10b h18b) ?_;refine hk _ _ ?_;clear hk k;refine ai rfl rfl ?_;refine au ?_;refine ar ?_;refine am (hk3 _ _ ?_);refine a8 ?_;refine aB (IntKind.wrap .i64 (x3 + 1)) () hm ?_;exact ls
         ·rw [iN h9] at hm;refine af rfl (by rw [show y4 = false from (fB h9)]; rfl) ?_;refine ao [2, 3, 6, 7, 90] ?_;have ho23 := aA hm hr1;subst ho23;replace hm : some false = some r := hm1;refine ak ?_;refine ag (ab (ag (aD (ab (ax ?_)))))
          cases hm
          exact kr 0
        ·rw [iN h5] at hm;refine ai rfl (dF h5) ?_;refine bj ?_;have ho24 := aA hm hr1;subst ho24;replace hm : gU = some r := hm1;refine aY (aQ (aF ?_));refine aw () () hm ?_;exact ls
      ·rintro _ _ hm;replace hm : gU = some r := hm;refine aH ?_;unfold gU at hm;refine ao [] ?_;refine ak ?_
       cases hm
       exact kr 0
theorem mm (p1 : ae) (p2 : aK) (p3 : List aj) (p4 : Int) (r : (List aj)) (hm : hU p1 p2 p3 p4 = some r) : bu Try.prog 71 [.a [.tree 2 (p1.vars.map ap.enc), .tree 1 (p1.in_.map (eK .i64)), .tree 1 (p1.out_.map (eK .i64)), .tree 6 (p1.rules.map ah.enc)], .a [.tree 1 (p2.at_.map (eK .i64)), .tree 1 (p2.keep.map (eK .i64)), .int .i64 p2.cells], .c (.tree 4 (p3.map aj.enc)), .c (.int .i64 p4)] (.c (.tree 4 (r.map aj.enc))) := by
 refine aG 91 [.tmp 8] Try.func71 rfl rfl rfl (by kernel_rfl) (by simp) ?_;refine bk ?_;unfold hU at hm;refine ao [0, 1, 8] ?_;refine ao [] ?_;refine bD (ew 9 4 96 (by decide) rfl (Nat.le_of_ble_eq_true rfl)) ?_;refine lZ ?_;refine aI (S := (List aj)) (V := Nat) [2, 3, 4, 5, 9, 10, 11, 12, 13, 14, 15, 16, 17, 18, 19, 20, 21, 22, 23, 24, 25, 26, 27, 28, 29, 30, 31, 32, 33, 34, 35, 36, 37, 38, 39, 40, 41, 42, 43, 44, 45, 46, 47, 48, 49, 50, 51, 52, 53, 54, 55, 56, 57, 58, 59, 60, 61, 62, 63, 64, 65, 66, 67, 68, 69, 70, 71, 72, 73, 74, 75, 76, 77, 78, 79, 80, 81, 82, 83, 84, 85, 86, 87, 88, 89] (fun l3 v4 => [(9, .c (.osl 2 v4 0 l3.length))]) (fun l3 v4 => [.box [.tree 2 (p1.vars.map ap.enc), .tree 1 (p1.in_.map (eK .i64)), .tree 1 (p1.out_.map (eK .i64)), .tree 6 (p1.rules.map ah.enc)], .box [.tree 1 (p2.at_.map (eK .i64)), .tree 1 (p2.keep.map (eK .i64)), .int .i64 p2.cells], .arr 4 v4 96 (l3.map aj.enc)]) (fun l3 => fW l3 = some r) ?_ ?_
 ·skip;refine ao [] ?_
  refine az ?_;obtain ⟨o1, hl1, hm1⟩ := bd hm;refine aZ (S := ((List aj) × Int)) (V := Nat) (O := (List aj)) [9, 10, 11, 12, 13, 14, 15, 16, 17, 18, 19, 20, 21, 22, 23, 24, 25, 26, 27, 28, 29, 30, 31, 32, 33, 34, 35, 36, 37, 38, 39, 40, 41, 42, 43, 44, 45, 46, 47, 48, 49, 50, 51, 52, 53, 54, 55, 56, 57, 58, 59, 60, 61, 62, 63, 64, 65, 66, 67, 68, 69, 70, 71, 72, 73, 74, 75, 76, 77, 78, 79, 80, 81, 82, 83, 84, 85, 86, 87, 88, 89] (fun (l17, x19) v18 => [(9, .c (.osl 2 v18 0 l17.length)), (10, .c (.int .i64 x19))]) (fun (l17, x19) v18 => [.box [.tree 2 (p1.vars.map ap.enc), .tree 1 (p1.in_.map (eK .i64)), .tree 1 (p1.out_.map (eK .i64)), .tree 6 (p1.rules.map ah.enc)], .box [.tree 1 (p2.at_.map (eK .i64)), .tree 1 (p2.keep.map (eK .i64)), .int .i64 p2.cells], .arr 4 v18 96 (l17.map aj.enc)]) _ _ 0 hl1 ?_ ?_
  ·exact ls
  ·rintro ⟨l17, x19⟩ v18 r1 hm hr1;replace hm : ck p1 p2 p3 p4 l17 x19 = some r1 := hm;refine aH ?_;unfold ck at hm;refine aq fun k1 hk1 => ?_;refine ao [12, 13, 14] ?_
   by_cases h1 : x19 < (p3.length : Int)
   ·rw [iP h1] at hm;refine af rfl (dT h1) ?_;refine au ?_;refine am (hk1 _ _ ?_);refine aq fun k2 hk2 => ?_;refine az ?_;obtain ⟨hg2a, hm⟩ := gd hm;refine bi (em aj.enc p3 x19.toNat) [15, 18, 19, 20, 21] ?_;refine aq fun k3 hk3 => ?_;refine ao [22] ?_;refine az ?_;refine ao [34] ?_
    by_cases h3 : ((p3.getD x19.toNat default).op) = 1
    ·rw [iP h3] at hm;refine af rfl (eQ h3) ?_;refine a8 ?_;refine ar ?_;refine am (hk3 _ _ ?_);obtain ⟨⟨hg4ax, hg4ay⟩, hm⟩ := gd hm;refine a8 ?_;refine ar ?_;refine am (hk2 _ _ ?_);refine a8 ?_;refine aB ((l17 ++ (lit ([(aj.mk 1 0 0 ((p3.getD x19.toNat default).n))] : List aj))), (IntKind.wrap .i64 (x19 + 1))) (v18 + 1) hm ?_;exact ls
    ·rw [iN h3] at hm;refine ai rfl (nB h3) ?_;refine ao [33, 39] ?_
     by_cases h5 : ((p3.getD x19.toNat default).op) = 2
     ·rw [iP h5] at hm;refine af rfl (eQ h5) ?_;obtain ⟨hg6a, hm⟩ := gd hm;refine nl (em (eK .i64) p2.at_ (((p3.getD x19.toNat default).v).toNat)) ?_;refine ar ?_;refine am (hk3 _ _ ?_);obtain ⟨⟨hg7ax, hg7ay⟩, hm⟩ := gd hm;refine a8 ?_;refine ar ?_;refine am (hk2 _ _ ?_);refine a8 ?_;refine aB ((l17 ++ (lit ([(aj.mk 2 0 (p2.at_.getD (((p3.getD x19.toNat default).v).toNat) default) 0)] : List aj))), (IntKind.wrap .i64 (x19 + 1))) (v18 + 1) hm ?_;exact ls
     ·rw [iN h5] at hm;refine ai rfl (nB h5) ?_;refine ao [38, 48] ?_
      by_cases h8 : ((p3.getD x19.toNat default).op) = 3
      ·rw [iP h8] at hm;refine af rfl (eQ h8) ?_;obtain ⟨hg9a, hm⟩ := gd hm;refine jy (em (eK .i64) p2.at_ (((p3.getD x19.toNat default).v).toNat)) [23, 47, 49, 50, 51, 52, 53, 54, 55, 56, 57, 58] [0, 1, 0, 4, 15, 31, 0, 64, 255, 511, 1023] [false, false, false, false, false, false, false, false, true, true, true] ?_;refine ao [59] ?_
       by_cases h10 : p4 = 0
       ·rw [iP h10] at hm;refine af rfl (eQ h10) ?_;refine a8 ?_;refine ar ?_;refine am (hk3 _ _ ?_);obtain ⟨⟨hg11ax, hg11ay⟩, hm⟩ := gd hm;refine a8 ?_;refine ar ?_;refine am (hk2 _ _ ?_);refine a8 ?_;refine aB ((l17 ++ (lit ([(aj.mk 2 0 (IntKind.wrap .i64 ((p2.at_.getD (((p3.getD x19.toNat default).v).toNat) default) + ((p3.getD x19.toNat default).n))) 0)] : List aj))), (IntKind.wrap .i64 (x19 + 1))) (v18 + 1) hm ?_;exact ls
       ·rw [iN h10] at hm;refine ai rfl (nB h10) ?_;refine au ?_;refine ar ?_;refine am (hk3 _ _ ?_);obtain ⟨⟨hg12ax, hg12ay⟩, hm⟩ := gd hm;refine a8 ?_;refine ar ?_;refine am (hk2 _ _ ?_);refine a8 ?_;refine aB ((l17 ++ (lit ([(aj.mk 3 0 (IntKind.wrap .i64 ((p2.at_.getD (((p3.getD x19.toNat default).v).toNat) default) + ((p3.getD x19.toNat default).n))) 0)] : List aj))), (IntKind.wrap .i64 (x19 + 1))) (v18 + 1) hm ?_;exact ls
      ·rw [iN h8] at hm;refine ai rfl (nB h8) ?_;refine ao [47, 63] ?_
       by_cases h13 : ((p3.getD x19.toNat default).op) = 4
       ·rw [iP h13] at hm;refine af rfl (eQ h13) ?_;refine ao [23, 62, 64, 65, 66] ?_;refine ao [67] ?_
        by_cases h14 : p4 = 0
        ·rw [iP h14] at hm;refine af rfl (eQ h14) ?_;refine a8 ?_;refine ar ?_;refine am (hk3 _ _ ?_);obtain ⟨⟨hg15ax, hg15ay⟩, hm⟩ := gd hm;refine a8 ?_;refine ar ?_;refine am (hk2 _ _ ?_);refine a8 ?_;refine aB ((l17 ++ (lit ([(aj.mk 1 0 0 ((p3.getD x19.toNat default).n))] : List aj))), (IntKind.wrap .i64 (x19 + 1))) (v18 + 1) hm ?_;exact ls
        ·rw [iN h14] at hm;refine ai rfl (nB h14) ?_;refine au ?_;refine ar ?_;refine am (hk3 _ _ ?_);obtain ⟨⟨hg16ax, hg16ay⟩, hm⟩ := gd hm;refine a8 ?_;refine ar ?_;refine am (hk2 _ _ ?_);refine a8 ?_;refine aB ((l17 ++ (lit ([(aj.mk 4 0 0 ((p3.getD x19.toNat default).n))] : List aj))), (IntKind.wrap .i64 (x19 + 1))) (v18 + 1) hm ?_;exact ls
       ·rw [iN h13] at hm;refine ai rfl (nB h13) ?_;refine ao [23, 62, 71] ?_
        by_cases h17 : ((p3.getD x19.toNat default).op) = 8
        ·rw [iP h17] at hm;refine af rfl (eQ h17) ?_;obtain ⟨⟨hg18a, hg18b⟩, hm⟩ := gd hm;refine st (a2 (em (eK .i64) p2.at_ (((p3.getD x19.toNat default).v).toNat)) (em ap.enc p1.vars (((p3.getD x19.toNat default).v).toNat))) [0, 1, 0, 4, 15, 31, 0, 64, 0, 256, 960, 1984, 4032, 8191, 16383] [false, false, false, false, false, false, false, false, false, false, false, false, false, true, true] ?_;refine ar ?_;refine am (hk3 _ _ ?_);obtain ⟨⟨hg19ax, hg19ay⟩, hm⟩ := gd hm;refine a8 ?_;refine ar ?_;refine am (hk2 _ _ ?_);refine a8 ?_;refine aB ((l17 ++ (lit ([(aj.mk 8 0 (p2.at_.getD (((p3.getD x19.toNat default).v).toNat) default) ((p1.vars.getD (((p3.getD x19.toNat default).v).toNat) default).n))] : List aj))), (IntKind.wrap .i64 (x19 + 1))) (v18 + 1) hm ?_;exact ls
        ·rw [iN h17] at hm;refine ai rfl (nB h17) ?_;refine ao [24, 25, 26, 27, 28, 70] ?_;refine ao [29, 30] ?_
         by_cases h20 : ((p3.getD x19.toNat default).op) = 7
         ·rw [iP h20] at hm;refine af rfl (eQ h20) ?_;refine a8 ?_;refine ar ?_;refine am (hk3 _ _ ?_);obtain ⟨⟨hg21ax, hg21ay⟩, hm⟩ := gd hm;refine a8 ?_;refine ar ?_;refine am (hk2 _ _ ?_);refine a8 ?_;refine aB ((l17 ++ (lit ([(aj.mk ((p3.getD x19.toNat default).op) 0 0 0)] : List aj))), (IntKind.wrap .i64 (x19 + 1))) (v18 + 1) hm ?_;exact ls
         ·rw [iN h20] at hm;refine ai rfl (nB h20) ?_;refine au ?_;refine ar ?_;refine am (hk3 _ _ ?_);obtain ⟨⟨hg22ax, hg22ay⟩, hm⟩ := gd hm;refine a8 ?_;refine ar ?_;refine am (hk2 _ _ ?_);refine a8 ?_;refine aB ((l17 ++ (lit ([(aj.mk ((p3.getD x19.toNat default).op) ((p3.getD x19.toNat default).k) 0 0)] : List aj))), (IntKind.wrap .i64 (x19 + 1))) (v18 + 1) hm ?_;exact ls
   ·rw [iN h1] at hm;refine ai rfl (dF h1) ?_;refine bj ?_;have ho23 := aA hm hr1;subst ho23;replace hm : fW l17 = some r := hm1;refine aY (aQ (aF ?_));refine aw l17 v18 hm ?_;exact ls
 ·rintro l3 v4 hm;replace hm : fW l3 = some r := hm;refine aH ?_;unfold fW at hm;refine ao [9, 90] ?_;refine iZ (bw 2 rfl) ?_;refine ak ?_
  cases hm
  exact kr 0
theorem i8 (p1 : Int) (p2 : Int) (p3 : List aj) (r : av) (hm : gG p1 p2 p3 = some r) : bu Try.prog 70 [.c (.int .i64 p1), .c (.int .i64 p2), .c (.tree 4 (p3.map aj.enc))] (.a [.int .i64 ((r).op), .int .i64 ((r).k), .int .i64 ((r).n), .int .i64 ((r).to), .tree 4 (((r).f).map aj.enc), .tree 4 (((r).e).map aj.enc)]) := by
 refine aG 16 [.cell 6 98] Try.func70 rfl rfl rfl (by kernel_rfl) (by simp) ?_;refine bk ?_;unfold gG at hm;refine ao [] ?_;refine aq fun k1 hk1 => ?_;refine ao [7] ?_
 by_cases h1 : p2 = 0
 ·rw [iP h1] at hm;refine af rfl (eQ h1) ?_;refine ao [0, 1, 2, 8, 9, 10, 11] ?_
  refine bD (eI 0 [.int .i64 1, .int .i64 0, .int .i64 0, .int .i64 p1, .tree 4 ([].map aj.enc), .tree 4 (p3.map aj.enc)] rfl (by and_intros <;> trivial)) ?_
  refine jV rfl (by simp only [bZ, bL, reduceIte, ↓reduceIte, reduceCtorEq, Int.reduceToNat, Nat.reduceDiv, Nat.reduceMod, Nat.reduceLT, Nat.reduceLeDiff, Nat.reduceAdd, Nat.reduceSub, Nat.reduceMul, Nat.reduceEqDiff, Nat.reduceBEq, Nat.reduceBNe, Nat.reduceGT]; rfl) ?_;refine ak ?_;refine ag ?_
  cases hm
  exact kr 0
 ·rw [iN h1] at hm;refine ai rfl (nB h1) ?_;refine au ?_;refine am (hk1 _ _ ?_);refine ao [0, 1, 2, 8, 12, 13, 14, 15] ?_
  refine bD (eI 0 [.int .i64 2, .int .i64 0, .int .i64 p2, .int .i64 p1, .tree 4 ([].map aj.enc), .tree 4 (p3.map aj.enc)] rfl (by and_intros <;> trivial)) ?_
  refine jV rfl (by simp only [bZ, bL, reduceIte, ↓reduceIte, reduceCtorEq, Int.reduceToNat, Nat.reduceDiv, Nat.reduceMod, Nat.reduceLT, Nat.reduceLeDiff, Nat.reduceAdd, Nat.reduceSub, Nat.reduceMul, Nat.reduceEqDiff, Nat.reduceBEq, Nat.reduceBNe, Nat.reduceGT]; rfl) ?_;refine ak ?_
  cases hm
  exact kr 0
theorem ja (p1 : Int) (p2 : Int) (r : aj) (hm : fA p1 p2 = some r) : bu Try.prog 72 [.c (.int .i64 p1), .c (.int .i64 p2)] (.a [.int .i64 ((r).op), .int .i64 ((r).k), .int .i64 ((r).v), .int .i64 ((r).n)]) := by
 refine aG 11 [.cell 4 96] Try.func72 rfl rfl rfl (by kernel_rfl) (by simp) ?_;refine bk ?_;unfold fA at hm;refine ao [] ?_;refine aq fun k1 hk1 => ?_;refine ao [1, 5] ?_
 by_cases h1 : p2 = 0
 ·rw [iP h1] at hm;refine af rfl (eQ h1) ?_;refine ao [0, 6, 7, 8] ?_;refine ak ?_;refine ag ?_
  cases hm
  exact kr 0
 ·rw [iN h1] at hm;refine ai rfl (nB h1) ?_;refine au ?_;refine am (hk1 _ _ ?_);refine ao [0, 6, 9, 10] ?_;refine ak ?_
  cases hm
  exact kr 0
theorem kC (p1 : ae) (p2 : aK) (p3 : List Int) (r : (List Int)) (hm : gH p1 p2 p3 = some r) : bu Try.prog 73 [.a [.tree 2 (p1.vars.map ap.enc), .tree 1 (p1.in_.map (eK .i64)), .tree 1 (p1.out_.map (eK .i64)), .tree 6 (p1.rules.map ah.enc)], .a [.tree 1 (p2.at_.map (eK .i64)), .tree 1 (p2.keep.map (eK .i64)), .int .i64 p2.cells], .c (.tree 1 (p3.map (eK .i64)))] (.c (.tree 1 (r.map (eK .i64)))) := by
 refine aG 44 [.tmp 6] Try.func73 rfl rfl rfl (by kernel_rfl) (by simp) ?_;refine bk ?_;unfold gH at hm;refine ao [0, 1, 6] ?_;refine ao [] ?_;refine bD (ew 7 1 3 (by decide) rfl (Nat.le_of_ble_eq_true rfl)) ?_;refine lZ ?_;refine aI (S := (List Int)) (V := Nat) [2, 3, 4, 7, 8, 9, 10, 11, 12, 13, 14, 15, 16, 17, 18, 19, 20, 21, 22, 23, 24, 25, 26, 27, 28, 29, 30, 31, 32, 33, 34, 35, 36, 37, 38, 39, 40, 41, 42] (fun l3 v4 => [(7, .c (.osl 2 v4 0 l3.length))]) (fun l3 v4 => [.box [.tree 2 (p1.vars.map ap.enc), .tree 1 (p1.in_.map (eK .i64)), .tree 1 (p1.out_.map (eK .i64)), .tree 6 (p1.rules.map ah.enc)], .box [.tree 1 (p2.at_.map (eK .i64)), .tree 1 (p2.keep.map (eK .i64)), .int .i64 p2.cells], .arr 1 v4 3 (l3.map (eK .i64))]) (fun l3 => gW l3 = some r) ?_ ?_
 ·skip;refine ao [] ?_
  refine az ?_;obtain ⟨o1, hl1, hm1⟩ := bd hm;refine aZ (S := ((List Int) × Int)) (V := Nat) (O := (List Int)) [7, 8, 9, 10, 11, 12, 13, 14, 15, 16, 17, 18, 19, 20, 21, 22, 23, 24, 25, 26, 27, 28, 29, 30, 31, 32, 33, 34, 35, 36, 37, 38, 39, 40, 41, 42] (fun (l17, x19) v18 => [(7, .c (.osl 2 v18 0 l17.length)), (8, .c (.int .i64 x19))]) (fun (l17, x19) v18 => [.box [.tree 2 (p1.vars.map ap.enc), .tree 1 (p1.in_.map (eK .i64)), .tree 1 (p1.out_.map (eK .i64)), .tree 6 (p1.rules.map ah.enc)], .box [.tree 1 (p2.at_.map (eK .i64)), .tree 1 (p2.keep.map (eK .i64)), .int .i64 p2.cells], .arr 1 v18 3 (l17.map (eK .i64))]) _ _ 0 hl1 ?_ ?_
  ·exact ls
  ·rintro ⟨l17, x19⟩ v18 r1 hm hr1;replace hm : cZ p1 p2 p3 l17 x19 = some r1 := hm;refine aH ?_;unfold cZ at hm;refine aq fun k1 hk1 => ?_;refine ao [10, 11, 12] ?_
   by_cases h1 : x19 < (p3.length : Int)
   ·rw [iP h1] at hm;refine af rfl (dT h1) ?_;refine au ?_;refine am (hk1 _ _ ?_);refine aI (S := (List Int)) (V := Nat) [7, 9, 13, 16, 17, 18, 19, 20, 21, 22, 23, 24, 25, 26, 27, 28, 29, 30, 31, 32, 33, 34, 35, 36, 37, 38, 39, 40, 41, 42] (fun l22 v23 => [(7, .c (.osl 2 v23 0 l22.length))]) (fun l22 v23 => [.box [.tree 2 (p1.vars.map ap.enc), .tree 1 (p1.in_.map (eK .i64)), .tree 1 (p1.out_.map (eK .i64)), .tree 6 (p1.rules.map ah.enc)], .box [.tree 1 (p2.at_.map (eK .i64)), .tree 1 (p2.keep.map (eK .i64)), .int .i64 p2.cells], .arr 1 v23 3 (l22.map (eK .i64))]) (fun l22 => eZ x19 l22 = some r1) ?_ ?_
    ·skip;refine az ?_
     refine ao [13] ?_;refine az ?_;obtain ⟨o2, hl2, hm2⟩ := bd hm;refine aZ (S := ((List Int) × Int)) (V := Nat) (O := (List Int)) [7, 9, 16, 17, 18, 19, 20, 21, 22, 23, 24, 25, 26, 27, 28, 29, 30, 31, 32, 33, 34, 35, 36, 37, 38, 39, 40, 41, 42] (fun (l38, x40) v39 => [(7, .c (.osl 2 v39 0 l38.length)), (9, .c (.int .i64 x40))]) (fun (l38, x40) v39 => [.box [.tree 2 (p1.vars.map ap.enc), .tree 1 (p1.in_.map (eK .i64)), .tree 1 (p1.out_.map (eK .i64)), .tree 6 (p1.rules.map ah.enc)], .box [.tree 1 (p2.at_.map (eK .i64)), .tree 1 (p2.keep.map (eK .i64)), .int .i64 p2.cells], .arr 1 v39 3 (l38.map (eK .i64))]) _ _ v18 hl2 ?_ ?_
     ·exact ls
     ·rintro ⟨l38, x40⟩ v39 r2 hm hr2;replace hm : cY p1 p2 p3 x19 l38 x40 = some r2 := hm;refine aH ?_;unfold cY at hm;refine aq fun k2 hk2 => ?_;obtain ⟨⟨hg2a, hg2b⟩, hm⟩ := gd hm;refine jx [16, 17, 18, 19, 20, 21, 22, 23, 24, 25, 26] (by kernel_rfl) [0, 0, 2, 0, 0, 24, 56, 126, 254, 510, 1022, 2047] [false, false, false, false, false, false, false, false, false, false, false, true] (by kernel_rfl) fun k hk => ?_;refine gax (a2 (em (eK .i64) p3 x19.toNat) (em ap.enc p1.vars ((p3.getD x19.toNat default).toNat))) ?_;obtain ⟨y41, hc3, hm⟩ := bd hm;refine AP (fun _ => kM ((p1.vars.getD ((p3.getD x19.toNat default).toNat) default).n) _ hc3) ?_;refine ga ?_;refine hk _ _ ?_;clear hk k
      by_cases h4 : x40 < y41
      ·rw [iP h4] at hm;refine af rfl (dT h4) ?_;refine au ?_;refine am (hk2 _ _ ?_);refine aq fun k3 hk3 => ?_;refine az ?_;obtain ⟨⟨hg5a, ⟨hg5bx, hg5by⟩⟩, hm⟩ := gd hm;refine st (a2 (em (eK .i64) p3 x19.toNat) (em (eK .i64) p2.at_ ((p3.getD x19.toNat default).toNat))) [0, 0, 2, 0, 0, 24, 56, 126, 254, 0, 1022, 2046, 4095, 8191] [false, false, false, false, false, false, false, false, false, false, false, false, true, true] ?_;refine ar ?_;refine am (hk3 _ _ ?_);refine a8 ?_;refine aB ((l38 ++ (lit ([(IntKind.wrap .i64 ((p2.at_.getD ((p3.getD x19.toNat default).toNat) default) + x40))] : List Int))), (IntKind.wrap .i64 (x40 + 1))) (v39 + 1) hm ?_;exact ls
      ·rw [iN h4] at hm;refine ai rfl (dF h4) ?_;refine bj ?_;have ho6 := aA hm hr2;subst ho6;replace hm : eZ x19 l38 = some r1 := hm2;refine aY (aQ (aF (ar ?_)));refine aw l38 v39 hm ?_;exact ls
    ·rintro l22 v23 hm;replace hm : eZ x19 l22 = some r1 := hm;refine aH ?_;unfold eZ at hm;refine a8 ?_;refine aB (l22, (IntKind.wrap .i64 (x19 + 1))) v23 hm ?_;exact ls
   ·rw [iN h1] at hm;refine ai rfl (dF h1) ?_;refine bj ?_;have ho7 := aA hm hr1;subst ho7;replace hm : gW l17 = some r := hm1;refine aY (aQ (aF ?_));refine aw l17 v18 hm ?_;exact ls
 ·rintro l3 v4 hm;replace hm : gW l3 = some r := hm;refine aH ?_;unfold gW at hm;refine ao [7, 43] ?_;refine iZ (bw 2 rfl) ?_;refine ak ?_
  cases hm
  exact kr 0
theorem ti (p1 : ae) (p2 : aK) (r : (bq × (List Int) × ay)) (hm : mh p1 p2 = some r) : bu Try.prog 20 [.a [.tree 2 (p1.vars.map ap.enc), .tree 1 (p1.in_.map (eK .i64)), .tree 1 (p1.out_.map (eK .i64)), .tree 6 (p1.rules.map ah.enc)], .a [.tree 1 (p2.at_.map (eK .i64)), .tree 1 (p2.keep.map (eK .i64)), .int .i64 p2.cells]] (.t [.a [.int .i64 ((r.1).cells), .tree 1 (((r.1).put).map (eK .i64)), .tree 1 (((r.1).get).map (eK .i64)), .tree 6 (((r.1).steps).map av.enc)], .c (.tree 1 (r.2.1.map (eK .i64))), .a [.int .i64 ((r.2.2).code), .int .i64 ((r.2.2).at_)]]) := by
 refine aG 273 [.cell 4 46, .tmp 5, .cell 6 30] Try.func20 rfl rfl rfl (by kernel_rfl) (by simp) ?_;refine bk ?_;unfold mh at hm;refine ao [0, 1, 5] ?_;refine aq fun k1 hk1 => ?_;refine aL [19, 20] fun k kp hk hp => ?_;refine go ?_;obtain ⟨y1, hc1, hm⟩ := bd hm;refine RP (fun _ => ql p1 _ hc1) ?_;refine aa ?_;refine go ?_;refine hk _ _ ?_;clear hk hp k kp;refine ao [21, 22] ?_
 by_cases h2 : ¬ ((y1).code) = 0
 ·rw [iP h2] at hm;refine af rfl (bne_iff_ne.2 h2) ?_;refine qw [2, 3, 7, 23, 24, 25] (by kernel_rfl) [2] [0, 0, 1, 5, 15] [false, false, false, false, true] [false, false, true, false, false] [[], [7], [], [], []] (by kernel_rfl) fun k hk => ?_;refine gp ?_;refine hk _ _ ?_;clear hk k
  refine bD (eI 2 [.int .i64 0, .tree 1 ([].map (eK .i64)), .tree 1 ([].map (eK .i64)), .tree 6 ([].map av.enc)] rfl (by and_intros <;> trivial)) ?_
  refine jV rfl (by simp only [bZ, bL, reduceIte, ↓reduceIte, reduceCtorEq, Int.reduceToNat, Nat.reduceDiv, Nat.reduceMod, Nat.reduceLT, Nat.reduceLeDiff, Nat.reduceAdd, Nat.reduceSub, Nat.reduceMul, Nat.reduceEqDiff, Nat.reduceBEq, Nat.reduceBNe, Nat.reduceGT]; rfl) ?_
  refine bD (ex 5 (.c (.tree 1 (([] : List _).map (eK .i64)))) rfl (by and_intros <;> trivial)) ?_
  refine nm ?_;refine ak ?_;refine ag ?_
  cases hm
  exact kr 0
 ·rw [iN h2] at hm;refine ai rfl (bne_eq_false_iff_eq.2 (Decidable.not_not.1 h2)) ?_;refine au ?_;refine am (hk1 _ _ ?_);refine aq fun k2 hk2 => ?_;refine aL [7, 23, 26, 27] fun k kp hk hp => ?_;refine go ?_;obtain ⟨y2, hc3, hm⟩ := bd hm;refine RP (fun _ => qm p1 _ hc3) ?_;refine aa ?_;refine go ?_;refine hk _ _ ?_;clear hk hp k kp
  by_cases h4 : y2 = true
  ·rw [iP h4] at hm;refine ai rfl (by rw [show y2 = true from (h4)]; rfl) ?_;refine au ?_;refine am (hk2 _ _ ?_);refine aq fun k3 hk3 => ?_;refine aL [28, 31, 32, 33] fun k kp hk hp => ?_;refine go ?_;obtain ⟨y3, hc5, hm⟩ := bd hm;refine RP (fun _ => qn p1 p2 _ hc5) ?_;refine aa ?_;refine go ?_;refine hk _ _ ?_;clear hk hp k kp
   by_cases h6 : y3 = true
   ·rw [iP h6] at hm;refine ai rfl (by rw [show y3 = true from (h6)]; rfl) ?_;refine au ?_;refine am (hk3 _ _ ?_);refine ao [34, 37, 38, 39] ?_;refine ao [] ?_;refine bD (ew 9 6 98 (by decide) rfl (Nat.le_of_ble_eq_true rfl)) ?_;refine lZ ?_;refine iZ (mH 5 3 6 98 (by decide) rfl rfl) ?_;refine aI (S := ((List av) × (List av))) (V := (Nat × Nat)) [5, 9, 10, 11, 12, 13, 14, 15, 16, 40, 41, 42, 43, 44, 45, 46, 47, 48, 49, 50, 51, 52, 53, 54, 55, 56, 57, 58, 59, 60, 61, 62, 63, 64, 65, 66, 67, 68, 69, 70, 71, 72, 73, 74, 75, 76, 77, 78, 79, 80, 81, 82, 83, 84, 85, 86, 87, 88, 89, 90, 91, 92, 93, 94, 95, 96, 97, 98, 99, 100, 101, 102, 103, 104, 105, 106, 107, 108, 109, 110, 111, 112, 113, 114, 115, 116, 117, 118, 119, 120, 121, 122, 123, 124, 125, 126, 127, 128, 129, 130, 131, 132, 133, 134, 135, 136, 137, 138, 139, 140, 141, 142, 143, 144, 145, 146, 147, 148, 149, 150, 151, 152, 153, 154, 155, 156, 157, 158, 159, 160, 161, 162, 163, 164, 165, 166, 167, 168, 169, 170, 171, 172, 173, 174, 175, 176, 177, 178, 179, 180, 181, 182, 183, 184, 185, 186, 187, 188, 189, 190, 191, 192, 193, 194, 195, 196, 197, 198, 199, 200, 201, 202, 203, 204, 205, 206, 207, 208, 209, 210, 211, 212, 213, 214, 215] (fun (l8, l10) (v9, v11) => [(9, .c (.osl 6 v9 0 l8.length))]) (fun (l8, l10) (v9, v11) => [.box [.tree 2 (p1.vars.map ap.enc), .tree 1 (p1.in_.map (eK .i64)), .tree 1 (p1.out_.map (eK .i64)), .tree 6 (p1.rules.map ah.enc)], .box [.tree 1 (p2.at_.map (eK .i64)), .tree 1 (p2.keep.map (eK .i64)), .int .i64 p2.cells], .box [.int .i64 0, .nils, .nils, .nils], .box [.int .i64 0, .int .i64 0], .box [.int .i64 ((y1).code), .int .i64 ((y1).at_)], .box [.int .i64 p2.cells, .nils, .nils, .osl 7 v11 0 l10.length], .arr 6 v9 98 (l8.map av.enc), .arr 6 v11 98 (l10.map av.enc)]) (fun (l8, l10) => gI p1 p2 l8 l10 = some r) ?_ ?_
    ·skip;refine ao [] ?_
     refine az ?_;obtain ⟨o2, hl2, hm2⟩ := bd hm;refine aZ (S := ((List av) × (List av) × Int)) (V := (Nat × Nat)) (O := ((List av) × (List av)) ⊕ (bq × (List Int) × ay)) [5, 9, 10, 11, 12, 13, 14, 15, 16, 40, 41, 42, 43, 44, 45, 46, 47, 48, 49, 50, 51, 52, 53, 54, 55, 56, 57, 58, 59, 60, 61, 62, 63, 64, 65, 66, 67, 68, 69, 70, 71, 72, 73, 74, 75, 76, 77, 78, 79, 80, 81, 82, 83, 84, 85, 86, 87, 88, 89, 90, 91, 92, 93, 94, 95, 96, 97, 98, 99, 100, 101, 102, 103, 104, 105, 106, 107, 108, 109, 110, 111, 112, 113, 114, 115, 116, 117, 118, 119, 120, 121, 122, 123, 124, 125, 126, 127, 128, 129, 130, 131, 132, 133, 134, 135, 136, 137, 138, 139, 140, 141, 142, 143, 144, 145, 146, 147, 148, 149, 150, 151, 152, 153, 154, 155, 156, 157, 158, 159, 160, 161, 162, 163, 164, 165, 166, 167, 168, 169, 170, 171, 172, 173, 174, 175, 176, 177, 178, 179, 180, 181, 182, 183, 184, 185, 186, 187, 188, 189, 190, 191, 192, 193, 194, 195, 196, 197, 198, 199, 200, 201, 202, 203, 204, 205, 206, 207, 208, 209, 210, 211, 212, 213, 214, 215] (fun (l78, l80, x82) (v79, v81) => [(9, .c (.osl 6 v79 0 l78.length)), (10, .c (.int .i64 x82))]) (fun (l78, l80, x82) (v79, v81) => [.box [.tree 2 (p1.vars.map ap.enc), .tree 1 (p1.in_.map (eK .i64)), .tree 1 (p1.out_.map (eK .i64)), .tree 6 (p1.rules.map ah.enc)], .box [.tree 1 (p2.at_.map (eK .i64)), .tree 1 (p2.keep.map (eK .i64)), .int .i64 p2.cells], .box [.int .i64 0, .nils, .nils, .nils], .box [.int .i64 0, .int .i64 0], .box [.int .i64 ((y1).code), .int .i64 ((y1).at_)], .box [.int .i64 p2.cells, .nils, .nils, .osl 7 v81 0 l80.length], .arr 6 v79 98 (l78.map av.enc), .arr 6 v81 98 (l80.map av.enc)]) _ _ (0, 0) hl2 ?_ ?_
     ·exact ls
     ·rintro ⟨l78, l80, x82⟩ ⟨v79, v81⟩ r2 hm hr2;replace hm : dz p1 p2 l78 l80 x82 = some r2 := hm;refine aH ?_;unfold dz at hm;refine aq fun k6 hk6 => ?_;refine ao [40, 41, 42, 43] ?_
      by_cases h19 : x82 < (p1.rules.length : Int)
      ·rw [iP h19] at hm;refine af rfl (dT h19) ?_;refine au ?_;refine am (hk6 _ _ ?_);refine aI (S := ((List av) × (List av))) (V := (Nat × Nat)) [5, 9, 11, 12, 13, 14, 15, 16, 44, 47, 48, 49, 50, 51, 52, 53, 54, 55, 56, 57, 58, 59, 60, 61, 62, 63, 64, 65, 66, 67, 68, 69, 70, 71, 72, 73, 74, 75, 76, 77, 78, 79, 80, 81, 82, 83, 84, 85, 86, 87, 88, 89, 90, 91, 92, 93, 94, 95, 96, 97, 98, 99, 100, 101, 102, 103, 104, 105, 106, 107, 108, 109, 110, 111, 112, 113, 114, 115, 116, 117, 118, 119, 120, 121, 122, 123, 124, 125, 126, 127, 128, 129, 130, 131, 132, 133, 134, 135, 136, 137, 138, 139, 140, 141, 142, 143, 144, 145, 146, 147, 148, 149, 150, 151, 152, 153, 154, 155, 156, 157, 158, 159, 160, 161, 162, 163, 164, 165, 166, 167, 168, 169, 170, 171, 172, 173, 174, 175, 176, 177, 178, 179, 180, 181, 182, 183, 184, 185, 186, 187, 188, 189, 190, 191, 192, 193, 194, 195, 196, 197, 198, 199, 200, 201, 202, 203, 204, 205, 206, 207, 208, 209, 210, 211, 212, 213, 214, 215] (fun (l87, l89) (v88, v90) => [(9, .c (.osl 6 v88 0 l87.length))]) (fun (l87, l89) (v88, v90) => [.box [.tree 2 (p1.vars.map ap.enc), .tree 1 (p1.in_.map (eK .i64)), .tree 1 (p1.out_.map (eK .i64)), .tree 6 (p1.rules.map ah.enc)], .box [.tree 1 (p2.at_.map (eK .i64)), .tree 1 (p2.keep.map (eK .i64)), .int .i64 p2.cells], .box [.int .i64 0, .nils, .nils, .nils], .box [.int .i64 0, .int .i64 0], .box [.int .i64 ((y1).code), .int .i64 ((y1).at_)], .box [.int .i64 p2.cells, .nils, .nils, .osl 7 v90 0 l89.length], .arr 6 v88 98 (l87.map av.enc), .arr 6 v90 98 (l89.map av.enc)]) (fun (l87, l89) => eg x82 l87 l89 = some r2) ?_ ?_
       ·skip;refine az ?_
        obtain ⟨hg20a, hm⟩ := gd hm;refine bi (em ah.enc p1.rules x82.toNat) [44, 47, 48, 49, 50, 51] ?_;obtain ⟨⟨hg21a, hg21b⟩, hm⟩ := gd hm;refine jy (a2 (em ap.enc p1.vars (((p1.rules.getD x82.toNat default).out_).toNat)) (em (eK .i64) p2.at_ (((p1.rules.getD x82.toNat default).out_).toNat))) [52, 53, 54, 55, 56, 57, 58, 59, 60, 61, 62, 63, 64] [0, 1, 0, 4, 15, 31, 63, 0, 128, 0, 512, 1920, 3968, 127, 16383] [false, false, false, false, false, false, false, false, false, false, false, false, false, false, true] ?_;refine ao [65] ?_;refine az ?_;refine ao [71] ?_
        by_cases h22 : ((p1.rules.getD x82.toNat default).op) = 14
        ·rw [iP h22] at hm;refine af rfl (eQ h22) ?_;refine pT (by kernel_rfl) [0, 1, 0, 0, 0, 0, 0, 64, 0, 496, 1020, 2044, 4095, 8191, 16383] [false, false, false, false, false, false, false, false, false, false, false, false, true, true, true] (by kernel_rfl) fun k hk => ?_;refine ga ?_;obtain ⟨y91, hc23, hm⟩ := bd hm;refine AP (fun _ => mm p1 p2 ((p1.rules.getD x82.toNat default).e) ((p1.vars.getD (((p1.rules.getD x82.toNat default).out_).toNat) default).n) _ hc23) ?_;refine ga ?_;obtain ⟨y92, hc24, hm⟩ := bd hm;refine AP (fun _ => i8 (p2.at_.getD (((p1.rules.getD x82.toNat default).out_).toNat) default) ((p1.vars.getD (((p1.rules.getD x82.toNat default).out_).toNat) default).n) y91 _ hc24) ?_;obtain ⟨⟨hg25ax, hg25ay⟩, hm⟩ := gd hm;refine ga ?_;refine hk _ _ ?_;clear hk k;refine ar (ar ?_);refine aw (l78, (l80 ++ (lit ([(y92)] : List av)))) (v79, v81 + 1) hm ?_;exact ls
        ·rw [iN h22] at hm;refine ai rfl (nB h22) ?_;refine aI (S := Bool) (V := (Nat × Nat)) [9, 70, 86, 87, 88] (fun b97 (v95, v96) => [(9, .c (.osl 6 v95 0 l78.length)), (86, .c (.bool b97))]) (fun b97 (v95, v96) => [.box [.tree 2 (p1.vars.map ap.enc), .tree 1 (p1.in_.map (eK .i64)), .tree 1 (p1.out_.map (eK .i64)), .tree 6 (p1.rules.map ah.enc)], .box [.tree 1 (p2.at_.map (eK .i64)), .tree 1 (p2.keep.map (eK .i64)), .int .i64 p2.cells], .box [.int .i64 0, .nils, .nils, .nils], .box [.int .i64 0, .int .i64 0], .box [.int .i64 ((y1).code), .int .i64 ((y1).at_)], .box [.int .i64 p2.cells, .nils, .nils, .osl 7 v96 0 l80.length], .arr 6 v95 98 (l78.map av.enc), .arr 6 v96 98 (l80.map av.enc), .box [.int .i64 ((p1.rules.getD x82.toNat default).op), .int .i64 ((p1.rules.getD x82.toNat default).k), .int .i64 ((p1.rules.getD x82.toNat default).out_), .int .i64 ((p1.rules.getD x82.toNat default).n), .tree 1 (((p1.rules.getD x82.toNat default).a).map (eK .i64)), .tree 4 (((p1.rules.getD x82.toNat default).e).map aj.enc)]]) (fun b97 => iO p1 p2 l78 l80 x82 b97 = some r2) ?_ ?_
         ·skip;refine ao [70, 87] ?_
          by_cases h52 : ((p1.rules.getD x82.toNat default).op) = 15
          ·rw [iP h52] at hm;refine af rfl (eQ h52) ?_;refine au ?_;refine aw (((p1.rules.getD x82.toNat default).op) == 15) (v79, v81) hm ?_;exact ls
          ·rw [iN h52] at hm;refine ai rfl (nB h52) ?_;refine a8 ?_;refine aw (((p1.rules.getD x82.toNat default).op) == 16) (v79, v81) hm ?_;exact ls
         ·rintro b97 ⟨v95, v96⟩ hm;replace hm : iO p1 p2 l78 l80 x82 b97 = some r2 := hm;refine aH ?_;unfold iO at hm
          by_cases h26 : b97 = true
          ·rw [iP h26] at hm;refine af rfl (h26) ?_;refine ao [13, 66, 86, 89, 90, 91, 92, 93, 94] ?_;refine aI (S := (Int × Int)) (V := (Nat × Nat)) [9, 12, 95, 96, 97, 98, 99, 100] (fun (x102, x103) (v100, v101) => [(9, .c (.osl 6 v100 0 l78.length))]) (fun (x102, x103) (v100, v101) => [.box [.tree 2 (p1.vars.map ap.enc), .tree 1 (p1.in_.map (eK .i64)), .tree 1 (p1.out_.map (eK .i64)), .tree 6 (p1.rules.map ah.enc)], .box [.tree 1 (p2.at_.map (eK .i64)), .tree 1 (p2.keep.map (eK .i64)), .int .i64 p2.cells], .box [.int .i64 0, .nils, .nils, .nils], .box [.int .i64 0, .int .i64 0], .box [.int .i64 ((y1).code), .int .i64 ((y1).at_)], .box [.int .i64 p2.cells, .nils, .nils, .osl 7 v101 0 l80.length], .arr 6 v100 98 (l78.map av.enc), .arr 6 v101 98 (l80.map av.enc), .box [.int .i64 ((p1.rules.getD x82.toNat default).op), .int .i64 ((p1.rules.getD x82.toNat default).k), .int .i64 ((p1.rules.getD x82.toNat default).out_), .int .i64 ((p1.rules.getD x82.toNat default).n), .tree 1 (((p1.rules.getD x82.toNat default).a).map (eK .i64)), .tree 4 (((p1.rules.getD x82.toNat default).e).map aj.enc)], .box [.int .i64 x102, .int .i64 ((p1.rules.getD x82.toNat default).k), .int .i64 x103, .int .i64 (p2.at_.getD (((p1.rules.getD x82.toNat default).out_).toNat) default), .nils, .nils]]) (fun (x102, x103) => iM p1 p2 l78 l80 x82 x102 x103 = some r2) ?_ ?_
           ·skip;refine ao [95, 96] ?_
            by_cases h30 : ((p1.rules.getD x82.toNat default).op) = 16
            ·rw [iP h30] at hm;refine af rfl (eQ h30) ?_;refine a8 ?_;refine aw (4, (p1.vars.getD (((p1.rules.getD x82.toNat default).out_).toNat) default).n) (v95, v96) hm ?_;exact ls
            ·rw [iN h30] at hm;refine ai rfl (nB h30) ?_;refine au ?_;refine aw (3, (p1.rules.getD x82.toNat default).n) (v95, v96) hm ?_;exact ls
           ·rintro ⟨x102, x103⟩ ⟨v100, v101⟩ hm;replace hm : iM p1 p2 l78 l80 x82 x102 x103 = some r2 := hm;refine aH ?_;unfold iM at hm;obtain ⟨⟨hg27a, hg27b⟩, hm⟩ := gd hm;refine jy (a2 (em (eK .i64) ((p1.rules.getD x82.toNat default).a) 0) (em (eK .i64) p2.at_ ((((p1.rules.getD x82.toNat default).a).getD 0 default).toNat))) [101, 102, 103, 104, 105, 106, 107, 108, 109, 110, 111] [0, 1, 0, 4, 12, 28, 63, 127, 255, 511, 1023, 2047] [false, false, false, false, false, false, true, true, true, true, true, true] ?_;refine i2 [.box [.tree 2 (p1.vars.map ap.enc), .tree 1 (p1.in_.map (eK .i64)), .tree 1 (p1.out_.map (eK .i64)), .tree 6 (p1.rules.map ah.enc)], .box [.tree 1 (p2.at_.map (eK .i64)), .tree 1 (p2.keep.map (eK .i64)), .int .i64 p2.cells], .box [.int .i64 0, .nils, .nils, .nils], .box [.int .i64 0, .int .i64 0], .box [.int .i64 ((y1).code), .int .i64 ((y1).at_)], .box [.int .i64 p2.cells, .nils, .nils, .osl 7 v101 0 l80.length], .arr 6 v100 98 (l78.map av.enc), .arr 6 v101 98 (l80.map av.enc), .box [.int .i64 ((p1.rules.getD x82.toNat default).op), .int .i64 ((p1.rules.getD x82.toNat default).k), .int .i64 ((p1.rules.getD x82.toNat default).out_), .int .i64 ((p1.rules.getD x82.toNat default).n), .tree 1 (((p1.rules.getD x82.toNat default).a).map (eK .i64)), .tree 4 (((p1.rules.getD x82.toNat default).e).map aj.enc)], .box [.int .i64 x102, .int .i64 ((p1.rules.getD x82.toNat default).k), .int .i64 x103, .int .i64 (p2.at_.getD (((p1.rules.getD x82.toNat default).out_).toNat) default), .osl 10 0 0 1, .nils], .arr 4 0 96 ((lit ([(aj.mk 2 0 (p2.at_.getD ((((p1.rules.getD x82.toNat default).a).getD 0 default).toNat) default) 0)] : List aj)).map aj.enc)] ?_;refine aL [11, 112, 113, 114, 115, 116, 117, 118, 119] fun k kp hk hp => ?_;refine go ?_;obtain ⟨y104, hc28, hm⟩ := bd hm;refine RP (fun _ => mm p1 p2 ((p1.rules.getD x82.toNat default).e) x103 _ hc28) ?_;refine aa ?_;refine go ?_;refine hk _ _ ?_;clear hk hp k kp;refine iZ (bw 10 rfl) ?_;obtain ⟨⟨hg29ax, hg29ay⟩, hm⟩ := gd hm;refine a8 ?_;refine ar (ar ?_);refine aw (l78, (l80 ++ (lit ([(av.mk x102 ((p1.rules.getD x82.toNat default).k) x103 (p2.at_.getD (((p1.rules.getD x82.toNat default).out_).toNat) default) (lit ([(aj.mk 2 0 (p2.at_.getD ((((p1.rules.getD x82.toNat default).a).getD 0 default).toNat) default) 0)] : List aj)) y104)] : List av)))) (v100, v101 + 1) hm ?_;exact ls
          ·rw [iN h26] at hm;refine ai rfl (fB h26) ?_;refine ao [86, 127] ?_
           by_cases h31 : ((p1.rules.getD x82.toNat default).op) = 12
           ·rw [iP h31] at hm;refine af rfl (eQ h31) ?_;refine ao [12, 66, 126] ?_;refine az ?_;obtain ⟨o3, hl3, hm3⟩ := bd hm;refine aZ (S := ((List av) × Int × Int)) (V := (Nat × Nat)) (O := ((List av) × (List av))) [9, 13, 15, 16, 128, 129, 130, 131, 132, 133, 134, 135, 136, 137, 138, 139, 140, 141, 142, 143, 144, 145, 146, 147, 148, 149, 150, 151, 152, 153, 154, 155, 156, 157, 158, 159, 160, 161, 162, 163, 164] (fun (l129, x131, x132) (v128, v130) => [(9, .c (.osl 6 v128 0 l78.length)), (13, .c (.int .i64 x131)), (15, .c (.int .i64 x132))]) (fun (l129, x131, x132) (v128, v130) => [.box [.tree 2 (p1.vars.map ap.enc), .tree 1 (p1.in_.map (eK .i64)), .tree 1 (p1.out_.map (eK .i64)), .tree 6 (p1.rules.map ah.enc)], .box [.tree 1 (p2.at_.map (eK .i64)), .tree 1 (p2.keep.map (eK .i64)), .int .i64 p2.cells], .box [.int .i64 0, .nils, .nils, .nils], .box [.int .i64 0, .int .i64 0], .box [.int .i64 ((y1).code), .int .i64 ((y1).at_)], .box [.int .i64 p2.cells, .nils, .nils, .osl 7 v130 0 l129.length], .arr 6 v128 98 (l78.map av.enc), .arr 6 v130 98 (l129.map av.enc), .box [.int .i64 ((p1.rules.getD x82.toNat default).op), .int .i64 ((p1.rules.getD x82.toNat default).k), .int .i64 ((p1.rules.getD x82.toNat default).out_), .int .i64 ((p1.rules.getD x82.toNat default).n), .tree 1 (((p1.rules.getD x82.toNat default).a).map (eK .i64)), .tree 4 (((p1.rules.getD x82.toNat default).e).map aj.enc)]]) _ _ (v95, v96) hl3 ?_ ?_
            ·exact ls
            ·rintro ⟨l129, x131, x132⟩ ⟨v128, v130⟩ r3 hm hr3;replace hm : cC p1 p2 l78 x82 l129 x131 x132 = some r3 := hm;refine aH ?_;unfold cC at hm;refine aq fun k7 hk7 => ?_;refine ao [128] ?_
             by_cases h32 : x132 < 2
             ·rw [iP h32] at hm;refine af rfl (dT h32) ?_;refine au ?_;refine am (hk7 _ _ ?_);refine aq fun k8 hk8 => ?_;refine az ?_;obtain ⟨⟨hg33a, hg33b⟩, hm⟩ := gd hm;refine jy (a2 (em (eK .i64) ((p1.rules.getD x82.toNat default).a) x132.toNat) (em ap.enc p1.vars ((((p1.rules.getD x82.toNat default).a).getD x132.toNat default).toNat))) [129, 132, 133, 134, 135, 136, 137, 138, 139, 140, 141] [0, 1, 0, 4, 0, 28, 60, 127, 255, 511, 1023] [false, false, false, false, false, false, false, true, true, true, true] ?_;obtain ⟨hg34a, hm⟩ := gd hm;refine qx [142, 143, 144, 145, 146, 147, 148, 149, 150, 151, 152, 153, 154, 155, 156, 157, 158, 159, 160, 161] (by kernel_rfl) [] [0, 1, 0, 0, 0, 16, 0, 64, 0, 448, 960, 2032, 4080, 0, 16368, 32752, 65532, 131068, 262143, 524287, 1048575] [false, false, false, false, false, false, false, false, false, false, false, false, false, false, false, false, false, false, true, true, true] [false, false, false, false, false, false, false, false, false, false, false, false, false, false, false, false, false, false, false, false, false] [[], [], [], [], [], [], [], [], [], [], [], [], [], [], [], [], [], [], [], [], []] [false, false, false, false, false, false, false, false, false, false, false, false, false, false, false, true, false, false, false, false, false] (by kernel_rfl) fun k hk => ?_;refine lG 15 rfl rfl rfl rfl rfl ?_;refine gpx (a2 (em (eK .i64) ((p1.rules.getD x82.toNat default).a) x132.toNat) (em (eK .i64) p2.at_ ((((p1.rules.getD x82.toNat default).a).getD x132.toNat default).toNat))) ?_;obtain ⟨y133, hc35, hm⟩ := bd hm;refine pap (fun _ => ja (p2.at_.getD ((((p1.rules.getD x82.toNat default).a).getD x132.toNat default).toNat) default) ((p1.vars.getD ((((p1.rules.getD x82.toNat default).a).getD x132.toNat default).toNat) default).n) _ hc35) ?_;refine gp ?_
              refine lH (l9 (s := 4) (T' := 96) (es := ((lit ([(y133)] : List aj)).map aj.enc)) rfl (fun σ => by simp only [bA, bT, tab, bX, reduceIte, ↓reduceIte, reduceCtorEq, Int.reduceToNat, Nat.reduceDiv, Nat.reduceMod, Nat.reduceLT, Nat.reduceLeDiff, Nat.reduceAdd, Nat.reduceSub, Nat.reduceMul, Nat.reduceEqDiff, Nat.reduceBEq, Nat.reduceBNe, Nat.reduceGT, List.length_cons, List.length_nil, List.length_append, List.cons_append, List.nil_append, List.replicate, List.foldr]; rfl) (by first | trivial | (and_intros <;> first | trivial | rfl | omega | decide | (intro _; omega))) (by rfl)) (by first | rfl | (simp only [bA, bT, tab, bX, reduceIte, ↓reduceIte, reduceCtorEq, Int.reduceToNat, Nat.reduceDiv, Nat.reduceMod, Nat.reduceLT, Nat.reduceLeDiff, Nat.reduceAdd, Nat.reduceSub, Nat.reduceMul, Nat.reduceEqDiff, Nat.reduceBEq, Nat.reduceBNe, Nat.reduceGT]; done)) (by first | trivial | exact ia rfl) ?_
              refine gl ?_;refine lF rfl ?_;refine gp ?_;obtain ⟨y134, hc36, hm⟩ := bd hm;refine pap (fun _ => i8 x131 ((p1.vars.getD ((((p1.rules.getD x82.toNat default).a).getD x132.toNat default).toNat) default).n) (lit ([(y133)] : List aj)) _ hc36) ?_;obtain ⟨⟨hg37ax, hg37ay⟩, hm⟩ := gd hm;refine gp ?_;refine hk _ _ ?_;clear hk k;refine i2 [.box [.tree 2 (p1.vars.map ap.enc), .tree 1 (p1.in_.map (eK .i64)), .tree 1 (p1.out_.map (eK .i64)), .tree 6 (p1.rules.map ah.enc)], .box [.tree 1 (p2.at_.map (eK .i64)), .tree 1 (p2.keep.map (eK .i64)), .int .i64 p2.cells], .box [.int .i64 0, .nils, .nils, .nils], .box [.int .i64 0, .int .i64 0], .box [.int .i64 ((y1).code), .int .i64 ((y1).at_)], .box [.int .i64 p2.cells, .nils, .nils, .osl 7 (v130 + 1) 0 (l129.length + 1)], .arr 6 v128 98 (l78.map av.enc), .arr 6 (v130 + 1) 98 ((l129 ++ (lit ([(y134)] : List av))).map av.enc), .box [.int .i64 ((p1.rules.getD x82.toNat default).op), .int .i64 ((p1.rules.getD x82.toNat default).k), .int .i64 ((p1.rules.getD x82.toNat default).out_), .int .i64 ((p1.rules.getD x82.toNat default).n), .tree 1 (((p1.rules.getD x82.toNat default).a).map (eK .i64)), .tree 4 (((p1.rules.getD x82.toNat default).e).map aj.enc)], .arr 6 0 98 ((lit ([(y134)] : List av)).map av.enc)] ?_;refine a8 ?_;refine ar ?_;refine am (hk8 _ _ ?_);refine a8 ?_;refine aB ((l129 ++ (lit ([(y134)] : List av))), (IntKind.wrap .i64 (x131 + ((p1.vars.getD ((((p1.rules.getD x82.toNat default).a).getD x132.toNat default).toNat) default).n))), (IntKind.wrap .i64 (x132 + 1))) (v128, v130 + 1) hm ?_;exact ls
             ·rw [iN h32] at hm;refine ai rfl (dF h32) ?_;refine bj ?_;have ho38 := aA hm hr3;subst ho38;replace hm : eg x82 l78 l129 = some r2 := hm3;refine aY (aQ (aF (ar (ar ?_))));refine aw (l78, l129) (v128, v130) hm ?_;exact ls
           ·rw [iN h31] at hm;refine ai rfl (nB h31) ?_;refine ao [66, 126, 166] ?_
            by_cases h39 : ((p1.rules.getD x82.toNat default).op) = 13
            ·rw [iP h39] at hm;refine af rfl (eQ h39) ?_;obtain ⟨hg40a, hm⟩ := gd hm;refine qx [13, 165, 167, 168, 169, 170, 171, 172, 173, 174, 175, 176, 177, 178, 179, 180, 181, 182, 183, 184, 185, 186, 187, 188, 189, 190, 191, 192, 193, 194] (by kernel_rfl) [] [0, 1, 0, 0, 0, 0, 32, 0, 224, 480, 0, 2016, 0, 4096, 0, 16384, 49152, 114688, 258048, 520192, 0, 2097120, 0, 8388592, 16777212, 33554428, 67108863, 134217727, 268435455] [false, false, false, false, false, false, false, false, false, false, false, false, false, false, false, false, false, false, false, false, false, false, false, false, false, false, true, true, true] [false, false, false, false, false, false, false, false, false, false, false, false, false, false, false, false, false, false, false, false, false, false, false, false, false, false, false, false, false] [[], [], [], [], [], [], [], [], [], [], [], [], [], [], [], [], [], [], [], [], [], [], [], [], [], [], [], [], []] [false, false, false, false, false, false, false, false, false, false, false, false, false, false, false, false, false, false, false, false, false, false, false, true, false, false, false, false, false] (by kernel_rfl) fun k hk => ?_;refine lG 23 rfl rfl rfl rfl rfl ?_;refine gpx (em (eK .i64) p2.keep x82.toNat) ?_;obtain ⟨y137, hc41, hm⟩ := bd hm;refine pap (fun _ => ja (p2.keep.getD x82.toNat default) ((p1.vars.getD (((p1.rules.getD x82.toNat default).out_).toNat) default).n) _ hc41) ?_;obtain ⟨⟨hg42a, hg42b⟩, hm⟩ := gd hm;refine gpx (a2 (em (eK .i64) ((p1.rules.getD x82.toNat default).a) 0) (em (eK .i64) p2.at_ ((((p1.rules.getD x82.toNat default).a).getD 0 default).toNat))) ?_;obtain ⟨y138, hc43, hm⟩ := bd hm;refine pap (fun _ => ja (p2.at_.getD ((((p1.rules.getD x82.toNat default).a).getD 0 default).toNat) default) ((p1.vars.getD (((p1.rules.getD x82.toNat default).out_).toNat) default).n) _ hc43) ?_;refine gp ?_
             refine lH (l9 (s := 4) (T' := 96) (es := ((lit ([(aj.mk 2 0 0 0), (y137), (y138), (aj.mk 7 0 0 0)] : List aj)).map aj.enc)) rfl (fun σ => by simp only [bA, bT, tab, bX, reduceIte, ↓reduceIte, reduceCtorEq, Int.reduceToNat, Nat.reduceDiv, Nat.reduceMod, Nat.reduceLT, Nat.reduceLeDiff, Nat.reduceAdd, Nat.reduceSub, Nat.reduceMul, Nat.reduceEqDiff, Nat.reduceBEq, Nat.reduceBNe, Nat.reduceGT, List.length_cons, List.length_nil, List.length_append, List.cons_append, List.nil_append, List.replicate, List.foldr]; rfl) (by first | trivial | (and_intros <;> first | trivial | rfl | omega | decide | (intro _; omega))) (by rfl)) (by first | rfl | (simp only [bA, bT, tab, bX, reduceIte, ↓reduceIte, reduceCtorEq, Int.reduceToNat, Nat.reduceDiv, Nat.reduceMod, Nat.reduceLT, Nat.reduceLeDiff, Nat.reduceAdd, Nat.reduceSub, Nat.reduceMul, Nat.reduceEqDiff, Nat.reduceBEq, Nat.reduceBNe, Nat.reduceGT]; done)) (by first | trivial | exact ia rfl) ?_
             refine gl ?_;refine lF rfl ?_;refine gp ?_;obtain ⟨y139, hc44, hm⟩ := bd hm;refine pap (fun _ => i8 (p2.at_.getD (((p1.rules.getD x82.toNat default).out_).toNat) default) ((p1.vars.getD (((p1.rules.getD x82.toNat default).out_).toNat) default).n) (lit ([(aj.mk 2 0 0 0), (y137), (y138), (aj.mk 7 0 0 0)] : List aj)) _ hc44) ?_;obtain ⟨⟨hg45ax, hg45ay⟩, hm⟩ := gd hm;refine gp ?_;refine hk _ _ ?_;clear hk k;refine i2 [.box [.tree 2 (p1.vars.map ap.enc), .tree 1 (p1.in_.map (eK .i64)), .tree 1 (p1.out_.map (eK .i64)), .tree 6 (p1.rules.map ah.enc)], .box [.tree 1 (p2.at_.map (eK .i64)), .tree 1 (p2.keep.map (eK .i64)), .int .i64 p2.cells], .box [.int .i64 0, .nils, .nils, .nils], .box [.int .i64 0, .int .i64 0], .box [.int .i64 ((y1).code), .int .i64 ((y1).at_)], .box [.int .i64 p2.cells, .nils, .nils, .osl 7 (v96 + 1) 0 (l80.length + 1)], .arr 6 v95 98 (l78.map av.enc), .arr 6 (v96 + 1) 98 ((l80 ++ (lit ([(y139)] : List av))).map av.enc), .box [.int .i64 ((p1.rules.getD x82.toNat default).op), .int .i64 ((p1.rules.getD x82.toNat default).k), .int .i64 ((p1.rules.getD x82.toNat default).out_), .int .i64 ((p1.rules.getD x82.toNat default).n), .tree 1 (((p1.rules.getD x82.toNat default).a).map (eK .i64)), .tree 4 (((p1.rules.getD x82.toNat default).e).map aj.enc)], .arr 6 0 98 ((lit ([(y139)] : List av)).map av.enc)] ?_;obtain ⟨⟨hg46a, hg46b⟩, hm⟩ := gd hm;refine s8 (by kernel_rfl) [] [0, 0, 2, 0, 14, 30, 0, 0, 128, 0, 512, 1536, 3584, 8064, 16256, 0, 65408, 130944, 262142, 524286, 1048575, 2097151] [false, false, false, false, false, false, false, false, false, false, false, false, false, false, false, false, false, false, false, false, true, true] [false, false, false, false, false, false, false, false, false, false, false, false, false, false, false, false, false, false, false, false, false, false] [[], [], [], [], [], [], [], [], [], [], [], [], [], [], [], [], [], [], [], [], [], []] [false, false, false, false, false, false, false, false, false, false, false, false, false, false, false, false, false, true, false, false, false, false] (by kernel_rfl) fun k hk => ?_;refine lG 17 rfl rfl rfl rfl rfl ?_;refine gpx (a2 (em (eK .i64) p2.keep x82.toNat) (a2 (em (eK .i64) ((p1.rules.getD x82.toNat default).a) 1) (em (eK .i64) p2.at_ ((((p1.rules.getD x82.toNat default).a).getD 1 default).toNat)))) ?_;obtain ⟨y140, hc47, hm⟩ := bd hm;refine pap (fun _ => ja (p2.at_.getD ((((p1.rules.getD x82.toNat default).a).getD 1 default).toNat) default) ((p1.vars.getD (((p1.rules.getD x82.toNat default).out_).toNat) default).n) _ hc47) ?_;refine gp ?_
             refine lH (l9 (s := 4) (T' := 96) (es := ((lit ([(y140)] : List aj)).map aj.enc)) rfl (fun σ => by simp only [bA, bT, tab, bX, reduceIte, ↓reduceIte, reduceCtorEq, Int.reduceToNat, Nat.reduceDiv, Nat.reduceMod, Nat.reduceLT, Nat.reduceLeDiff, Nat.reduceAdd, Nat.reduceSub, Nat.reduceMul, Nat.reduceEqDiff, Nat.reduceBEq, Nat.reduceBNe, Nat.reduceGT, List.length_cons, List.length_nil, List.length_append, List.cons_append, List.nil_append, List.replicate, List.foldr]; rfl) (by first | trivial | (and_intros <;> first | trivial | rfl | omega | decide | (intro _; omega))) (by rfl)) (by first | rfl | (simp only [bA, bT, tab, bX, reduceIte, ↓reduceIte, reduceCtorEq, Int.reduceToNat, Nat.reduceDiv, Nat.reduceMod, Nat.reduceLT, Nat.reduceLeDiff, Nat.reduceAdd, Nat.reduceSub, Nat.reduceMul, Nat.reduceEqDiff, Nat.reduceBEq, Nat.reduceBNe, Nat.reduceGT]; done)) (by first | trivial | exact ia rfl) ?_
             refine gl ?_;refine lF rfl ?_;refine gp ?_;obtain ⟨y141, hc48, hm⟩ := bd hm;refine pap (fun _ => i8 (p2.keep.getD x82.toNat default) ((p1.vars.getD (((p1.rules.getD x82.toNat default).out_).toNat) default).n) (lit ([(y140)] : List aj)) _ hc48) ?_;obtain ⟨⟨hg49ax, hg49ay⟩, hm⟩ := gd hm;refine gp ?_;refine hk _ _ ?_;clear hk k;refine ar (ar ?_);refine aw ((l78 ++ (lit ([(y141)] : List av))), (l80 ++ (lit ([(y139)] : List av)))) (v95 + 1, v96 + 1) hm ?_;exact ls
            ·rw [iN h39] at hm;refine ai rfl (nB h39) ?_;refine aL [2, 3, 8, 9, 10, 11, 12, 13, 67, 68, 69, 165] fun k kp hk hp => ?_;refine go ?_;obtain ⟨y142, hc50, hm⟩ := bd hm;refine RP (fun _ => bN 4 x82 _ hc50) ?_;refine aa ?_;refine go ?_;refine hk _ _ ?_;clear hk hp k kp
             refine bD (eI 2 [.int .i64 0, .tree 1 ([].map (eK .i64)), .tree 1 ([].map (eK .i64)), .tree 6 ([].map av.enc)] rfl (by and_intros <;> trivial)) ?_
             refine jV rfl (by simp only [bZ, bL, reduceIte, ↓reduceIte, reduceCtorEq, Int.reduceToNat, Nat.reduceDiv, Nat.reduceMod, Nat.reduceLT, Nat.reduceLeDiff, Nat.reduceAdd, Nat.reduceSub, Nat.reduceMul, Nat.reduceEqDiff, Nat.reduceBEq, Nat.reduceBNe, Nat.reduceGT]; rfl) ?_
             refine bD (ex 5 (.c (.tree 1 (([] : List _).map (eK .i64)))) rfl (by and_intros <;> trivial)) ?_
             refine nm ?_;have ho51 := aA hm hr2;subst ho51;replace hm : some ((bq.mk 0 [] [] []), [], (y142)) = some r := hm2;refine ak ?_;refine ab (ab (ax (aD (ab (ax ?_)))))
             cases hm
             exact kr 0
       ·rintro ⟨l87, l89⟩ ⟨v88, v90⟩ hm;replace hm : eg x82 l87 l89 = some r2 := hm;refine aH ?_;unfold eg at hm;refine a8 ?_;refine aB (l87, l89, (IntKind.wrap .i64 (x82 + 1))) (v88, v90) hm ?_;exact ls
      ·rw [iN h19] at hm;refine ai rfl (dF h19) ?_;refine bj ?_;have ho53 := aA hm hr2;subst ho53;replace hm : gI p1 p2 l78 l80 = some r := hm2;refine aY (aQ (aF ?_));refine aw (l78, l80) (v79, v81) hm ?_;exact ls
    ·rintro ⟨l8, l10⟩ ⟨v9, v11⟩ hm;replace hm : gI p1 p2 l8 l10 = some r := hm;refine aH ?_;unfold gI at hm;obtain ⟨⟨hg7ax, hg7ay⟩, hm⟩ := gd hm;refine ao [9, 216, 217, 218, 219, 220] ?_;refine i2 [.box [.tree 2 (p1.vars.map ap.enc), .tree 1 (p1.in_.map (eK .i64)), .tree 1 (p1.out_.map (eK .i64)), .tree 6 (p1.rules.map ah.enc)], .box [.tree 1 (p2.at_.map (eK .i64)), .tree 1 (p2.keep.map (eK .i64)), .int .i64 p2.cells], .box [.int .i64 0, .nils, .nils, .nils], .box [.int .i64 0, .int .i64 0], .box [.int .i64 ((y1).code), .int .i64 ((y1).at_)], .box [.int .i64 p2.cells, .nils, .nils, .osl 7 (v11 + 1) 0 (l10.length + l8.length)], .arr 6 v9 98 (l8.map av.enc), .arr 6 (v11 + 1) 98 ((l10 ++ l8).map av.enc)] ?_;refine qx [221, 222, 223, 224, 225, 226, 227, 228] (by kernel_rfl) [] [0, 1, 0, 4, 12, 28, 63, 127, 255] [false, false, false, false, false, false, true, true, true] [false, false, false, false, false, false, false, false, false] [[], [], [], [], [], [], [], [], []] [false, false, false, true, false, false, false, false, false] (by kernel_rfl) fun k hk => ?_;refine lG 3 rfl rfl rfl rfl rfl ?_;refine gp ?_
     refine lH (l9 (s := 4) (T' := 96) (es := ((lit ([(aj.mk 1 0 0 1)] : List aj)).map aj.enc)) rfl (fun σ => by simp only [bA, bT, tab, bX, reduceIte, ↓reduceIte, reduceCtorEq, Int.reduceToNat, Nat.reduceDiv, Nat.reduceMod, Nat.reduceLT, Nat.reduceLeDiff, Nat.reduceAdd, Nat.reduceSub, Nat.reduceMul, Nat.reduceEqDiff, Nat.reduceBEq, Nat.reduceBNe, Nat.reduceGT, List.length_cons, List.length_nil, List.length_append, List.cons_append, List.nil_append, List.replicate, List.foldr]; rfl) (by first | trivial | (and_intros <;> first | trivial | rfl | omega | decide | (intro _; omega))) (by rfl)) (by first | rfl | (simp only [bA, bT, tab, bX, reduceIte, ↓reduceIte, reduceCtorEq, Int.reduceToNat, Nat.reduceDiv, Nat.reduceMod, Nat.reduceLT, Nat.reduceLeDiff, Nat.reduceAdd, Nat.reduceSub, Nat.reduceMul, Nat.reduceEqDiff, Nat.reduceBEq, Nat.reduceBNe, Nat.reduceGT]; done)) (by first | trivial | exact ia rfl) ?_
     refine gl ?_;refine lF rfl ?_;refine gp ?_;obtain ⟨y12, hc8, hm⟩ := bd hm;refine pap (fun _ => i8 0 0 (lit ([(aj.mk 1 0 0 1)] : List aj)) _ hc8) ?_;obtain ⟨⟨hg9ax, hg9ay⟩, hm⟩ := gd hm;refine gp ?_;refine hk _ _ ?_;clear hk k;refine i2 [.box [.tree 2 (p1.vars.map ap.enc), .tree 1 (p1.in_.map (eK .i64)), .tree 1 (p1.out_.map (eK .i64)), .tree 6 (p1.rules.map ah.enc)], .box [.tree 1 (p2.at_.map (eK .i64)), .tree 1 (p2.keep.map (eK .i64)), .int .i64 p2.cells], .box [.int .i64 0, .nils, .nils, .nils], .box [.int .i64 0, .int .i64 0], .box [.int .i64 ((y1).code), .int .i64 ((y1).at_)], .box [.int .i64 p2.cells, .nils, .nils, .osl 7 (v11 + 1 + 1) 0 ((l10.length + l8.length) + 1)], .arr 6 v9 98 (l8.map av.enc), .arr 6 (v11 + 1 + 1) 98 (((l10 ++ l8) ++ (lit ([(y12)] : List av))).map av.enc), .arr 6 0 98 ((lit ([(y12)] : List av)).map av.enc)] ?_;refine jx [229, 230, 231, 232, 233, 234, 235, 236, 237, 238, 239, 240] (by kernel_rfl) [0, 0, 0, 4, 15, 0, 0, 0, 128, 511, 31, 2047, 4095, 8191] [false, false, false, false, false, false, false, false, false, false, false, true, true, true] (by kernel_rfl) fun k hk => ?_;refine ga ?_;obtain ⟨y13, hc10, hm⟩ := bd hm;refine AP (fun _ => kC p1 p2 p1.in_ _ hc10) ?_;refine ga ?_;obtain ⟨y14, hc11, hm⟩ := bd hm;refine AP (fun _ => kC p1 p2 p1.out_ _ hc11) ?_;refine ga ?_;refine hk _ _ ?_;clear hk k;refine ao [] ?_;refine bD (ew 17 1 3 (by decide) rfl (Nat.le_of_ble_eq_true rfl)) ?_;refine lZ ?_;refine aI (S := (List Int)) (V := (Nat × Nat × Nat)) [2, 3, 17, 18, 241, 242, 243, 244, 245, 246, 247, 248, 249, 250, 251, 252, 253, 254, 255, 256, 257, 258, 259, 260, 261, 262, 263, 264, 265, 266, 267, 268, 269] (fun l21 (v19, v20, v22) => [(17, .c (.osl 9 v22 0 l21.length))]) (fun l21 (v19, v20, v22) => [.box [.tree 2 (p1.vars.map ap.enc), .tree 1 (p1.in_.map (eK .i64)), .tree 1 (p1.out_.map (eK .i64)), .tree 6 (p1.rules.map ah.enc)], .box [.tree 1 (p2.at_.map (eK .i64)), .tree 1 (p2.keep.map (eK .i64)), .int .i64 p2.cells], .box [.int .i64 0, .nils, .nils, .nils], .box [.int .i64 0, .int .i64 0], .box [.int .i64 ((y1).code), .int .i64 ((y1).at_)], .box [.int .i64 p2.cells, .tree 1 (y13.map (eK .i64)), .tree 1 (y14.map (eK .i64)), .osl 7 v20 0 ((l10.length + l8.length) + 1)], .arr 6 v19 98 (l8.map av.enc), .arr 6 v20 98 (((l10 ++ l8) ++ (lit ([(y12)] : List av))).map av.enc), .arr 6 0 98 ((lit ([(y12)] : List av)).map av.enc), .arr 1 v22 3 (l21.map (eK .i64))]) (fun l21 => jM p2 l8 l10 y12 y13 y14 l21 = some r) ?_ ?_
     ·skip;refine ao [] ?_
      refine az ?_;obtain ⟨o1, hl1, hm1⟩ := bd hm;refine aZ (S := ((List Int) × Int)) (V := (Nat × Nat × Nat)) (O := (List Int)) [17, 18, 241, 242, 243, 244, 245, 246, 247, 248, 249, 250, 251, 252, 253, 254, 255, 256, 257, 258, 259, 260, 261, 262, 263, 264, 265, 266, 267, 268, 269] (fun (l51, x53) (v49, v50, v52) => [(17, .c (.osl 9 v52 0 l51.length)), (18, .c (.int .i64 x53))]) (fun (l51, x53) (v49, v50, v52) => [.box [.tree 2 (p1.vars.map ap.enc), .tree 1 (p1.in_.map (eK .i64)), .tree 1 (p1.out_.map (eK .i64)), .tree 6 (p1.rules.map ah.enc)], .box [.tree 1 (p2.at_.map (eK .i64)), .tree 1 (p2.keep.map (eK .i64)), .int .i64 p2.cells], .box [.int .i64 0, .nils, .nils, .nils], .box [.int .i64 0, .int .i64 0], .box [.int .i64 ((y1).code), .int .i64 ((y1).at_)], .box [.int .i64 p2.cells, .tree 1 (y13.map (eK .i64)), .tree 1 (y14.map (eK .i64)), .osl 7 v50 0 ((l10.length + l8.length) + 1)], .arr 6 v49 98 (l8.map av.enc), .arr 6 v50 98 (((l10 ++ l8) ++ (lit ([(y12)] : List av))).map av.enc), .arr 6 0 98 ((lit ([(y12)] : List av)).map av.enc), .arr 1 v52 3 (l51.map (eK .i64))]) _ _ (v9, v11 + 1 + 1, 0) hl1 ?_ ?_
      ·exact ls
      ·rintro ⟨l51, x53⟩ ⟨v49, v50, v52⟩ r1 hm hr1;replace hm : dP p1 p2 l51 x53 = some r1 := hm;refine aH ?_;unfold dP at hm;refine aq fun k4 hk4 => ?_;refine ao [241, 242, 243, 244] ?_
       by_cases h12 : x53 < (p1.in_.length : Int)
       ·rw [iP h12] at hm;refine af rfl (dT h12) ?_;refine au ?_;refine am (hk4 _ _ ?_);refine aq fun k5 hk5 => ?_;refine az ?_;obtain ⟨⟨hg13a, hg13b⟩, hm⟩ := gd hm;refine jy (a2 (em (eK .i64) p1.in_ x53.toNat) (em ap.enc p1.vars ((p1.in_.getD x53.toNat default).toNat))) [245, 248, 249, 250, 251, 252, 253, 254, 255, 256, 257] [0, 1, 0, 4, 0, 28, 60, 127, 255, 511, 1023] [false, false, false, false, false, false, false, true, true, true, true] ?_
        by_cases h14 : ((p1.vars.getD ((p1.in_.getD x53.toNat default).toNat) default).elem) = 98
        ·rw [iP h14] at hm;refine af rfl (eQ h14) ?_;obtain ⟨hg15a, hm⟩ := gd hm;refine pT (by kernel_rfl) [0, 0, 0, 0, 8, 0, 0, 64, 248, 510, 1023, 2047] [false, false, false, false, false, false, false, false, false, false, true, true] (by kernel_rfl) fun k hk => ?_;refine ga ?_;obtain ⟨y54, hc16, hm⟩ := bd hm;refine AP (fun _ => kC p1 p2 ((p1.in_.take ((IntKind.wrap .i64 (x53 + 1)).toNat)).drop x53.toNat) _ hc16) ?_;obtain ⟨⟨hg17ax, hg17ay⟩, hm⟩ := gd hm;refine ga ?_;refine hk _ _ ?_;clear hk k;refine ar ?_;refine am (hk5 _ _ ?_);refine a8 ?_;refine aB ((l51 ++ y54), (IntKind.wrap .i64 (x53 + 1))) (v49, v50, v52 + 1) hm ?_;exact ls
        ·rw [iN h14] at hm;refine ai rfl (nB h14) ?_;refine au ?_;refine ar ?_;refine am (hk5 _ _ ?_);refine a8 ?_;refine aB (l51, (IntKind.wrap .i64 (x53 + 1))) (v49, v50, v52) hm ?_;exact ls
       ·rw [iN h12] at hm;refine ai rfl (dF h12) ?_;refine bj ?_;have ho18 := aA hm hr1;subst ho18;replace hm : jM p2 l8 l10 y12 y13 y14 l51 = some r := hm1;refine aY (aQ (aF ?_));refine aw l51 (v49, v50, v52) hm ?_;exact ls
     ·rintro l21 ⟨v19, v20, v22⟩ hm;replace hm : jM p2 l8 l10 y12 y13 y14 l21 = some r := hm;refine aH ?_;unfold jM at hm;refine ao [8, 17, 270, 271, 272] ?_;refine iZ (bw 7 rfl) ?_;refine iZ (bw 9 rfl) ?_;refine ak ?_
      cases hm
      exact kr 0
   ·rw [iN h6] at hm;refine af rfl (by rw [show y3 = false from (fB h6)]; rfl) ?_;refine aL [2, 3, 34, 35, 36] fun k kp hk hp => ?_;refine go ?_;obtain ⟨y146, hc54, hm⟩ := bd hm;refine RP (fun _ => bN 16 (-1) _ hc54) ?_;refine aa ?_;refine go ?_;refine hk _ _ ?_;clear hk hp k kp
    refine bD (eI 2 [.int .i64 0, .tree 1 ([].map (eK .i64)), .tree 1 ([].map (eK .i64)), .tree 6 ([].map av.enc)] rfl (by and_intros <;> trivial)) ?_
    refine jV rfl (by simp only [bZ, bL, reduceIte, ↓reduceIte, reduceCtorEq, Int.reduceToNat, Nat.reduceDiv, Nat.reduceMod, Nat.reduceLT, Nat.reduceLeDiff, Nat.reduceAdd, Nat.reduceSub, Nat.reduceMul, Nat.reduceEqDiff, Nat.reduceBEq, Nat.reduceBNe, Nat.reduceGT]; rfl) ?_
    refine bD (ex 5 (.c (.tree 1 (([] : List _).map (eK .i64)))) rfl (by and_intros <;> trivial)) ?_
    refine nm ?_;refine ak ?_;refine ag ?_
    cases hm
    exact kr 0
  ·rw [iN h4] at hm;refine af rfl (by rw [show y2 = false from (fB h4)]; rfl) ?_;refine aL [2, 3, 28, 29, 30] fun k kp hk hp => ?_;refine go ?_;obtain ⟨y147, hc55, hm⟩ := bd hm;refine RP (fun _ => bN 15 (-1) _ hc55) ?_;refine aa ?_;refine go ?_;refine hk _ _ ?_;clear hk hp k kp
   refine bD (eI 2 [.int .i64 0, .tree 1 ([].map (eK .i64)), .tree 1 ([].map (eK .i64)), .tree 6 ([].map av.enc)] rfl (by and_intros <;> trivial)) ?_
   refine jV rfl (by simp only [bZ, bL, reduceIte, ↓reduceIte, reduceCtorEq, Int.reduceToNat, Nat.reduceDiv, Nat.reduceMod, Nat.reduceLT, Nat.reduceLeDiff, Nat.reduceAdd, Nat.reduceSub, Nat.reduceMul, Nat.reduceEqDiff, Nat.reduceBEq, Nat.reduceBNe, Nat.reduceGT]; rfl) ?_
   refine bD (ex 5 (.c (.tree 1 (([] : List _).map (eK .i64)))) rfl (by and_intros <;> trivial)) ?_
   refine nm ?_;refine ak ?_;refine ag ?_
   cases hm
   exact kr 0
theorem kE (p1 : List aj) (p2 : List aj) (r : Bool) (hm : gJ p1 p2 = some r) : bu Try.prog 74 [.c (.tree 4 (p1.map aj.enc)), .c (.tree 4 (p2.map aj.enc))] (.c (.bool r)) := by
 refine aG 26 [.tmp 4] Try.func74 rfl rfl rfl (by kernel_rfl) (by simp) ?_;refine bk ?_;unfold gJ at hm;refine ao [4] ?_;refine aq fun k1 hk1 => ?_;refine ao [6, 7, 8, 9] ?_
 by_cases h1 : ¬ (p1.length : Int) = (p2.length : Int)
 ·rw [iP h1] at hm;refine af rfl (bne_iff_ne.2 h1) ?_;refine ao [0, 1, 10] ?_;refine ak ?_;refine ag ?_
  cases hm
  exact kr 0
 ·rw [iN h1] at hm;refine ai rfl (bne_eq_false_iff_eq.2 (Decidable.not_not.1 h1)) ?_;refine au ?_;refine am (hk1 _ _ ?_);refine aI (S := Unit) (V := Unit) [0, 1, 4, 5, 10, 11, 12, 13, 14, 15, 16, 17, 18, 19, 20, 21, 22, 23, 24, 25] (fun _ _ => []) (fun _ _ => []) (fun _ => gX = some r) ?_ ?_
  ·skip;refine ao [10] ?_
   refine az ?_;obtain ⟨o1, hl1, hm1⟩ := bd hm;refine aZ (S := Int) (V := Unit) (O := Unit ⊕ Bool) [4, 5, 11, 12, 13, 14, 15, 16, 17, 18, 19, 20, 21, 22, 23, 24, 25] (fun x3 _ => [(5, .c (.int .i64 x3))]) (fun x3 _ => []) _ _ () hl1 ?_ ?_
   ·exact ls
   ·rintro x3 _ r1 hm hr1;replace hm : gY p1 p2 x3 = some r1 := hm;refine aH ?_;unfold gY at hm;refine aq fun k2 hk2 => ?_;refine ao [11, 12, 13] ?_
    by_cases h2 : x3 < (p1.length : Int)
    ·rw [iP h2] at hm;refine af rfl (dT h2) ?_;refine au ?_;refine am (hk2 _ _ ?_);refine aq fun k3 hk3 => ?_;refine az ?_;obtain ⟨⟨hg3a, hg3b⟩, hm⟩ := gd hm;refine jy (a2 (em aj.enc p1 x3.toNat) (em aj.enc p2 x3.toNat)) [14, 17, 18, 19, 20, 21, 22, 23, 24] [0, 0, 3, 7, 0, 0, 48, 112, 255] [false, false, false, false, false, false, false, false, true] ?_
     by_cases h4 : ((p1.getD x3.toNat default).op) = ((p2.getD x3.toNat default).op) ∧ ((p1.getD x3.toNat default).k) = ((p2.getD x3.toNat default).k) ∧ ((p1.getD x3.toNat default).v) = ((p2.getD x3.toNat default).v) ∧ ((p1.getD x3.toNat default).n) = ((p2.getD x3.toNat default).n)
     ·rw [iP h4] at hm;refine ai rfl (by rw [show ((((p1.getD x3.toNat default).op) == ((p2.getD x3.toNat default).op)) && ((((p1.getD x3.toNat default).k) == ((p2.getD x3.toNat default).k)) && ((((p1.getD x3.toNat default).v) == ((p2.getD x3.toNat default).v)) && (((p1.getD x3.toNat default).n) == ((p2.getD x3.toNat default).n))))) = true from (by simpa [Bool.and_eq_true] using h4)]; rfl) ?_;refine au ?_;refine ar ?_;refine am (hk3 _ _ ?_);refine a8 ?_;refine aB (IntKind.wrap .i64 (x3 + 1)) () hm ?_;exact ls
     ·rw [iN h4] at hm;refine af rfl (by rw [show ((((p1.getD x3.toNat default).op) == ((p2.getD x3.toNat default).op)) && ((((p1.getD x3.toNat default).k) == ((p2.getD x3.toNat default).k)) && ((((p1.getD x3.toNat default).v) == ((p2.getD x3.toNat default).v)) && (((p1.getD x3.toNat default).n) == ((p2.getD x3.toNat default).n))))) = false from (fB (fun hh => h4 (by simpa [Bool.and_eq_true] using hh)))]; rfl) ?_;refine ao [0, 1, 5, 25] ?_;have ho5 := aA hm hr1;subst ho5;replace hm : some false = some r := hm1;refine ak ?_;refine ab (ag (aD (ab (ax ?_))))
      cases hm
      exact kr 0
    ·rw [iN h2] at hm;refine ai rfl (dF h2) ?_;refine bj ?_;have ho6 := aA hm hr1;subst ho6;replace hm : gX = some r := hm1;refine aY (aQ (aF ?_));refine aw () () hm ?_;exact ls
  ·rintro _ _ hm;replace hm : gX = some r := hm;refine aH ?_;unfold gX at hm;refine ao [] ?_;refine ak ?_
   cases hm
   exact kr 0
theorem pH (p1 : bq) (p2 : bq) (r : Bool) (hm : fM p1 p2 = some r) : bu Try.prog 21 [.a [.int .i64 p1.cells, .tree 1 (p1.put.map (eK .i64)), .tree 1 (p1.get.map (eK .i64)), .tree 6 (p1.steps.map av.enc)], .a [.int .i64 p2.cells, .tree 1 (p2.put.map (eK .i64)), .tree 1 (p2.get.map (eK .i64)), .tree 6 (p2.steps.map av.enc)]] (.c (.bool r)) := by
 refine aG 97 [.tmp 4] Try.func21 rfl rfl rfl (by kernel_rfl) (by simp) ?_;refine bk ?_;unfold fM at hm;refine ao [0, 1, 4] ?_;refine aq fun k1 hk1 => ?_;refine bz [8, 9, 10, 11, 12, 13, 14, 15, 16, 17, 18, 19, 20, 21, 22, 23, 24, 25, 26, 27, 28, 29, 30, 31, 32, 33, 34, 35, 36] fun k kp hk hp => ?_;refine an 6 ?_;refine go ?_
 by_cases h1 : ¬ p1.cells = p2.cells
 ·rw [iP h1] at hm;have h1b := bne_iff_ne.2 h1;refine aa ?_;refine gox h1b ?_;refine hk _ _ ?_;clear hk hp k kp;refine af rfl rfl ?_;refine ao [2, 3, 37] ?_;refine ak ?_;refine ag ?_
  cases hm
  exact kr 0
 ·rw [iN h1] at hm;have h1b : (p1.cells != p2.cells) = false := bne_eq_false_iff_eq.2 (Decidable.not_not.1 h1);refine aa ?_;refine gox h1b ?_;obtain ⟨y1, hc2, hm⟩ := bd hm;refine RP (fun _ => dC p1.put p2.put _ hc2) ?_
  by_cases h3 : y1 = true
  ·rw [iP h3] at hm;have h3b := h3
   have h3c : (!y1) = false := by rw [h3b]; rfl
   refine aa ?_;refine gox (a2 h1b (a2 h3b h3c)) ?_;obtain ⟨y2, hc4, hm⟩ := bd hm;refine RP (fun _ => dC p1.get p2.get _ hc4) ?_
   by_cases h5 : y2 = true
   ·rw [iP h5] at hm;have h5b := h5
    have h5c : (!y2) = false := by rw [h5b]; rfl
    refine aa ?_;refine gox (a2 h1b (a2 h3b (a2 h3c (a2 h5b h5c)))) ?_;refine hk _ _ ?_;clear hk hp k kp
    by_cases h6 : ¬ (p1.steps.length : Int) = (p2.steps.length : Int)
    ·rw [iP h6] at hm;refine af rfl (bne_iff_ne.2 h6) ?_;refine ao [2, 3, 37] ?_;refine ak ?_;refine ag ?_
     cases hm
     exact kr 0
    ·rw [iN h6] at hm;refine ai rfl (bne_eq_false_iff_eq.2 (Decidable.not_not.1 h6)) ?_;refine au ?_;refine am (hk1 _ _ ?_);refine aI (S := Unit) (V := Unit) [2, 3, 4, 5, 6, 7, 37, 38, 39, 40, 41, 42, 43, 44, 45, 46, 47, 48, 49, 50, 51, 52, 53, 54, 55, 56, 57, 58, 59, 60, 61, 62, 63, 64, 65, 66, 67, 68, 69, 70, 71, 72, 73, 74, 75, 76, 77, 78, 79, 80, 81, 82, 83, 84, 85, 86, 87, 88, 89, 90, 91, 92, 93, 94, 95, 96] (fun _ _ => []) (fun _ _ => [.box [.int .i64 p1.cells, .tree 1 (p1.put.map (eK .i64)), .tree 1 (p1.get.map (eK .i64)), .tree 6 (p1.steps.map av.enc)], .box [.int .i64 p2.cells, .tree 1 (p2.put.map (eK .i64)), .tree 1 (p2.get.map (eK .i64)), .tree 6 (p2.steps.map av.enc)]]) (fun _ => fX = some r) ?_ ?_
     ·skip;refine ao [37] ?_
      refine az ?_;obtain ⟨o1, hl1, hm1⟩ := bd hm;refine aZ (S := Int) (V := Unit) (O := Unit ⊕ Bool) [4, 5, 6, 7, 38, 39, 40, 41, 42, 43, 44, 45, 46, 47, 48, 49, 50, 51, 52, 53, 54, 55, 56, 57, 58, 59, 60, 61, 62, 63, 64, 65, 66, 67, 68, 69, 70, 71, 72, 73, 74, 75, 76, 77, 78, 79, 80, 81, 82, 83, 84, 85, 86, 87, 88, 89, 90, 91, 92, 93, 94, 95, 96] (fun x5 _ => [(5, .c (.int .i64 x5))]) (fun x5 _ => [.box [.int .i64 p1.cells, .tree 1 (p1.put.map (eK .i64)), .tree 1 (p1.get.map (eK .i64)), .tree 6 (p1.steps.map av.enc)], .box [.int .i64 p2.cells, .tree 1 (p2.put.map (eK .i64)), .tree 1 (p2.get.map (eK .i64)), .tree 6 (p2.steps.map av.enc)]]) _ _ () hl1 ?_ ?_
      ·exact ls
      ·rintro x5 _ r1 hm hr1;replace hm : fY p1 p2 x5 = some r1 := hm;refine aH ?_;unfold fY at hm;refine aq fun k2 hk2 => ?_;refine ao [38, 39, 40, 41] ?_
       by_cases h7 : x5 < (p1.steps.length : Int)
       ·rw [iP h7] at hm;refine af rfl (dT h7) ?_;refine au ?_;refine am (hk2 _ _ ?_);refine aq fun k3 hk3 => ?_;refine az ?_;obtain ⟨⟨hg8a, hg8b⟩, hm⟩ := gd hm;refine xY [42, 45, 46, 47, 48, 49, 50, 51, 52, 53, 54] [6, 7] [0, 1, 0, 7, 15, 0, 32, 0, 224, 480, 0, 0, 3103, 8191] [false, false, false, false, false, false, false, false, false, false, false, false, false, true] (by kernel_rfl) (by kernel_rfl) fun k kp hk => ?_;simp only [dQ, ln, nw, nY, jU, pW, inL, List.cons_append, List.nil_append, reduceIte, ↓reduceIte, Nat.reduceEqDiff, reduceCtorEq];refine gax (a2 (em av.enc p1.steps x5.toNat) (em av.enc p2.steps x5.toNat)) ?_;refine go ?_;refine hk _ _ ?_;clear hk k kp;refine bz [6, 7, 55, 56, 57, 58, 59, 60, 61, 62, 63, 64, 65, 66, 67, 68, 69, 70, 71, 72, 73, 74, 75, 76, 77, 78, 79, 80, 81, 82, 83, 84, 85, 86, 87, 88, 89, 90, 91, 92, 93, 94, 95] fun k kp hk hp => ?_;refine an 6 ?_;refine go ?_
        by_cases h9 : ¬ ((p1.steps.getD x5.toNat default).op) = ((p2.steps.getD x5.toNat default).op)
        ·rw [iP h9] at hm;have h9b := bne_iff_ne.2 h9;refine aa ?_;refine gox h9b ?_;refine hk _ _ ?_;clear hk hp k kp;refine af rfl rfl ?_;refine ao [2, 3, 5, 96] ?_;have ho10 := aA hm hr1;subst ho10;replace hm : some false = some r := hm1;refine ak ?_;refine ab (ag (aD (ab (ax ?_))))
         cases hm
         exact kr 0
        ·rw [iN h9] at hm;have h9b : (((p1.steps.getD x5.toNat default).op) != ((p2.steps.getD x5.toNat default).op)) = false := bne_eq_false_iff_eq.2 (Decidable.not_not.1 h9);refine an 7 ?_;refine gox h9b ?_
         by_cases h11 : ¬ ((p1.steps.getD x5.toNat default).k) = ((p2.steps.getD x5.toNat default).k)
         ·rw [iP h11] at hm;have h11b := bne_iff_ne.2 h11;refine aa ?_;refine gox (a2 h9b h11b) ?_;refine hk _ _ ?_;clear hk hp k kp;refine af rfl rfl ?_;refine ao [2, 3, 5, 96] ?_;have ho12 := aA hm hr1;subst ho12;replace hm : some false = some r := hm1;refine ak ?_;refine ab (ag (aD (ab (ax ?_))))
          cases hm
          exact kr 0
         ·rw [iN h11] at hm;have h11b : (((p1.steps.getD x5.toNat default).k) != ((p2.steps.getD x5.toNat default).k)) = false := bne_eq_false_iff_eq.2 (Decidable.not_not.1 h11);refine an 7 ?_;refine gox (a2 h9b h11b) ?_
          by_cases h13 : ¬ ((p1.steps.getD x5.toNat default).n) = ((p2.steps.getD x5.toNat default).n)
          ·rw [iP h13] at hm;have h13b := bne_iff_ne.2 h13;refine aa ?_;refine gox (a2 h9b (a2 h11b h13b)) ?_;refine hk _ _ ?_;clear hk hp k kp;refine af rfl rfl ?_;refine ao [2, 3, 5, 96] ?_;have ho14 := aA hm hr1;subst ho14;replace hm : some false = some r := hm1;refine ak ?_;refine ab (ag (aD (ab (ax ?_))))
           cases hm
           exact kr 0
          ·rw [iN h13] at hm;have h13b : (((p1.steps.getD x5.toNat default).n) != ((p2.steps.getD x5.toNat default).n)) = false := bne_eq_false_iff_eq.2 (Decidable.not_not.1 h13);refine an 7 ?_;refine gox (a2 h9b (a2 h11b h13b)) ?_
           by_cases h15 : ¬ ((p1.steps.getD x5.toNat default).to) = ((p2.steps.getD x5.toNat default).to)
           ·rw [iP h15] at hm;have h15b := bne_iff_ne.2 h15;refine aa ?_;refine gox (a2 h9b (a2 h11b (a2 h13b h15b))) ?_;refine hk _ _ ?_;clear hk hp k kp;refine af rfl rfl ?_;refine ao [2, 3, 5, 96] ?_;have ho16 := aA hm hr1;subst ho16;replace hm : some false = some r := hm1;refine ak ?_;refine ab (ag (aD (ab (ax ?_))))
            cases hm
            exact kr 0
           ·rw [iN h15] at hm;have h15b : (((p1.steps.getD x5.toNat default).to) != ((p2.steps.getD x5.toNat default).to)) = false := bne_eq_false_iff_eq.2 (Decidable.not_not.1 h15);refine aa ?_;refine gox (a2 h9b (a2 h11b (a2 h13b h15b))) ?_;obtain ⟨y6, hc17, hm⟩ := bd hm;refine RP (fun _ => kE ((p1.steps.getD x5.toNat default).e) ((p2.steps.getD x5.toNat default).e) _ hc17) ?_
            by_cases h18 : y6 = true
            ·rw [iP h18] at hm;have h18b := h18
             have h18c : (!y6) = false := by rw [h18b]; rfl
             refine aa ?_;refine gox (a2 h9b (a2 h11b (a2 h13b (a2 h15b (a2 h18b h18c))))) ?_;obtain ⟨y7, hc19, hm⟩ := bd hm;refine RP (fun _ => kE ((p1.steps.getD x5.toNat default).f) ((p2.steps.getD x5.toNat default).f) _ hc19) ?_;refine aa ?_;refine gox (a2 h9b (a2 h11b (a2 h13b (a2 h15b (a2 h18b h18c))))) ?_;refine hk _ _ ?_;clear hk hp k kp
             by_cases h20 : y7 = true
             ·rw [iP h20] at hm;refine ai rfl (by rw [show y7 = true from (h20)]; rfl) ?_;refine au ?_;refine ar ?_;refine am (hk3 _ _ ?_);refine a8 ?_;refine aB (IntKind.wrap .i64 (x5 + 1)) () hm ?_;exact la
             ·rw [iN h20] at hm;refine af rfl (by rw [show y7 = false from (fB h20)]; rfl) ?_;refine ao [2, 3, 5, 96] ?_;have ho21 := aA hm hr1;subst ho21;replace hm : some false = some r := hm1;refine ak ?_;refine ab (ag (aD (ab (ax ?_))))
              cases hm
              exact kr 0
            ·rw [iN h18] at hm;have h18b := fB h18
             have h18c : (!y6) = true := by rw [h18b]; rfl
             refine aa ?_;refine gox (a2 h9b (a2 h11b (a2 h13b (a2 h15b (a2 h18b h18c))))) ?_;refine hk _ _ ?_;clear hk hp k kp;refine af rfl rfl ?_;refine ao [2, 3, 5, 96] ?_;have ho22 := aA hm hr1;subst ho22;replace hm : some false = some r := hm1;refine ak ?_;refine ab (ag (aD (ab (ax ?_))))
             cases hm
             exact kr 0
       ·rw [iN h7] at hm;refine ai rfl (dF h7) ?_;refine bj ?_;have ho23 := aA hm hr1;subst ho23;replace hm : fX = some r := hm1;refine aY (aQ (aF ?_));refine aw () () hm ?_;exact ls
     ·rintro _ _ hm;replace hm : fX = some r := hm;refine aH ?_;unfold fX at hm;refine ao [] ?_;refine ak ?_
      cases hm
      exact kr 0
   ·rw [iN h5] at hm;have h5b := fB h5
    have h5c : (!y2) = true := by rw [h5b]; rfl
    refine aa ?_;refine gox (a2 h1b (a2 h3b (a2 h3c (a2 h5b h5c)))) ?_;refine hk _ _ ?_;clear hk hp k kp;refine af rfl rfl ?_;refine ao [2, 3, 37] ?_;refine ak ?_;refine ag ?_
    cases hm
    exact kr 0
  ·rw [iN h3] at hm;have h3b := fB h3
   have h3c : (!y1) = true := by rw [h3b]; rfl
   refine aa ?_;refine gox (a2 h1b (a2 h3b h3c)) ?_;refine hk _ _ ?_;clear hk hp k kp;refine af rfl rfl ?_;refine ao [2, 3, 37] ?_;refine ak ?_;refine ag ?_
   cases hm
   exact kr 0
theorem qo (p1 : ah) (p2 : ah) (r : Bool) (hm : jN p1 p2 = some r) : bu Try.prog 75 [.a [.int .i64 p1.op, .int .i64 p1.k, .int .i64 p1.out_, .int .i64 p1.n, .tree 1 (p1.a.map (eK .i64)), .tree 4 (p1.e.map aj.enc)], .a [.int .i64 p2.op, .int .i64 p2.k, .int .i64 p2.out_, .int .i64 p2.n, .tree 1 (p2.a.map (eK .i64)), .tree 4 (p2.e.map aj.enc)]] (.c (.bool r)) := by
 refine aG 45 [.tmp 4] Try.func75 rfl rfl rfl (by kernel_rfl) (by simp) ?_;refine bk ?_;unfold jN at hm;refine ao [0, 1, 4] ?_;refine bz [2, 3, 5, 6, 7, 8, 9, 10, 11, 12, 13, 14, 15, 16, 17, 18, 19, 20, 21, 22, 23, 24, 25, 26, 27, 28, 29, 30, 31, 32, 33, 34, 35, 36, 37, 38, 39, 40, 41, 42, 43, 44] fun k kp hk hp => ?_;refine an 6 ?_;refine go ?_
 by_cases h1 : p1.op = p2.op
 ·rw [iP h1] at hm;have h1b := eQ h1;refine an 7 ?_;refine gox h1b ?_
  by_cases h2 : p1.k = p2.k
  ·rw [iP h2] at hm;have h2b := eQ h2;refine an 7 ?_;refine gox (a2 h1b h2b) ?_
   by_cases h3 : p1.out_ = p2.out_
   ·rw [iP h3] at hm;have h3b := eQ h3;refine an 7 ?_;refine gox (a2 h1b (a2 h2b h3b)) ?_
    by_cases h4 : p1.n = p2.n
    ·rw [iP h4] at hm;have h4b := eQ h4;refine aa ?_;refine gox (a2 h1b (a2 h2b (a2 h3b h4b))) ?_;obtain ⟨y1, hc5, hm⟩ := bd hm;refine RP (fun _ => dC p1.a p2.a _ hc5) ?_
     by_cases h6 : y1 = true
     ·rw [iP h6] at hm;have h6b := h6;refine aa ?_;refine gox (a2 h1b (a2 h2b (a2 h3b (a2 h4b h6b)))) ?_;obtain ⟨y2, hc7, hm⟩ := bd hm;refine RP (fun _ => kE p1.e p2.e _ hc7) ?_;refine aa ?_;refine gox (a2 h1b (a2 h2b (a2 h3b (a2 h4b h6b)))) ?_;refine hk _ _ ?_;clear hk hp k kp;refine ak ?_
      cases hm
      exact kr 0
     ·rw [iN h6] at hm;have h6b := fB h6;refine aa ?_;refine gox (a2 h1b (a2 h2b (a2 h3b (a2 h4b h6b)))) ?_;refine hk _ _ ?_;clear hk hp k kp;refine ak ?_
      cases hm
      exact kr 0
    ·rw [iN h4] at hm;have h4b := nB h4;refine aa ?_;refine gox (a2 h1b (a2 h2b (a2 h3b h4b))) ?_;refine hk _ _ ?_;clear hk hp k kp;refine ak ?_
     cases hm
     exact kr 0
   ·rw [iN h3] at hm;have h3b := nB h3;refine aa ?_;refine gox (a2 h1b (a2 h2b h3b)) ?_;refine hk _ _ ?_;clear hk hp k kp;refine ak ?_
    cases hm
    exact kr 0
  ·rw [iN h2] at hm;have h2b := nB h2;refine aa ?_;refine gox (a2 h1b h2b) ?_;refine hk _ _ ?_;clear hk hp k kp;refine ak ?_
   cases hm
   exact kr 0
 ·rw [iN h1] at hm;have h1b := nB h1;refine aa ?_;refine gox h1b ?_;refine hk _ _ ?_;clear hk hp k kp;refine ak ?_
  cases hm
  exact kr 0
theorem pn (p1 : ae) (p2 : ae) (r : Bool) (hm : iE p1 p2 = some r) : bu Try.prog 23 [.a [.tree 2 (p1.vars.map ap.enc), .tree 1 (p1.in_.map (eK .i64)), .tree 1 (p1.out_.map (eK .i64)), .tree 6 (p1.rules.map ah.enc)], .a [.tree 2 (p2.vars.map ap.enc), .tree 1 (p2.in_.map (eK .i64)), .tree 1 (p2.out_.map (eK .i64)), .tree 6 (p2.rules.map ah.enc)]] (.c (.bool r)) := by
 refine aG 76 [.tmp 4] Try.func23 rfl rfl rfl (by kernel_rfl) (by simp) ?_;refine bk ?_;unfold iE at hm;refine ao [0, 1, 4] ?_;refine aq fun k1 hk1 => ?_;refine bz [7, 8, 9, 10, 11, 12, 13, 14, 15, 16, 17, 18, 19, 20, 21, 22, 23, 24, 25, 26, 27, 28, 29, 30, 31, 32, 33, 34, 35, 36, 37] fun k kp hk hp => ?_;refine an 8 ?_;refine go ?_
 by_cases h1 : ¬ (p1.vars.length : Int) = (p2.vars.length : Int)
 ·rw [iP h1] at hm;have h1b := bne_iff_ne.2 h1;refine aa ?_;refine gox h1b ?_;refine hk _ _ ?_;clear hk hp k kp;refine af rfl rfl ?_;refine ao [2, 3, 38] ?_;refine ak ?_;refine ag ?_
  cases hm
  exact kr 0
 ·rw [iN h1] at hm;have h1b : ((p1.vars.length : Int) != (p2.vars.length : Int)) = false := bne_eq_false_iff_eq.2 (Decidable.not_not.1 h1);refine an 9 ?_;refine gox h1b ?_
  by_cases h2 : ¬ (p1.rules.length : Int) = (p2.rules.length : Int)
  ·rw [iP h2] at hm;have h2b := bne_iff_ne.2 h2;refine aa ?_;refine gox (a2 h1b h2b) ?_;refine hk _ _ ?_;clear hk hp k kp;refine af rfl rfl ?_;refine ao [2, 3, 38] ?_;refine ak ?_;refine ag ?_
   cases hm
   exact kr 0
  ·rw [iN h2] at hm;have h2b : ((p1.rules.length : Int) != (p2.rules.length : Int)) = false := bne_eq_false_iff_eq.2 (Decidable.not_not.1 h2);refine aa ?_;refine gox (a2 h1b h2b) ?_;obtain ⟨y1, hc3, hm⟩ := bd hm;refine RP (fun _ => dC p1.in_ p2.in_ _ hc3) ?_
   by_cases h4 : y1 = true
   ·rw [iP h4] at hm;have h4b := h4
    have h4c : (!y1) = false := by rw [h4b]; rfl
    refine aa ?_;refine gox (a2 h1b (a2 h2b (a2 h4b h4c))) ?_;obtain ⟨y2, hc5, hm⟩ := bd hm;refine RP (fun _ => dC p1.out_ p2.out_ _ hc5) ?_;refine aa ?_;refine gox (a2 h1b (a2 h2b (a2 h4b h4c))) ?_;refine hk _ _ ?_;clear hk hp k kp
    by_cases h6 : y2 = true
    ·rw [iP h6] at hm;refine ai rfl (by rw [show y2 = true from (h6)]; rfl) ?_;refine au ?_;refine am (hk1 _ _ ?_);refine aI (S := Unit) (V := Unit) [4, 5, 38, 39, 40, 41, 42, 43, 44, 45, 46, 47, 48, 49, 50, 51, 52, 53, 54, 55, 56] (fun _ _ => []) (fun _ _ => [.box [.tree 2 (p1.vars.map ap.enc), .tree 1 (p1.in_.map (eK .i64)), .tree 1 (p1.out_.map (eK .i64)), .tree 6 (p1.rules.map ah.enc)], .box [.tree 2 (p2.vars.map ap.enc), .tree 1 (p2.in_.map (eK .i64)), .tree 1 (p2.out_.map (eK .i64)), .tree 6 (p2.rules.map ah.enc)]]) (fun _ => d3 p1 p2 = some r) ?_ ?_
     ·skip;refine ao [38] ?_
      refine az ?_;obtain ⟨o2, hl2, hm2⟩ := bd hm;refine aZ (S := Int) (V := Unit) (O := Unit ⊕ Bool) [4, 5, 39, 40, 41, 42, 43, 44, 45, 46, 47, 48, 49, 50, 51, 52, 53, 54, 55, 56] (fun x10 _ => [(5, .c (.int .i64 x10))]) (fun x10 _ => [.box [.tree 2 (p1.vars.map ap.enc), .tree 1 (p1.in_.map (eK .i64)), .tree 1 (p1.out_.map (eK .i64)), .tree 6 (p1.rules.map ah.enc)], .box [.tree 2 (p2.vars.map ap.enc), .tree 1 (p2.in_.map (eK .i64)), .tree 1 (p2.out_.map (eK .i64)), .tree 6 (p2.rules.map ah.enc)]]) _ _ () hl2 ?_ ?_
      ·exact ls
      ·rintro x10 _ r2 hm hr2;replace hm : fE p1 p2 x10 = some r2 := hm;refine aH ?_;unfold fE at hm;refine aq fun k4 hk4 => ?_;refine ao [39, 40, 41, 42] ?_
       by_cases h13 : x10 < (p1.vars.length : Int)
       ·rw [iP h13] at hm;refine af rfl (dT h13) ?_;refine au ?_;refine am (hk4 _ _ ?_);refine aq fun k5 hk5 => ?_;refine az ?_;obtain ⟨⟨hg14a, hg14b⟩, hm⟩ := gd hm;refine jy (a2 (em ap.enc p1.vars x10.toNat) (em ap.enc p2.vars x10.toNat)) [43, 46, 47, 48, 49, 50, 51, 52, 53, 54, 55] [0, 1, 0, 7, 15, 0, 32, 0, 224, 480, 1023] [false, false, false, false, false, false, false, false, false, false, true] ?_
        by_cases h15 : ((p1.vars.getD x10.toNat default).elem) = ((p2.vars.getD x10.toNat default).elem) ∧ ((p1.vars.getD x10.toNat default).n) = ((p2.vars.getD x10.toNat default).n)
        ·rw [iP h15] at hm;refine ai rfl (by rw [show ((((p1.vars.getD x10.toNat default).elem) == ((p2.vars.getD x10.toNat default).elem)) && (((p1.vars.getD x10.toNat default).n) == ((p2.vars.getD x10.toNat default).n))) = true from (by simpa [Bool.and_eq_true] using h15)]; rfl) ?_;refine au ?_;refine ar ?_;refine am (hk5 _ _ ?_);refine a8 ?_;refine aB (IntKind.wrap .i64 (x10 + 1)) () hm ?_;exact ls
        ·rw [iN h15] at hm;refine af rfl (by rw [show ((((p1.vars.getD x10.toNat default).elem) == ((p2.vars.getD x10.toNat default).elem)) && (((p1.vars.getD x10.toNat default).n) == ((p2.vars.getD x10.toNat default).n))) = false from (fB (fun hh => h15 (by simpa [Bool.and_eq_true] using hh)))]; rfl) ?_;refine ao [2, 3, 5, 56] ?_;have ho16 := aA hm hr2;subst ho16;replace hm : some false = some r := hm2;refine ak ?_;refine ab (ag (aD (ab (ax ?_))))
         cases hm
         exact kr 0
       ·rw [iN h13] at hm;refine ai rfl (dF h13) ?_;refine bj ?_;have ho17 := aA hm hr2;subst ho17;replace hm : d3 p1 p2 = some r := hm2;refine aY (aQ (aF ?_));refine aw () () hm ?_;exact ls
     ·rintro _ _ hm;replace hm : d3 p1 p2 = some r := hm;refine aH ?_;unfold d3 at hm;refine aI (S := Unit) (V := Unit) [2, 3, 4, 6, 57, 58, 59, 60, 61, 62, 63, 64, 65, 66, 67, 68, 69, 70, 71, 72, 73, 74, 75] (fun _ _ => []) (fun _ _ => [.box [.tree 2 (p1.vars.map ap.enc), .tree 1 (p1.in_.map (eK .i64)), .tree 1 (p1.out_.map (eK .i64)), .tree 6 (p1.rules.map ah.enc)], .box [.tree 2 (p2.vars.map ap.enc), .tree 1 (p2.in_.map (eK .i64)), .tree 1 (p2.out_.map (eK .i64)), .tree 6 (p2.rules.map ah.enc)]]) (fun _ => fC = some r) ?_ ?_
      ·skip;refine ao [] ?_
       refine az ?_;obtain ⟨o1, hl1, hm1⟩ := bd hm;refine aZ (S := Int) (V := Unit) (O := Unit ⊕ Bool) [4, 6, 57, 58, 59, 60, 61, 62, 63, 64, 65, 66, 67, 68, 69, 70, 71, 72, 73, 74, 75] (fun x5 _ => [(6, .c (.int .i64 x5))]) (fun x5 _ => [.box [.tree 2 (p1.vars.map ap.enc), .tree 1 (p1.in_.map (eK .i64)), .tree 1 (p1.out_.map (eK .i64)), .tree 6 (p1.rules.map ah.enc)], .box [.tree 2 (p2.vars.map ap.enc), .tree 1 (p2.in_.map (eK .i64)), .tree 1 (p2.out_.map (eK .i64)), .tree 6 (p2.rules.map ah.enc)]]) _ _ () hl1 ?_ ?_
       ·exact ls
       ·rintro x5 _ r1 hm hr1;replace hm : fD p1 p2 x5 = some r1 := hm;refine aH ?_;unfold fD at hm;refine aq fun k2 hk2 => ?_;refine ao [57, 58, 59, 60] ?_
        by_cases h7 : x5 < (p1.rules.length : Int)
        ·rw [iP h7] at hm;refine af rfl (dT h7) ?_;refine au ?_;refine am (hk2 _ _ ?_);refine aq fun k3 hk3 => ?_;refine az ?_;obtain ⟨⟨hg8a, hg8b⟩, hm⟩ := gd hm;refine jx [61, 64, 65, 66, 67, 68, 69, 70, 71, 72, 73, 74] (by kernel_rfl) [0, 1, 0, 7, 15, 0, 32, 0, 224, 480, 1023, 2047] [false, false, false, false, false, false, false, false, false, false, true, true] (by kernel_rfl) fun k hk => ?_;refine gax (a2 (em ah.enc p1.rules x5.toNat) (em ah.enc p2.rules x5.toNat)) ?_;obtain ⟨y6, hc9, hm⟩ := bd hm;refine AP (fun _ => qo (p1.rules.getD x5.toNat default) (p2.rules.getD x5.toNat default) _ hc9) ?_;refine ga ?_;refine hk _ _ ?_;clear hk k
         by_cases h10 : y6 = true
         ·rw [iP h10] at hm;refine ai rfl (by rw [show y6 = true from (h10)]; rfl) ?_;refine au ?_;refine ar ?_;refine am (hk3 _ _ ?_);refine a8 ?_;refine aB (IntKind.wrap .i64 (x5 + 1)) () hm ?_;exact ls
         ·rw [iN h10] at hm;refine af rfl (by rw [show y6 = false from (fB h10)]; rfl) ?_;refine ao [2, 3, 6, 75] ?_;have ho11 := aA hm hr1;subst ho11;replace hm : some false = some r := hm1;refine ak ?_;refine ab (ag (aD (ab (ax ?_))))
          cases hm
          exact kr 0
        ·rw [iN h7] at hm;refine ai rfl (dF h7) ?_;refine bj ?_;have ho12 := aA hm hr1;subst ho12;replace hm : fC = some r := hm1;refine aY (aQ (aF ?_));refine aw () () hm ?_;exact ls
      ·rintro _ _ hm;replace hm : fC = some r := hm;refine aH ?_;unfold fC at hm;refine ao [] ?_;refine ak ?_
       cases hm
       exact kr 0
    ·rw [iN h6] at hm;refine af rfl (by rw [show y2 = false from (fB h6)]; rfl) ?_;refine ao [2, 3, 38] ?_;refine ak ?_;refine ag ?_
     cases hm
     exact kr 0
   ·rw [iN h4] at hm;have h4b := fB h4
    have h4c : (!y1) = true := by rw [h4b]; rfl
    refine aa ?_;refine gox (a2 h1b (a2 h2b (a2 h4b h4c))) ?_;refine hk _ _ ?_;clear hk hp k kp;refine af rfl rfl ?_;refine ao [2, 3, 38] ?_;refine ak ?_;refine ag ?_
    cases hm
    exact kr 0
theorem qp (p1 : aK) (p2 : aK) (r : Bool) (hm : kL p1 p2 = some r) : bu Try.prog 24 [.a [.tree 1 (p1.at_.map (eK .i64)), .tree 1 (p1.keep.map (eK .i64)), .int .i64 p1.cells], .a [.tree 1 (p2.at_.map (eK .i64)), .tree 1 (p2.keep.map (eK .i64)), .int .i64 p2.cells]] (.c (.bool r)) := by
 refine aG 24 [.tmp 4] Try.func24 rfl rfl rfl (by kernel_rfl) (by simp) ?_;refine bk ?_;unfold kL at hm;refine ao [0, 1, 4] ?_;refine bz [2, 3, 5, 6, 7, 8, 9, 10, 11, 12, 13, 14, 15, 16, 17, 18, 19, 20, 21, 22, 23] fun k kp hk hp => ?_;refine an 6 ?_;refine go ?_
 by_cases h1 : p1.cells = p2.cells
 ·rw [iP h1] at hm;have h1b := eQ h1;refine aa ?_;refine gox h1b ?_;obtain ⟨y1, hc2, hm⟩ := bd hm;refine RP (fun _ => dC p1.at_ p2.at_ _ hc2) ?_
  by_cases h3 : y1 = true
  ·rw [iP h3] at hm;have h3b := h3;refine aa ?_;refine gox (a2 h1b h3b) ?_;obtain ⟨y2, hc4, hm⟩ := bd hm;refine RP (fun _ => dC p1.keep p2.keep _ hc4) ?_;refine aa ?_;refine gox (a2 h1b h3b) ?_;refine hk _ _ ?_;clear hk hp k kp;refine ak ?_
   cases hm
   exact kr 0
  ·rw [iN h3] at hm;have h3b := fB h3;refine aa ?_;refine gox (a2 h1b h3b) ?_;refine hk _ _ ?_;clear hk hp k kp;refine ak ?_
   cases hm
   exact kr 0
 ·rw [iN h1] at hm;have h1b := nB h1;refine aa ?_;refine gox h1b ?_;refine hk _ _ ?_;clear hk hp k kp;refine ak ?_
  cases hm
  exact kr 0
theorem po (p1 : ae) (p2 : aK) (r : Bool) (hm : jO p1 p2 = some r) : bu Try.prog 4 [.a [.tree 2 (p1.vars.map ap.enc), .tree 1 (p1.in_.map (eK .i64)), .tree 1 (p1.out_.map (eK .i64)), .tree 6 (p1.rules.map ah.enc)], .a [.tree 1 (p2.at_.map (eK .i64)), .tree 1 (p2.keep.map (eK .i64)), .int .i64 p2.cells]] (.c (.bool r)) := by
 refine aG 77 [.tmp 4] Try.func4 rfl rfl rfl (by kernel_rfl) (by simp) ?_;refine bk ?_;unfold jO at hm;refine ao [0, 1, 4] ?_;refine aq fun k1 hk1 => ?_;refine aL [13] fun k kp hk hp => ?_;refine go ?_;obtain ⟨y1, hc1, hm⟩ := bd hm;refine RP (fun _ => pm  _ hc1) ?_;refine aa ?_;refine go ?_;refine hk _ _ ?_;clear hk hp k kp
 by_cases h2 : y1 = true
 ·rw [iP h2] at hm;refine ai rfl (by rw [show y1 = true from (h2)]; rfl) ?_;refine au ?_;refine am (hk1 _ _ ?_);refine aq fun k2 hk2 => ?_;refine aL [14, 15, 16, 17, 18, 19, 20, 21, 22, 23, 24, 25, 26, 27] fun k kp hk hp => ?_;refine go ?_;obtain ⟨y2, hc3, hm⟩ := bd hm;refine RP (fun _ => oH p1 150 _ hc3) ?_
  by_cases h4 : y2 = true
  ·rw [iP h4] at hm;have h4b := h4;refine aa ?_;refine gox h4b ?_;refine hk _ _ ?_;clear hk hp k kp;refine af rfl rfl ?_;refine ao [2, 3, 28] ?_;refine ak ?_;refine ag ?_
   cases hm
   exact kr 0
  ·rw [iN h4] at hm;have h4b := fB h4;refine an 7 ?_;refine gox h4b ?_
   by_cases h5 : (p2.at_.length : Int) > 1000
   ·rw [iP h5] at hm;have h5b := dT h5;refine aa ?_;refine gox (a2 h4b h5b) ?_;refine hk _ _ ?_;clear hk hp k kp;refine af rfl rfl ?_;refine ao [2, 3, 28] ?_;refine ak ?_;refine ag ?_
    cases hm
    exact kr 0
   ·rw [iN h5] at hm;have h5b := dF h5;refine aa ?_;refine gox (a2 h4b h5b) ?_;refine hk _ _ ?_;clear hk hp k kp
    by_cases h6 : (p2.keep.length : Int) > 1000
    ·rw [iP h6] at hm;refine af rfl (dT h6) ?_;refine ao [2, 3, 28] ?_;refine ak ?_;refine ag ?_
     cases hm
     exact kr 0
    ·rw [iN h6] at hm;refine ai rfl (dF h6) ?_;refine au ?_;refine am (hk2 _ _ ?_);refine aL [28, 29, 30] fun k kp hk hp => ?_;refine go ?_;obtain ⟨y3, hc7, hm⟩ := bd hm;refine RP (fun _ => o9 p1 _ hc7) ?_;refine aa ?_;refine go ?_;refine hk _ _ ?_;clear hk hp k kp;obtain ⟨⟨hg8ax, hg8ay⟩, hm⟩ := gd hm;refine qx [31, 32, 33, 34, 35, 36, 37, 38, 39] (by kernel_rfl) [] [0, 1, 3, 0, 8, 31, 0, 64, 255, 0, 1023] [false, false, false, false, false, false, false, false, false, false, true] [false, false, false, false, false, false, false, false, false, false, false] [[], [], [], [], [], [], [], [], [], [], []] [false, false, true, false, false, true, false, false, false, false, false] (by kernel_rfl) fun k hk => ?_;refine lG 2 rfl rfl rfl rfl rfl ?_;refine gp ?_
     refine lH (qY (s := 1) (T' := 3) (es := (p2.at_.map (eK .i64))) (fun σ => by simp only [bA, bT, tab, bX, reduceIte, ↓reduceIte, reduceCtorEq, Int.reduceToNat, Nat.reduceDiv, Nat.reduceMod, Nat.reduceLT, Nat.reduceLeDiff, Nat.reduceAdd, Nat.reduceSub, Nat.reduceMul, Nat.reduceEqDiff, Nat.reduceBEq, Nat.reduceBNe, Nat.reduceGT, List.length_cons, List.length_nil, List.length_append, List.cons_append, List.nil_append]; rfl) (by first | trivial | (and_intros <;> first | trivial | rfl | omega | decide | assumption | exact bH fun _ => rfl | (intro _; omega))) (by simp)) (by first | rfl | (simp only [bA, bT, tab, bX, reduceIte, ↓reduceIte, reduceCtorEq, Int.reduceToNat, Nat.reduceDiv, Nat.reduceMod, Nat.reduceLT, Nat.reduceLeDiff, Nat.reduceAdd, Nat.reduceSub, Nat.reduceMul, Nat.reduceEqDiff, Nat.reduceBEq, Nat.reduceBNe, Nat.reduceGT]; done)) (by first | trivial | exact ia rfl) ?_
     refine gl ?_;obtain ⟨⟨hg9ax, hg9ay⟩, hm⟩ := gd hm;refine lG 2 rfl rfl rfl rfl rfl ?_;refine gp ?_
     refine lH (qY (s := 1) (T' := 3) (es := (p2.keep.map (eK .i64))) (fun σ => by simp only [bA, bT, tab, bX, reduceIte, ↓reduceIte, reduceCtorEq, Int.reduceToNat, Nat.reduceDiv, Nat.reduceMod, Nat.reduceLT, Nat.reduceLeDiff, Nat.reduceAdd, Nat.reduceSub, Nat.reduceMul, Nat.reduceEqDiff, Nat.reduceBEq, Nat.reduceBNe, Nat.reduceGT, List.length_cons, List.length_nil, List.length_append, List.cons_append, List.nil_append]; rfl) (by first | trivial | (and_intros <;> first | trivial | rfl | omega | decide | assumption | exact bH fun _ => rfl | (intro _; omega))) (by simp)) (by first | rfl | (simp only [bA, bT, tab, bX, reduceIte, ↓reduceIte, reduceCtorEq, Int.reduceToNat, Nat.reduceDiv, Nat.reduceMod, Nat.reduceLT, Nat.reduceLeDiff, Nat.reduceAdd, Nat.reduceSub, Nat.reduceMul, Nat.reduceEqDiff, Nat.reduceBEq, Nat.reduceBNe, Nat.reduceGT]; done)) (by first | trivial | exact ia rfl) ?_
     refine gl ?_;refine lF rfl ?_;refine gp ?_;refine hk _ _ ?_;clear hk k;refine aL [40, 41, 42, 43, 44, 45, 46] fun k kp hk hp => ?_;refine go ?_;obtain ⟨y4, hc10, hm⟩ := bd hm;refine RP (fun _ => od (y3) p2 _ hc10) ?_;refine aa ?_;refine go ?_;refine hk _ _ ?_;clear hk hp k kp;refine aL [47, 48, 49, 50, 51, 52, 53] fun k kp hk hp => ?_;refine go ?_;obtain ⟨y5, hc11, hm⟩ := bd hm;refine RP (fun _ => ti p1 p2 _ hc11) ?_;refine aa ?_;refine go ?_;refine hk _ _ ?_;clear hk hp k kp;refine bz [2, 3, 5, 6, 7, 8, 9, 10, 11, 12, 54, 55, 56, 57, 58, 59, 60, 61, 62, 63, 64, 65, 66, 67, 68, 69, 70, 71, 72, 73, 74, 75, 76] fun k kp hk hp => ?_;refine an 4 ?_;refine go ?_
     by_cases h12 : ((y4.2.2).code) = ((y5.2.2).code) ∧ ((y4.2.2).at_) = ((y5.2.2).at_)
     ·rw [iP h12] at hm
      have h12b : ((((y4.2.2).code) == ((y5.2.2).code)) && (((y4.2.2).at_) == ((y5.2.2).at_))) = true := by simpa [Bool.and_eq_true] using h12
      refine aa ?_;refine gox h12b ?_;obtain ⟨y6, hc13, hm⟩ := bd hm;refine RP (fun _ => pH (y4.1) (y5.1) _ hc13) ?_
      by_cases h14 : y6 = true
      ·rw [iP h14] at hm;have h14b := h14;refine aa ?_;refine gox (a2 h12b h14b) ?_;obtain ⟨y7, hc15, hm⟩ := bd hm;refine RP (fun _ => dC y4.2.1 y5.2.1 _ hc15) ?_
       by_cases h16 : y7 = true
       ·rw [iP h16] at hm;have h16b := h16;refine aa ?_;refine gox (a2 h12b (a2 h14b h16b)) ?_;obtain ⟨y8, hc17, hm⟩ := bd hm;refine RP (fun _ => pn (y3) p1 _ hc17) ?_
        by_cases h18 : y8 = true
        ·rw [iP h18] at hm;have h18b := h18;refine aa ?_;refine gox (a2 h12b (a2 h14b (a2 h16b h18b))) ?_;obtain ⟨y9, hc19, hm⟩ := bd hm;refine RP (fun _ => qp p2 p2 _ hc19) ?_;refine aa ?_;refine gox (a2 h12b (a2 h14b (a2 h16b h18b))) ?_;refine hk _ _ ?_;clear hk hp k kp;refine ak ?_
         cases hm
         exact kr 0
        ·rw [iN h18] at hm;have h18b := fB h18;refine aa ?_;refine gox (a2 h12b (a2 h14b (a2 h16b h18b))) ?_;refine hk _ _ ?_;clear hk hp k kp;refine ak ?_
         cases hm
         exact kr 0
       ·rw [iN h16] at hm;have h16b := fB h16;refine aa ?_;refine gox (a2 h12b (a2 h14b h16b)) ?_;refine hk _ _ ?_;clear hk hp k kp;refine ak ?_
        cases hm
        exact kr 0
      ·rw [iN h14] at hm;have h14b := fB h14;refine aa ?_;refine gox (a2 h12b h14b) ?_;refine hk _ _ ?_;clear hk hp k kp;refine ak ?_
       cases hm
       exact kr 0
     ·rw [iN h12] at hm;have h12b : ((((y4.2.2).code) == ((y5.2.2).code)) && (((y4.2.2).at_) == ((y5.2.2).at_))) = false := fB (fun hh => h12 (by simpa [Bool.and_eq_true] using hh));refine aa ?_;refine gox h12b ?_;refine hk _ _ ?_;clear hk hp k kp;refine ak ?_
      cases hm
      exact kr 0
 ·rw [iN h2] at hm;refine af rfl (by rw [show y1 = false from (fB h2)]; rfl) ?_;refine ao [2, 3, 14] ?_;refine ak ?_;refine ag ?_
  cases hm
  exact kr 0
end Pam
