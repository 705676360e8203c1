/- the walk of ref_MayOver, printed by a program of ours -/
import Derived.Test.YtcfgfffidnpciaaQBase3
import Derived.Test.YtcfgfffidnpciaaQBase2
import Derived.Test.YtcfgfffidnpciaaQabFun1
import Derived.Test.YtcfgfffidnpciaaQabWalk3
set_option linter.all false
set_option maxRecDepth 100000
set_option maxHeartbeats 8000000
namespace Pam
open Go Go.Proofs
theorem pQ (p1 : ab) (p2 : ae) (p3 : Int) (r : Bool) (hm : iM p1 p2 p3 = some r) : cz Try.prog 17 [.a [.tree 2 (p1.vars.map ap.enc), .tree 1 (p1.in_.map (eK .i64)), .tree 1 (p1.out_.map (eK .i64)), .tree 6 (p1.rules.map ae.enc)], .a [.int .i64 p2.op, .int .i64 p2.k, .int .i64 p2.out_, .int .i64 p2.n, .tree 1 (p2.a.map (eK .i64)), .tree 4 (p2.e.map ax.enc)], .c (.int .i64 p3)] (.c (.bool r)) := by
 refine aK 70 [.tmp 6] Try.func17 rfl rfl rfl (by kernel_rfl) (by simp) ?_;refine bH ?_;unfold iM at hm;refine ak [0, 1, 6] ?_;refine aG (S := Unit) (V := Unit) [3, 6, 9, 10, 11, 12, 13, 14, 15, 16, 17, 18, 19, 20, 21, 22, 23, 24, 25, 26, 27, 28, 29, 30, 31, 32, 33, 34, 35, 36, 37, 38] (fun _ _ => []) (fun _ _ => [.box [.tree 2 (p1.vars.map ap.enc), .tree 1 (p1.in_.map (eK .i64)), .tree 1 (p1.out_.map (eK .i64)), .tree 6 (p1.rules.map ae.enc)], .box [.int .i64 p2.op, .int .i64 p2.k, .int .i64 p2.out_, .int .i64 p2.n, .tree 1 (p2.a.map (eK .i64)), .tree 4 (p2.e.map ax.enc)]]) (fun _ => d1 p2 p3 = some r) ?_ ?_
 ·skip;refine fa [3, 9, 10, 11, 12, 13, 14, 15, 16, 17, 18, 19, 20, 21, 22, 23, 24, 25, 26, 27, 28, 29, 30, 31, 32, 33, 34, 35, 36, 37] (by kernel_rfl) [0, 1, 3, 7, 15, 31, 63, 127, 255, 511, 1023, 511, 2559, 8191, 16383, 32767, 511, 66047, 511, 459263, 983551, 2032127, 4194303, 8388607, 16777215, 33554431, 67108863, 33554431, 268435455, 536870911] [true, true, true, true, true, true, true, true, true, false, false, false, false, false, false, false, false, false, false, false, false, false, true, true, true, false, false, false, true, true] (by kernel_rfl) fun k hk => ?_
  refine bV 4 rfl ?_;refine ga ?_
  by_cases h10 : ¬ p2.op = 14
  ·rw [iP h10] at hm;have h10b := bne_iff_ne.2 h10;refine bV 5 rfl ?_;refine gax h10b ?_
   by_cases h11 : ¬ p2.op = 16
   ·rw [iP h11] at hm;have h11b := bne_iff_ne.2 h11;refine aM ?_;refine gax (a2 h10b h11b) ?_;refine hk _ _ ?_;clear hk k;refine ag rfl rfl ?_;refine ak [2, 4, 38] ?_;refine an ?_;refine aA ?_
    cases hm
    exact kr 0
   ·rw [iN h11] at hm;have h11b : (p2.op != 16) = false := bne_eq_false_iff_eq.2 (Decidable.not_not.1 h11);obtain ⟨⟨hg12a, hg12b⟩, hm⟩ := gd hm;refine bV 16 rfl ?_;refine gax (a2 (em ap.enc p1.vars p2.out_.toNat) (a2 (em ap.enc p1.vars p3.toNat) (a2 h10b h11b))) ?_
    by_cases h13 : ¬ ((p1.vars.getD p2.out_.toNat default).n) = ((p1.vars.getD p3.toNat default).n)
    ·rw [iP h13] at hm;have h13b := bne_iff_ne.2 h13;refine aM ?_;refine gax (a2 h10b (a2 h11b h13b)) ?_;refine hk _ _ ?_;clear hk k;refine ag rfl rfl ?_;refine ak [2, 4, 38] ?_;refine an ?_;refine aA ?_
     cases hm
     exact kr 0
    ·rw [iN h13] at hm;have h13b : (((p1.vars.getD p2.out_.toNat default).n) != ((p1.vars.getD p3.toNat default).n)) = false := bne_eq_false_iff_eq.2 (Decidable.not_not.1 h13);refine aM ?_;refine gax (a2 h10b (a2 h11b h13b)) ?_;obtain ⟨y5, hc14, hm⟩ := bd hm;refine pat (fun _ => lb p2.a p3 _ hc14) ?_;refine aM ?_;refine gax (a2 h10b (a2 h11b h13b)) ?_;refine hk _ _ ?_;clear hk k
     by_cases h15 : y5 = true
     ·rw [iP h15] at hm;refine ag rfl (h15) ?_;refine ak [2, 4, 38] ?_;refine an ?_;refine aA ?_
      cases hm
      exact kr 0
     ·rw [iN h15] at hm;refine ah rfl (fB h15) ?_;refine aq ?_;refine ar () () hm ?_;exact ls
  ·rw [iN h10] at hm;have h10b : (p2.op != 14) = false := bne_eq_false_iff_eq.2 (Decidable.not_not.1 h10);obtain ⟨⟨hg16a, hg16b⟩, hm⟩ := gd hm;refine bV 21 rfl ?_;refine gax (a2 (em ap.enc p1.vars p2.out_.toNat) (a2 (em ap.enc p1.vars p3.toNat) h10b)) ?_
   by_cases h17 : ¬ ((p1.vars.getD p2.out_.toNat default).n) = ((p1.vars.getD p3.toNat default).n)
   ·rw [iP h17] at hm;have h17b := bne_iff_ne.2 h17;refine aM ?_;refine gax (a2 h10b h17b) ?_;refine hk _ _ ?_;clear hk k;refine ag rfl rfl ?_;refine ak [2, 4, 38] ?_;refine an ?_;refine aA ?_
    cases hm
    exact kr 0
   ·rw [iN h17] at hm;have h17b : (((p1.vars.getD p2.out_.toNat default).n) != ((p1.vars.getD p3.toNat default).n)) = false := bne_eq_false_iff_eq.2 (Decidable.not_not.1 h17);refine aM ?_;refine gax (a2 h10b h17b) ?_;obtain ⟨y6, hc18, hm⟩ := bd hm;refine pat (fun _ => lb p2.a p3 _ hc18) ?_;refine aM ?_;refine gax (a2 h10b h17b) ?_;refine hk _ _ ?_;clear hk k
    by_cases h19 : y6 = true
    ·rw [iP h19] at hm;refine ag rfl (h19) ?_;refine ak [2, 4, 38] ?_;refine an ?_;refine aA ?_
     cases hm
     exact kr 0
    ·rw [iN h19] at hm;refine ah rfl (fB h19) ?_;refine aq ?_;refine ar () () hm ?_;exact ls
 ·rintro _ _ hm;replace hm : d1 p2 p3 = some r := hm;refine aI ?_;unfold d1 at hm;refine aG (S := Unit) (V := Unit) [2, 4, 6, 7, 8, 39, 40, 41, 42, 43, 44, 45, 46, 47, 48, 49, 50, 51, 52, 53, 54, 55, 56, 57, 58, 59, 60, 61, 62, 63, 64, 65, 66, 67, 68, 69] (fun _ _ => []) (fun _ _ => [.box [.tree 2 (p1.vars.map ap.enc), .tree 1 (p1.in_.map (eK .i64)), .tree 1 (p1.out_.map (eK .i64)), .tree 6 (p1.rules.map ae.enc)], .box [.int .i64 p2.op, .int .i64 p2.k, .int .i64 p2.out_, .int .i64 p2.n, .tree 1 (p2.a.map (eK .i64)), .tree 4 (p2.e.map ax.enc)]]) (fun _ => ia = some r) ?_ ?_
  ·skip;refine ak [] ?_
   refine aw ?_;obtain ⟨o1, hl1, hm1⟩ := bd hm;refine bg (S := Int) (V := Unit) (O := Unit ⊕ Bool) [6, 7, 8, 39, 40, 41, 42, 43, 44, 45, 46, 47, 48, 49, 50, 51, 52, 53, 54, 55, 56, 57, 58, 59, 60, 61, 62, 63, 64, 65, 66, 67, 68, 69] (fun x3 _ => [(7, .c (.int .i64 x3))]) (fun x3 _ => [.box [.tree 2 (p1.vars.map ap.enc), .tree 1 (p1.in_.map (eK .i64)), .tree 1 (p1.out_.map (eK .i64)), .tree 6 (p1.rules.map ae.enc)], .box [.int .i64 p2.op, .int .i64 p2.k, .int .i64 p2.out_, .int .i64 p2.n, .tree 1 (p2.a.map (eK .i64)), .tree 4 (p2.e.map ax.enc)]]) _ _ () hl1 ?_ ?_
   ·exact ls
   ·rintro x3 _ r1 hm hr1;replace hm : ib p2 p3 x3 = some r1 := hm;refine aI ?_;unfold ib at hm;refine ao fun k1 hk1 => ?_;refine ak [39, 40, 41, 42] ?_
    by_cases h1 : x3 < (p2.e.length : Int)
    ·rw [iP h1] at hm;refine ag rfl (dT h1) ?_;refine aq ?_;refine aj (hk1 _ _ ?_);refine ao fun k2 hk2 => ?_;refine aw ?_;obtain ⟨hg2a, hm⟩ := gd hm;refine bo (em ax.enc p2.e x3.toNat) [43, 46, 47, 48, 49, 50] ?_;refine dX [8, 51, 52, 53, 54, 55, 56, 57, 58, 59, 60, 61, 62, 63, 64, 65, 66, 67, 68] fun k kp hk hp => ?_;refine ay 5 ?_;refine go ?_
     by_cases h3 : ((p2.e.getD x3.toNat default).v) = p3
     ·rw [iP h3] at hm;have h3b := eQ h3;refine ay 4 ?_;refine gox h3b ?_
      by_cases h4 : ((p2.e.getD x3.toNat default).op) = 8
      ·rw [iP h4] at hm;have h4b := eQ h4;refine aa ?_;refine gox (a2 h3b h4b) ?_;refine hk _ _ ?_;clear hk hp k kp;refine ag rfl rfl ?_;refine ak [2, 4, 7, 69] ?_;have ho5 := aH hm hr1;subst ho5;replace hm : some false = some r := hm1;refine an ?_;refine af (ai (aV (af (aA ?_))))
       cases hm
       exact kr 0
      ·rw [iN h4] at hm;have h4b := nB h4;refine ay 4 ?_;refine gox (a2 h3b h4b) ?_
       by_cases h6 : ((p2.e.getD x3.toNat default).op) = 3
       ·rw [iP h6] at hm;have h6b := eQ h6;refine aa ?_;refine gox (a2 h3b (a2 h4b h6b)) ?_;refine hk _ _ ?_;clear hk hp k kp
        by_cases h7 : ¬ ((p2.e.getD x3.toNat default).n) = 0
        ·rw [iP h7] at hm;refine ag rfl (bne_iff_ne.2 h7) ?_;refine ak [2, 4, 7, 69] ?_;have ho8 := aH hm hr1;subst ho8;replace hm : some false = some r := hm1;refine an ?_;refine af (ai (aV (af (aA ?_))))
         cases hm
         exact kr 0
        ·rw [iN h7] at hm;refine ah rfl (bne_eq_false_iff_eq.2 (Decidable.not_not.1 h7)) ?_;refine aq ?_;refine az ?_;refine aj (hk2 _ _ ?_);refine bD ?_;refine aE (IntKind.wrap .i64 (x3 + 1)) () hm ?_;exact ls
       ·rw [iN h6] at hm;have h6b := nB h6;refine aa ?_;refine gox (a2 h3b (a2 h4b h6b)) ?_;refine hk _ _ ?_;clear hk hp k kp;refine ah rfl rfl ?_;refine aq ?_;refine az ?_;refine aj (hk2 _ _ ?_);refine bD ?_;refine aE (IntKind.wrap .i64 (x3 + 1)) () hm ?_;exact ls
     ·rw [iN h3] at hm;have h3b := nB h3;refine aa ?_;refine gox h3b ?_;refine hk _ _ ?_;clear hk hp k kp;refine ah rfl rfl ?_;refine aq ?_;refine az ?_;refine aj (hk2 _ _ ?_);refine bD ?_;refine aE (IntKind.wrap .i64 (x3 + 1)) () hm ?_;exact ls
    ·rw [iN h1] at hm;refine ah rfl (dF h1) ?_;refine bk ?_;have ho9 := aH hm hr1;subst ho9;replace hm : ia = some r := hm1;refine aW (aT (aC ?_));refine ar () () hm ?_;exact ls
  ·rintro _ _ hm;replace hm : ia = some r := hm;refine aI ?_;unfold ia at hm;refine ak [] ?_;refine an ?_
   cases hm
   exact kr 0
theorem nZ (p1 : ab) (r : Bool) (hm : i7 p1 = some r) : cz Try.prog 4 [.a [.tree 2 (p1.vars.map ap.enc), .tree 1 (p1.in_.map (eK .i64)), .tree 1 (p1.out_.map (eK .i64)), .tree 6 (p1.rules.map ae.enc)]] (.c (.bool r)) := by
 refine aK 258 [.tmp 2] Try.func4 rfl rfl rfl (by kernel_rfl) (by simp) ?_;refine bH ?_;unfold i7 at hm;refine ak [0, 2] ?_;refine ao fun k1 hk1 => ?_;refine aY [13] fun k kp hk hp => ?_;refine go ?_;obtain ⟨y1, hc1, hm⟩ := bd hm;refine RP (fun _ => kz  _ hc1) ?_;refine aa ?_;refine go ?_;refine hk _ _ ?_;clear hk hp k kp
 by_cases h2 : y1 = true
 ·rw [iP h2] at hm;refine ah rfl (by rw [show y1 = true from (h2)]; rfl) ?_;refine aq ?_;refine aj (hk1 _ _ ?_);refine ao fun k2 hk2 => ?_;refine aY [14, 15] fun k kp hk hp => ?_;refine go ?_;obtain ⟨y2, hc3, hm⟩ := bd hm;refine RP (fun _ => j7 p1 150 _ hc3) ?_;refine aa ?_;refine go ?_;refine hk _ _ ?_;clear hk hp k kp
  by_cases h4 : y2 = true
  ·rw [iP h4] at hm;refine ag rfl (h4) ?_;refine ak [1, 16] ?_;refine an ?_;refine ai ?_
   cases hm
   exact kr 0
  ·rw [iN h4] at hm;refine ah rfl (fB h4) ?_;refine aq ?_;refine aj (hk2 _ _ ?_);refine aY [16, 17, 18, 19, 20, 21] fun k kp hk hp => ?_;refine go ?_;obtain ⟨y3, hc5, hm⟩ := bd hm;refine RP (fun _ => kE p1 _ hc5) ?_;refine aa ?_;refine go ?_;refine hk _ _ ?_;clear hk hp k kp;refine ao fun k3 hk3 => ?_;refine ak [4, 22, 23] ?_
   by_cases h6 : ¬ ((y3.2).code) = 0
   ·rw [iP h6] at hm;refine ag rfl (bne_iff_ne.2 h6) ?_;refine ak [1, 3, 24] ?_;refine an ?_;refine ai ?_
    cases hm
    exact kr 0
   ·rw [iN h6] at hm;refine ah rfl (bne_eq_false_iff_eq.2 (Decidable.not_not.1 h6)) ?_;refine aq ?_;refine aj (hk3 _ _ ?_);refine aY [24, 25, 26] fun k kp hk hp => ?_;refine go ?_;obtain ⟨y4, hc7, hm⟩ := bd hm;refine RP (fun _ => mr p1 _ hc7) ?_;refine aa ?_;refine go ?_;refine hk _ _ ?_;clear hk hp k kp;refine ak [] ?_;refine aG (S := Int) (V := Unit) [2, 6, 7, 27, 28, 29, 30, 31, 32, 33, 34, 35, 36, 37, 38, 39, 40, 41, 42, 43, 44, 45, 46, 47, 48, 49, 50, 51, 52, 53, 54, 55, 56, 57, 58, 59, 60, 61, 62, 63, 64, 65, 66, 67] (fun x5 _ => [(6, .c (.int .i64 x5))]) (fun x5 _ => [.box [.tree 2 (p1.vars.map ap.enc), .tree 1 (p1.in_.map (eK .i64)), .tree 1 (p1.out_.map (eK .i64)), .tree 6 (p1.rules.map ae.enc)], .box [.tree 1 (((y3.1).at_).map (eK .i64)), .tree 1 (((y3.1).keep).map (eK .i64)), .int .i64 ((y3.1).cells)], .box [.int .i64 ((y3.2).code), .int .i64 ((y3.2).at_)]]) (fun x5 => d9 p1 y3 y4 x5 = some r) ?_ ?_
    ·skip;refine ak [] ?_
     refine aw ?_;obtain ⟨o3, hl3, hm3⟩ := bd hm;refine bg (S := (Int × Int)) (V := Unit) (O := Int ⊕ Bool) [2, 6, 7, 27, 28, 29, 30, 31, 32, 33, 34, 35, 36, 37, 38, 39, 40, 41, 42, 43, 44, 45, 46, 47, 48, 49, 50, 51, 52, 53, 54, 55, 56, 57, 58, 59, 60, 61, 62, 63, 64, 65, 66, 67] (fun (x23, x24) _ => [(6, .c (.int .i64 x23)), (7, .c (.int .i64 x24))]) (fun (x23, x24) _ => [.box [.tree 2 (p1.vars.map ap.enc), .tree 1 (p1.in_.map (eK .i64)), .tree 1 (p1.out_.map (eK .i64)), .tree 6 (p1.rules.map ae.enc)], .box [.tree 1 (((y3.1).at_).map (eK .i64)), .tree 1 (((y3.1).keep).map (eK .i64)), .int .i64 ((y3.1).cells)], .box [.int .i64 ((y3.2).code), .int .i64 ((y3.2).at_)]]) _ _ () hl3 ?_ ?_
     ·exact ls
     ·rintro ⟨x23, x24⟩ _ r3 hm hr3;replace hm : cn p1 y3 x23 x24 = some r3 := hm;refine aI ?_;unfold cn at hm;refine ao fun k12 hk12 => ?_;refine ak [27, 28, 29, 30] ?_
      by_cases h52 : x24 < (p1.rules.length : Int)
      ·rw [iP h52] at hm;refine ag rfl (dT h52) ?_;refine aq ?_;refine aj (hk12 _ _ ?_);refine ao fun k13 hk13 => ?_;refine aw ?_;obtain ⟨hg53a, hm⟩ := gd hm;refine bo (em ae.enc p1.rules x24.toNat) [31, 34, 35, 36, 37, 38, 39] ?_
       by_cases h54 : ((p1.rules.getD x24.toNat default).op) = 13
       ·rw [iP h54] at hm;refine ag rfl (eQ h54) ?_;refine ao fun k14 hk14 => ?_;obtain ⟨hg55a, hm⟩ := gd hm;refine bo (em (eK .i64) ((y3.1).keep) x24.toNat) [40, 41, 42, 43, 44, 45, 46] ?_
        by_cases h56 : ¬ (((y3.1).keep).getD x24.toNat default) = x23
        ·rw [iP h56] at hm;refine ag rfl (bne_iff_ne.2 h56) ?_;refine ak [1, 3, 5, 6, 7, 47] ?_;have ho57 := aH hm hr3;subst ho57;replace hm : some false = some r := hm3;refine an ?_;refine ai (af (ai (aV (af (aA ?_)))))
         cases hm
         exact kr 0
        ·rw [iN h56] at hm;refine ah rfl (bne_eq_false_iff_eq.2 (Decidable.not_not.1 h56)) ?_;refine aq ?_;refine aj (hk14 _ _ ?_);obtain ⟨hg58a, hm⟩ := gd hm;refine sa (by kernel_rfl) [0, 0, 2, 0, 8, 0, 56, 120, 248, 510, 1022, 2046, 4094, 8191, 16383] [false, false, false, false, false, false, false, false, false, false, false, false, false, true, true] (by kernel_rfl) fun k hk => ?_;refine gax (a2 (em ae.enc p1.rules x24.toNat) (em ap.enc p1.vars (((p1.rules.getD x24.toNat default).out_).toNat))) ?_;obtain ⟨y25, hc59, hm⟩ := bd hm;refine AP (fun _ => gD ((p1.vars.getD (((p1.rules.getD x24.toNat default).out_).toNat) default).n) _ hc59) ?_;refine ga ?_;refine hk _ _ ?_;clear hk k;refine az ?_;refine aj (hk13 _ _ ?_);refine bD ?_;refine aE ((IntKind.wrap .i64 (x23 + y25)), (IntKind.wrap .i64 (x24 + 1))) () hm ?_;exact ls
       ·rw [iN h54] at hm;refine ah rfl (nB h54) ?_;obtain ⟨hg60a, hm⟩ := gd hm;refine bo (em (eK .i64) ((y3.1).keep) x24.toNat) [40, 62, 63, 64, 65, 66] ?_
        by_cases h61 : ¬ (((y3.1).keep).getD x24.toNat default) = (-1)
        ·rw [iP h61] at hm;refine ag rfl (bne_iff_ne.2 h61) ?_;refine ak [1, 3, 5, 6, 7, 67] ?_;have ho62 := aH hm hr3;subst ho62;replace hm : some false = some r := hm3;refine an ?_;refine af (ai (aV (af (aA ?_))))
         cases hm
         exact kr 0
        ·rw [iN h61] at hm;refine ah rfl (bne_eq_false_iff_eq.2 (Decidable.not_not.1 h61)) ?_;refine aq ?_;refine az ?_;refine aj (hk13 _ _ ?_);refine bD ?_;refine aE (x23, (IntKind.wrap .i64 (x24 + 1))) () hm ?_;exact ls
      ·rw [iN h52] at hm;refine ah rfl (dF h52) ?_;refine bk ?_;have ho63 := aH hm hr3;subst ho63;replace hm : d9 p1 y3 y4 x23 = some r := hm3;refine aW (aT (aC ?_));refine ar x23 () hm ?_;exact ls
    ·rintro x5 _ hm;replace hm : d9 p1 y3 y4 x5 = some r := hm;refine aI ?_;unfold d9 at hm;refine aG (S := Unit) (V := Unit) [1, 2, 3, 5, 6, 8, 9, 10, 11, 12, 68, 69, 70, 71, 72, 73, 74, 75, 76, 77, 78, 79, 80, 81, 82, 83, 84, 85, 86, 87, 88, 89, 90, 91, 92, 93, 94, 95, 96, 97, 98, 99, 100, 101, 102, 103, 104, 105, 106, 107, 108, 109, 110, 111, 112, 113, 114, 115, 116, 117, 118, 119, 120, 121, 122, 123, 124, 125, 126, 127, 128, 129, 130, 131, 132, 133, 134, 135, 136, 137, 138, 139, 140, 141, 142, 143, 144, 145, 146, 147, 148, 149, 150, 151, 152, 153, 154, 155, 156, 157, 158, 159, 160, 161, 162, 163, 164, 165, 166, 167, 168, 169, 170, 171, 172, 173, 174, 175, 176, 177, 178, 179, 180, 181, 182, 183, 184, 185, 186, 187, 188, 189, 190, 191, 192, 193, 194, 195, 196, 197, 198, 199, 200, 201, 202, 203, 204, 205, 206, 207, 208, 209, 210, 211, 212, 213, 214, 215, 216, 217, 218, 219, 220, 221, 222, 223, 224, 225, 226, 227, 228, 229, 230, 231, 232, 233, 234, 235, 236, 237, 238, 239, 240, 241, 242, 243, 244, 245, 246, 247, 248, 249, 250, 251, 252, 253, 254, 255, 256, 257] (fun _ _ => []) (fun _ _ => [.box [.tree 2 (p1.vars.map ap.enc), .tree 1 (p1.in_.map (eK .i64)), .tree 1 (p1.out_.map (eK .i64)), .tree 6 (p1.rules.map ae.enc)], .box [.tree 1 (((y3.1).at_).map (eK .i64)), .tree 1 (((y3.1).keep).map (eK .i64)), .int .i64 ((y3.1).cells)], .box [.int .i64 ((y3.2).code), .int .i64 ((y3.2).at_)]]) (fun _ => ft = some r) ?_ ?_
     ·skip;refine ak [] ?_
      refine aw ?_;obtain ⟨o1, hl1, hm1⟩ := bd hm;refine bg (S := Int) (V := Unit) (O := Unit ⊕ Bool) [2, 8, 9, 10, 11, 12, 68, 69, 70, 71, 72, 73, 74, 75, 76, 77, 78, 79, 80, 81, 82, 83, 84, 85, 86, 87, 88, 89, 90, 91, 92, 93, 94, 95, 96, 97, 98, 99, 100, 101, 102, 103, 104, 105, 106, 107, 108, 109, 110, 111, 112, 113, 114, 115, 116, 117, 118, 119, 120, 121, 122, 123, 124, 125, 126, 127, 128, 129, 130, 131, 132, 133, 134, 135, 136, 137, 138, 139, 140, 141, 142, 143, 144, 145, 146, 147, 148, 149, 150, 151, 152, 153, 154, 155, 156, 157, 158, 159, 160, 161, 162, 163, 164, 165, 166, 167, 168, 169, 170, 171, 172, 173, 174, 175, 176, 177, 178, 179, 180, 181, 182, 183, 184, 185, 186, 187, 188, 189, 190, 191, 192, 193, 194, 195, 196, 197, 198, 199, 200, 201, 202, 203, 204, 205, 206, 207, 208, 209, 210, 211, 212, 213, 214, 215, 216, 217, 218, 219, 220, 221, 222, 223, 224, 225, 226, 227, 228, 229, 230, 231, 232, 233, 234, 235, 236, 237, 238, 239, 240, 241, 242, 243, 244, 245, 246, 247, 248, 249, 250, 251, 252, 253, 254, 255, 256, 257] (fun x8 _ => [(8, .c (.int .i64 x8))]) (fun x8 _ => [.box [.tree 2 (p1.vars.map ap.enc), .tree 1 (p1.in_.map (eK .i64)), .tree 1 (p1.out_.map (eK .i64)), .tree 6 (p1.rules.map ae.enc)], .box [.tree 1 (((y3.1).at_).map (eK .i64)), .tree 1 (((y3.1).keep).map (eK .i64)), .int .i64 ((y3.1).cells)], .box [.int .i64 ((y3.2).code), .int .i64 ((y3.2).at_)]]) _ _ () hl1 ?_ ?_
      ·exact ls
      ·rintro x8 _ r1 hm hr1;replace hm : fw p1 y3 y4 x5 x8 = some r1 := hm;refine aI ?_;unfold fw at hm;refine ao fun k4 hk4 => ?_;refine ak [68, 69, 70, 71] ?_
       by_cases h8 : x8 < (p1.vars.length : Int)
       ·rw [iP h8] at hm;refine ag rfl (dT h8) ?_;refine aq ?_;refine aj (hk4 _ _ ?_);refine aG (S := Unit) (V := Unit) [2, 9, 10, 11, 12, 72, 75, 76, 77, 78, 79, 80, 81, 82, 83, 84, 85, 86, 87, 88, 89, 90, 91, 92, 93, 94, 95, 96, 97, 98, 99, 100, 101, 102, 103, 104, 105, 106, 107, 108, 109, 110, 111, 112, 113, 114, 115, 116, 117, 118, 119, 120, 121, 122, 123, 124, 125, 126, 127, 128, 129, 130, 131, 132, 133, 134, 135, 136, 137, 138, 139, 140, 141, 142, 143, 144, 145, 146, 147, 148, 149, 150, 151, 152, 153, 154, 155, 156, 157, 158, 159, 160, 161, 162, 163, 164, 165, 166, 167, 168, 169, 170, 171, 172, 173, 174, 175, 176, 177, 178, 179, 180, 181, 182, 183, 184, 185, 186, 187, 188, 189, 190, 191, 192, 193, 194, 195, 196, 197, 198, 199, 200, 201, 202, 203, 204, 205, 206, 207, 208, 209, 210, 211, 212, 213, 214, 215, 216, 217, 218, 219, 220, 221, 222, 223, 224, 225, 226, 227, 228, 229, 230, 231, 232, 233, 234, 235, 236, 237, 238, 239, 240, 241, 242, 243, 244, 245, 246, 247, 248, 249, 250, 251, 252, 253, 254, 255, 256, 257] (fun _ _ => []) (fun _ _ => [.box [.tree 2 (p1.vars.map ap.enc), .tree 1 (p1.in_.map (eK .i64)), .tree 1 (p1.out_.map (eK .i64)), .tree 6 (p1.rules.map ae.enc)], .box [.tree 1 (((y3.1).at_).map (eK .i64)), .tree 1 (((y3.1).keep).map (eK .i64)), .int .i64 ((y3.1).cells)], .box [.int .i64 ((y3.2).code), .int .i64 ((y3.2).at_)]]) (fun _ => cm x8 = some r1) ?_ ?_
        ·skip;refine aw ?_
         obtain ⟨hg9a, hm⟩ := gd hm;refine aY [72, 75, 76, 77, 78, 79, 80, 81] fun k kp hk hp => ?_;refine gox (em ap.enc p1.vars x8.toNat) ?_;obtain ⟨y9, hc10, hm⟩ := bd hm;refine RP (fun _ => gD ((p1.vars.getD x8.toNat default).n) _ hc10) ?_;refine aa ?_;refine go ?_;refine hk _ _ ?_;clear hk hp k kp;refine ao fun k5 hk5 => ?_;obtain ⟨hg11a, hm⟩ := gd hm;refine bo (em (eK .i64) ((y3.1).at_) x8.toNat) [82, 83, 84, 85, 86] ?_
         by_cases h12 : (((y3.1).at_).getD x8.toNat default) < 0
         ·rw [iP h12] at hm;refine ag rfl (dT h12) ?_;refine ao fun k6 hk6 => ?_;obtain ⟨hg13a, hm⟩ := gd hm;refine kQ (em am.enc y4 x8.toNat) [9, 87, 88, 89, 90, 91, 92, 93, 94, 95, 96, 97] [0, 0, 3, 7, 15, 0, 0, 96, 224, 480, 1023] [false, false, false, false, false, false, false, false, false, false, true] ?_
          by_cases h14 : ((y4.getD x8.toNat default).from_) ≤ ((y4.getD x8.toNat default).to)
          ·rw [iP h14] at hm;refine ag rfl (dT h14) ?_;refine ak [1, 3, 5, 6, 8, 98] ?_;have ho15 := aH hm hr1;subst ho15;replace hm : some false = some r := hm1;refine an ?_;refine ai (ai (af (aA (aV (af (aA ?_))))))
           cases hm
           exact kr 0
          ·rw [iN h14] at hm;refine ah rfl (dF h14) ?_;refine aq ?_;refine aj (hk6 _ _ ?_);refine bk ?_;refine aW (aC ?_);refine ar () () hm ?_;exact ls
         ·rw [iN h12] at hm;refine ah rfl (dF h12) ?_;refine aq ?_;refine aj (hk5 _ _ ?_);refine ao fun k7 hk7 => ?_;refine fa [87, 99, 100, 101, 102, 103, 104, 105, 106, 107, 108, 109, 110, 111, 112, 113, 114, 115, 116] (by kernel_rfl) [0, 1, 0, 7, 15, 0, 63, 127, 255, 511, 255, 2047, 4095, 255, 16383, 255, 33023, 131071, 262143] [false, false, false, false, false, false, true, true, false, false, false, false, false, false, false, false, false, true, true] (by kernel_rfl) fun k hk => ?_;refine bV 8 rfl ?_;refine gax (em (eK .i64) ((y3.1).at_) x8.toNat) ?_
          by_cases h16 : (((y3.1).at_).getD x8.toNat default) < x5
          ·rw [iP h16] at hm;have h16b := dT h16;refine aM ?_;refine gax h16b ?_;refine hk _ _ ?_;clear hk k;refine ag rfl rfl ?_;refine ak [1, 3, 5, 6, 8, 9, 117] ?_;have ho17 := aH hm hr1;subst ho17;replace hm : some false = some r := hm1;refine an ?_;refine ai (af (aA (aV (af (aA ?_)))))
           cases hm
           exact kr 0
          ·rw [iN h16] at hm;have h16b := dF h16;refine aM ?_;refine gax (a2 (em (eK .i64) ((y3.1).at_) x8.toNat) h16b) ?_;refine hk _ _ ?_;clear hk k
           by_cases h18 : (IntKind.wrap .i64 ((((y3.1).at_).getD x8.toNat default) + y9)) > ((y3.1).cells)
           ·rw [iP h18] at hm;refine ag rfl (dT h18) ?_;refine ak [1, 3, 5, 6, 8, 9, 117] ?_;have ho19 := aH hm hr1;subst ho19;replace hm : some false = some r := hm1;refine an ?_;refine ai (af (aA (aV (af (aA ?_)))))
            cases hm
            exact kr 0
           ·rw [iN h18] at hm;refine ah rfl (dF h18) ?_;refine aq ?_;refine aj (hk7 _ _ ?_);refine ak [117] ?_;refine aw ?_;obtain ⟨o2, hl2, hm2⟩ := bd hm;refine bg (S := Int) (V := Unit) (O := Unit ⊕ Bool) [2, 10, 11, 12, 118, 119, 120, 121, 122, 123, 124, 125, 126, 127, 128, 129, 130, 131, 132, 133, 134, 135, 136, 137, 138, 139, 140, 141, 142, 143, 144, 145, 146, 147, 148, 149, 150, 151, 152, 153, 154, 155, 156, 157, 158, 159, 160, 161, 162, 163, 164, 165, 166, 167, 168, 169, 170, 171, 172, 173, 174, 175, 176, 177, 178, 179, 180, 181, 182, 183, 184, 185, 186, 187, 188, 189, 190, 191, 192, 193, 194, 195, 196, 197, 198, 199, 200, 201, 202, 203, 204, 205, 206, 207, 208, 209, 210, 211, 212, 213, 214, 215, 216, 217, 218, 219, 220, 221, 222, 223, 224, 225, 226, 227, 228, 229, 230, 231, 232, 233, 234, 235, 236, 237, 238, 239, 240, 241, 242, 243, 244, 245, 246, 247, 248, 249, 250, 251, 252, 253, 254, 255, 256, 257] (fun x12 _ => [(10, .c (.int .i64 x12))]) (fun x12 _ => [.box [.tree 2 (p1.vars.map ap.enc), .tree 1 (p1.in_.map (eK .i64)), .tree 1 (p1.out_.map (eK .i64)), .tree 6 (p1.rules.map ae.enc)], .box [.tree 1 (((y3.1).at_).map (eK .i64)), .tree 1 (((y3.1).keep).map (eK .i64)), .int .i64 ((y3.1).cells)], .box [.int .i64 ((y3.2).code), .int .i64 ((y3.2).at_)]]) _ _ () hl2 ?_ ?_
            ·exact ls
            ·rintro x12 _ r2 hm hr2;replace hm : fv p1 y3 y4 x8 y9 x12 = some r2 := hm;refine aI ?_;unfold fv at hm;refine ao fun k8 hk8 => ?_;refine ak [118, 119, 120, 121] ?_
             by_cases h20 : x12 < (p1.vars.length : Int)
             ·rw [iP h20] at hm;refine ag rfl (dT h20) ?_;refine aq ?_;refine aj (hk8 _ _ ?_);refine ao fun k9 hk9 => ?_;refine aw ?_;refine ao fun k10 hk10 => ?_;refine fa [122, 125, 126, 127, 128, 129, 130, 131, 132, 133, 134, 135, 136, 137, 138, 139, 140, 141, 142, 143, 144, 145, 146, 147, 148, 149, 150, 151, 152, 153, 154, 155, 156, 157, 158, 159, 160, 161, 162, 163, 164, 165, 166, 167, 168, 169, 170] (by kernel_rfl) [0, 0, 3, 7, 15, 31, 15, 127, 255, 511, 1023, 2047, 4095, 8191, 4095, 32767, 65535, 4095, 262143, 4095, 528383, 4095, 3674111, 7868415, 16777215, 33554431, 67108863, 134217727, 268435455, 134217727, 1073741823, 2147483647, 134217727, 4429185023, 134217727, 30198988799, 64558727167, 133278203903, 270717157375, 549755813887, 134217727, 1099645845503, 134217727, 7696715612159, 16492808634367, 35184372088831, 70368744177663] [false, false, true, true, false, false, false, true, true, true, true, true, false, false, false, false, false, false, false, false, false, false, false, false, true, true, true, false, false, false, false, false, false, false, false, false, false, false, false, false, false, false, false, false, false, true, true] (by kernel_rfl) fun k hk => ?_;refine bV 4 rfl ?_;refine ga ?_
              by_cases h21 : x12 = x8
              ·rw [iP h21] at hm;have h21b := eQ h21;refine aM ?_;refine gax h21b ?_;refine hk _ _ ?_;clear hk k;refine ag rfl rfl ?_;refine bk ?_;refine aW (aC ?_);refine aj (hk9 _ _ ?_);refine bD ?_;refine aE (IntKind.wrap .i64 (x12 + 1)) () hm ?_;exact ls
              ·rw [iN h21] at hm;have h21b := nB h21;obtain ⟨hg22a, hm⟩ := gd hm;refine bV 8 rfl ?_;refine gax (a2 (em (eK .i64) ((y3.1).at_) x12.toNat) h21b) ?_
               by_cases h23 : (((y3.1).at_).getD x12.toNat default) < 0
               ·rw [iP h23] at hm;have h23b := dT h23;refine aM ?_;refine gax (a2 h21b h23b) ?_;refine hk _ _ ?_;clear hk k;refine ag rfl rfl ?_;refine bk ?_;refine aW (aC ?_);refine aj (hk9 _ _ ?_);refine bD ?_;refine aE (IntKind.wrap .i64 (x12 + 1)) () hm ?_;exact ls
               ·rw [iN h23] at hm;have h23b := dF h23;refine bV 15 rfl ?_;refine gax (a2 (em (eK .i64) ((y3.1).at_) x8.toNat) (a2 (em (eK .i64) ((y3.1).at_) x12.toNat) (a2 h21b h23b))) ?_
                by_cases h24 : (IntKind.wrap .i64 ((((y3.1).at_).getD x8.toNat default) + y9)) ≤ (((y3.1).at_).getD x12.toNat default)
                ·rw [iP h24] at hm;have h24b := dT h24;refine aM ?_;refine gax (a2 h21b (a2 h23b h24b)) ?_;refine hk _ _ ?_;clear hk k;refine ag rfl rfl ?_;refine bk ?_;refine aW (aC ?_);refine aj (hk9 _ _ ?_);refine bD ?_;refine aE (IntKind.wrap .i64 (x12 + 1)) () hm ?_;exact ls
                ·rw [iN h24] at hm;have h24b := dF h24;obtain ⟨hg25a, hm⟩ := gd hm;refine aM ?_;refine gax (a2 (em (eK .i64) ((y3.1).at_) x12.toNat) (a2 (em ap.enc p1.vars x12.toNat) (a2 h21b (a2 h23b h24b)))) ?_;obtain ⟨y13, hc26, hm⟩ := bd hm;refine pat (fun _ => gD ((p1.vars.getD x12.toNat default).n) _ hc26) ?_;refine aM ?_;refine gax (a2 (em (eK .i64) ((y3.1).at_) x8.toNat) (a2 h21b (a2 h23b h24b))) ?_;refine hk _ _ ?_;clear hk k
                 by_cases h27 : (IntKind.wrap .i64 ((((y3.1).at_).getD x12.toNat default) + y13)) ≤ (((y3.1).at_).getD x8.toNat default)
                 ·rw [iP h27] at hm;refine ag rfl (dT h27) ?_;refine bk ?_;refine aW (aC ?_);refine aj (hk9 _ _ ?_);refine bD ?_;refine aE (IntKind.wrap .i64 (x12 + 1)) () hm ?_;exact ls
                 ·rw [iN h27] at hm;refine ah rfl (dF h27) ?_;refine aq ?_;refine aj (hk10 _ _ ?_);refine ak [171, 172, 173] ?_;refine aG (S := (Int × Int)) (V := Unit) [11, 12, 174, 175, 176, 177, 178, 179, 180, 181, 182, 183, 184, 185, 186] (fun (x14, x15) _ => [(11, .c (.int .i64 x14)), (12, .c (.int .i64 x15))]) (fun (x14, x15) _ => [.box [.tree 2 (p1.vars.map ap.enc), .tree 1 (p1.in_.map (eK .i64)), .tree 1 (p1.out_.map (eK .i64)), .tree 6 (p1.rules.map ae.enc)], .box [.tree 1 (((y3.1).at_).map (eK .i64)), .tree 1 (((y3.1).keep).map (eK .i64)), .int .i64 ((y3.1).cells)], .box [.int .i64 ((y3.2).code), .int .i64 ((y3.2).at_)]]) (fun (x14, x15) => dw p1 y3 y4 x12 x14 x15 = some r2) ?_ ?_
                  ·skip;obtain ⟨⟨hg48a, hg48b⟩, hm⟩ := gd hm
                   refine kQ (a2 (em am.enc y4 x8.toNat) (em am.enc y4 x12.toNat)) [174, 175, 176, 177, 178, 179, 180, 181, 182, 183] [0, 0, 3, 7, 15, 0, 0, 96, 224, 480, 1023] [false, false, false, false, false, false, false, false, false, false, true] ?_
                   by_cases h49 : ((y4.getD x8.toNat default).from_) > ((y4.getD x12.toNat default).from_)
                   ·rw [iP h49] at hm;refine ag rfl (dT h49) ?_;refine bD ?_;refine ar (x12, x8) () hm ?_;exact ls
                   ·rw [iN h49] at hm;refine ah rfl (dF h49) ?_;refine aq ?_;refine ar (x8, x12) () hm ?_;exact ls
                  ·rintro ⟨x14, x15⟩ _ hm;replace hm : dw p1 y3 y4 x12 x14 x15 = some r2 := hm;refine aI ?_;unfold dw at hm;refine ao fun k11 hk11 => ?_;obtain ⟨⟨hg28a, hg28b⟩, hm⟩ := gd hm;refine fa [187, 188, 189, 190, 191, 192, 193, 194, 195, 196, 197, 198, 199, 200, 201, 202, 203, 204, 205, 206, 207, 208, 209] (by kernel_rfl) [0, 0, 3, 7, 15, 0, 0, 96, 224, 480, 1023, 2047, 4095, 4095, 16383, 32767, 65535, 4095, 4095, 397311, 921599, 1970175, 4194303, 8388607] [false, false, false, false, false, false, false, false, false, false, true, true, false, false, false, false, false, false, false, false, false, false, true, true] (by kernel_rfl) fun k hk => ?_;refine bV 12 rfl ?_;refine gax (a2 (em am.enc y4 x14.toNat) (em am.enc y4 x15.toNat)) ?_
                   by_cases h29 : ((y4.getD x14.toNat default).from_) = ((y4.getD x15.toNat default).from_)
                   ·rw [iP h29] at hm;have h29b := eQ h29;refine aM ?_;refine gax h29b ?_;refine hk _ _ ?_;clear hk k;refine ag rfl rfl ?_;refine ak [1, 3, 5, 6, 8, 9, 10, 11, 12, 210] ?_;have ho30 := aH hm hr2;subst ho30;replace hm : some (.inr (.inr false)) = some r1 := hm2;have ho31 := aH hm hr1;subst ho31;replace hm : some false = some r := hm1;refine an ?_;refine ai (af (ai (aV (af (af (aA (aV (af (aA ?_)))))))))
                    cases hm
                    exact kr 0
                   ·rw [iN h29] at hm;have h29b := nB h29;refine aM ?_;refine gax (a2 (em am.enc y4 x14.toNat) (a2 (em am.enc y4 x15.toNat) h29b)) ?_;refine hk _ _ ?_;clear hk k
                    by_cases h32 : ((y4.getD x14.toNat default).to) > ((y4.getD x15.toNat default).from_)
                    ·rw [iP h32] at hm;refine ag rfl (dT h32) ?_;refine ak [1, 3, 5, 6, 8, 9, 10, 11, 12, 210] ?_;have ho33 := aH hm hr2;subst ho33;replace hm : some (.inr (.inr false)) = some r1 := hm2;have ho34 := aH hm hr1;subst ho34;replace hm : some false = some r := hm1;refine an ?_;refine ai (af (ai (aV (af (af (aA (aV (af (aA ?_)))))))))
                     cases hm
                     exact kr 0
                    ·rw [iN h32] at hm;refine ah rfl (dF h32) ?_;refine aq ?_;refine aj (hk11 _ _ ?_);refine fa [11, 12, 210, 211, 212, 213, 214, 215, 216, 217, 218, 219, 220, 221, 222, 223, 224, 225, 226, 227, 228, 229, 230, 231, 232, 233, 234, 235, 236, 237, 238, 239, 240, 241, 242, 243, 244, 245, 246, 247, 248, 249, 250, 251, 252, 253, 254, 255, 256] (by kernel_rfl) [0, 0, 3, 7, 15, 0, 0, 96, 224, 480, 1023, 2047, 4095, 8191, 4095, 32767, 65535, 4095, 135167, 4095, 921599, 1970175, 4194303, 8388607, 16777215, 16777215, 67108863, 134217727, 268435455, 536870911, 1073741823, 2147483647, 4294967295, 4294967295, 12884901887, 4294967295, 4294967295, 107374182399, 244813135871, 519691042815, 1095216660479, 2194728288255, 4294967295, 8796093022207, 17592186044415, 35184372088831, 70368744177663] [false, false, false, false, false, false, false, false, false, false, true, true, false, false, false, false, false, false, false, false, false, false, true, true, false, false, true, true, true, true, true, true, false, false, false, false, false, false, false, false, false, false, false, true, true, true, true] (by kernel_rfl) fun k hk => ?_;refine bV 12 rfl ?_;refine gax (a2 (em am.enc y4 x14.toNat) (em am.enc y4 x15.toNat)) ?_
                     by_cases h35 : ((y4.getD x14.toNat default).to) = ((y4.getD x15.toNat default).from_)
                     ·rw [iP h35] at hm;have h35b := eQ h35;obtain ⟨⟨hg36a, hg36b⟩, hm⟩ := gd hm;refine bV 12 rfl ?_;refine gax (a2 (em (eK .i64) ((y3.1).at_) x14.toNat) (a2 (em (eK .i64) ((y3.1).at_) x15.toNat) h35b)) ?_
                      by_cases h37 : ¬ (((y3.1).at_).getD x14.toNat default) = (((y3.1).at_).getD x15.toNat default)
                      ·rw [iP h37] at hm;have h37b := bne_iff_ne.2 h37;refine aM ?_;refine gax (a2 h35b h37b) ?_;refine hk _ _ ?_;clear hk k;refine ag rfl rfl ?_;refine ak [1, 3, 5, 6, 8, 9, 10, 257] ?_;have ho38 := aH hm hr2;subst ho38;replace hm : some (.inr (.inr false)) = some r1 := hm2;have ho39 := aH hm hr1;subst ho39;replace hm : some false = some r := hm1;refine an ?_;refine af (ai (aV (af (af (aA (aV (af (aA ?_))))))))
                       cases hm
                       exact kr 0
                      ·rw [iN h37] at hm;have h37b : ((((y3.1).at_).getD x14.toNat default) != (((y3.1).at_).getD x15.toNat default)) = false := bne_eq_false_iff_eq.2 (Decidable.not_not.1 h37);refine bV 8 rfl ?_;refine gax (a2 (em am.enc y4 x15.toNat) (a2 h35b h37b)) ?_
                       by_cases h40 : ((y4.getD x15.toNat default).from_) < 0
                       ·rw [iP h40] at hm;have h40b := dT h40;refine aM ?_;refine gax (a2 h35b (a2 h37b h40b)) ?_;refine hk _ _ ?_;clear hk k;refine ag rfl rfl ?_;refine ak [1, 3, 5, 6, 8, 9, 10, 257] ?_;have ho41 := aH hm hr2;subst ho41;replace hm : some (.inr (.inr false)) = some r1 := hm2;have ho42 := aH hm hr1;subst ho42;replace hm : some false = some r := hm1;refine an ?_;refine af (ai (aV (af (af (aA (aV (af (aA ?_))))))))
                        cases hm
                        exact kr 0
                       ·rw [iN h40] at hm;have h40b := dF h40;obtain ⟨hg43a, hm⟩ := gd hm;refine aM ?_;refine gax (a2 (em am.enc y4 x15.toNat) (a2 (em ae.enc p1.rules (((y4.getD x15.toNat default).from_).toNat)) (a2 h35b (a2 h37b h40b)))) ?_;obtain ⟨y16, hc44, hm⟩ := bd hm;refine pat (fun _ => pQ p1 (p1.rules.getD (((y4.getD x15.toNat default).from_).toNat) default) x14 _ hc44) ?_;refine aM ?_;refine gax (a2 h35b (a2 h37b h40b)) ?_;refine hk _ _ ?_;clear hk k
                        by_cases h45 : y16 = true
                        ·rw [iP h45] at hm;refine ah rfl (by rw [show y16 = true from (h45)]; rfl) ?_;refine aq ?_;refine az ?_;refine aj (hk9 _ _ ?_);refine bD ?_;refine aE (IntKind.wrap .i64 (x12 + 1)) () hm ?_;exact ls
                        ·rw [iN h45] at hm;refine ag rfl (by rw [show y16 = false from (fB h45)]; rfl) ?_;refine ak [1, 3, 5, 6, 8, 9, 10, 257] ?_;have ho46 := aH hm hr2;subst ho46;replace hm : some (.inr (.inr false)) = some r1 := hm2;have ho47 := aH hm hr1;subst ho47;replace hm : some false = some r := hm1;refine an ?_;refine af (ai (aV (af (af (aA (aV (af (aA ?_))))))))
                         cases hm
                         exact kr 0
                     ·rw [iN h35] at hm;have h35b := nB h35;refine aM ?_;refine gax h35b ?_;refine hk _ _ ?_;clear hk k;refine ah rfl rfl ?_;refine aq ?_;refine az ?_;refine aj (hk9 _ _ ?_);refine bD ?_;refine aE (IntKind.wrap .i64 (x12 + 1)) () hm ?_;exact ls
             ·rw [iN h20] at hm;refine ah rfl (dF h20) ?_;refine bk ?_;have ho50 := aH hm hr2;subst ho50;replace hm : cm x8 = some r1 := hm2;refine aW (aT (aC (az ?_)));refine ar () () hm ?_;exact ls
        ·rintro _ _ hm;replace hm : cm x8 = some r1 := hm;refine aI ?_;unfold cm at hm;refine bD ?_;refine aE (IntKind.wrap .i64 (x8 + 1)) () hm ?_;exact ls
       ·rw [iN h8] at hm;refine ah rfl (dF h8) ?_;refine bk ?_;have ho51 := aH hm hr1;subst ho51;replace hm : ft = some r := hm1;refine aW (aT (aC ?_));refine ar () () hm ?_;exact ls
     ·rintro _ _ hm;replace hm : ft = some r := hm;refine aI ?_;unfold ft at hm;refine ak [] ?_;refine an ?_
      cases hm
      exact kr 0
 ·rw [iN h2] at hm;refine ag rfl (by rw [show y1 = false from (fB h2)]; rfl) ?_;refine ak [1, 14] ?_;refine an ?_;refine ai ?_
  cases hm
  exact kr 0
end Pam
