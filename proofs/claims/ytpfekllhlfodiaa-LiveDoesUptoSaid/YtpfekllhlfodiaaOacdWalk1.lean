/- the walk of ref_F, printed by a program of ours -/
import Derived.Test.YtpfekllhlfodiaaOBase2
import Derived.Test.YtpfekllhlfodiaaOabcdFun1
import Derived.Test.YtpfekllhlfodiaaOBase3
import Derived.Test.YtpfekllhlfodiaaOabcdWalk1
set_option linter.all false
namespace Pam
open Go Go.Proofs
set_option maxRecDepth 100000 in
set_option maxHeartbeats 1000000 in
theorem cn (p1 : Int) (p2 : Int) (r : au) (hm : fB p1 p2 = some r) : bU Try.prog 55 [.c (.int .i64 p1), .c (.int .i64 p2)] (.a [.int .i64 ((r).code), .int .i64 ((r).at_)]) := by
 refine aN 8 [.cell 4 33] Try.func55 rfl rfl rfl (by kernel_rfl) (by simp) ?_;refine bu ?_;unfold fB at hm;refine ao [] ?_;refine ao [0, 1, 5, 6, 7] ?_;refine an ?_;refine ab [] ?_;obtain rfl := Option.some.inj hm;exact en
end Pam

namespace Pam
open Go Go.Proofs
set_option maxRecDepth 100000 in
set_option maxHeartbeats 8000000 in
theorem up (p1 : af) (r : au) (hm : mS p1 = some r) : bU Try.prog 84 [.a [.tree 2 (p1.vars.map ak.enc), .tree 1 (p1.in_.map (eK .i64)), .tree 1 (p1.out_.map (eK .i64)), .tree 6 (p1.rules.map ae.enc)]] (.a [.int .i64 ((r).code), .int .i64 ((r).at_)]) := by
 refine aN 136 [.cell 2 33] Try.func84 rfl rfl rfl (by kernel_rfl) (by simp) ?_;refine bu ?_;unfold mS at hm;refine ao [0] ?_;refine aq fun k1 hk1 => ?_;refine bx [6, 7, 8, 9, 10, 11, 12, 13, 14, 15, 16, 17, 18, 19, 20, 21, 22, 23, 24, 25, 26] fun k kp hk hp => ?_;refine ap 5 ?_;refine go ?_
 by_cases h1 : (p1.vars.length : Int) > 400
 ·rw [if_pos h1] at hm;have h1b := decide_eq_true h1;refine aa ?_;refine gox h1b ?_;refine hk _ _ ?_;clear hk hp k kp;refine ah rfl rfl ?_;refine aJ [1, 27, 28] fun k kp hk hp => ?_;refine go ?_;obtain ⟨y1, hc2, hm⟩ := bd hm;refine RP (fun _ => cn 7 (-1) _ hc2) ?_;refine aa ?_;refine go ?_;refine hk _ _ ?_;clear hk hp k kp;refine an ?_;refine ai ?_;refine ab [] ?_;obtain rfl := Option.some.inj hm;exact en
 ·rw [if_neg h1] at hm;have h1b := decide_eq_false h1;refine ap 6 ?_;refine gox h1b ?_
  by_cases h3 : (p1.in_.length : Int) > 400
  ·rw [if_pos h3] at hm;have h3b := decide_eq_true h3;refine aa ?_;refine gox (a2 h1b h3b) ?_;refine hk _ _ ?_;clear hk hp k kp;refine ah rfl rfl ?_;refine aJ [1, 27, 28] fun k kp hk hp => ?_;refine go ?_;obtain ⟨y2, hc4, hm⟩ := bd hm;refine RP (fun _ => cn 7 (-1) _ hc4) ?_;refine aa ?_;refine go ?_;refine hk _ _ ?_;clear hk hp k kp;refine an ?_;refine ai ?_;refine ab [] ?_;obtain rfl := Option.some.inj hm;exact en
  ·rw [if_neg h3] at hm;have h3b := decide_eq_false h3;refine ap 6 ?_;refine gox (a2 h1b h3b) ?_
   by_cases h5 : (p1.out_.length : Int) > 400
   ·rw [if_pos h5] at hm;have h5b := decide_eq_true h5;refine aa ?_;refine gox (a2 h1b (a2 h3b h5b)) ?_;refine hk _ _ ?_;clear hk hp k kp;refine ah rfl rfl ?_;refine aJ [1, 27, 28] fun k kp hk hp => ?_;refine go ?_;obtain ⟨y3, hc6, hm⟩ := bd hm;refine RP (fun _ => cn 7 (-1) _ hc6) ?_;refine aa ?_;refine go ?_;refine hk _ _ ?_;clear hk hp k kp;refine an ?_;refine ai ?_;refine ab [] ?_;obtain rfl := Option.some.inj hm;exact en
   ·rw [if_neg h5] at hm;have h5b := decide_eq_false h5;refine aa ?_;refine gox (a2 h1b (a2 h3b h5b)) ?_;refine hk _ _ ?_;clear hk hp k kp
    by_cases h7 : (p1.rules.length : Int) > 400
    ·rw [if_pos h7] at hm;refine ah rfl (decide_eq_true h7) ?_;refine aJ [1, 27, 28] fun k kp hk hp => ?_;refine go ?_;obtain ⟨y4, hc8, hm⟩ := bd hm;refine RP (fun _ => cn 7 (-1) _ hc8) ?_;refine aa ?_;refine go ?_;refine hk _ _ ?_;clear hk hp k kp;refine an ?_;refine ai ?_;refine ab [] ?_;obtain rfl := Option.some.inj hm;exact en
    ·rw [if_neg h7] at hm;refine aj rfl (decide_eq_false h7) ?_;refine ar ?_;refine am (hk1 _ _ ?_);refine aF (S := Unit) (V := Unit) [3, 27, 29, 30, 31, 32, 33, 34, 35, 36, 37, 38, 39, 40, 41, 42, 43, 44, 45, 46, 47, 48, 49, 50, 51, 52, 53, 54, 55, 56, 57, 58, 59, 60, 61, 62, 63, 64, 65, 66, 67, 68, 69, 70, 71, 72, 73] (fun _ _ => []) (fun _ _ => [.box [.tree 2 (p1.vars.map ak.enc), .tree 1 (p1.in_.map (eK .i64)), .tree 1 (p1.out_.map (eK .i64)), .tree 6 (p1.rules.map ae.enc)], .box [.int .i64 0, .int .i64 0]]) (fun _ => fg p1 = some r) ?_ ?_
     ·skip;refine ao [27] ?_
      refine aw ?_;obtain ⟨o3, hl3, hm3⟩ := bd hm;refine aQ (S := Int) (V := Unit) (O := Unit ⊕ au) [3, 29, 30, 31, 32, 33, 34, 35, 36, 37, 38, 39, 40, 41, 42, 43, 44, 45, 46, 47, 48, 49, 50, 51, 52, 53, 54, 55, 56, 57, 58, 59, 60, 61, 62, 63, 64, 65, 66, 67, 68, 69, 70, 71, 72, 73] (fun x21 _ => [(3, .c (.int .i64 x21))]) (fun x21 _ => [.box [.tree 2 (p1.vars.map ak.enc), .tree 1 (p1.in_.map (eK .i64)), .tree 1 (p1.out_.map (eK .i64)), .tree 6 (p1.rules.map ae.enc)], .box [.int .i64 0, .int .i64 0]]) _ _ () hl3 ?_ ?_
      ·exact ls
      ·rintro x21 _ r3 hm hr3;replace hm : jf p1 x21 = some r3 := hm;refine aD ?_;unfold jf at hm;refine aq fun k7 hk7 => ?_;refine ao [29, 30, 31, 32] ?_
       by_cases h32 : x21 < (p1.vars.length : Int)
       ·rw [if_pos h32] at hm;refine ah rfl (decide_eq_true h32) ?_;refine ar ?_;refine am (hk7 _ _ ?_);refine aq fun k8 hk8 => ?_;refine aw ?_;refine aF (S := Unit) (V := Unit) [33, 36, 37, 38, 39, 40, 41, 42, 43, 44, 45, 46, 47, 48, 49, 50, 51, 52, 53, 54] (fun _ _ => []) (fun _ _ => [.box [.tree 2 (p1.vars.map ak.enc), .tree 1 (p1.in_.map (eK .i64)), .tree 1 (p1.out_.map (eK .i64)), .tree 6 (p1.rules.map ae.enc)], .box [.int .i64 0, .int .i64 0]]) (fun _ => gR p1 x21 = some r3) ?_ ?_
        ·skip;obtain ⟨hg40a, hm⟩ := gd hm
         refine bx [33, 36, 37, 38, 39, 40, 41, 42, 43, 44, 45, 46, 47, 48, 49, 50] fun k kp hk hp => ?_;refine ap 8 ?_;refine gox (em ak.enc p1.vars x21.toNat) ?_
         by_cases h41 : ¬ ((p1.vars.getD x21.toNat default).elem) = 105
         ·rw [if_pos h41] at hm;have h41b := bne_iff_ne.2 h41;refine aa ?_;refine gox (a2 (em ak.enc p1.vars x21.toNat) h41b) ?_;refine hk _ _ ?_;clear hk hp k kp
          by_cases h42 : ¬ ((p1.vars.getD x21.toNat default).elem) = 98
          ·rw [if_pos h42] at hm;refine ah rfl (bne_iff_ne.2 h42) ?_;refine aJ [1, 3, 51, 52, 53, 54] fun k kp hk hp => ?_;refine go ?_;obtain ⟨y24, hc43, hm⟩ := bd hm;refine RP (fun _ => cn 10 (IntKind.wrap .i64 ((-2) - x21)) _ hc43) ?_;refine aa ?_;refine go ?_;refine hk _ _ ?_;clear hk hp k kp;have ho44 := az hm hr3;subst ho44;replace hm : some (y24) = some r := hm3;refine an ?_;refine ay ?_;refine ag ?_;refine ai ?_;refine aG ?_;refine ag ?_;refine ay ?_;refine ab [] ?_;obtain rfl := Option.some.inj hm;exact en
          ·rw [if_neg h42] at hm;refine aj rfl (bne_eq_false_iff_eq.2 (Decidable.not_not.1 h42)) ?_;refine ar ?_;refine av () () hm ?_;exact ls
         ·rw [if_neg h41] at hm;have h41b : (((p1.vars.getD x21.toNat default).elem) != 105) = false := bne_eq_false_iff_eq.2 (Decidable.not_not.1 h41);refine aa ?_;refine gox h41b ?_;refine hk _ _ ?_;clear hk hp k kp;refine aj rfl rfl ?_;refine ar ?_;refine av () () hm ?_;exact ls
        ·rintro _ _ hm;replace hm : gR p1 x21 = some r3 := hm;refine aD ?_;unfold gR at hm;obtain ⟨hg33a, hm⟩ := gd hm;refine bx [55, 56, 57, 58, 59, 60, 61, 62, 63, 64, 65, 66, 67, 68, 69] fun k kp hk hp => ?_;refine ap 8 ?_;refine gox (em ak.enc p1.vars x21.toNat) ?_
         by_cases h34 : ((p1.vars.getD x21.toNat default).n) < 0
         ·rw [if_pos h34] at hm;have h34b := decide_eq_true h34;refine aa ?_;refine gox h34b ?_;refine hk _ _ ?_;clear hk hp k kp;refine ah rfl rfl ?_;refine aJ [1, 3, 70, 71, 72, 73] fun k kp hk hp => ?_;refine go ?_;obtain ⟨y22, hc35, hm⟩ := bd hm;refine RP (fun _ => cn 13 (IntKind.wrap .i64 ((-2) - x21)) _ hc35) ?_;refine aa ?_;refine go ?_;refine hk _ _ ?_;clear hk hp k kp;have ho36 := az hm hr3;subst ho36;replace hm : some (y22) = some r := hm3;refine an ?_;refine ag ?_;refine ai ?_;refine aG ?_;refine ag ?_;refine ay ?_;refine ab [] ?_;obtain rfl := Option.some.inj hm;exact en
         ·rw [if_neg h34] at hm;have h34b := decide_eq_false h34;refine aa ?_;refine gox (a2 (em ak.enc p1.vars x21.toNat) h34b) ?_;refine hk _ _ ?_;clear hk hp k kp
          by_cases h37 : ((p1.vars.getD x21.toNat default).n) > 300
          ·rw [if_pos h37] at hm;refine ah rfl (decide_eq_true h37) ?_;refine aJ [1, 3, 70, 71, 72, 73] fun k kp hk hp => ?_;refine go ?_;obtain ⟨y23, hc38, hm⟩ := bd hm;refine RP (fun _ => cn 13 (IntKind.wrap .i64 ((-2) - x21)) _ hc38) ?_;refine aa ?_;refine go ?_;refine hk _ _ ?_;clear hk hp k kp;have ho39 := az hm hr3;subst ho39;replace hm : some (y23) = some r := hm3;refine an ?_;refine ag ?_;refine ai ?_;refine aG ?_;refine ag ?_;refine ay ?_;refine ab [] ?_;obtain rfl := Option.some.inj hm;exact en
          ·rw [if_neg h37] at hm;refine aj rfl (decide_eq_false h37) ?_;refine ar ?_;refine ax ?_;refine am (hk8 _ _ ?_);refine bm ?_;refine aB (IntKind.wrap .i64 (x21 + 1)) () hm ?_;exact ls
       ·rw [if_neg h32] at hm;refine aj rfl (decide_eq_false h32) ?_;refine aY ?_;have ho45 := az hm hr3;subst ho45;replace hm : fg p1 = some r := hm3;refine aP ?_;refine aL ?_;refine aA ?_;refine av () () hm ?_;exact ls
     ·rintro _ _ hm;replace hm : fg p1 = some r := hm;refine aD ?_;unfold fg at hm;refine aF (S := Unit) (V := Unit) [4, 74, 75, 76, 77, 78, 79, 80, 81, 82, 83, 84, 85, 86, 87, 88, 89, 90, 91, 92, 93, 94, 95, 96, 97, 98, 99, 100, 101, 102, 103, 104, 105, 106, 107, 108, 109] (fun _ _ => []) (fun _ _ => [.box [.tree 2 (p1.vars.map ak.enc), .tree 1 (p1.in_.map (eK .i64)), .tree 1 (p1.out_.map (eK .i64)), .tree 6 (p1.rules.map ae.enc)], .box [.int .i64 0, .int .i64 0]]) (fun _ => gQ p1 = some r) ?_ ?_
      ·skip;refine ao [] ?_
       refine aw ?_;obtain ⟨o2, hl2, hm2⟩ := bd hm;refine aQ (S := Int) (V := Unit) (O := Unit ⊕ au) [4, 74, 75, 76, 77, 78, 79, 80, 81, 82, 83, 84, 85, 86, 87, 88, 89, 90, 91, 92, 93, 94, 95, 96, 97, 98, 99, 100, 101, 102, 103, 104, 105, 106, 107, 108, 109] (fun x13 _ => [(4, .c (.int .i64 x13))]) (fun x13 _ => [.box [.tree 2 (p1.vars.map ak.enc), .tree 1 (p1.in_.map (eK .i64)), .tree 1 (p1.out_.map (eK .i64)), .tree 6 (p1.rules.map ae.enc)], .box [.int .i64 0, .int .i64 0]]) _ _ () hl2 ?_ ?_
       ·exact ls
       ·rintro x13 _ r2 hm hr2;replace hm : kf p1 x13 = some r2 := hm;refine aD ?_;unfold kf at hm;refine aq fun k4 hk4 => ?_;refine ao [74, 75, 76, 77] ?_
        by_cases h18 : x13 < (p1.in_.length : Int)
        ·rw [if_pos h18] at hm;refine ah rfl (decide_eq_true h18) ?_;refine ar ?_;refine am (hk4 _ _ ?_);refine aq fun k5 hk5 => ?_;refine aw ?_;refine aq fun k6 hk6 => ?_;obtain ⟨hg19a, hm⟩ := gd hm;refine dl [78, 81, 82, 83, 84, 85, 86, 87, 88, 89, 90, 91, 92, 93, 94, 95, 96] (by kernel_rfl) [0, 1, 0, 7, 15, 31, 63, 127, 255, 127, 1023, 2047, 127, 4223, 12415, 32767, 65535] [false, false, false, true, true, true, true, false, false, false, false, false, false, false, false, true, true] (by kernel_rfl) fun k hk => ?_;refine dS 7 rfl ?_;refine gax (em (eK .i64) p1.in_ x13.toNat) ?_
         by_cases h20 : (p1.in_.getD x13.toNat default) < 0
         ·rw [if_pos h20] at hm;have h20b := decide_eq_true h20;refine aS ?_;refine gax h20b ?_;refine hk _ _ ?_;clear hk k;refine ah rfl rfl ?_;refine aJ [1, 4, 97, 98] fun k kp hk hp => ?_;refine go ?_;obtain ⟨y14, hc21, hm⟩ := bd hm;refine RP (fun _ => cn 16 (-1) _ hc21) ?_;refine aa ?_;refine go ?_;refine hk _ _ ?_;clear hk hp k kp;have ho22 := az hm hr2;subst ho22;replace hm : some (y14) = some r := hm2;refine an ?_;refine ai ?_;refine ag ?_;refine ai ?_;refine aG ?_;refine ag ?_;refine ay ?_;refine ab [] ?_;obtain rfl := Option.some.inj hm;exact en
         ·rw [if_neg h20] at hm;have h20b := decide_eq_false h20;refine aS ?_;refine gax (a2 (em (eK .i64) p1.in_ x13.toNat) h20b) ?_;refine hk _ _ ?_;clear hk k
          by_cases h23 : (p1.in_.getD x13.toNat default) ≥ (p1.vars.length : Int)
          ·rw [if_pos h23] at hm;refine ah rfl (decide_eq_true h23) ?_;refine aJ [1, 4, 97, 98] fun k kp hk hp => ?_;refine go ?_;obtain ⟨y15, hc24, hm⟩ := bd hm;refine RP (fun _ => cn 16 (-1) _ hc24) ?_;refine aa ?_;refine go ?_;refine hk _ _ ?_;clear hk hp k kp;have ho25 := az hm hr2;subst ho25;replace hm : some (y15) = some r := hm2;refine an ?_;refine ai ?_;refine ag ?_;refine ai ?_;refine aG ?_;refine ag ?_;refine ay ?_;refine ab [] ?_;obtain rfl := Option.some.inj hm;exact en
          ·rw [if_neg h23] at hm;refine aj rfl (decide_eq_false h23) ?_;refine ar ?_;refine am (hk6 _ _ ?_);obtain ⟨hg26a, hm⟩ := gd hm;refine lm [97, 99, 100, 101, 102, 103, 104, 105, 106, 107] (by kernel_rfl) [0, 1, 0, 7, 0, 16, 0, 112, 240, 511] [false, false, false, false, false, false, false, false, false, true] (by kernel_rfl) fun k hk => ?_;refine gax (em (eK .i64) p1.in_ x13.toNat) ?_;obtain ⟨y16, hc27, hm⟩ := bd hm;refine AP (fun _ => dU (p1.in_.take x13.toNat) (p1.in_.getD x13.toNat default) _ hc27) ?_;refine gax (em (eK .i64) p1.in_ x13.toNat) ?_;refine hk _ _ ?_;clear hk k
           by_cases h28 : y16 = true
           ·rw [if_pos h28] at hm;refine ah rfl (h28) ?_;refine aJ [1, 4, 108, 109] fun k kp hk hp => ?_;refine go ?_;obtain ⟨y17, hc29, hm⟩ := bd hm;refine RP (fun _ => cn 8 (-1) _ hc29) ?_;refine aa ?_;refine go ?_;refine hk _ _ ?_;clear hk hp k kp;have ho30 := az hm hr2;subst ho30;replace hm : some (y17) = some r := hm2;refine an ?_;refine ag ?_;refine ai ?_;refine aG ?_;refine ag ?_;refine ay ?_;refine ab [] ?_;obtain rfl := Option.some.inj hm;exact en
           ·rw [if_neg h28] at hm;refine aj rfl (Bool.eq_false_iff.2 h28) ?_;refine ar ?_;refine ax ?_;refine am (hk5 _ _ ?_);refine bm ?_;refine aB (IntKind.wrap .i64 (x13 + 1)) () hm ?_;exact ls
        ·rw [if_neg h18] at hm;refine aj rfl (decide_eq_false h18) ?_;refine aY ?_;have ho31 := az hm hr2;subst ho31;replace hm : gQ p1 = some r := hm2;refine aP ?_;refine aL ?_;refine aA ?_;refine av () () hm ?_;exact ls
      ·rintro _ _ hm;replace hm : gQ p1 = some r := hm;refine aD ?_;unfold gQ at hm;refine aF (S := Unit) (V := Unit) [1, 5, 110, 111, 112, 113, 114, 115, 116, 117, 118, 119, 120, 121, 122, 123, 124, 125, 126, 127, 128, 129, 130, 131, 132, 133, 134] (fun _ _ => []) (fun _ _ => [.box [.tree 2 (p1.vars.map ak.enc), .tree 1 (p1.in_.map (eK .i64)), .tree 1 (p1.out_.map (eK .i64)), .tree 6 (p1.rules.map ae.enc)], .box [.int .i64 0, .int .i64 0]]) (fun _ => kd = some r) ?_ ?_
       ·skip;refine ao [] ?_
        refine aw ?_;obtain ⟨o1, hl1, hm1⟩ := bd hm;refine aQ (S := Int) (V := Unit) (O := Unit ⊕ au) [5, 110, 111, 112, 113, 114, 115, 116, 117, 118, 119, 120, 121, 122, 123, 124, 125, 126, 127, 128, 129, 130, 131, 132, 133, 134] (fun x7 _ => [(5, .c (.int .i64 x7))]) (fun x7 _ => [.box [.tree 2 (p1.vars.map ak.enc), .tree 1 (p1.in_.map (eK .i64)), .tree 1 (p1.out_.map (eK .i64)), .tree 6 (p1.rules.map ae.enc)], .box [.int .i64 0, .int .i64 0]]) _ _ () hl1 ?_ ?_
        ·exact ls
        ·rintro x7 _ r1 hm hr1;replace hm : ke p1 x7 = some r1 := hm;refine aD ?_;unfold ke at hm;refine aq fun k2 hk2 => ?_;refine ao [110, 111, 112, 113] ?_
         by_cases h9 : x7 < (p1.out_.length : Int)
         ·rw [if_pos h9] at hm;refine ah rfl (decide_eq_true h9) ?_;refine ar ?_;refine am (hk2 _ _ ?_);refine aq fun k3 hk3 => ?_;refine aw ?_;obtain ⟨hg10a, hm⟩ := gd hm;refine dl [114, 117, 118, 119, 120, 121, 122, 123, 124, 125, 126, 127, 128, 129, 130, 131, 132] (by kernel_rfl) [0, 1, 0, 7, 15, 31, 63, 127, 255, 127, 1023, 2047, 127, 4223, 12415, 32767, 65535] [false, false, false, true, true, true, true, false, false, false, false, false, false, false, false, true, true] (by kernel_rfl) fun k hk => ?_;refine dS 7 rfl ?_;refine gax (em (eK .i64) p1.out_ x7.toNat) ?_
          by_cases h11 : (p1.out_.getD x7.toNat default) < 0
          ·rw [if_pos h11] at hm;have h11b := decide_eq_true h11;refine aS ?_;refine gax h11b ?_;refine hk _ _ ?_;clear hk k;refine ah rfl rfl ?_;refine aJ [1, 5, 133, 134] fun k kp hk hp => ?_;refine go ?_;obtain ⟨y8, hc12, hm⟩ := bd hm;refine RP (fun _ => cn 16 (-1) _ hc12) ?_;refine aa ?_;refine go ?_;refine hk _ _ ?_;clear hk hp k kp;have ho13 := az hm hr1;subst ho13;replace hm : some (y8) = some r := hm1;refine an ?_;refine ag ?_;refine ai ?_;refine aG ?_;refine ag ?_;refine ay ?_;refine ab [] ?_;obtain rfl := Option.some.inj hm;exact en
          ·rw [if_neg h11] at hm;have h11b := decide_eq_false h11;refine aS ?_;refine gax (a2 (em (eK .i64) p1.out_ x7.toNat) h11b) ?_;refine hk _ _ ?_;clear hk k
           by_cases h14 : (p1.out_.getD x7.toNat default) ≥ (p1.vars.length : Int)
           ·rw [if_pos h14] at hm;refine ah rfl (decide_eq_true h14) ?_;refine aJ [1, 5, 133, 134] fun k kp hk hp => ?_;refine go ?_;obtain ⟨y9, hc15, hm⟩ := bd hm;refine RP (fun _ => cn 16 (-1) _ hc15) ?_;refine aa ?_;refine go ?_;refine hk _ _ ?_;clear hk hp k kp;have ho16 := az hm hr1;subst ho16;replace hm : some (y9) = some r := hm1;refine an ?_;refine ag ?_;refine ai ?_;refine aG ?_;refine ag ?_;refine ay ?_;refine ab [] ?_;obtain rfl := Option.some.inj hm;exact en
           ·rw [if_neg h14] at hm;refine aj rfl (decide_eq_false h14) ?_;refine ar ?_;refine ax ?_;refine am (hk3 _ _ ?_);refine bm ?_;refine aB (IntKind.wrap .i64 (x7 + 1)) () hm ?_;exact ls
         ·rw [if_neg h9] at hm;refine aj rfl (decide_eq_false h9) ?_;refine aY ?_;have ho17 := az hm hr1;subst ho17;replace hm : kd = some r := hm1;refine aP ?_;refine aL ?_;refine aA ?_;refine av () () hm ?_;exact ls
       ·rintro _ _ hm;replace hm : kd = some r := hm;refine aD ?_;unfold kd at hm;refine ao [135] ?_;refine an ?_;refine ab [] ?_;obtain rfl := Option.some.inj hm;exact en
end Pam

namespace Pam
open Go Go.Proofs
set_option maxRecDepth 100000 in
set_option maxHeartbeats 1000000 in
theorem st (p1 : af) (p2 : Int) (r : (List Int)) (hm : nW p1 p2 = some r) : bU Try.prog 85 [.a [.tree 2 (p1.vars.map ak.enc), .tree 1 (p1.in_.map (eK .i64)), .tree 1 (p1.out_.map (eK .i64)), .tree 6 (p1.rules.map ae.enc)], .c (.int .i64 p2)] (.c (.tree 1 (r.map (eK .i64)))) := by
 refine aN 22 [.tmp 4] Try.func85 rfl rfl rfl (by kernel_rfl) (by simp) ?_;refine bu ?_;unfold nW at hm;refine ao [0, 4] ?_;refine ao [] ?_;refine cx (fm 5 1 3 (by decide) rfl (Nat.le_of_ble_eq_true rfl)) ?_;refine nT ?_;refine aF (S := (List Int)) (V := Nat) [1, 2, 5, 6, 7, 8, 9, 10, 11, 12, 13, 14, 15, 16, 17, 18, 19, 20] (fun l3 v4 => [(5, .c (.osl 1 v4 0 l3.length))]) (fun l3 v4 => [.box [.tree 2 (p1.vars.map ak.enc), .tree 1 (p1.in_.map (eK .i64)), .tree 1 (p1.out_.map (eK .i64)), .tree 6 (p1.rules.map ae.enc)], .arr 1 v4 3 (l3.map (eK .i64))]) (fun l3 => lM l3 = some r) ?_ ?_
 ·skip;refine ao [] ?_
  refine aw ?_;obtain ⟨o1, hl1, hm1⟩ := bd hm;refine aQ (S := ((List Int) × Int)) (V := Nat) (O := (List Int)) [5, 6, 7, 8, 9, 10, 11, 12, 13, 14, 15, 16, 17, 18, 19, 20] (fun (l17, x19) v18 => [(5, .c (.osl 1 v18 0 l17.length)), (6, .c (.int .i64 x19))]) (fun (l17, x19) v18 => [.box [.tree 2 (p1.vars.map ak.enc), .tree 1 (p1.in_.map (eK .i64)), .tree 1 (p1.out_.map (eK .i64)), .tree 6 (p1.rules.map ae.enc)], .arr 1 v18 3 (l17.map (eK .i64))]) _ _ 0 hl1 ?_ ?_
  ·exact ls
  ·rintro ⟨l17, x19⟩ v18 r1 hm hr1;replace hm : gq p1 p2 l17 x19 = some r1 := hm;refine aD ?_;unfold gq at hm;refine aq fun k1 hk1 => ?_;refine ao [7, 8] ?_
   by_cases h1 : x19 < p2
   ·rw [if_pos h1] at hm;refine ah rfl (decide_eq_true h1) ?_;refine ar ?_;refine am (hk1 _ _ ?_);refine aq fun k2 hk2 => ?_;refine aw ?_;obtain ⟨⟨hg2a, ⟨hg2bx, hg2by⟩⟩, hm⟩ := gd hm;refine mn (em ae.enc p1.rules x19.toNat) ?_;refine ax ?_;refine am (hk2 _ _ ?_);refine bm ?_;refine aB ((l17 ++ (lit ([(p1.rules.getD x19.toNat default).out_] : List Int))), (IntKind.wrap .i64 (x19 + 1))) (v18 + 1) hm ?_;exact ls
   ·rw [if_neg h1] at hm;refine aj rfl (decide_eq_false h1) ?_;refine aY ?_;have ho3 := az hm hr1;subst ho3;replace hm : lM l17 = some r := hm1;refine aP ?_;refine aL ?_;refine aA ?_;refine av l17 v18 hm ?_;exact ls
 ·rintro l3 v4 hm;replace hm : lM l3 = some r := hm;refine aD ?_;unfold lM at hm;refine ao [5, 21] ?_;refine e9 (bn 1 rfl) ?_;refine an ?_;refine ab [] ?_;obtain rfl := Option.some.inj hm;exact en
end Pam

namespace Pam
open Go Go.Proofs
set_option maxRecDepth 100000 in
set_option maxHeartbeats 1000000 in
theorem pk (p1 : Int) (r : Int) (hm : ky p1 = some r) : bU Try.prog 86 [.c (.int .i64 p1)] (.c (.int .i64 r)) := by
  refine aN 17 [.tmp 2] Try.func86 rfl rfl rfl (by kernel_rfl) (by simp) ?_;refine nO (by simp only [kc, Env.ofList, List.length_nil, List.length_cons, bE, Nat.reduceDiv, Nat.reduceMod, Nat.reduceLT, Nat.reduceLeDiff, Nat.reduceAdd, Nat.reduceSub, Nat.reduceMul, Nat.reduceEqDiff, Nat.reduceBEq, Nat.reduceBNe, Nat.reduceGT, Int.reduceToNat]; rfl) rfl ?_;unfold ky at hm;refine aJ [2] fun k kp hk hp => ?_;simp only [bR, bT, tab, bX, reduceIte, ↓reduceIte, reduceCtorEq, Int.reduceToNat, Nat.reduceDiv, Nat.reduceMod, Nat.reduceLT, Nat.reduceLeDiff, Nat.reduceAdd, Nat.reduceSub, Nat.reduceMul, Nat.reduceEqDiff, Nat.reduceBEq, Nat.reduceBNe, Nat.reduceGT]
  repeat refine ⟨by first | omega | assumption | decide | exact bk fun _ => rfl | (intro _; omega) | rfl | exact fun e => absurd (List.map_eq_nil_iff.1 e) (by assumption) | (and_intros <;> first | omega | assumption | decide | exact bk fun _ => rfl), ?_⟩
  refine hk _ _ ?_;clear hk hp k kp;refine aJ [4] fun k kp hk hp => ?_;simp only [bR, bT, tab, bX, reduceIte, ↓reduceIte, reduceCtorEq, Int.reduceToNat, Nat.reduceDiv, Nat.reduceMod, Nat.reduceLT, Nat.reduceLeDiff, Nat.reduceAdd, Nat.reduceSub, Nat.reduceMul, Nat.reduceEqDiff, Nat.reduceBEq, Nat.reduceBNe, Nat.reduceGT, List.replicate, List.foldr]
  repeat refine ⟨by first | omega | assumption | decide | exact bk fun _ => rfl | (intro _; omega) | rfl | exact fun e => absurd (List.map_eq_nil_iff.1 e) (by assumption) | (and_intros <;> first | omega | assumption | decide | exact bk fun _ => rfl), ?_⟩
  refine hk _ _ ?_;clear hk hp k kp
  refine nO rfl (show _ = [.arr 1 0 3 ((lit ([(-1), 0, 1, 1, 2, 3, 2, 2, 1, 3, 3, 1, 2, 2, 0, 1, 1] : List Int)).map (eK .i64))] from by first | rfl | (simp only [List.take_of_length_le, List.length_map, List.length_append, List.length_cons, List.length_nil, List.length_replicate, List.length_set, List.map_append, List.map_cons, List.map_nil, List.map_replicate, List.map_set, Nat.le_refl, Nat.zero_add, List.nil_append, List.set_cons_zero, List.set_cons_succ, bX, eK, eB, eS, eL]; done) | (simp only [List.take_of_length_le, List.length_map, List.length_append, List.length_cons, List.length_nil, List.length_replicate, List.length_set, List.map_append, List.map_cons, List.map_nil, List.map_replicate, List.map_set, Nat.le_refl, Nat.zero_add, List.nil_append, List.set_cons_zero, List.set_cons_succ, bX, eK, eB, eS, eL]; rfl) | (simp; done)) ?_
  refine aq fun k1 hk1 => ?_
  by_cases h1 : p1 < 0
  · rw [if_pos h1] at hm
    have h1b := decide_eq_true h1;refine aJ [5, 6, 7, 8, 9, 10, 11] fun k kp hk hp => ?_;simp only [bR, bT, tab, bX, reduceIte, ↓reduceIte, reduceCtorEq, Int.reduceToNat, Nat.reduceDiv, Nat.reduceMod, Nat.reduceLT, Nat.reduceLeDiff, Nat.reduceAdd, Nat.reduceSub, Nat.reduceMul, Nat.reduceEqDiff, Nat.reduceBEq, Nat.reduceBNe, Nat.reduceGT, h1b]
    repeat refine ⟨by first | omega | assumption | decide | exact bk fun _ => rfl | (intro _; omega) | rfl | exact fun e => absurd (List.map_eq_nil_iff.1 e) (by assumption) | (and_intros <;> first | omega | assumption | decide | exact bk fun _ => rfl), ?_⟩
    refine hk _ _ ?_;clear hk hp k kp;refine ah rfl rfl ?_;refine aJ [0, 3, 12] fun k kp hk hp => ?_;simp only [bR, bT, tab, bX, reduceIte, ↓reduceIte, reduceCtorEq, Int.reduceToNat, Nat.reduceDiv, Nat.reduceMod, Nat.reduceLT, Nat.reduceLeDiff, Nat.reduceAdd, Nat.reduceSub, Nat.reduceMul, Nat.reduceEqDiff, Nat.reduceBEq, Nat.reduceBNe, Nat.reduceGT]
    repeat refine ⟨by first | omega | assumption | decide | exact bk fun _ => rfl | (intro _; omega) | rfl | exact fun e => absurd (List.map_eq_nil_iff.1 e) (by assumption) | (and_intros <;> first | omega | assumption | decide | exact bk fun _ => rfl), ?_⟩
    refine hk _ _ ?_;clear hk hp k kp;refine an ?_;refine ai ?_;refine ab [] ?_;obtain rfl := Option.some.inj hm
    simp only [bF, bT, tab, bX, Sum.elim_inl, Sum.elim_inr, reduceIte, ↓reduceIte, reduceCtorEq, Int.reduceToNat, Nat.reduceDiv, Nat.reduceMod, Nat.reduceLT, Nat.reduceLeDiff, Nat.reduceAdd, Nat.reduceSub, Nat.reduceMul, Nat.reduceEqDiff, Nat.reduceBEq, Nat.reduceBNe, Nat.reduceGT] <;> first | done | rfl | (and_intros <;> first | rfl | omega | (simp; done))
  · rw [if_neg h1] at hm
    have h1b := decide_eq_false h1;refine aJ [5, 6, 7, 8, 9, 10, 11] fun k kp hk hp => ?_;simp only [bR, bT, tab, bX, reduceIte, ↓reduceIte, reduceCtorEq, Int.reduceToNat, Nat.reduceDiv, Nat.reduceMod, Nat.reduceLT, Nat.reduceLeDiff, Nat.reduceAdd, Nat.reduceSub, Nat.reduceMul, Nat.reduceEqDiff, Nat.reduceBEq, Nat.reduceBNe, Nat.reduceGT, h1b]
    repeat refine ⟨by first | omega | assumption | decide | exact bk fun _ => rfl | (intro _; omega) | rfl | exact fun e => absurd (List.map_eq_nil_iff.1 e) (by assumption) | (and_intros <;> first | omega | assumption | decide | exact bk fun _ => rfl), ?_⟩
    refine hk _ _ ?_;clear hk hp k kp
    by_cases h2 : p1 ≥ (17 : Int)
    · rw [if_pos h2] at hm
      refine ah rfl (decide_eq_true h2) ?_;refine aJ [0, 3, 12] fun k kp hk hp => ?_;simp only [bR, bT, tab, bX, reduceIte, ↓reduceIte, reduceCtorEq, Int.reduceToNat, Nat.reduceDiv, Nat.reduceMod, Nat.reduceLT, Nat.reduceLeDiff, Nat.reduceAdd, Nat.reduceSub, Nat.reduceMul, Nat.reduceEqDiff, Nat.reduceBEq, Nat.reduceBNe, Nat.reduceGT]
      repeat refine ⟨by first | omega | assumption | decide | exact bk fun _ => rfl | (intro _; omega) | rfl | exact fun e => absurd (List.map_eq_nil_iff.1 e) (by assumption) | (and_intros <;> first | omega | assumption | decide | exact bk fun _ => rfl), ?_⟩
      refine hk _ _ ?_;clear hk hp k kp;refine an ?_;refine ai ?_;refine ab [] ?_;obtain rfl := Option.some.inj hm
      simp only [bF, bT, tab, bX, Sum.elim_inl, Sum.elim_inr, reduceIte, ↓reduceIte, reduceCtorEq, Int.reduceToNat, Nat.reduceDiv, Nat.reduceMod, Nat.reduceLT, Nat.reduceLeDiff, Nat.reduceAdd, Nat.reduceSub, Nat.reduceMul, Nat.reduceEqDiff, Nat.reduceBEq, Nat.reduceBNe, Nat.reduceGT] <;> first | done | rfl | (and_intros <;> first | rfl | omega | (simp; done))
    · rw [if_neg h2] at hm
      refine aj rfl (decide_eq_false h2) ?_;refine ar ?_;refine am (hk1 _ _ ?_);obtain ⟨hg3a, hm⟩ := gd hm;refine aJ [0, 3, 12, 13, 14, 15, 16] fun k kp hk hp => ?_
      simp only [bR, bT, tab, bX, reduceIte, ↓reduceIte, reduceCtorEq, Int.reduceToNat, Nat.reduceDiv, Nat.reduceMod, Nat.reduceLT, Nat.reduceLeDiff, Nat.reduceAdd, Nat.reduceSub, Nat.reduceMul, Nat.reduceEqDiff, Nat.reduceBEq, Nat.reduceBNe, Nat.reduceGT, qV (eK .i64) (lit ([(-1), 0, 1, 1, 2, 3, 2, 2, 1, 3, 3, 1, 2, 2, 0, 1, 1] : List Int)) p1.toNat (by first | omega | (simp only [bw, List.length_cons, List.length_nil, List.length_append, List.length_set, List.length_replicate, List.length_map, List.length_take, List.length_drop]; omega))]
      repeat refine ⟨by first | omega | assumption | decide | exact bk fun _ => rfl | (intro _; omega) | rfl | exact fun e => absurd (List.map_eq_nil_iff.1 e) (by assumption) | (and_intros <;> first | omega | assumption | decide | exact bk fun _ => rfl), ?_⟩
      refine hk _ _ ?_;clear hk hp k kp;refine an ?_;refine ab [] ?_;obtain rfl := Option.some.inj hm
      simp only [bF, bT, tab, bX, Sum.elim_inl, Sum.elim_inr, reduceIte, ↓reduceIte, reduceCtorEq, Int.reduceToNat, Nat.reduceDiv, Nat.reduceMod, Nat.reduceLT, Nat.reduceLeDiff, Nat.reduceAdd, Nat.reduceSub, Nat.reduceMul, Nat.reduceEqDiff, Nat.reduceBEq, Nat.reduceBNe, Nat.reduceGT] <;> first | done | rfl | (and_intros <;> first | rfl | omega | (simp; done))
end Pam

namespace Pam
open Go Go.Proofs
set_option maxRecDepth 100000 in
set_option maxHeartbeats 1000000 in
theorem nh (p1 : Int) (r : (Int × Int × Int)) (hm : lO p1 = some r) : bU Try.prog 120 [.c (.int .i64 p1)] (.t [.c (.int .u8 r.1), .c (.int .u8 r.2.1), .c (.int .i64 r.2.2)]) := by
 refine aN 23 [.tmp 2, .tmp 3, .tmp 4] Try.func120 rfl rfl rfl (by kernel_rfl) (by simp) ?_;refine bu ?_;unfold lO at hm;refine ao [2, 3, 4] ?_;refine ao [] ?_;refine ao [] ?_;refine aq fun k1 hk1 => ?_
 by_cases h1 : p1 < 1
 ·rw [if_pos h1] at hm;have h1b := decide_eq_true h1;refine bo h1b [8, 9, 10, 11, 12] ?_;refine ah rfl rfl ?_;refine ao [0, 5, 6, 13] ?_;refine an ?_;refine ai ?_;refine ab [] ?_;obtain rfl := Option.some.inj hm;exact en
 ·rw [if_neg h1] at hm;have h1b := decide_eq_false h1;refine bo h1b [8, 9, 10, 11, 12] ?_
  by_cases h2 : p1 > 14
  ·rw [if_pos h2] at hm;refine ah rfl (decide_eq_true h2) ?_;refine ao [0, 5, 6, 13] ?_;refine an ?_;refine ai ?_;refine ab [] ?_;obtain rfl := Option.some.inj hm;exact en
  ·rw [if_neg h2] at hm;refine aj rfl (decide_eq_false h2) ?_;refine ar ?_;refine am (hk1 _ _ ?_);refine ao [13] ?_;refine aF (S := Int) (V := Unit) [7, 14, 15] (fun x1 _ => [(7, .c (.int .i64 x1))]) (fun x1 _ => []) (fun x1 => lN p1 x1 = some r) ?_ ?_
   ·skip;refine ao [14] ?_
    by_cases h4 : p1 ≥ 13
    ·rw [if_pos h4] at hm;refine ah rfl (decide_eq_true h4) ?_;refine bm ?_;refine av 1 () hm ?_;exact ls
    ·rw [if_neg h4] at hm;refine aj rfl (decide_eq_false h4) ?_;refine ar ?_;refine av 2 () hm ?_;exact ls
   ·rintro x1 _ hm;replace hm : lN p1 x1 = some r := hm;refine aD ?_;unfold lN at hm;obtain ⟨⟨hg3a, hg3b⟩, hm⟩ := gd hm;refine wW [0, 5, 6, 7, 16, 17, 18, 19, 20, 21, 22] [0, 0, 3, 0, 0, 24, 0, 7, 191, 511] [false, false, false, false, false, false, false, false, false, true] ?_;refine an ?_;refine ab [] ?_;obtain rfl := Option.some.inj hm;exact en
end Pam

namespace Pam
open Go Go.Proofs
set_option maxRecDepth 100000 in
set_option maxHeartbeats 1000000 in
theorem mt (p1 : Int) (r : Bool) (hm : kA p1 = some r) : bU Try.prog 129 [.c (.int .i64 p1)] (.c (.bool r)) := by
 refine aN 19 [.tmp 2] Try.func129 rfl rfl rfl (by kernel_rfl) (by simp) ?_;refine bu ?_;unfold kA at hm;refine ao [2] ?_;refine aJ [0, 6, 7, 8, 9, 10, 11] fun k kp hk hp => ?_;refine go ?_;obtain ⟨y1, hc1, hm⟩ := bd hm;refine RP (fun _ => nh p1 _ hc1) ?_;refine aa ?_;refine go ?_;refine hk _ _ ?_;clear hk hp k kp
 by_cases h2 : y1.2.2 = 2
 ·rw [if_pos h2] at hm;have h2b := beq_iff_eq.2 h2;refine bo h2b [3, 4, 5, 12, 13, 14, 15, 16, 17, 18] ?_;refine an ?_;refine ab [] ?_;obtain rfl := Option.some.inj hm;exact en
 ·rw [if_neg h2] at hm;have h2b := beq_eq_false_iff_ne.2 h2;refine bo h2b [3, 4, 5, 12, 13, 14, 15, 16, 17, 18] ?_;refine an ?_;refine ab [] ?_;obtain rfl := Option.some.inj hm;exact en
end Pam

namespace Pam
open Go Go.Proofs
set_option maxRecDepth 100000 in
set_option maxHeartbeats 1000000 in
theorem uq (p1 : Int) (r : Bool) (hm : mU p1 = some r) : bU Try.prog 151 [.c (.int .i64 p1)] (.c (.bool r)) := by
 refine aN 9 [.tmp 2] Try.func151 rfl rfl rfl (by kernel_rfl) (by simp) ?_;refine bu ?_;unfold mU at hm;refine ao [2] ?_
 by_cases h1 : p1 ≥ (-1000000)
 ·rw [if_pos h1] at hm;have h1b := decide_eq_true h1;refine bo h1b [0, 3, 4, 5, 6, 7, 8] ?_;refine an ?_;refine ab [] ?_;obtain rfl := Option.some.inj hm;exact en
 ·rw [if_neg h1] at hm;have h1b := decide_eq_false h1;refine bo h1b [0, 3, 4, 5, 6, 7, 8] ?_;refine an ?_;refine ab [] ?_;obtain rfl := Option.some.inj hm;exact en
end Pam

namespace Pam
open Go Go.Proofs
set_option maxRecDepth 100000 in
set_option maxHeartbeats 8000000 in
theorem pn (p1 : af) (p2 : List aI) (p3 : Int) (r : Int) (hm : lP p1 p2 p3 = some r) : bU Try.prog 130 [.a [.tree 2 (p1.vars.map ak.enc), .tree 1 (p1.in_.map (eK .i64)), .tree 1 (p1.out_.map (eK .i64)), .tree 6 (p1.rules.map ae.enc)], .c (.tree 4 (p2.map aI.enc)), .c (.int .i64 p3)] (.c (.int .u8 r)) := by
 refine aN 277 [.tmp 6] Try.func130 rfl rfl rfl (by kernel_rfl) (by simp) ?_;refine bu ?_;unfold lP at hm;refine ao [0, 6] ?_;refine ao [] ?_;refine cx (fm 7 1 5 (by decide) rfl (Nat.le_of_ble_eq_true rfl)) ?_;refine nT ?_;refine aF (S := (List Int)) (V := Nat) [1, 2, 3, 6, 7, 8, 9, 10, 11, 12, 13, 14, 15, 16, 17, 18, 19, 20, 21, 22, 23, 24, 25, 26, 27, 28, 29, 30, 31, 32, 33, 34, 35, 36, 37, 38, 39, 40, 41, 42, 43, 44, 45, 46, 47, 48, 49, 50, 51, 52, 53, 54, 55, 56, 57, 58, 59, 60, 61, 62, 63, 64, 65, 66, 67, 68, 69, 70, 71, 72, 73, 74, 75, 76, 77, 78, 79, 80, 81, 82, 83, 84, 85, 86, 87, 88, 89, 90, 91, 92, 93, 94, 95, 96, 97, 98, 99, 100, 101, 102, 103, 104, 105, 106, 107, 108, 109, 110, 111, 112, 113, 114, 115, 116, 117, 118, 119, 120, 121, 122, 123, 124, 125, 126, 127, 128, 129, 130, 131, 132, 133, 134, 135, 136, 137, 138, 139, 140, 141, 142, 143, 144, 145, 146, 147, 148, 149, 150, 151, 152, 153, 154, 155, 156, 157, 158, 159, 160, 161, 162, 163, 164, 165, 166, 167, 168, 169, 170, 171, 172, 173, 174, 175, 176, 177, 178, 179, 180, 181, 182, 183, 184, 185, 186, 187, 188, 189, 190, 191, 192, 193, 194, 195, 196, 197, 198, 199, 200, 201, 202, 203, 204, 205, 206, 207, 208, 209, 210, 211, 212, 213, 214, 215, 216, 217, 218, 219, 220, 221, 222, 223, 224, 225, 226, 227, 228, 229, 230, 231, 232, 233, 234, 235, 236, 237, 238, 239, 240, 241, 242, 243, 244, 245, 246, 247, 248, 249, 250, 251, 252, 253, 254, 255, 256, 257, 258, 259, 260, 261, 262, 263, 264, 265, 266, 267, 268, 269, 270] (fun l3 v4 => [(7, .c (.osl 1 v4 0 l3.length))]) (fun l3 v4 => [.box [.tree 2 (p1.vars.map ak.enc), .tree 1 (p1.in_.map (eK .i64)), .tree 1 (p1.out_.map (eK .i64)), .tree 6 (p1.rules.map ae.enc)], .arr 1 v4 5 (l3.map (eK .u8))]) (fun l3 => gA l3 = some r) ?_ ?_
 ·skip;refine ao [] ?_
  refine aw ?_;obtain ⟨o1, hl1, hm1⟩ := bd hm;refine aQ (S := ((List Int) × Int)) (V := Nat) (O := (List Int) ⊕ Int) [6, 7, 8, 9, 10, 11, 12, 13, 14, 15, 16, 17, 18, 19, 20, 21, 22, 23, 24, 25, 26, 27, 28, 29, 30, 31, 32, 33, 34, 35, 36, 37, 38, 39, 40, 41, 42, 43, 44, 45, 46, 47, 48, 49, 50, 51, 52, 53, 54, 55, 56, 57, 58, 59, 60, 61, 62, 63, 64, 65, 66, 67, 68, 69, 70, 71, 72, 73, 74, 75, 76, 77, 78, 79, 80, 81, 82, 83, 84, 85, 86, 87, 88, 89, 90, 91, 92, 93, 94, 95, 96, 97, 98, 99, 100, 101, 102, 103, 104, 105, 106, 107, 108, 109, 110, 111, 112, 113, 114, 115, 116, 117, 118, 119, 120, 121, 122, 123, 124, 125, 126, 127, 128, 129, 130, 131, 132, 133, 134, 135, 136, 137, 138, 139, 140, 141, 142, 143, 144, 145, 146, 147, 148, 149, 150, 151, 152, 153, 154, 155, 156, 157, 158, 159, 160, 161, 162, 163, 164, 165, 166, 167, 168, 169, 170, 171, 172, 173, 174, 175, 176, 177, 178, 179, 180, 181, 182, 183, 184, 185, 186, 187, 188, 189, 190, 191, 192, 193, 194, 195, 196, 197, 198, 199, 200, 201, 202, 203, 204, 205, 206, 207, 208, 209, 210, 211, 212, 213, 214, 215, 216, 217, 218, 219, 220, 221, 222, 223, 224, 225, 226, 227, 228, 229, 230, 231, 232, 233, 234, 235, 236, 237, 238, 239, 240, 241, 242, 243, 244, 245, 246, 247, 248, 249, 250, 251, 252, 253, 254, 255, 256, 257, 258, 259, 260, 261, 262, 263, 264, 265, 266, 267, 268, 269, 270] (fun (l17, x19) v18 => [(7, .c (.osl 1 v18 0 l17.length)), (8, .c (.int .i64 x19))]) (fun (l17, x19) v18 => [.box [.tree 2 (p1.vars.map ak.enc), .tree 1 (p1.in_.map (eK .i64)), .tree 1 (p1.out_.map (eK .i64)), .tree 6 (p1.rules.map ae.enc)], .arr 1 v18 5 (l17.map (eK .u8))]) _ _ 0 hl1 ?_ ?_
  ·exact ls
  ·rintro ⟨l17, x19⟩ v18 r1 hm hr1;replace hm : fh p1 p2 p3 l17 x19 = some r1 := hm;refine aD ?_;unfold fh at hm;refine aq fun k2 hk2 => ?_;refine ao [19, 20, 21] ?_
   by_cases h3 : x19 < (p2.length : Int)
   ·rw [if_pos h3] at hm;refine ah rfl (decide_eq_true h3) ?_;refine ar ?_;refine am (hk2 _ _ ?_);refine aq fun k3 hk3 => ?_;refine aw ?_;obtain ⟨hg4a, hm⟩ := gd hm;refine bo (em aI.enc p2 x19.toNat) [22, 25, 26, 27, 28] ?_;refine ao [29, 30] ?_;refine ao [31] ?_;refine aw ?_;refine ao [34] ?_
    by_cases h5 : ((p2.getD x19.toNat default).op) = 1
    ·rw [if_pos h5] at hm;refine ah rfl (beq_iff_eq.2 h5) ?_;refine ao [10, 32, 33, 35, 36] ?_
     by_cases h6 : ((p2.getD x19.toNat default).k) = 0
     ·rw [if_pos h6] at hm;refine ah rfl (beq_iff_eq.2 h6) ?_;obtain ⟨⟨hg7ax, hg7ay⟩, hm⟩ := gd hm;refine bm ?_;refine ax ?_;refine ax ?_;refine am (hk3 _ _ ?_);refine bm ?_;refine aB ((l17 ++ (lit ([105] : List Int))), (IntKind.wrap .i64 (x19 + 1))) (v18 + 1) hm ?_;exact ls
     ·rw [if_neg h6] at hm;refine aj rfl (beq_eq_false_iff_ne.2 h6) ?_;refine bx [9, 37, 41, 42, 43, 44, 45, 46, 47, 48, 49, 50, 51, 52] fun k kp hk hp => ?_;refine ap 4 ?_;refine go ?_
      by_cases h8 : ((p2.getD x19.toNat default).k) = 1
      ·rw [if_pos h8] at hm;have h8b := beq_iff_eq.2 h8;refine ap 4 ?_;refine gox h8b ?_
       by_cases h9 : ((p2.getD x19.toNat default).n) = 0
       ·rw [if_pos h9] at hm;have h9b := beq_iff_eq.2 h9;refine aa ?_;refine gox (a2 h8b h9b) ?_;refine hk _ _ ?_;clear hk hp k kp;refine ah rfl rfl ?_;obtain ⟨⟨hg10ax, hg10ay⟩, hm⟩ := gd hm;refine bm ?_;refine ax ?_;refine ax ?_;refine am (hk3 _ _ ?_);refine bm ?_;refine aB ((l17 ++ (lit ([98] : List Int))), (IntKind.wrap .i64 (x19 + 1))) (v18 + 1) hm ?_;exact ls
       ·rw [if_neg h9] at hm;have h9b := beq_eq_false_iff_ne.2 h9;refine aa ?_;refine gox (a2 h8b h9b) ?_;refine hk _ _ ?_;clear hk hp k kp
        by_cases h11 : ((p2.getD x19.toNat default).n) = 1
        ·rw [if_pos h11] at hm;refine ah rfl (beq_iff_eq.2 h11) ?_;obtain ⟨⟨hg12ax, hg12ay⟩, hm⟩ := gd hm;refine bm ?_;refine ax ?_;refine ax ?_;refine am (hk3 _ _ ?_);refine bm ?_;refine aB ((l17 ++ (lit ([98] : List Int))), (IntKind.wrap .i64 (x19 + 1))) (v18 + 1) hm ?_;exact ls
        ·rw [if_neg h11] at hm;refine aj rfl (beq_eq_false_iff_ne.2 h11) ?_;refine ao [1, 2, 3, 7, 8, 53] ?_;have ho13 := az hm hr1;subst ho13;replace hm : some 0 = some r := hm1;refine an ?_;refine ag ?_;refine ag ?_;refine ai ?_;refine aG ?_;refine ag ?_;refine ay ?_;refine ab [] ?_;obtain rfl := Option.some.inj hm;exact en
      ·rw [if_neg h8] at hm;have h8b := beq_eq_false_iff_ne.2 h8;refine aa ?_;refine gox h8b ?_;refine hk _ _ ?_;clear hk hp k kp;refine aj rfl rfl ?_;refine ao [1, 2, 3, 7, 8, 53] ?_;have ho14 := az hm hr1;subst ho14;replace hm : some 0 = some r := hm1;refine an ?_;refine ag ?_;refine ag ?_;refine ai ?_;refine aG ?_;refine ag ?_;refine ay ?_;refine ab [] ?_;obtain rfl := Option.some.inj hm;exact en
    ·rw [if_neg h5] at hm;refine aj rfl (beq_eq_false_iff_ne.2 h5) ?_;refine ao [33, 58] ?_
     by_cases h15 : ((p2.getD x19.toNat default).op) = 2
     ·rw [if_pos h15] at hm;refine ah rfl (beq_iff_eq.2 h15) ?_;refine aq fun k4 hk4 => ?_;obtain ⟨hg16a, hm⟩ := gd hm;refine bo (em ak.enc p1.vars (((p2.getD x19.toNat default).v).toNat)) [10, 32, 57, 59, 60, 61, 62, 63, 64, 65] ?_
      by_cases h17 : ¬ ((p1.vars.getD (((p2.getD x19.toNat default).v).toNat) default).n) = 0
      ·rw [if_pos h17] at hm;refine ah rfl (bne_iff_ne.2 h17) ?_;refine ao [1, 2, 3, 7, 8, 9, 66] ?_;have ho18 := az hm hr1;subst ho18;replace hm : some 0 = some r := hm1;refine an ?_;refine ai ?_;refine ag ?_;refine ag ?_;refine ai ?_;refine aG ?_;refine ag ?_;refine ay ?_;refine ab [] ?_;obtain rfl := Option.some.inj hm;exact en
      ·rw [if_neg h17] at hm;refine aj rfl (bne_eq_false_iff_eq.2 (Decidable.not_not.1 h17)) ?_;refine ar ?_;refine am (hk4 _ _ ?_);obtain ⟨⟨hg19ax, hg19ay⟩, hm⟩ := gd hm;refine mn (em ak.enc p1.vars (((p2.getD x19.toNat default).v).toNat)) ?_;refine ax ?_;refine ax ?_;refine am (hk3 _ _ ?_);refine bm ?_;refine aB ((l17 ++ (lit ([(p1.vars.getD (((p2.getD x19.toNat default).v).toNat) default).elem] : List Int))), (IntKind.wrap .i64 (x19 + 1))) (v18 + 1) hm ?_;exact ls
     ·rw [if_neg h15] at hm;refine aj rfl (beq_eq_false_iff_ne.2 h15) ?_;refine ao [57, 78] ?_
      by_cases h20 : ((p2.getD x19.toNat default).op) = 3
      ·rw [if_pos h20] at hm;refine ah rfl (beq_iff_eq.2 h20) ?_;obtain ⟨hg21a, hm⟩ := gd hm;refine bo (em ak.enc p1.vars (((p2.getD x19.toNat default).v).toNat)) [10, 32, 77, 79, 80, 81, 82, 83, 84, 85] ?_;refine aq fun k5 hk5 => ?_
       by_cases h22 : ((p1.vars.getD (((p2.getD x19.toNat default).v).toNat) default).n) = 0
       ·rw [if_pos h22] at hm;have h22b := beq_iff_eq.2 h22;refine bo h22b [11, 86, 87, 88, 89, 90, 91, 92, 93, 94, 95, 96, 97, 98, 99, 100, 101, 102, 103, 104] ?_;refine ah rfl rfl ?_;refine ao [1, 2, 3, 7, 8, 9, 105] ?_;have ho23 := az hm hr1;subst ho23;replace hm : some 0 = some r := hm1;refine an ?_;refine ai ?_;refine ag ?_;refine ag ?_;refine ai ?_;refine aG ?_;refine ag ?_;refine ay ?_;refine ab [] ?_;obtain rfl := Option.some.inj hm;exact en
       ·rw [if_neg h22] at hm;have h22b := beq_eq_false_iff_ne.2 h22;refine bx [11, 86, 87, 88, 89, 90, 91, 92, 93, 94, 95, 96, 97, 98, 99, 100, 101, 102, 103, 104] fun k kp hk hp => ?_;refine ap 8 ?_;refine gox h22b ?_
        by_cases h24 : ((p2.getD x19.toNat default).n) < 0
        ·rw [if_pos h24] at hm;have h24b := decide_eq_true h24;refine aa ?_;refine gox (a2 h22b h24b) ?_;refine hk _ _ ?_;clear hk hp k kp;refine ah rfl rfl ?_;refine ao [1, 2, 3, 7, 8, 9, 105] ?_;have ho25 := az hm hr1;subst ho25;replace hm : some 0 = some r := hm1;refine an ?_;refine ai ?_;refine ag ?_;refine ag ?_;refine ai ?_;refine aG ?_;refine ag ?_;refine ay ?_;refine ab [] ?_;obtain rfl := Option.some.inj hm;exact en
        ·rw [if_neg h24] at hm;have h24b := decide_eq_false h24;refine ap 5 ?_;refine gox (a2 h22b h24b) ?_
         by_cases h26 : ((p1.vars.getD (((p2.getD x19.toNat default).v).toNat) default).n) < p3
         ·rw [if_pos h26] at hm;have h26b := decide_eq_true h26;refine aa ?_;refine gox (a2 h22b (a2 h24b h26b)) ?_;refine hk _ _ ?_;clear hk hp k kp;refine ah rfl rfl ?_;refine ao [1, 2, 3, 7, 8, 9, 105] ?_;have ho27 := az hm hr1;subst ho27;replace hm : some 0 = some r := hm1;refine an ?_;refine ai ?_;refine ag ?_;refine ag ?_;refine ai ?_;refine aG ?_;refine ag ?_;refine ay ?_;refine ab [] ?_;obtain rfl := Option.some.inj hm;exact en
         ·rw [if_neg h26] at hm;have h26b := decide_eq_false h26;refine aa ?_;refine gox (a2 h22b (a2 h24b h26b)) ?_;refine hk _ _ ?_;clear hk hp k kp
          by_cases h28 : ((p2.getD x19.toNat default).n) > (IntKind.wrap .i64 (((p1.vars.getD (((p2.getD x19.toNat default).v).toNat) default).n) - p3))
          ·rw [if_pos h28] at hm;refine ah rfl (decide_eq_true h28) ?_;refine ao [1, 2, 3, 7, 8, 9, 105] ?_;have ho29 := az hm hr1;subst ho29;replace hm : some 0 = some r := hm1;refine an ?_;refine ai ?_;refine ag ?_;refine ag ?_;refine ai ?_;refine aG ?_;refine ag ?_;refine ay ?_;refine ab [] ?_;obtain rfl := Option.some.inj hm;exact en
          ·rw [if_neg h28] at hm;refine aj rfl (decide_eq_false h28) ?_;refine ar ?_;refine am (hk5 _ _ ?_);obtain ⟨⟨hg30ax, hg30ay⟩, hm⟩ := gd hm;refine mn (em ak.enc p1.vars (((p2.getD x19.toNat default).v).toNat)) ?_;refine ax ?_;refine ax ?_;refine am (hk3 _ _ ?_);refine bm ?_;refine aB ((l17 ++ (lit ([(p1.vars.getD (((p2.getD x19.toNat default).v).toNat) default).elem] : List Int))), (IntKind.wrap .i64 (x19 + 1))) (v18 + 1) hm ?_;exact ls
      ·rw [if_neg h20] at hm;refine aj rfl (beq_eq_false_iff_ne.2 h20) ?_;refine ao [77, 117] ?_
       by_cases h31 : ((p2.getD x19.toNat default).op) = 4
       ·rw [if_pos h31] at hm;refine ah rfl (beq_iff_eq.2 h31) ?_;refine aq fun k6 hk6 => ?_;refine aJ [9, 10, 32, 116, 118, 119, 120] fun k kp hk hp => ?_;refine go ?_;obtain ⟨y20, hc32, hm⟩ := bd hm;refine RP (fun _ => uq ((p2.getD x19.toNat default).n) _ hc32) ?_;refine aa ?_;refine go ?_;refine hk _ _ ?_;clear hk hp k kp
        by_cases h33 : y20 = true
        ·rw [if_pos h33] at hm;refine aj rfl (by rw [show y20 = true from (h33)]; rfl) ?_;refine ar ?_;refine am (hk6 _ _ ?_);obtain ⟨⟨hg34ax, hg34ay⟩, hm⟩ := gd hm;refine bm ?_;refine ax ?_;refine ax ?_;refine am (hk3 _ _ ?_);refine bm ?_;refine aB ((l17 ++ (lit ([105] : List Int))), (IntKind.wrap .i64 (x19 + 1))) (v18 + 1) hm ?_;exact ls
        ·rw [if_neg h33] at hm;refine ah rfl (by rw [show y20 = false from (Bool.eq_false_iff.2 h33)]; rfl) ?_;refine ao [1, 2, 3, 7, 8, 121] ?_;have ho35 := az hm hr1;subst ho35;replace hm : some 0 = some r := hm1;refine an ?_;refine ai ?_;refine ag ?_;refine ag ?_;refine ai ?_;refine aG ?_;refine ag ?_;refine ay ?_;refine ab [] ?_;obtain rfl := Option.some.inj hm;exact en
       ·rw [if_neg h31] at hm;refine aj rfl (beq_eq_false_iff_ne.2 h31) ?_;refine ao [116, 126] ?_
        by_cases h36 : ((p2.getD x19.toNat default).op) = 5
        ·rw [if_pos h36] at hm;refine ah rfl (beq_iff_eq.2 h36) ?_;refine aJ [9, 32, 125, 127, 128, 129, 130, 131, 132, 133] fun k kp hk hp => ?_;refine go ?_;obtain ⟨y21, hc37, hm⟩ := bd hm;refine RP (fun _ => nh ((p2.getD x19.toNat default).k) _ hc37) ?_;refine aa ?_;refine go ?_;refine hk _ _ ?_;clear hk hp k kp;refine aq fun k7 hk7 => ?_
         by_cases h38 : ¬ y21.2.2 = 1
         ·rw [if_pos h38] at hm;have h38b := bne_iff_ne.2 h38;refine bo h38b [12, 14, 134, 135, 136, 137, 138, 139, 140, 141, 142, 143, 144, 145, 146, 147] ?_;refine ah rfl rfl ?_;refine ao [1, 2, 3, 7, 8, 10, 13, 148] ?_;have ho39 := az hm hr1;subst ho39;replace hm : some 0 = some r := hm1;refine an ?_;refine ai ?_;refine ag ?_;refine ag ?_;refine ai ?_;refine aG ?_;refine ag ?_;refine ay ?_;refine ab [] ?_;obtain rfl := Option.some.inj hm;exact en
         ·rw [if_neg h38] at hm;have h38b : (y21.2.2 != 1) = false := bne_eq_false_iff_eq.2 (Decidable.not_not.1 h38);refine bx [12, 14, 134, 135, 136, 137, 138, 139, 140, 141, 142, 143, 144, 145, 146, 147] fun k kp hk hp => ?_;refine ap 7 ?_;refine gox h38b ?_
          by_cases h40 : (l17.length : Int) < 1
          ·rw [if_pos h40] at hm;have h40b := decide_eq_true h40;refine aa ?_;refine gox (a2 h38b h40b) ?_;refine hk _ _ ?_;clear hk hp k kp;refine ah rfl rfl ?_;refine ao [1, 2, 3, 7, 8, 10, 13, 148] ?_;have ho41 := az hm hr1;subst ho41;replace hm : some 0 = some r := hm1;refine an ?_;refine ai ?_;refine ag ?_;refine ag ?_;refine ai ?_;refine aG ?_;refine ag ?_;refine ay ?_;refine ab [] ?_;obtain rfl := Option.some.inj hm;exact en
          ·rw [if_neg h40] at hm;have h40b := decide_eq_false h40;obtain ⟨hg42a, hm⟩ := gd hm;refine aa ?_;refine gox (a2 (em (eK .u8) l17 ((IntKind.wrap .i64 ((l17.length : Int) - 1)).toNat)) (a2 h38b h40b)) ?_;refine hk _ _ ?_;clear hk hp k kp
           by_cases h43 : ¬ (l17.getD ((IntKind.wrap .i64 ((l17.length : Int) - 1)).toNat) default) = y21.1
           ·rw [if_pos h43] at hm;refine ah rfl (bne_iff_ne.2 h43) ?_;refine ao [1, 2, 3, 7, 8, 10, 13, 148] ?_;have ho44 := az hm hr1;subst ho44;replace hm : some 0 = some r := hm1;refine an ?_;refine ai ?_;refine ag ?_;refine ag ?_;refine ai ?_;refine aG ?_;refine ag ?_;refine ay ?_;refine ab [] ?_;obtain rfl := Option.some.inj hm;exact en
           ·rw [if_neg h43] at hm;refine aj rfl (bne_eq_false_iff_eq.2 (Decidable.not_not.1 h43)) ?_;refine ar ?_;refine am (hk7 _ _ ?_);refine mn (em (eK .u8) l17 ((IntKind.wrap .i64 ((l17.length : Int) - 1)).toNat)) ?_;refine ax ?_;refine ax ?_;refine am (hk3 _ _ ?_);refine bm ?_;refine aB ((l17.set ((IntKind.wrap .i64 ((l17.length : Int) - 1)).toNat) y21.2.1), (IntKind.wrap .i64 (x19 + 1))) v18 hm ?_;exact ls
        ·rw [if_neg h36] at hm;refine aj rfl (beq_eq_false_iff_ne.2 h36) ?_;refine ao [125, 155] ?_
         by_cases h45 : ((p2.getD x19.toNat default).op) = 6
         ·rw [if_pos h45] at hm;refine ah rfl (beq_iff_eq.2 h45) ?_;refine aJ [9, 32, 154, 156, 157, 158, 159, 160, 161, 162] fun k kp hk hp => ?_;refine go ?_;obtain ⟨y22, hc46, hm⟩ := bd hm;refine RP (fun _ => nh ((p2.getD x19.toNat default).k) _ hc46) ?_;refine aa ?_;refine go ?_;refine hk _ _ ?_;clear hk hp k kp;refine aq fun k8 hk8 => ?_
          by_cases h47 : ¬ y22.2.2 = 2
          ·rw [if_pos h47] at hm;have h47b := bne_iff_ne.2 h47;refine bo h47b [15, 17, 163, 164, 165, 166, 167, 168, 169, 170, 171, 172, 173, 174, 175, 176, 177, 178, 179, 180, 181, 182, 183, 184, 185] ?_;refine ah rfl rfl ?_;refine ao [1, 2, 3, 7, 8, 10, 16, 186] ?_;have ho48 := az hm hr1;subst ho48;replace hm : some 0 = some r := hm1;refine an ?_;refine ai ?_;refine ag ?_;refine ag ?_;refine ai ?_;refine aG ?_;refine ag ?_;refine ay ?_;refine ab [] ?_;obtain rfl := Option.some.inj hm;exact en
          ·rw [if_neg h47] at hm;have h47b : (y22.2.2 != 2) = false := bne_eq_false_iff_eq.2 (Decidable.not_not.1 h47);refine bx [15, 17, 163, 164, 165, 166, 167, 168, 169, 170, 171, 172, 173, 174, 175, 176, 177, 178, 179, 180, 181, 182, 183, 184, 185] fun k kp hk hp => ?_;refine ap 7 ?_;refine gox h47b ?_
           by_cases h49 : (l17.length : Int) < 2
           ·rw [if_pos h49] at hm;have h49b := decide_eq_true h49;refine aa ?_;refine gox (a2 h47b h49b) ?_;refine hk _ _ ?_;clear hk hp k kp;refine ah rfl rfl ?_;refine ao [1, 2, 3, 7, 8, 10, 16, 186] ?_;have ho50 := az hm hr1;subst ho50;replace hm : some 0 = some r := hm1;refine an ?_;refine ai ?_;refine ag ?_;refine ag ?_;refine ai ?_;refine aG ?_;refine ag ?_;refine ay ?_;refine ab [] ?_;obtain rfl := Option.some.inj hm;exact en
           ·rw [if_neg h49] at hm;have h49b := decide_eq_false h49;obtain ⟨hg51a, hm⟩ := gd hm;refine ap 9 ?_;refine gox (a2 (em (eK .u8) l17 ((IntKind.wrap .i64 ((l17.length : Int) - 1)).toNat)) (a2 h47b h49b)) ?_
            by_cases h52 : ¬ (l17.getD ((IntKind.wrap .i64 ((l17.length : Int) - 1)).toNat) default) = y22.1
            ·rw [if_pos h52] at hm;have h52b := bne_iff_ne.2 h52;refine aa ?_;refine gox (a2 h47b (a2 h49b h52b)) ?_;refine hk _ _ ?_;clear hk hp k kp;refine ah rfl rfl ?_;refine ao [1, 2, 3, 7, 8, 10, 16, 186] ?_;have ho53 := az hm hr1;subst ho53;replace hm : some 0 = some r := hm1;refine an ?_;refine ai ?_;refine ag ?_;refine ag ?_;refine ai ?_;refine aG ?_;refine ag ?_;refine ay ?_;refine ab [] ?_;obtain rfl := Option.some.inj hm;exact en
            ·rw [if_neg h52] at hm;have h52b : ((l17.getD ((IntKind.wrap .i64 ((l17.length : Int) - 1)).toNat) default) != y22.1) = false := bne_eq_false_iff_eq.2 (Decidable.not_not.1 h52);obtain ⟨hg54a, hm⟩ := gd hm;refine aa ?_;refine gox (a2 (em (eK .u8) l17 ((IntKind.wrap .i64 ((l17.length : Int) - 2)).toNat)) (a2 h47b (a2 h49b h52b))) ?_;refine hk _ _ ?_;clear hk hp k kp
             by_cases h55 : ¬ (l17.getD ((IntKind.wrap .i64 ((l17.length : Int) - 2)).toNat) default) = y22.1
             ·rw [if_pos h55] at hm;refine ah rfl (bne_iff_ne.2 h55) ?_;refine ao [1, 2, 3, 7, 8, 10, 16, 186] ?_;have ho56 := az hm hr1;subst ho56;replace hm : some 0 = some r := hm1;refine an ?_;refine ai ?_;refine ag ?_;refine ag ?_;refine ai ?_;refine aG ?_;refine ag ?_;refine ay ?_;refine ab [] ?_;obtain rfl := Option.some.inj hm;exact en
             ·rw [if_neg h55] at hm;refine aj rfl (bne_eq_false_iff_eq.2 (Decidable.not_not.1 h55)) ?_;refine ar ?_;refine am (hk8 _ _ ?_);obtain ⟨⟨hg57a, ⟨hg57bx, hg57by⟩⟩, hm⟩ := gd hm;refine bm ?_;refine ax ?_;refine ax ?_;refine am (hk3 _ _ ?_);refine bm ?_;refine aB (((l17.take ((IntKind.wrap .i64 ((l17.length : Int) - 2)).toNat)) ++ (lit ([y22.2.1] : List Int))), (IntKind.wrap .i64 (x19 + 1))) (v18 + 1) hm ?_;exact ls
         ·rw [if_neg h45] at hm;refine aj rfl (beq_eq_false_iff_ne.2 h45) ?_;refine ao [154, 195] ?_
          by_cases h58 : ((p2.getD x19.toNat default).op) = 7
          ·rw [if_pos h58] at hm;refine ah rfl (beq_iff_eq.2 h58) ?_;refine aq fun k9 hk9 => ?_
           by_cases h59 : (l17.length : Int) < 3
           ·rw [if_pos h59] at hm;have h59b := decide_eq_true h59;refine dl [9, 32, 194, 196, 197, 198, 199, 200, 201, 202, 203, 204, 205, 206, 207, 208, 209, 210, 211, 212, 213, 214, 215, 216, 217] (by kernel_rfl) [0, 1, 3, 7, 7, 23, 63, 127, 255, 511, 1023, 2047, 2047, 6143, 16383, 32767, 2047, 2047, 133119, 460799, 985087, 2097151, 4194303] [true, true, true, false, false, false, true, true, true, true, true, false, false, false, false, false, false, false, false, false, false, true, true] (by kernel_rfl) fun k hk => ?_;refine aS ?_;refine gax h59b ?_;refine hk _ _ ?_;clear hk k;refine ah rfl rfl ?_;refine ao [1, 2, 3, 7, 8, 10, 218] ?_;have ho60 := az hm hr1;subst ho60;replace hm : some 0 = some r := hm1;refine an ?_;refine ai ?_;refine ag ?_;refine ag ?_;refine ai ?_;refine aG ?_;refine ag ?_;refine ay ?_;refine ab [] ?_;obtain rfl := Option.some.inj hm;exact en
           ·rw [if_neg h59] at hm;have h59b := decide_eq_false h59;obtain ⟨hg61a, hm⟩ := gd hm;refine dl [9, 32, 194, 196, 197, 198, 199, 200, 201, 202, 203, 204, 205, 206, 207, 208, 209, 210, 211, 212, 213, 214, 215, 216, 217] (by kernel_rfl) [0, 1, 3, 7, 7, 23, 63, 127, 255, 511, 1023, 2047, 2047, 6143, 16383, 32767, 2047, 2047, 133119, 460799, 985087, 2097151, 4194303] [true, true, true, false, false, false, true, true, true, true, true, false, false, false, false, false, false, false, false, false, false, true, true] (by kernel_rfl) fun k hk => ?_;refine dS 11 rfl ?_;refine gax (a2 (em (eK .u8) l17 ((IntKind.wrap .i64 ((l17.length : Int) - 3)).toNat)) h59b) ?_
            by_cases h62 : ¬ (l17.getD ((IntKind.wrap .i64 ((l17.length : Int) - 3)).toNat) default) = 98
            ·rw [if_pos h62] at hm;have h62b := bne_iff_ne.2 h62;refine aS ?_;refine gax (a2 h59b h62b) ?_;refine hk _ _ ?_;clear hk k;refine ah rfl rfl ?_;refine ao [1, 2, 3, 7, 8, 10, 218] ?_;have ho63 := az hm hr1;subst ho63;replace hm : some 0 = some r := hm1;refine an ?_;refine ai ?_;refine ag ?_;refine ag ?_;refine ai ?_;refine aG ?_;refine ag ?_;refine ay ?_;refine ab [] ?_;obtain rfl := Option.some.inj hm;exact en
            ·rw [if_neg h62] at hm;have h62b : ((l17.getD ((IntKind.wrap .i64 ((l17.length : Int) - 3)).toNat) default) != 98) = false := bne_eq_false_iff_eq.2 (Decidable.not_not.1 h62);obtain ⟨⟨hg64a, hg64b⟩, hm⟩ := gd hm;refine aS ?_;refine gax (a2 (em (eK .u8) l17 ((IntKind.wrap .i64 ((l17.length : Int) - 2)).toNat)) (a2 (em (eK .u8) l17 ((IntKind.wrap .i64 ((l17.length : Int) - 1)).toNat)) (a2 h59b h62b))) ?_;refine hk _ _ ?_;clear hk k
             by_cases h65 : ¬ (l17.getD ((IntKind.wrap .i64 ((l17.length : Int) - 2)).toNat) default) = (l17.getD ((IntKind.wrap .i64 ((l17.length : Int) - 1)).toNat) default)
             ·rw [if_pos h65] at hm;refine ah rfl (bne_iff_ne.2 h65) ?_;refine ao [1, 2, 3, 7, 8, 10, 218] ?_;have ho66 := az hm hr1;subst ho66;replace hm : some 0 = some r := hm1;refine an ?_;refine ai ?_;refine ag ?_;refine ag ?_;refine ai ?_;refine aG ?_;refine ag ?_;refine ay ?_;refine ab [] ?_;obtain rfl := Option.some.inj hm;exact en
             ·rw [if_neg h65] at hm;refine aj rfl (bne_eq_false_iff_eq.2 (Decidable.not_not.1 h65)) ?_;refine ar ?_;refine am (hk9 _ _ ?_);obtain ⟨⟨hg67a, ⟨hg67bx, hg67by⟩⟩, hm⟩ := gd hm;refine wa (em (eK .u8) l17 ((IntKind.wrap .i64 ((l17.length : Int) - 1)).toNat)) [0, 0, 2, 7, 0, 0, 32, 112, 240, 496, 1023, 2047] [false, false, false, false, false, false, false, false, false, false, true, true] ?_;refine ax ?_;refine ax ?_;refine am (hk3 _ _ ?_);refine bm ?_;refine aB (((l17.take ((IntKind.wrap .i64 ((l17.length : Int) - 3)).toNat)) ++ (lit ([(l17.getD ((IntKind.wrap .i64 ((l17.length : Int) - 1)).toNat) default)] : List Int))), (IntKind.wrap .i64 (x19 + 1))) (v18 + 1) hm ?_;exact ls
          ·rw [if_neg h58] at hm;refine aj rfl (beq_eq_false_iff_ne.2 h58) ?_;refine ao [32, 194, 231] ?_
           by_cases h68 : ((p2.getD x19.toNat default).op) = 8
           ·rw [if_pos h68] at hm;refine ah rfl (beq_iff_eq.2 h68) ?_;obtain ⟨hg69a, hm⟩ := gd hm;refine bo (em ak.enc p1.vars (((p2.getD x19.toNat default).v).toNat)) [9, 230, 232, 233, 234, 235, 236, 237] ?_;refine aq fun k10 hk10 => ?_;refine dl [238, 239, 240, 241, 242, 243, 244, 245, 246, 247, 248, 249, 250, 251, 252, 253, 254, 255, 256, 257, 258, 259, 260, 261] (by kernel_rfl) [0, 1, 3, 7, 15, 31, 63, 127, 255, 255, 767, 2047, 4095, 8191, 16383, 32767, 65535, 65535, 196607, 524287, 1048575, 65535, 2162687, 8388607, 16777215] [true, true, true, true, true, true, true, true, false, false, false, true, true, true, true, true, false, false, false, false, false, false, false, true, true] (by kernel_rfl) fun k hk => ?_;refine dS 4 rfl ?_;refine ga ?_
            by_cases h70 : ((p1.vars.getD (((p2.getD x19.toNat default).v).toNat) default).n) = 0
            ·rw [if_pos h70] at hm;have h70b := beq_iff_eq.2 h70;refine aS ?_;refine gax h70b ?_;refine hk _ _ ?_;clear hk k;refine ah rfl rfl ?_;refine ao [1, 2, 3, 7, 8, 10, 18, 262] ?_;have ho71 := az hm hr1;subst ho71;replace hm : some 0 = some r := hm1;refine an ?_;refine ai ?_;refine ag ?_;refine ag ?_;refine ai ?_;refine aG ?_;refine ag ?_;refine ay ?_;refine ab [] ?_;obtain rfl := Option.some.inj hm;exact en
            ·rw [if_neg h70] at hm;have h70b := beq_eq_false_iff_ne.2 h70;refine dS 4 rfl ?_;refine gax h70b ?_
             by_cases h72 : (l17.length : Int) < 2
             ·rw [if_pos h72] at hm;have h72b := decide_eq_true h72;refine aS ?_;refine gax (a2 h70b h72b) ?_;refine hk _ _ ?_;clear hk k;refine ah rfl rfl ?_;refine ao [1, 2, 3, 7, 8, 10, 18, 262] ?_;have ho73 := az hm hr1;subst ho73;replace hm : some 0 = some r := hm1;refine an ?_;refine ai ?_;refine ag ?_;refine ag ?_;refine ai ?_;refine aG ?_;refine ag ?_;refine ay ?_;refine ab [] ?_;obtain rfl := Option.some.inj hm;exact en
             ·rw [if_neg h72] at hm;have h72b := decide_eq_false h72;obtain ⟨hg74a, hm⟩ := gd hm;refine dS 8 rfl ?_;refine gax (a2 (em (eK .u8) l17 ((IntKind.wrap .i64 ((l17.length : Int) - 2)).toNat)) (a2 h70b h72b)) ?_
              by_cases h75 : ¬ (l17.getD ((IntKind.wrap .i64 ((l17.length : Int) - 2)).toNat) default) = 105
              ·rw [if_pos h75] at hm;have h75b := bne_iff_ne.2 h75;refine aS ?_;refine gax (a2 h70b (a2 h72b h75b)) ?_;refine hk _ _ ?_;clear hk k;refine ah rfl rfl ?_;refine ao [1, 2, 3, 7, 8, 10, 18, 262] ?_;have ho76 := az hm hr1;subst ho76;replace hm : some 0 = some r := hm1;refine an ?_;refine ai ?_;refine ag ?_;refine ag ?_;refine ai ?_;refine aG ?_;refine ag ?_;refine ay ?_;refine ab [] ?_;obtain rfl := Option.some.inj hm;exact en
              ·rw [if_neg h75] at hm;have h75b : ((l17.getD ((IntKind.wrap .i64 ((l17.length : Int) - 2)).toNat) default) != 105) = false := bne_eq_false_iff_eq.2 (Decidable.not_not.1 h75);obtain ⟨hg77a, hm⟩ := gd hm;refine aS ?_;refine gax (a2 (em (eK .u8) l17 ((IntKind.wrap .i64 ((l17.length : Int) - 1)).toNat)) (a2 h70b (a2 h72b h75b))) ?_;refine hk _ _ ?_;clear hk k
               by_cases h78 : ¬ (l17.getD ((IntKind.wrap .i64 ((l17.length : Int) - 1)).toNat) default) = ((p1.vars.getD (((p2.getD x19.toNat default).v).toNat) default).elem)
               ·rw [if_pos h78] at hm;refine ah rfl (bne_iff_ne.2 h78) ?_;refine ao [1, 2, 3, 7, 8, 10, 18, 262] ?_;have ho79 := az hm hr1;subst ho79;replace hm : some 0 = some r := hm1;refine an ?_;refine ai ?_;refine ag ?_;refine ag ?_;refine ai ?_;refine aG ?_;refine ag ?_;refine ay ?_;refine ab [] ?_;obtain rfl := Option.some.inj hm;exact en
               ·rw [if_neg h78] at hm;refine aj rfl (bne_eq_false_iff_eq.2 (Decidable.not_not.1 h78)) ?_;refine ar ?_;refine am (hk10 _ _ ?_);obtain ⟨⟨hg80a, ⟨hg80bx, hg80by⟩⟩, hm⟩ := gd hm;refine CX [0, 0, 2, 7, 0, 16, 48, 127, 255] [false, false, false, false, false, false, false, true, true] ?_;refine ax ?_;refine ax ?_;refine am (hk3 _ _ ?_);refine bm ?_;refine aB (((l17.take ((IntKind.wrap .i64 ((l17.length : Int) - 2)).toNat)) ++ (lit ([(p1.vars.getD (((p2.getD x19.toNat default).v).toNat) default).elem] : List Int))), (IntKind.wrap .i64 (x19 + 1))) (v18 + 1) hm ?_;exact ls
           ·rw [if_neg h68] at hm;refine aj rfl (beq_eq_false_iff_ne.2 h68) ?_;refine ao [1, 2, 3, 7, 8, 9, 10, 230] ?_;have ho81 := az hm hr1;subst ho81;replace hm : some 0 = some r := hm1;refine an ?_;refine ag ?_;refine ag ?_;refine ai ?_;refine aG ?_;refine ag ?_;refine ay ?_;refine ab [] ?_;obtain rfl := Option.some.inj hm;exact en
   ·rw [if_neg h3] at hm;refine aj rfl (decide_eq_false h3) ?_;refine aY ?_;have ho82 := az hm hr1;subst ho82;replace hm : gA l17 = some r := hm1;refine aP ?_;refine aL ?_;refine aA ?_;refine av l17 v18 hm ?_;exact ls
 ·rintro l3 v4 hm;replace hm : gA l3 = some r := hm;refine aD ?_;unfold gA at hm;refine aq fun k1 hk1 => ?_;refine ao [271, 272] ?_
  by_cases h1 : ¬ (l3.length : Int) = 1
  ·rw [if_pos h1] at hm;refine ah rfl (bne_iff_ne.2 h1) ?_;refine ao [7, 273] ?_;refine an ?_;refine ai ?_;refine ab [] ?_;obtain rfl := Option.some.inj hm;exact en
  ·rw [if_neg h1] at hm;refine aj rfl (bne_eq_false_iff_eq.2 (Decidable.not_not.1 h1)) ?_;refine ar ?_;refine am (hk1 _ _ ?_);obtain ⟨hg2a, hm⟩ := gd hm;refine bo (em (eK .u8) l3 0) [7, 273, 274, 275, 276] ?_;refine an ?_;refine ab [] ?_;obtain rfl := Option.some.inj hm;exact en
end Pam

namespace Pam
open Go Go.Proofs
set_option maxRecDepth 100000 in
set_option maxHeartbeats 8000000 in
theorem sE (p1 : af) (p2 : ae) (r : Bool) (hm : aE p1 p2 = some r) : bU Try.prog 88 [.a [.tree 2 (p1.vars.map ak.enc), .tree 1 (p1.in_.map (eK .i64)), .tree 1 (p1.out_.map (eK .i64)), .tree 6 (p1.rules.map ae.enc)], .a [.int .i64 p2.op, .int .i64 p2.k, .int .i64 p2.out_, .int .i64 p2.n, .tree 1 (p2.a.map (eK .i64)), .tree 4 (p2.e.map aI.enc)]] (.c (.bool r)) := by
 refine aN 443 [.tmp 4] Try.func88 rfl rfl rfl (by kernel_rfl) (by simp) ?_;refine bu ?_;unfold aE at hm;refine ao [0, 1, 4] ?_;obtain ⟨hg1a, hm⟩ := gd hm;refine bo (em ak.enc p1.vars p2.out_.toNat) [12, 13, 14, 15, 16, 17] ?_;refine bx [] fun k kp hk hp => ?_;refine ap 0 ?_;refine go ?_
 refine RS (wZ 2 ((List.replicate 3 (ak.mk 0 0)).map ak.enc) rfl (by first | kernel_rfl | rfl) (by decide) (by intro e he; simp only [List.mem_map] at he; obtain ⟨x, _, rfl⟩ := he; rfl) (by simp) (by simp)) ?_
 simp only [bR, bT, tab, bX, reduceIte, ↓reduceIte, reduceCtorEq, Int.reduceToNat, Nat.reduceDiv, Nat.reduceMod, Nat.reduceLT, Nat.reduceLeDiff, Nat.reduceAdd, Nat.reduceSub, Nat.reduceMul, Nat.reduceEqDiff, Nat.reduceBEq, Nat.reduceBNe, Nat.reduceGT];refine aa ?_;refine go ?_;refine hk _ _ ?_;clear hk hp k kp;refine ff [.box [.tree 2 (p1.vars.map ak.enc), .tree 1 (p1.in_.map (eK .i64)), .tree 1 (p1.out_.map (eK .i64)), .tree 6 (p1.rules.map ae.enc)], .box [.int .i64 p2.op, .int .i64 p2.k, .int .i64 p2.out_, .int .i64 p2.n, .tree 1 (p2.a.map (eK .i64)), .tree 4 (p2.e.map aI.enc)], .box [.int .u8 ((p1.vars.getD p2.out_.toNat default).elem), .int .i64 ((p1.vars.getD p2.out_.toNat default).n)], .arr 2 0 171 ((List.replicate 3 (ak.mk 0 0)).map ak.enc)] ?_;refine aF (S := (List ak)) (V := Unit) [7, 18, 19, 20, 21, 22, 23, 24, 25, 26, 27, 28, 29, 30, 31, 32, 33, 34, 35] (fun l2 _ => []) (fun l2 _ => [.box [.tree 2 (p1.vars.map ak.enc), .tree 1 (p1.in_.map (eK .i64)), .tree 1 (p1.out_.map (eK .i64)), .tree 6 (p1.rules.map ae.enc)], .box [.int .i64 p2.op, .int .i64 p2.k, .int .i64 p2.out_, .int .i64 p2.n, .tree 1 (p2.a.map (eK .i64)), .tree 4 (p2.e.map aI.enc)], .box [.int .u8 ((p1.vars.getD p2.out_.toNat default).elem), .int .i64 ((p1.vars.getD p2.out_.toNat default).n)], .arr 2 0 171 (l2.map ak.enc)]) (fun l2 => aV p1 p2 l2 = some r) ?_ ?_
 ·skip;refine ao [] ?_
  refine aw ?_;obtain ⟨o1, hl1, hm1⟩ := bd hm;refine aQ (S := ((List ak) × Int)) (V := Unit) (O := (List ak)) [7, 18, 19, 20, 21, 22, 23, 24, 25, 26, 27, 28, 29, 30, 31, 32, 33, 34, 35] (fun (l19, x20) _ => [(7, .c (.int .i64 x20))]) (fun (l19, x20) _ => [.box [.tree 2 (p1.vars.map ak.enc), .tree 1 (p1.in_.map (eK .i64)), .tree 1 (p1.out_.map (eK .i64)), .tree 6 (p1.rules.map ae.enc)], .box [.int .i64 p2.op, .int .i64 p2.k, .int .i64 p2.out_, .int .i64 p2.n, .tree 1 (p2.a.map (eK .i64)), .tree 4 (p2.e.map aI.enc)], .box [.int .u8 ((p1.vars.getD p2.out_.toNat default).elem), .int .i64 ((p1.vars.getD p2.out_.toNat default).n)], .arr 2 0 171 (l19.map ak.enc)]) _ _ () hl1 ?_ ?_
  ·exact ls
  ·rintro ⟨l19, x20⟩ _ r1 hm hr1;replace hm : ci p1 p2 l19 x20 = some r1 := hm;refine aD ?_;unfold ci at hm;refine aq fun k2 hk2 => ?_;refine ao [18, 19, 20, 21] ?_
   by_cases h95 : x20 < (p2.a.length : Int)
   ·rw [if_pos h95] at hm;refine ah rfl (decide_eq_true h95) ?_;refine ar ?_;refine am (hk2 _ _ ?_);refine aq fun k3 hk3 => ?_;refine aw ?_;obtain ⟨⟨hg96a, hg96b, hg96c, hg96d⟩, hm⟩ := gd hm;refine wa (a2 (em (eK .i64) p2.a x20.toNat) (a2 (em ak.enc p1.vars ((p2.a.getD x20.toNat default).toNat)) (em ak.enc l19 x20.toNat))) [0, 0, 2, 0, 8, 0, 56, 120, 254, 510, 1023, 2047] [false, false, false, false, false, false, false, false, false, false, true, true] ?_;refine ax ?_;refine am (hk3 _ _ ?_);refine bm ?_;refine aB ((l19.set x20.toNat (p1.vars.getD ((p2.a.getD x20.toNat default).toNat) default)), (IntKind.wrap .i64 (x20 + 1))) () hm ?_;exact ls
   ·rw [if_neg h95] at hm;refine aj rfl (decide_eq_false h95) ?_;refine aY ?_;have ho97 := az hm hr1;subst ho97;replace hm : aV p1 p2 l19 = some r := hm1;refine aP ?_;refine aL ?_;refine aA ?_;refine av l19 () hm ?_;exact ls
 ·rintro l2 _ hm;replace hm : aV p1 p2 l2 = some r := hm;refine aD ?_;unfold aV at hm;refine aJ [36, 37, 38, 39, 40, 41, 42] fun k kp hk hp => ?_;refine go ?_;obtain ⟨y3, hc2, hm⟩ := bd hm;refine RP (fun _ => nh p2.k _ hc2) ?_;refine aa ?_;refine go ?_;refine hk _ _ ?_;clear hk hp k kp;refine ao [43] ?_;refine aq fun k1 hk1 => ?_;refine ao [44] ?_;refine aw ?_;refine ao [47] ?_
  by_cases h3 : p2.op = 1
  ·rw [if_pos h3] at hm;refine ah rfl (beq_iff_eq.2 h3) ?_;refine bx [2, 3, 5, 6, 8, 9, 10, 11, 45, 46, 48, 49, 50, 51, 52, 53, 54, 55, 56, 57, 58, 59, 60, 61, 62, 63, 64, 65] fun k kp hk hp => ?_;refine ap 4 ?_;refine go ?_
   by_cases h4 : ((p1.vars.getD p2.out_.toNat default).elem) = 105 ∧ ((p1.vars.getD p2.out_.toNat default).n) = 0
   ·rw [if_pos h4] at hm
    have h4b : ((((p1.vars.getD p2.out_.toNat default).elem) == 105) && (((p1.vars.getD p2.out_.toNat default).n) == 0)) = true := by simpa [Bool.and_eq_true] using h4
    refine aa ?_;refine gox h4b ?_;refine hk _ _ ?_;clear hk hp k kp;refine an ?_;refine ag ?_;refine ai ?_;refine ab [] ?_;obtain rfl := Option.some.inj hm;exact en
   ·rw [if_neg h4] at hm;have h4b : ((((p1.vars.getD p2.out_.toNat default).elem) == 105) && (((p1.vars.getD p2.out_.toNat default).n) == 0)) = false := Bool.eq_false_iff.2 (fun hh => h4 (by simpa [Bool.and_eq_true] using hh));refine ap 4 ?_;refine gox h4b ?_
    by_cases h5 : ((p1.vars.getD p2.out_.toNat default).elem) = 98 ∧ ((p1.vars.getD p2.out_.toNat default).n) = 0
    ·rw [if_pos h5] at hm
     have h5b : ((((p1.vars.getD p2.out_.toNat default).elem) == 98) && (((p1.vars.getD p2.out_.toNat default).n) == 0)) = true := by simpa [Bool.and_eq_true] using h5
     refine ap 4 ?_;refine gox (a2 h4b h5b) ?_
     by_cases h6 : p2.n = 0
     ·rw [if_pos h6] at hm;have h6b := beq_iff_eq.2 h6;refine aa ?_;refine gox (a2 h4b (a2 h5b h6b)) ?_;refine hk _ _ ?_;clear hk hp k kp;refine an ?_;refine ag ?_;refine ai ?_;refine ab [] ?_;obtain rfl := Option.some.inj hm;exact en
     ·rw [if_neg h6] at hm;have h6b := beq_eq_false_iff_ne.2 h6;refine aa ?_;refine gox (a2 h4b (a2 h5b h6b)) ?_;refine hk _ _ ?_;clear hk hp k kp;refine an ?_;refine ag ?_;refine ai ?_;refine ab [] ?_;obtain rfl := Option.some.inj hm;exact en
    ·rw [if_neg h5] at hm;have h5b : ((((p1.vars.getD p2.out_.toNat default).elem) == 98) && (((p1.vars.getD p2.out_.toNat default).n) == 0)) = false := Bool.eq_false_iff.2 (fun hh => h5 (by simpa [Bool.and_eq_true] using hh));refine aa ?_;refine gox (a2 h4b h5b) ?_;refine hk _ _ ?_;clear hk hp k kp;refine an ?_;refine ag ?_;refine ai ?_;refine ab [] ?_;obtain rfl := Option.some.inj hm;exact en
  ·rw [if_neg h3] at hm;refine aj rfl (beq_eq_false_iff_ne.2 h3) ?_;refine ao [46, 67] ?_
   by_cases h7 : p2.op = 2
   ·rw [if_pos h7] at hm;refine ah rfl (beq_iff_eq.2 h7) ?_;obtain ⟨⟨hg8a, hg8b⟩, hm⟩ := gd hm;refine bo (em ak.enc l2 0) [2, 3, 5, 6, 8, 9, 10, 11, 45, 66, 68, 69, 70, 71] ?_;refine an ?_;refine ag ?_;refine ai ?_;refine ab [] ?_;obtain rfl := Option.some.inj hm;exact en
   ·rw [if_neg h7] at hm;refine aj rfl (beq_eq_false_iff_ne.2 h7) ?_;refine ao [66, 73] ?_
    by_cases h9 : p2.op = 3
    ·rw [if_pos h9] at hm;refine ah rfl (beq_iff_eq.2 h9) ?_
     by_cases h10 : y3.2.2 = 1
     ·rw [if_pos h10] at hm;have h10b := beq_iff_eq.2 h10;obtain ⟨⟨hg11a, hg11b⟩, hm⟩ := gd hm;refine bx [2, 3, 5, 6, 8, 9, 10, 11, 45, 72, 74, 75, 76, 77, 78, 79, 80, 81, 82, 83, 84, 85, 86, 87, 88, 89, 90, 91] fun k kp hk hp => ?_;refine ap 10 ?_;refine gox (a2 (em ak.enc l2 0) h10b) ?_
      by_cases h12 : ((l2.getD 0 default).elem) = y3.1
      ·rw [if_pos h12] at hm;have h12b := beq_iff_eq.2 h12;refine aa ?_;refine gox (a2 (em ak.enc l2 0) (a2 h10b h12b)) ?_;refine hk _ _ ?_;clear hk hp k kp;refine an ?_;refine ag ?_;refine ai ?_;refine ab [] ?_;obtain rfl := Option.some.inj hm;exact en
      ·rw [if_neg h12] at hm;have h12b := beq_eq_false_iff_ne.2 h12;refine aa ?_;refine gox (a2 h10b h12b) ?_;refine hk _ _ ?_;clear hk hp k kp;refine an ?_;refine ag ?_;refine ai ?_;refine ab [] ?_;obtain rfl := Option.some.inj hm;exact en
     ·rw [if_neg h10] at hm;have h10b := beq_eq_false_iff_ne.2 h10;refine bo h10b [2, 3, 5, 6, 8, 9, 10, 11, 45, 72, 74, 75, 76, 77, 78, 79, 80, 81, 82, 83, 84, 85, 86, 87, 88, 89, 90, 91] ?_;refine an ?_;refine ag ?_;refine ai ?_;refine ab [] ?_;obtain rfl := Option.some.inj hm;exact en
    ·rw [if_neg h9] at hm;refine aj rfl (beq_eq_false_iff_ne.2 h9) ?_;refine ao [72, 93] ?_
     by_cases h13 : p2.op = 4
     ·rw [if_pos h13] at hm;refine ah rfl (beq_iff_eq.2 h13) ?_
      by_cases h14 : y3.2.2 = 2
      ·rw [if_pos h14] at hm;have h14b := beq_iff_eq.2 h14;obtain ⟨⟨hg15a, hg15b⟩, hm⟩ := gd hm;refine bx [2, 3, 5, 6, 8, 9, 10, 11, 45, 92, 94, 95, 96, 97, 98, 99, 100, 101, 102, 103, 104, 105, 106, 107, 108, 109, 110, 111, 112, 113, 114, 115, 116, 117, 118] fun k kp hk hp => ?_;refine ap 10 ?_;refine gox (a2 (em ak.enc l2 0) h14b) ?_
       by_cases h16 : ((l2.getD 0 default).elem) = y3.1
       ·rw [if_pos h16] at hm;have h16b := beq_iff_eq.2 h16;obtain ⟨⟨hg17a, hg17b⟩, hm⟩ := gd hm;refine ap 7 ?_;refine gox (a2 (em ak.enc l2 1) (a2 (em ak.enc l2 0) (a2 h14b h16b))) ?_
        by_cases h18 : ((l2.getD 1 default).elem) = ((l2.getD 0 default).elem) ∧ ((l2.getD 1 default).n) = ((l2.getD 0 default).n)
        ·rw [if_pos h18] at hm
         have h18b : ((((l2.getD 1 default).elem) == ((l2.getD 0 default).elem)) && (((l2.getD 1 default).n) == ((l2.getD 0 default).n))) = true := by simpa [Bool.and_eq_true] using h18
         refine aa ?_;refine gox (a2 (em ak.enc l2 0) (a2 h14b (a2 h16b h18b))) ?_;refine hk _ _ ?_;clear hk hp k kp;refine an ?_;refine ag ?_;refine ai ?_;refine ab [] ?_;obtain rfl := Option.some.inj hm;exact en
        ·rw [if_neg h18] at hm;have h18b : ((((l2.getD 1 default).elem) == ((l2.getD 0 default).elem)) && (((l2.getD 1 default).n) == ((l2.getD 0 default).n))) = false := Bool.eq_false_iff.2 (fun hh => h18 (by simpa [Bool.and_eq_true] using hh));refine aa ?_;refine gox (a2 h14b (a2 h16b h18b)) ?_;refine hk _ _ ?_;clear hk hp k kp;refine an ?_;refine ag ?_;refine ai ?_;refine ab [] ?_;obtain rfl := Option.some.inj hm;exact en
       ·rw [if_neg h16] at hm;have h16b := beq_eq_false_iff_ne.2 h16;refine aa ?_;refine gox (a2 h14b h16b) ?_;refine hk _ _ ?_;clear hk hp k kp;refine an ?_;refine ag ?_;refine ai ?_;refine ab [] ?_;obtain rfl := Option.some.inj hm;exact en
      ·rw [if_neg h14] at hm;have h14b := beq_eq_false_iff_ne.2 h14;refine bo h14b [2, 3, 5, 6, 8, 9, 10, 11, 45, 92, 94, 95, 96, 97, 98, 99, 100, 101, 102, 103, 104, 105, 106, 107, 108, 109, 110, 111, 112, 113, 114, 115, 116, 117, 118] ?_;refine an ?_;refine ag ?_;refine ai ?_;refine ab [] ?_;obtain rfl := Option.some.inj hm;exact en
     ·rw [if_neg h13] at hm;refine aj rfl (beq_eq_false_iff_ne.2 h13) ?_;refine ao [9, 10, 92, 120] ?_
      by_cases h19 : p2.op = 5
      ·rw [if_pos h19] at hm;refine ah rfl (beq_iff_eq.2 h19) ?_;obtain ⟨⟨hg20a, hg20b⟩, hm⟩ := gd hm;refine bx [2, 3, 5, 6, 8, 11, 45, 119, 121, 122, 123, 124, 125, 126, 127, 128, 129, 130, 131, 132, 133, 134, 135, 136] fun k kp hk hp => ?_;refine ap 5 ?_;refine gox (em ak.enc l2 0) ?_
       by_cases h21 : ((l2.getD 0 default).elem) = 98 ∧ ((l2.getD 0 default).n) = 0
       ·rw [if_pos h21] at hm
        have h21b : ((((l2.getD 0 default).elem) == 98) && (((l2.getD 0 default).n) == 0)) = true := by simpa [Bool.and_eq_true] using h21
        obtain ⟨⟨hg22a, hg22b⟩, hm⟩ := gd hm;refine ap 6 ?_;refine gox (a2 (em ak.enc l2 1) h21b) ?_
        by_cases h23 : ((l2.getD 1 default).elem) = ((p1.vars.getD p2.out_.toNat default).elem) ∧ ((l2.getD 1 default).n) = ((p1.vars.getD p2.out_.toNat default).n)
        ·rw [if_pos h23] at hm
         have h23b : ((((l2.getD 1 default).elem) == ((p1.vars.getD p2.out_.toNat default).elem)) && (((l2.getD 1 default).n) == ((p1.vars.getD p2.out_.toNat default).n))) = true := by simpa [Bool.and_eq_true] using h23
         obtain ⟨⟨hg24a, hg24b⟩, hm⟩ := gd hm;refine aa ?_;refine gox (a2 (em ak.enc l2 2) (a2 h21b h23b)) ?_;refine hk _ _ ?_;clear hk hp k kp;refine an ?_;refine ag ?_;refine ai ?_;refine ab [] ?_;obtain rfl := Option.some.inj hm;exact en
        ·rw [if_neg h23] at hm;have h23b : ((((l2.getD 1 default).elem) == ((p1.vars.getD p2.out_.toNat default).elem)) && (((l2.getD 1 default).n) == ((p1.vars.getD p2.out_.toNat default).n))) = false := Bool.eq_false_iff.2 (fun hh => h23 (by simpa [Bool.and_eq_true] using hh));refine aa ?_;refine gox (a2 h21b h23b) ?_;refine hk _ _ ?_;clear hk hp k kp;refine an ?_;refine ag ?_;refine ai ?_;refine ab [] ?_;obtain rfl := Option.some.inj hm;exact en
       ·rw [if_neg h21] at hm;have h21b : ((((l2.getD 0 default).elem) == 98) && (((l2.getD 0 default).n) == 0)) = false := Bool.eq_false_iff.2 (fun hh => h21 (by simpa [Bool.and_eq_true] using hh));refine aa ?_;refine gox h21b ?_;refine hk _ _ ?_;clear hk hp k kp;refine an ?_;refine ag ?_;refine ai ?_;refine ab [] ?_;obtain rfl := Option.some.inj hm;exact en
      ·rw [if_neg h19] at hm;refine aj rfl (beq_eq_false_iff_ne.2 h19) ?_;refine ao [119, 138] ?_
       by_cases h25 : p2.op = 6
       ·rw [if_pos h25] at hm;refine ah rfl (beq_iff_eq.2 h25) ?_;refine aJ [2, 3, 5, 6, 8, 11, 45, 137, 139, 140, 141, 142, 143, 144, 145, 146, 147, 148, 149, 150, 151, 152, 153, 154, 155, 156, 157, 158, 159, 160, 161, 162, 163, 164, 165, 166, 167] fun k kp hk hp => ?_;refine go ?_;obtain ⟨y4, hc26, hm⟩ := bd hm;refine RP (fun _ => mt p2.k _ hc26) ?_
        by_cases h27 : y4 = true
        ·rw [if_pos h27] at hm;have h27b := h27;obtain ⟨⟨hg28a, hg28b⟩, hm⟩ := gd hm;refine ap 8 ?_;refine gox (a2 (em ak.enc l2 0) h27b) ?_
         by_cases h29 : ((l2.getD 0 default).elem) = y3.1 ∧ ((l2.getD 0 default).n) = 0
         ·rw [if_pos h29] at hm
          have h29b : ((((l2.getD 0 default).elem) == y3.1) && (((l2.getD 0 default).n) == 0)) = true := by simpa [Bool.and_eq_true] using h29
          obtain ⟨⟨hg30a, hg30b⟩, hm⟩ := gd hm;refine ap 6 ?_;refine gox (a2 (em ak.enc l2 1) (a2 h27b h29b)) ?_
          by_cases h31 : ((l2.getD 1 default).n) > 0
          ·rw [if_pos h31] at hm;have h31b := decide_eq_true h31;refine ap 7 ?_;refine gox (a2 (em ak.enc l2 1) (a2 h27b (a2 h29b h31b))) ?_
           by_cases h32 : ((l2.getD 1 default).elem) = y3.1
           ·rw [if_pos h32] at hm;have h32b := beq_iff_eq.2 h32;refine aa ?_;refine gox (a2 (em ak.enc l2 0) (a2 h27b (a2 h29b (a2 h31b h32b)))) ?_;refine hk _ _ ?_;clear hk hp k kp;refine an ?_;refine ag ?_;refine ai ?_;refine ab [] ?_;obtain rfl := Option.some.inj hm;exact en
           ·rw [if_neg h32] at hm;have h32b := beq_eq_false_iff_ne.2 h32;refine aa ?_;refine gox (a2 h27b (a2 h29b (a2 h31b h32b))) ?_;refine hk _ _ ?_;clear hk hp k kp;refine an ?_;refine ag ?_;refine ai ?_;refine ab [] ?_;obtain rfl := Option.some.inj hm;exact en
          ·rw [if_neg h31] at hm;have h31b := decide_eq_false h31;refine aa ?_;refine gox (a2 h27b (a2 h29b h31b)) ?_;refine hk _ _ ?_;clear hk hp k kp;refine an ?_;refine ag ?_;refine ai ?_;refine ab [] ?_;obtain rfl := Option.some.inj hm;exact en
         ·rw [if_neg h29] at hm;have h29b : ((((l2.getD 0 default).elem) == y3.1) && (((l2.getD 0 default).n) == 0)) = false := Bool.eq_false_iff.2 (fun hh => h29 (by simpa [Bool.and_eq_true] using hh));refine aa ?_;refine gox (a2 h27b h29b) ?_;refine hk _ _ ?_;clear hk hp k kp;refine an ?_;refine ag ?_;refine ai ?_;refine ab [] ?_;obtain rfl := Option.some.inj hm;exact en
        ·rw [if_neg h27] at hm;have h27b := Bool.eq_false_iff.2 h27;refine aa ?_;refine gox h27b ?_;refine hk _ _ ?_;clear hk hp k kp;refine an ?_;refine ag ?_;refine ai ?_;refine ab [] ?_;obtain rfl := Option.some.inj hm;exact en
       ·rw [if_neg h25] at hm;refine aj rfl (beq_eq_false_iff_ne.2 h25) ?_;refine ao [137, 169] ?_
        by_cases h33 : p2.op = 7
        ·rw [if_pos h33] at hm;refine ah rfl (beq_iff_eq.2 h33) ?_;refine aJ [2, 3, 5, 6, 8, 11, 45, 168, 170, 171, 172, 173, 174, 175, 176, 177, 178, 179, 180, 181, 182, 183, 184, 185, 186, 187, 188, 189, 190, 191, 192, 193, 194, 195, 196, 197, 198] fun k kp hk hp => ?_;refine go ?_;obtain ⟨y5, hc34, hm⟩ := bd hm;refine RP (fun _ => mt p2.k _ hc34) ?_
         by_cases h35 : y5 = true
         ·rw [if_pos h35] at hm;have h35b := h35;obtain ⟨⟨hg36a, hg36b⟩, hm⟩ := gd hm;refine ap 8 ?_;refine gox (a2 (em ak.enc l2 0) h35b) ?_
          by_cases h37 : ((l2.getD 0 default).elem) = y3.1 ∧ ((l2.getD 0 default).n) = 0
          ·rw [if_pos h37] at hm
           have h37b : ((((l2.getD 0 default).elem) == y3.1) && (((l2.getD 0 default).n) == 0)) = true := by simpa [Bool.and_eq_true] using h37
           obtain ⟨⟨hg38a, hg38b⟩, hm⟩ := gd hm;refine ap 6 ?_;refine gox (a2 (em ak.enc l2 1) (a2 h35b h37b)) ?_
           by_cases h39 : ((l2.getD 1 default).n) > 0
           ·rw [if_pos h39] at hm;have h39b := decide_eq_true h39;refine ap 7 ?_;refine gox (a2 (em ak.enc l2 1) (a2 h35b (a2 h37b h39b))) ?_
            by_cases h40 : ((l2.getD 1 default).elem) = y3.1
            ·rw [if_pos h40] at hm;have h40b := beq_iff_eq.2 h40;refine aa ?_;refine gox (a2 (em ak.enc l2 1) (a2 h35b (a2 h37b (a2 h39b h40b)))) ?_;refine hk _ _ ?_;clear hk hp k kp;refine an ?_;refine ag ?_;refine ai ?_;refine ab [] ?_;obtain rfl := Option.some.inj hm;exact en
            ·rw [if_neg h40] at hm;have h40b := beq_eq_false_iff_ne.2 h40;refine aa ?_;refine gox (a2 h35b (a2 h37b (a2 h39b h40b))) ?_;refine hk _ _ ?_;clear hk hp k kp;refine an ?_;refine ag ?_;refine ai ?_;refine ab [] ?_;obtain rfl := Option.some.inj hm;exact en
           ·rw [if_neg h39] at hm;have h39b := decide_eq_false h39;refine aa ?_;refine gox (a2 h35b (a2 h37b h39b)) ?_;refine hk _ _ ?_;clear hk hp k kp;refine an ?_;refine ag ?_;refine ai ?_;refine ab [] ?_;obtain rfl := Option.some.inj hm;exact en
          ·rw [if_neg h37] at hm;have h37b : ((((l2.getD 0 default).elem) == y3.1) && (((l2.getD 0 default).n) == 0)) = false := Bool.eq_false_iff.2 (fun hh => h37 (by simpa [Bool.and_eq_true] using hh));refine aa ?_;refine gox (a2 h35b h37b) ?_;refine hk _ _ ?_;clear hk hp k kp;refine an ?_;refine ag ?_;refine ai ?_;refine ab [] ?_;obtain rfl := Option.some.inj hm;exact en
         ·rw [if_neg h35] at hm;have h35b := Bool.eq_false_iff.2 h35;refine aa ?_;refine gox h35b ?_;refine hk _ _ ?_;clear hk hp k kp;refine an ?_;refine ag ?_;refine ai ?_;refine ab [] ?_;obtain rfl := Option.some.inj hm;exact en
        ·rw [if_neg h33] at hm;refine aj rfl (beq_eq_false_iff_ne.2 h33) ?_;refine ao [168, 200] ?_
         by_cases h41 : p2.op = 8
         ·rw [if_pos h41] at hm;refine ah rfl (beq_iff_eq.2 h41) ?_;obtain ⟨⟨hg42a, hg42b⟩, hm⟩ := gd hm;refine bx [2, 3, 5, 6, 8, 11, 45, 199, 201, 202, 203, 204, 205, 206, 207, 208, 209, 210, 211, 212, 213, 214, 215, 216, 217] fun k kp hk hp => ?_;refine ap 5 ?_;refine gox (em ak.enc l2 0) ?_
          by_cases h43 : ((l2.getD 0 default).n) = 0
          ·rw [if_pos h43] at hm;have h43b := beq_iff_eq.2 h43;refine ap 5 ?_;refine gox h43b ?_
           by_cases h44 : ((p1.vars.getD p2.out_.toNat default).n) > 0
           ·rw [if_pos h44] at hm;have h44b := decide_eq_true h44;refine aa ?_;refine gox (a2 (em ak.enc l2 0) (a2 h43b h44b)) ?_;refine hk _ _ ?_;clear hk hp k kp;refine an ?_;refine ag ?_;refine ai ?_;refine ab [] ?_;obtain rfl := Option.some.inj hm;exact en
           ·rw [if_neg h44] at hm;have h44b := decide_eq_false h44;refine aa ?_;refine gox (a2 h43b h44b) ?_;refine hk _ _ ?_;clear hk hp k kp;refine an ?_;refine ag ?_;refine ai ?_;refine ab [] ?_;obtain rfl := Option.some.inj hm;exact en
          ·rw [if_neg h43] at hm;have h43b := beq_eq_false_iff_ne.2 h43;refine aa ?_;refine gox h43b ?_;refine hk _ _ ?_;clear hk hp k kp;refine an ?_;refine ag ?_;refine ai ?_;refine ab [] ?_;obtain rfl := Option.some.inj hm;exact en
         ·rw [if_neg h41] at hm;refine aj rfl (beq_eq_false_iff_ne.2 h41) ?_;refine ao [199, 219] ?_
          by_cases h45 : p2.op = 9
          ·rw [if_pos h45] at hm;refine ah rfl (beq_iff_eq.2 h45) ?_;obtain ⟨⟨hg46a, hg46b⟩, hm⟩ := gd hm;refine bx [2, 3, 5, 6, 8, 11, 45, 218, 220, 221, 222, 223, 224, 225, 226, 227, 228, 229, 230, 231, 232, 233, 234, 235, 236, 237, 238, 239, 240, 241, 242, 243, 244] fun k kp hk hp => ?_;refine ap 5 ?_;refine gox (em ak.enc l2 0) ?_
           by_cases h47 : ((l2.getD 0 default).n) > 0
           ·rw [if_pos h47] at hm;have h47b := decide_eq_true h47;obtain ⟨⟨hg48a, hg48b⟩, hm⟩ := gd hm;refine ap 6 ?_;refine gox (a2 (em ak.enc l2 1) h47b) ?_
            by_cases h49 : ((l2.getD 1 default).elem) = 105 ∧ ((l2.getD 1 default).n) = 0
            ·rw [if_pos h49] at hm
             have h49b : ((((l2.getD 1 default).elem) == 105) && (((l2.getD 1 default).n) == 0)) = true := by simpa [Bool.and_eq_true] using h49
             obtain ⟨⟨hg50a, hg50b⟩, hm⟩ := gd hm;refine ap 9 ?_;refine gox (a2 (em ak.enc l2 2) (a2 (em ak.enc l2 0) (a2 h47b h49b))) ?_
             by_cases h51 : ((l2.getD 2 default).elem) = ((l2.getD 0 default).elem) ∧ ((l2.getD 2 default).n) = 0
             ·rw [if_pos h51] at hm
              have h51b : ((((l2.getD 2 default).elem) == ((l2.getD 0 default).elem)) && (((l2.getD 2 default).n) == 0)) = true := by simpa [Bool.and_eq_true] using h51
              refine aa ?_;refine gox (a2 (em ak.enc l2 2) (a2 h47b (a2 h49b h51b))) ?_;refine hk _ _ ?_;clear hk hp k kp;refine an ?_;refine ag ?_;refine ai ?_;refine ab [] ?_;obtain rfl := Option.some.inj hm;exact en
             ·rw [if_neg h51] at hm;have h51b : ((((l2.getD 2 default).elem) == ((l2.getD 0 default).elem)) && (((l2.getD 2 default).n) == 0)) = false := Bool.eq_false_iff.2 (fun hh => h51 (by simpa [Bool.and_eq_true] using hh));refine aa ?_;refine gox (a2 h47b (a2 h49b h51b)) ?_;refine hk _ _ ?_;clear hk hp k kp;refine an ?_;refine ag ?_;refine ai ?_;refine ab [] ?_;obtain rfl := Option.some.inj hm;exact en
            ·rw [if_neg h49] at hm;have h49b : ((((l2.getD 1 default).elem) == 105) && (((l2.getD 1 default).n) == 0)) = false := Bool.eq_false_iff.2 (fun hh => h49 (by simpa [Bool.and_eq_true] using hh));refine aa ?_;refine gox (a2 h47b h49b) ?_;refine hk _ _ ?_;clear hk hp k kp;refine an ?_;refine ag ?_;refine ai ?_;refine ab [] ?_;obtain rfl := Option.some.inj hm;exact en
           ·rw [if_neg h47] at hm;have h47b := decide_eq_false h47;refine aa ?_;refine gox h47b ?_;refine hk _ _ ?_;clear hk hp k kp;refine an ?_;refine ag ?_;refine ai ?_;refine ab [] ?_;obtain rfl := Option.some.inj hm;exact en
          ·rw [if_neg h45] at hm;refine aj rfl (beq_eq_false_iff_ne.2 h45) ?_;refine ao [218, 246] ?_
           by_cases h52 : p2.op = 10
           ·rw [if_pos h52] at hm;refine ah rfl (beq_iff_eq.2 h52) ?_;obtain ⟨⟨hg53a, hg53b⟩, hm⟩ := gd hm;refine bx [2, 3, 5, 6, 8, 11, 45, 245, 247, 248, 249, 250, 251, 252, 253, 254, 255, 256, 257, 258, 259, 260, 261, 262, 263, 264, 265, 266, 267, 268, 269, 270, 271] fun k kp hk hp => ?_;refine ap 5 ?_;refine gox (em ak.enc l2 0) ?_
            by_cases h54 : ((l2.getD 0 default).n) > 0
            ·rw [if_pos h54] at hm;have h54b := decide_eq_true h54;obtain ⟨⟨hg55a, hg55b⟩, hm⟩ := gd hm;refine ap 6 ?_;refine gox (a2 (em ak.enc l2 1) h54b) ?_
             by_cases h56 : ((l2.getD 1 default).elem) = 105 ∧ ((l2.getD 1 default).n) = 0
             ·rw [if_pos h56] at hm
              have h56b : ((((l2.getD 1 default).elem) == 105) && (((l2.getD 1 default).n) == 0)) = true := by simpa [Bool.and_eq_true] using h56
              obtain ⟨⟨hg57a, hg57b⟩, hm⟩ := gd hm;refine ap 9 ?_;refine gox (a2 (em ak.enc l2 2) (a2 (em ak.enc l2 0) (a2 h54b h56b))) ?_
              by_cases h58 : ((l2.getD 2 default).elem) = ((l2.getD 0 default).elem) ∧ ((l2.getD 2 default).n) = 0
              ·rw [if_pos h58] at hm
               have h58b : ((((l2.getD 2 default).elem) == ((l2.getD 0 default).elem)) && (((l2.getD 2 default).n) == 0)) = true := by simpa [Bool.and_eq_true] using h58
               refine aa ?_;refine gox (a2 (em ak.enc l2 0) (a2 h54b (a2 h56b h58b))) ?_;refine hk _ _ ?_;clear hk hp k kp;refine an ?_;refine ag ?_;refine ai ?_;refine ab [] ?_;obtain rfl := Option.some.inj hm;exact en
              ·rw [if_neg h58] at hm;have h58b : ((((l2.getD 2 default).elem) == ((l2.getD 0 default).elem)) && (((l2.getD 2 default).n) == 0)) = false := Bool.eq_false_iff.2 (fun hh => h58 (by simpa [Bool.and_eq_true] using hh));refine aa ?_;refine gox (a2 h54b (a2 h56b h58b)) ?_;refine hk _ _ ?_;clear hk hp k kp;refine an ?_;refine ag ?_;refine ai ?_;refine ab [] ?_;obtain rfl := Option.some.inj hm;exact en
             ·rw [if_neg h56] at hm;have h56b : ((((l2.getD 1 default).elem) == 105) && (((l2.getD 1 default).n) == 0)) = false := Bool.eq_false_iff.2 (fun hh => h56 (by simpa [Bool.and_eq_true] using hh));refine aa ?_;refine gox (a2 h54b h56b) ?_;refine hk _ _ ?_;clear hk hp k kp;refine an ?_;refine ag ?_;refine ai ?_;refine ab [] ?_;obtain rfl := Option.some.inj hm;exact en
            ·rw [if_neg h54] at hm;have h54b := decide_eq_false h54;refine aa ?_;refine gox h54b ?_;refine hk _ _ ?_;clear hk hp k kp;refine an ?_;refine ag ?_;refine ai ?_;refine ab [] ?_;obtain rfl := Option.some.inj hm;exact en
           ·rw [if_neg h52] at hm;refine aj rfl (beq_eq_false_iff_ne.2 h52) ?_;refine ao [11, 245, 273] ?_
            by_cases h59 : p2.op = 11
            ·rw [if_pos h59] at hm;refine ah rfl (beq_iff_eq.2 h59) ?_;refine bx [2, 3, 5, 6, 8, 45, 272, 274, 275, 276, 277, 278, 279, 280, 281, 282, 283, 284, 285, 286, 287, 288, 289, 290, 291, 292, 293, 294, 295, 296, 297, 298, 299, 300, 301, 302, 303, 304, 305, 306, 307, 308, 309, 310, 311, 312, 313, 314] fun k kp hk hp => ?_;refine ap 4 ?_;refine go ?_
             by_cases h60 : ((p1.vars.getD p2.out_.toNat default).n) > 0
             ·rw [if_pos h60] at hm;have h60b := decide_eq_true h60;obtain ⟨⟨hg61a, hg61b⟩, hm⟩ := gd hm;refine ap 6 ?_;refine gox (a2 (em ak.enc l2 0) h60b) ?_
              by_cases h62 : ((l2.getD 0 default).n) > 0
              ·rw [if_pos h62] at hm;have h62b := decide_eq_true h62;refine ap 8 ?_;refine gox (a2 (em ak.enc l2 0) (a2 h60b h62b)) ?_
               by_cases h63 : ((p1.vars.getD p2.out_.toNat default).elem) = ((l2.getD 0 default).elem)
               ·rw [if_pos h63] at hm;have h63b := beq_iff_eq.2 h63;refine ap 5 ?_;refine gox (a2 h60b (a2 h62b h63b)) ?_
                by_cases h64 : p2.n ≥ 0
                ·rw [if_pos h64] at hm;have h64b := decide_eq_true h64;refine ap 8 ?_;refine gox (a2 (em ak.enc l2 0) (a2 h60b (a2 h62b (a2 h63b h64b)))) ?_
                 by_cases h65 : ((p1.vars.getD p2.out_.toNat default).n) ≤ ((l2.getD 0 default).n)
                 ·rw [if_pos h65] at hm;have h65b := decide_eq_true h65;refine aa ?_;refine gox (a2 (em ak.enc l2 0) (a2 h60b (a2 h62b (a2 h63b (a2 h64b h65b))))) ?_;refine hk _ _ ?_;clear hk hp k kp;refine an ?_;refine ag ?_;refine ai ?_;refine ab [] ?_;obtain rfl := Option.some.inj hm;exact en
                 ·rw [if_neg h65] at hm;have h65b := decide_eq_false h65;refine aa ?_;refine gox (a2 h60b (a2 h62b (a2 h63b (a2 h64b h65b)))) ?_;refine hk _ _ ?_;clear hk hp k kp;refine an ?_;refine ag ?_;refine ai ?_;refine ab [] ?_;obtain rfl := Option.some.inj hm;exact en
                ·rw [if_neg h64] at hm;have h64b := decide_eq_false h64;refine aa ?_;refine gox (a2 h60b (a2 h62b (a2 h63b h64b))) ?_;refine hk _ _ ?_;clear hk hp k kp;refine an ?_;refine ag ?_;refine ai ?_;refine ab [] ?_;obtain rfl := Option.some.inj hm;exact en
               ·rw [if_neg h63] at hm;have h63b := beq_eq_false_iff_ne.2 h63;refine aa ?_;refine gox (a2 h60b (a2 h62b h63b)) ?_;refine hk _ _ ?_;clear hk hp k kp;refine an ?_;refine ag ?_;refine ai ?_;refine ab [] ?_;obtain rfl := Option.some.inj hm;exact en
              ·rw [if_neg h62] at hm;have h62b := decide_eq_false h62;refine aa ?_;refine gox (a2 h60b h62b) ?_;refine hk _ _ ?_;clear hk hp k kp;refine an ?_;refine ag ?_;refine ai ?_;refine ab [] ?_;obtain rfl := Option.some.inj hm;exact en
             ·rw [if_neg h60] at hm;have h60b := decide_eq_false h60;refine aa ?_;refine gox h60b ?_;refine hk _ _ ?_;clear hk hp k kp;refine an ?_;refine ag ?_;refine ai ?_;refine ab [] ?_;obtain rfl := Option.some.inj hm;exact en
            ·rw [if_neg h59] at hm;refine aj rfl (beq_eq_false_iff_ne.2 h59) ?_;refine ao [272, 316] ?_
             by_cases h66 : p2.op = 12
             ·rw [if_pos h66] at hm;refine ah rfl (beq_iff_eq.2 h66) ?_;obtain ⟨⟨hg67a, hg67b⟩, hm⟩ := gd hm;refine bx [2, 3, 5, 6, 8, 45, 315, 317, 318, 319, 320, 321, 322, 323, 324, 325, 326, 327, 328, 329, 330, 331, 332, 333, 334, 335, 336, 337, 338, 339, 340, 341, 342, 343, 344, 345, 346, 347, 348, 349, 350] fun k kp hk hp => ?_;refine ap 5 ?_;refine gox (em ak.enc l2 0) ?_
              by_cases h68 : ((l2.getD 0 default).n) > 0
              ·rw [if_pos h68] at hm;have h68b := decide_eq_true h68;obtain ⟨⟨hg69a, hg69b⟩, hm⟩ := gd hm;refine ap 6 ?_;refine gox (a2 (em ak.enc l2 1) h68b) ?_
               by_cases h70 : ((l2.getD 1 default).n) > 0
               ·rw [if_pos h70] at hm;have h70b := decide_eq_true h70;refine ap 9 ?_;refine gox (a2 (em ak.enc l2 0) (a2 (em ak.enc l2 1) (a2 h68b h70b))) ?_
                by_cases h71 : ((l2.getD 0 default).elem) = ((l2.getD 1 default).elem)
                ·rw [if_pos h71] at hm;have h71b := beq_iff_eq.2 h71;refine aa ?_;refine gox (a2 (em ak.enc l2 0) (a2 (em ak.enc l2 1) (a2 h68b (a2 h70b h71b)))) ?_;refine hk _ _ ?_;clear hk hp k kp;refine an ?_;refine ag ?_;refine ai ?_;refine ab [] ?_;obtain rfl := Option.some.inj hm;exact en
                ·rw [if_neg h71] at hm;have h71b := beq_eq_false_iff_ne.2 h71;refine aa ?_;refine gox (a2 h68b (a2 h70b h71b)) ?_;refine hk _ _ ?_;clear hk hp k kp;refine an ?_;refine ag ?_;refine ai ?_;refine ab [] ?_;obtain rfl := Option.some.inj hm;exact en
               ·rw [if_neg h70] at hm;have h70b := decide_eq_false h70;refine aa ?_;refine gox (a2 h68b h70b) ?_;refine hk _ _ ?_;clear hk hp k kp;refine an ?_;refine ag ?_;refine ai ?_;refine ab [] ?_;obtain rfl := Option.some.inj hm;exact en
              ·rw [if_neg h68] at hm;have h68b := decide_eq_false h68;refine aa ?_;refine gox h68b ?_;refine hk _ _ ?_;clear hk hp k kp;refine an ?_;refine ag ?_;refine ai ?_;refine ab [] ?_;obtain rfl := Option.some.inj hm;exact en
             ·rw [if_neg h66] at hm;refine aj rfl (beq_eq_false_iff_ne.2 h66) ?_;refine ao [315, 352] ?_
              by_cases h72 : p2.op = 13
              ·rw [if_pos h72] at hm;refine ah rfl (beq_iff_eq.2 h72) ?_;obtain ⟨⟨hg73a, hg73b⟩, hm⟩ := gd hm;refine bx [2, 3, 5, 6, 8, 45, 351, 353, 354, 355, 356, 357, 358, 359, 360, 361, 362] fun k kp hk hp => ?_;refine ap 5 ?_;refine gox (em ak.enc l2 0) ?_
               by_cases h74 : ((l2.getD 0 default).elem) = ((p1.vars.getD p2.out_.toNat default).elem) ∧ ((l2.getD 0 default).n) = ((p1.vars.getD p2.out_.toNat default).n)
               ·rw [if_pos h74] at hm
                have h74b : ((((l2.getD 0 default).elem) == ((p1.vars.getD p2.out_.toNat default).elem)) && (((l2.getD 0 default).n) == ((p1.vars.getD p2.out_.toNat default).n))) = true := by simpa [Bool.and_eq_true] using h74
                obtain ⟨⟨hg75a, hg75b⟩, hm⟩ := gd hm;refine aa ?_;refine gox (a2 (em ak.enc l2 1) h74b) ?_;refine hk _ _ ?_;clear hk hp k kp;refine an ?_;refine ag ?_;refine ai ?_;refine ab [] ?_;obtain rfl := Option.some.inj hm;exact en
               ·rw [if_neg h74] at hm;have h74b : ((((l2.getD 0 default).elem) == ((p1.vars.getD p2.out_.toNat default).elem)) && (((l2.getD 0 default).n) == ((p1.vars.getD p2.out_.toNat default).n))) = false := Bool.eq_false_iff.2 (fun hh => h74 (by simpa [Bool.and_eq_true] using hh));refine aa ?_;refine gox h74b ?_;refine hk _ _ ?_;clear hk hp k kp;refine an ?_;refine ag ?_;refine ai ?_;refine ab [] ?_;obtain rfl := Option.some.inj hm;exact en
              ·rw [if_neg h72] at hm;refine aj rfl (beq_eq_false_iff_ne.2 h72) ?_;refine ao [351, 364] ?_
               by_cases h76 : p2.op = 14
               ·rw [if_pos h76] at hm;refine ah rfl (beq_iff_eq.2 h76) ?_;refine lm [2, 3, 5, 6, 8, 45, 363, 365, 366, 367, 368, 369, 370, 371, 372, 373, 374] (by kernel_rfl) [0, 0, 2, 0, 8, 24, 63, 0, 128, 511, 1023] [false, false, false, false, false, false, false, false, false, true, true] (by kernel_rfl) fun k hk => ?_;refine ga ?_;obtain ⟨y6, hc77, hm⟩ := bd hm;refine AP (fun _ => kT ((p1.vars.getD p2.out_.toNat default).n) _ hc77) ?_;refine ga ?_;obtain ⟨y7, hc78, hm⟩ := bd hm;refine AP (fun _ => pn p1 p2.e y6 _ hc78) ?_;refine ga ?_;refine hk _ _ ?_;clear hk k;refine an ?_;refine ag ?_;refine ai ?_;refine ab [] ?_;obtain rfl := Option.some.inj hm;exact en
               ·rw [if_neg h76] at hm;refine aj rfl (beq_eq_false_iff_ne.2 h76) ?_;refine ao [45, 363, 376] ?_
                by_cases h79 : p2.op = 15
                ·rw [if_pos h79] at hm;refine ah rfl (beq_iff_eq.2 h79) ?_;refine aJ [2, 3, 5, 6, 8, 375, 377, 378, 379, 380, 381, 382, 383, 384, 385, 386, 387, 388, 389, 390, 391, 392, 393, 394, 395, 396, 397, 398, 399, 400, 401, 402, 403, 404, 405, 406, 407, 408, 409, 410, 411] fun k kp hk hp => ?_;refine go ?_;obtain ⟨y8, hc80, hm⟩ := bd hm;refine RP (fun _ => mt p2.k _ hc80) ?_
                 by_cases h81 : y8 = true
                 ·rw [if_pos h81] at hm;have h81b := h81;refine ap 7 ?_;refine gox h81b ?_
                  by_cases h82 : ((p1.vars.getD p2.out_.toNat default).elem) = y3.1 ∧ ((p1.vars.getD p2.out_.toNat default).n) = 0
                  ·rw [if_pos h82] at hm
                   have h82b : ((((p1.vars.getD p2.out_.toNat default).elem) == y3.1) && (((p1.vars.getD p2.out_.toNat default).n) == 0)) = true := by simpa [Bool.and_eq_true] using h82
                   obtain ⟨⟨hg83a, hg83b⟩, hm⟩ := gd hm;refine ap 6 ?_;refine gox (a2 (em ak.enc l2 0) (a2 h81b h82b)) ?_
                   by_cases h84 : ((l2.getD 0 default).elem) = ((p1.vars.getD p2.out_.toNat default).elem) ∧ ((l2.getD 0 default).n) = ((p1.vars.getD p2.out_.toNat default).n)
                   ·rw [if_pos h84] at hm
                    have h84b : ((((l2.getD 0 default).elem) == ((p1.vars.getD p2.out_.toNat default).elem)) && (((l2.getD 0 default).n) == ((p1.vars.getD p2.out_.toNat default).n))) = true := by simpa [Bool.and_eq_true] using h84
                    refine ap 5 ?_;refine gox (a2 h81b (a2 h82b h84b)) ?_
                    by_cases h85 : p2.n ≥ 1
                    ·rw [if_pos h85] at hm;have h85b := decide_eq_true h85;refine ap 5 ?_;refine gox (a2 h81b (a2 h82b (a2 h84b h85b))) ?_
                     by_cases h86 : p2.n ≤ 300
                     ·rw [if_pos h86] at hm;have h86b := decide_eq_true h86;refine aa ?_;refine gox (a2 h81b (a2 h82b (a2 h84b (a2 h85b h86b)))) ?_;obtain ⟨y9, hc87, hm⟩ := bd hm;refine RP (fun _ => pn p1 p2.e p2.n _ hc87) ?_;refine aa ?_;refine gox (a2 h81b (a2 h82b (a2 h84b (a2 h85b h86b)))) ?_;refine hk _ _ ?_;clear hk hp k kp;refine an ?_;refine ag ?_;refine ai ?_;refine ab [] ?_;obtain rfl := Option.some.inj hm;exact en
                     ·rw [if_neg h86] at hm;have h86b := decide_eq_false h86;refine aa ?_;refine gox (a2 h81b (a2 h82b (a2 h84b (a2 h85b h86b)))) ?_;refine hk _ _ ?_;clear hk hp k kp;refine an ?_;refine ag ?_;refine ai ?_;refine ab [] ?_;obtain rfl := Option.some.inj hm;exact en
                    ·rw [if_neg h85] at hm;have h85b := decide_eq_false h85;refine aa ?_;refine gox (a2 h81b (a2 h82b (a2 h84b h85b))) ?_;refine hk _ _ ?_;clear hk hp k kp;refine an ?_;refine ag ?_;refine ai ?_;refine ab [] ?_;obtain rfl := Option.some.inj hm;exact en
                   ·rw [if_neg h84] at hm;have h84b : ((((l2.getD 0 default).elem) == ((p1.vars.getD p2.out_.toNat default).elem)) && (((l2.getD 0 default).n) == ((p1.vars.getD p2.out_.toNat default).n))) = false := Bool.eq_false_iff.2 (fun hh => h84 (by simpa [Bool.and_eq_true] using hh));refine aa ?_;refine gox (a2 h81b (a2 h82b h84b)) ?_;refine hk _ _ ?_;clear hk hp k kp;refine an ?_;refine ag ?_;refine ai ?_;refine ab [] ?_;obtain rfl := Option.some.inj hm;exact en
                  ·rw [if_neg h82] at hm;have h82b : ((((p1.vars.getD p2.out_.toNat default).elem) == y3.1) && (((p1.vars.getD p2.out_.toNat default).n) == 0)) = false := Bool.eq_false_iff.2 (fun hh => h82 (by simpa [Bool.and_eq_true] using hh));refine aa ?_;refine gox (a2 h81b h82b) ?_;refine hk _ _ ?_;clear hk hp k kp;refine an ?_;refine ag ?_;refine ai ?_;refine ab [] ?_;obtain rfl := Option.some.inj hm;exact en
                 ·rw [if_neg h81] at hm;have h81b := Bool.eq_false_iff.2 h81;refine aa ?_;refine gox h81b ?_;refine hk _ _ ?_;clear hk hp k kp;refine an ?_;refine ag ?_;refine ai ?_;refine ab [] ?_;obtain rfl := Option.some.inj hm;exact en
                ·rw [if_neg h79] at hm;refine aj rfl (beq_eq_false_iff_ne.2 h79) ?_;refine ar ?_;refine ax ?_;refine am (hk1 _ _ ?_);refine aJ [2, 3, 5, 6, 8, 375, 412, 413, 414, 415, 416, 417, 418, 419, 420, 421, 422, 423, 424, 425, 426, 427, 428, 429, 430, 431, 432, 433, 434, 435, 436, 437, 438, 439, 440, 441, 442] fun k kp hk hp => ?_;refine go ?_;obtain ⟨y10, hc88, hm⟩ := bd hm;refine RP (fun _ => mt p2.k _ hc88) ?_
                 by_cases h89 : y10 = true
                 ·rw [if_pos h89] at hm;have h89b := h89;refine ap 6 ?_;refine gox h89b ?_
                  by_cases h90 : ((p1.vars.getD p2.out_.toNat default).n) > 0
                  ·rw [if_pos h90] at hm;have h90b := decide_eq_true h90;refine ap 6 ?_;refine gox (a2 h89b h90b) ?_
                   by_cases h91 : ((p1.vars.getD p2.out_.toNat default).elem) = y3.1
                   ·rw [if_pos h91] at hm;have h91b := beq_iff_eq.2 h91;obtain ⟨⟨hg92a, hg92b⟩, hm⟩ := gd hm;refine ap 7 ?_;refine gox (a2 (em ak.enc l2 0) (a2 h89b (a2 h90b h91b))) ?_
                    by_cases h93 : ((l2.getD 0 default).elem) = y3.1 ∧ ((l2.getD 0 default).n) = 0
                    ·rw [if_pos h93] at hm
                     have h93b : ((((l2.getD 0 default).elem) == y3.1) && (((l2.getD 0 default).n) == 0)) = true := by simpa [Bool.and_eq_true] using h93
                     refine aa ?_;refine gox (a2 h89b (a2 h90b (a2 h91b h93b))) ?_;obtain ⟨y11, hc94, hm⟩ := bd hm;refine RP (fun _ => pn p1 p2.e ((p1.vars.getD p2.out_.toNat default).n) _ hc94) ?_;refine aa ?_;refine gox (a2 h89b (a2 h90b (a2 h91b h93b))) ?_;refine hk _ _ ?_;clear hk hp k kp;refine an ?_;refine ab [] ?_;obtain rfl := Option.some.inj hm;exact en
                    ·rw [if_neg h93] at hm;have h93b : ((((l2.getD 0 default).elem) == y3.1) && (((l2.getD 0 default).n) == 0)) = false := Bool.eq_false_iff.2 (fun hh => h93 (by simpa [Bool.and_eq_true] using hh));refine aa ?_;refine gox (a2 h89b (a2 h90b (a2 h91b h93b))) ?_;refine hk _ _ ?_;clear hk hp k kp;refine an ?_;refine ab [] ?_;obtain rfl := Option.some.inj hm;exact en
                   ·rw [if_neg h91] at hm;have h91b := beq_eq_false_iff_ne.2 h91;refine aa ?_;refine gox (a2 h89b (a2 h90b h91b)) ?_;refine hk _ _ ?_;clear hk hp k kp;refine an ?_;refine ab [] ?_;obtain rfl := Option.some.inj hm;exact en
                  ·rw [if_neg h90] at hm;have h90b := decide_eq_false h90;refine aa ?_;refine gox (a2 h89b h90b) ?_;refine hk _ _ ?_;clear hk hp k kp;refine an ?_;refine ab [] ?_;obtain rfl := Option.some.inj hm;exact en
                 ·rw [if_neg h89] at hm;have h89b := Bool.eq_false_iff.2 h89;refine aa ?_;refine gox h89b ?_;refine hk _ _ ?_;clear hk hp k kp;refine an ?_;refine ab [] ?_;obtain rfl := Option.some.inj hm;exact en
end Pam

namespace Pam
open Go Go.Proofs
set_option maxRecDepth 100000 in
set_option maxHeartbeats 8000000 in
theorem kn (p1 : af) (r : au) (hm : gB p1 = some r) : bU Try.prog 35 [.a [.tree 2 (p1.vars.map ak.enc), .tree 1 (p1.in_.map (eK .i64)), .tree 1 (p1.out_.map (eK .i64)), .tree 6 (p1.rules.map ae.enc)]] (.a [.int .i64 ((r).code), .int .i64 ((r).at_)]) := by
 refine aN 182 [.cell 2 33] Try.func35 rfl rfl rfl (by kernel_rfl) (by simp) ?_;refine bu ?_;unfold gB at hm;refine ao [0] ?_;refine aq fun k1 hk1 => ?_;refine aJ [13, 14] fun k kp hk hp => ?_;refine go ?_;obtain ⟨y1, hc1, hm⟩ := bd hm;refine RP (fun _ => up p1 _ hc1) ?_;refine aa ?_;refine go ?_;refine hk _ _ ?_;clear hk hp k kp;refine ao [15, 16] ?_
 by_cases h2 : ¬ ((y1).code) = 0
 ·rw [if_pos h2] at hm;refine ah rfl (bne_iff_ne.2 h2) ?_;refine ao [1, 3, 17, 18] ?_;refine an ?_;refine ai ?_;refine ab [] ?_;obtain rfl := Option.some.inj hm;exact en
 ·rw [if_neg h2] at hm;refine aj rfl (bne_eq_false_iff_eq.2 (Decidable.not_not.1 h2)) ?_;refine ar ?_;refine am (hk1 _ _ ?_);refine aF (S := Unit) (V := Unit) [3, 4, 5, 6, 7, 17, 19, 20, 21, 22, 23, 24, 25, 26, 27, 28, 29, 30, 31, 32, 33, 34, 35, 36, 37, 38, 39, 40, 41, 42, 43, 44, 45, 46, 47, 48, 49, 50, 51, 52, 53, 54, 55, 56, 57, 58, 59, 60, 61, 62, 63, 64, 65, 66, 67, 68, 69, 70, 71, 72, 73, 74, 75, 76, 77, 78, 79, 80, 81, 82, 83, 84, 85, 86, 87, 88, 89, 90, 91, 92, 93, 94, 95, 96, 97, 98, 99, 100, 101, 102, 103, 104, 105, 106, 107, 108, 109, 110] (fun _ _ => []) (fun _ _ => [.box [.tree 2 (p1.vars.map ak.enc), .tree 1 (p1.in_.map (eK .i64)), .tree 1 (p1.out_.map (eK .i64)), .tree 6 (p1.rules.map ae.enc)], .box [.int .i64 0, .int .i64 0], .box [.int .i64 ((y1).code), .int .i64 ((y1).at_)]]) (fun _ => fZ p1 = some r) ?_ ?_
  ·skip;refine ao [3, 17] ?_
   refine aw ?_;obtain ⟨o4, hl4, hm4⟩ := bd hm;refine aQ (S := Int) (V := Unit) (O := Unit ⊕ au) [4, 5, 6, 7, 19, 20, 21, 22, 23, 24, 25, 26, 27, 28, 29, 30, 31, 32, 33, 34, 35, 36, 37, 38, 39, 40, 41, 42, 43, 44, 45, 46, 47, 48, 49, 50, 51, 52, 53, 54, 55, 56, 57, 58, 59, 60, 61, 62, 63, 64, 65, 66, 67, 68, 69, 70, 71, 72, 73, 74, 75, 76, 77, 78, 79, 80, 81, 82, 83, 84, 85, 86, 87, 88, 89, 90, 91, 92, 93, 94, 95, 96, 97, 98, 99, 100, 101, 102, 103, 104, 105, 106, 107, 108, 109, 110] (fun x24 _ => [(4, .c (.int .i64 x24))]) (fun x24 _ => [.box [.tree 2 (p1.vars.map ak.enc), .tree 1 (p1.in_.map (eK .i64)), .tree 1 (p1.out_.map (eK .i64)), .tree 6 (p1.rules.map ae.enc)], .box [.int .i64 0, .int .i64 0], .box [.int .i64 ((y1).code), .int .i64 ((y1).at_)]]) _ _ () hl4 ?_ ?_
   ·exact ls
   ·rintro x24 _ r4 hm hr4;replace hm : f9 p1 x24 = some r4 := hm;refine aD ?_;unfold f9 at hm;refine aq fun k7 hk7 => ?_;refine ao [19, 20, 21, 22] ?_
    by_cases h27 : x24 < (p1.rules.length : Int)
    ·rw [if_pos h27] at hm;refine ah rfl (decide_eq_true h27) ?_;refine ar ?_;refine am (hk7 _ _ ?_);refine aF (S := Unit) (V := Unit) [5, 6, 7, 23, 26, 27, 28, 29, 30, 31, 32, 33, 34, 35, 36, 37, 38, 39, 40, 41, 42, 43, 44, 45, 46, 47, 48, 49, 50, 51, 52, 53, 54, 55, 56, 57, 58, 59, 60, 61, 62, 63, 64, 65, 66, 67, 68, 69, 70, 71, 72, 73, 74, 75, 76, 77, 78, 79, 80, 81, 82, 83, 84, 85, 86, 87, 88, 89, 90, 91, 92, 93, 94, 95, 96, 97, 98, 99, 100, 101, 102, 103, 104, 105, 106, 107, 108, 109, 110] (fun _ _ => []) (fun _ _ => [.box [.tree 2 (p1.vars.map ak.enc), .tree 1 (p1.in_.map (eK .i64)), .tree 1 (p1.out_.map (eK .i64)), .tree 6 (p1.rules.map ae.enc)], .box [.int .i64 0, .int .i64 0], .box [.int .i64 ((y1).code), .int .i64 ((y1).at_)]]) (fun _ => i5 x24 = some r4) ?_ ?_
     ·skip;refine aw ?_
      obtain ⟨hg28a, hm⟩ := gd hm;refine bo (em ae.enc p1.rules x24.toNat) [23, 26, 27, 28, 29, 30] ?_;refine aq fun k8 hk8 => ?_;refine bx [31, 32, 33, 34, 35, 36, 37, 38, 39, 40] fun k kp hk hp => ?_;refine ap 4 ?_;refine go ?_
      by_cases h29 : ((p1.rules.getD x24.toNat default).out_) < 0
      ·rw [if_pos h29] at hm;have h29b := decide_eq_true h29;refine aa ?_;refine gox h29b ?_;refine hk _ _ ?_;clear hk hp k kp;refine ah rfl rfl ?_;refine aJ [1, 4, 5, 41, 42, 43] fun k kp hk hp => ?_;refine go ?_;obtain ⟨y25, hc30, hm⟩ := bd hm;refine RP (fun _ => cn 16 x24 _ hc30) ?_;refine aa ?_;refine go ?_;refine hk _ _ ?_;clear hk hp k kp;have ho31 := az hm hr4;subst ho31;replace hm : some (y25) = some r := hm4;refine an ?_;refine ai ?_;refine ag ?_;refine ay ?_;refine aG ?_;refine ag ?_;refine ay ?_;refine ab [] ?_;obtain rfl := Option.some.inj hm;exact en
      ·rw [if_neg h29] at hm;have h29b := decide_eq_false h29;refine aa ?_;refine gox h29b ?_;refine hk _ _ ?_;clear hk hp k kp
       by_cases h32 : ((p1.rules.getD x24.toNat default).out_) ≥ (p1.vars.length : Int)
       ·rw [if_pos h32] at hm;refine ah rfl (decide_eq_true h32) ?_;refine aJ [1, 4, 5, 41, 42, 43] fun k kp hk hp => ?_;refine go ?_;obtain ⟨y26, hc33, hm⟩ := bd hm;refine RP (fun _ => cn 16 x24 _ hc33) ?_;refine aa ?_;refine go ?_;refine hk _ _ ?_;clear hk hp k kp;have ho34 := az hm hr4;subst ho34;replace hm : some (y26) = some r := hm4;refine an ?_;refine ai ?_;refine ag ?_;refine ay ?_;refine aG ?_;refine ag ?_;refine ay ?_;refine ab [] ?_;obtain rfl := Option.some.inj hm;exact en
       ·rw [if_neg h32] at hm;refine aj rfl (decide_eq_false h32) ?_;refine ar ?_;refine am (hk8 _ _ ?_);refine aq fun k9 hk9 => ?_;refine dl [41, 44, 45, 46, 47, 48, 49, 50, 51, 52, 53, 54, 55] (by kernel_rfl) [0, 1, 0, 4, 15, 31, 63, 63, 255, 63, 575, 2047, 4095] [false, false, false, false, true, true, false, false, false, false, false, true, true] (by kernel_rfl) fun k hk => ?_;refine aS ?_;refine ga ?_;obtain ⟨y27, hc35, hm⟩ := bd hm
        refine bj (fun _ => dU p1.in_ ((p1.rules.getD x24.toNat default).out_) _ hc35) (by first | trivial | exact bP rfl) (by first | trivial | (intro _; first | trivial | simp [aK]) | simp [aK]) rfl (fun _ => rfl) ?_
        by_cases h36 : y27 = true
        ·rw [if_pos h36] at hm;have h36b := h36;refine aS ?_;refine gax h36b ?_;refine hk _ _ ?_;clear hk k;refine ah rfl rfl ?_;refine aJ [1, 4, 5, 56, 57, 58] fun k kp hk hp => ?_;refine go ?_;obtain ⟨y28, hc37, hm⟩ := bd hm;refine RP (fun _ => cn 8 x24 _ hc37) ?_;refine aa ?_;refine go ?_;refine hk _ _ ?_;clear hk hp k kp;have ho38 := az hm hr4;subst ho38;replace hm : some (y28) = some r := hm4;refine an ?_;refine ai ?_;refine ag ?_;refine ay ?_;refine aG ?_;refine ag ?_;refine ay ?_;refine ab [] ?_;obtain rfl := Option.some.inj hm;exact en
        ·rw [if_neg h36] at hm;have h36b := Bool.eq_false_iff.2 h36;refine aS ?_;refine gax h36b ?_;obtain ⟨y29, hc39, hm⟩ := bd hm
         refine bj (fun _ => st p1 x24 _ hc39) (by first | trivial | exact bP rfl) (by first | trivial | (intro _; first | trivial | simp [aK]) | simp [aK]) rfl (fun _ => rfl) ?_
         refine aS ?_;refine gax h36b ?_;obtain ⟨y30, hc40, hm⟩ := bd hm
         refine bj (fun _ => dU y29 ((p1.rules.getD x24.toNat default).out_) _ hc40) (by first | trivial | exact bP rfl) (by first | trivial | (intro _; first | trivial | simp [aK]) | simp [aK]) rfl (fun _ => rfl) ?_
         refine aS ?_;refine gax h36b ?_;refine hk _ _ ?_;clear hk k
         by_cases h41 : y30 = true
         ·rw [if_pos h41] at hm;refine ah rfl (h41) ?_;refine aJ [1, 4, 5, 56, 57, 58] fun k kp hk hp => ?_;refine go ?_;obtain ⟨y31, hc42, hm⟩ := bd hm;refine RP (fun _ => cn 8 x24 _ hc42) ?_;refine aa ?_;refine go ?_;refine hk _ _ ?_;clear hk hp k kp;have ho43 := az hm hr4;subst ho43;replace hm : some (y31) = some r := hm4;refine an ?_;refine ai ?_;refine ag ?_;refine ay ?_;refine aG ?_;refine ag ?_;refine ay ?_;refine ab [] ?_;obtain rfl := Option.some.inj hm;exact en
         ·rw [if_neg h41] at hm;refine aj rfl (Bool.eq_false_iff.2 h41) ?_;refine ar ?_;refine am (hk9 _ _ ?_);refine aq fun k10 hk10 => ?_;refine dl [56, 59, 60, 61, 62, 63, 64, 65, 66, 67, 68, 69, 70] (by kernel_rfl) [0, 1, 3, 7, 15, 31, 63, 127, 31, 287, 799, 2047, 4095] [true, true, true, true, true, false, false, false, false, false, false, true, true] (by kernel_rfl) fun k hk => ?_;refine aS ?_;refine ga ?_;obtain ⟨y32, hc44, hm⟩ := bd hm
          refine bj (fun _ => pk ((p1.rules.getD x24.toNat default).op) _ hc44) (by first | trivial | exact bP rfl) (by first | trivial | (intro _; first | trivial | simp [aK]) | simp [aK]) rfl (fun _ => rfl) ?_
          by_cases h45 : y32 < 0
          ·rw [if_pos h45] at hm;have h45b := decide_eq_true h45;refine aS ?_;refine gax h45b ?_;refine hk _ _ ?_;clear hk k;refine ah rfl rfl ?_;refine aJ [1, 4, 5, 71, 72, 73] fun k kp hk hp => ?_;refine go ?_;obtain ⟨y33, hc46, hm⟩ := bd hm;refine RP (fun _ => cn 4 x24 _ hc46) ?_;refine aa ?_;refine go ?_;refine hk _ _ ?_;clear hk hp k kp;have ho47 := az hm hr4;subst ho47;replace hm : some (y33) = some r := hm4;refine an ?_;refine ai ?_;refine ag ?_;refine ay ?_;refine aG ?_;refine ag ?_;refine ay ?_;refine ab [] ?_;obtain rfl := Option.some.inj hm;exact en
          ·rw [if_neg h45] at hm;have h45b := decide_eq_false h45;refine aS ?_;refine gax h45b ?_;obtain ⟨y34, hc48, hm⟩ := bd hm
           refine bj (fun _ => pk ((p1.rules.getD x24.toNat default).op) _ hc48) (by first | trivial | exact bP rfl) (by first | trivial | (intro _; first | trivial | simp [aK]) | simp [aK]) rfl (fun _ => rfl) ?_
           refine aS ?_;refine gax h45b ?_;refine hk _ _ ?_;clear hk k
           by_cases h49 : ¬ y34 = (((p1.rules.getD x24.toNat default).a).length : Int)
           ·rw [if_pos h49] at hm;refine ah rfl (bne_iff_ne.2 h49) ?_;refine aJ [1, 4, 5, 71, 72, 73] fun k kp hk hp => ?_;refine go ?_;obtain ⟨y35, hc50, hm⟩ := bd hm;refine RP (fun _ => cn 4 x24 _ hc50) ?_;refine aa ?_;refine go ?_;refine hk _ _ ?_;clear hk hp k kp;have ho51 := az hm hr4;subst ho51;replace hm : some (y35) = some r := hm4;refine an ?_;refine ai ?_;refine ag ?_;refine ay ?_;refine aG ?_;refine ag ?_;refine ay ?_;refine ab [] ?_;obtain rfl := Option.some.inj hm;exact en
           ·rw [if_neg h49] at hm;refine aj rfl (bne_eq_false_iff_eq.2 (Decidable.not_not.1 h49)) ?_;refine ar ?_;refine am (hk10 _ _ ?_);refine aq fun k11 hk11 => ?_;refine ao [71, 74, 75, 76] ?_
            by_cases h52 : (((p1.rules.getD x24.toNat default).e).length : Int) > 24
            ·rw [if_pos h52] at hm;refine ah rfl (decide_eq_true h52) ?_;refine aJ [1, 4, 5, 77, 78, 79] fun k kp hk hp => ?_;refine go ?_;obtain ⟨y36, hc53, hm⟩ := bd hm;refine RP (fun _ => cn 7 x24 _ hc53) ?_;refine aa ?_;refine go ?_;refine hk _ _ ?_;clear hk hp k kp;have ho54 := az hm hr4;subst ho54;replace hm : some (y36) = some r := hm4;refine an ?_;refine ai ?_;refine ag ?_;refine ay ?_;refine aG ?_;refine ag ?_;refine ay ?_;refine ab [] ?_;obtain rfl := Option.some.inj hm;exact en
            ·rw [if_neg h52] at hm;refine aj rfl (decide_eq_false h52) ?_;refine ar ?_;refine am (hk11 _ _ ?_);refine aJ [77, 80, 81] fun k kp hk hp => ?_;refine go ?_;obtain ⟨y37, hc55, hm⟩ := bd hm;refine RP (fun _ => pm (p1.rules.getD x24.toNat default) _ hc55) ?_;refine aa ?_;refine go ?_;refine hk _ _ ?_;clear hk hp k kp;refine aF (S := Unit) (V := Unit) [6, 7, 82, 83, 84, 85, 86, 87, 88, 89, 90, 91, 92, 93, 94, 95, 96, 97, 98, 99, 100, 101, 102, 103, 104] (fun _ _ => []) (fun _ _ => [.box [.tree 2 (p1.vars.map ak.enc), .tree 1 (p1.in_.map (eK .i64)), .tree 1 (p1.out_.map (eK .i64)), .tree 6 (p1.rules.map ae.enc)], .box [.int .i64 0, .int .i64 0], .box [.int .i64 ((y1).code), .int .i64 ((y1).at_)], .box [.int .i64 ((p1.rules.getD x24.toNat default).op), .int .i64 ((p1.rules.getD x24.toNat default).k), .int .i64 ((p1.rules.getD x24.toNat default).out_), .int .i64 ((p1.rules.getD x24.toNat default).n), .tree 1 (((p1.rules.getD x24.toNat default).a).map (eK .i64)), .tree 4 (((p1.rules.getD x24.toNat default).e).map aI.enc)]]) (fun _ => f8 p1 x24 = some r4) ?_ ?_
             ·skip;refine ao [] ?_
              refine aw ?_;obtain ⟨o5, hl5, hm5⟩ := bd hm;refine aQ (S := Int) (V := Unit) (O := Unit ⊕ au) [7, 82, 83, 84, 85, 86, 87, 88, 89, 90, 91, 92, 93, 94, 95, 96, 97, 98, 99, 100, 101, 102, 103, 104] (fun x42 _ => [(7, .c (.int .i64 x42))]) (fun x42 _ => [.box [.tree 2 (p1.vars.map ak.enc), .tree 1 (p1.in_.map (eK .i64)), .tree 1 (p1.out_.map (eK .i64)), .tree 6 (p1.rules.map ae.enc)], .box [.int .i64 0, .int .i64 0], .box [.int .i64 ((y1).code), .int .i64 ((y1).at_)], .box [.int .i64 ((p1.rules.getD x24.toNat default).op), .int .i64 ((p1.rules.getD x24.toNat default).k), .int .i64 ((p1.rules.getD x24.toNat default).out_), .int .i64 ((p1.rules.getD x24.toNat default).n), .tree 1 (((p1.rules.getD x24.toNat default).a).map (eK .i64)), .tree 4 (((p1.rules.getD x24.toNat default).e).map aI.enc)]]) _ _ () hl5 ?_ ?_
              ·exact ls
              ·rintro x42 _ r5 hm hr5;replace hm : i6 p1 x24 y37 x42 = some r5 := hm;refine aD ?_;unfold i6 at hm;refine aq fun k12 hk12 => ?_;refine ao [82, 83, 84] ?_
               by_cases h60 : x42 < (y37.length : Int)
               ·rw [if_pos h60] at hm;refine ah rfl (decide_eq_true h60) ?_;refine ar ?_;refine am (hk12 _ _ ?_);refine aq fun k13 hk13 => ?_;refine aw ?_;obtain ⟨hg61a, hm⟩ := gd hm;refine dl [85, 88, 89, 90, 91, 92, 93, 94, 95, 96, 97, 98, 99, 100, 101] (by kernel_rfl) [0, 0, 3, 7, 15, 31, 63, 63, 255, 511, 63, 1087, 3135, 8191, 16383] [false, false, true, true, true, true, false, false, false, false, false, false, false, true, true] (by kernel_rfl) fun k hk => ?_;refine dS 6 rfl ?_;refine gax (em (eK .i64) y37 x42.toNat) ?_
                by_cases h62 : (y37.getD x42.toNat default) < 0
                ·rw [if_pos h62] at hm;have h62b := decide_eq_true h62;refine aS ?_;refine gax h62b ?_;refine hk _ _ ?_;clear hk k;refine ah rfl rfl ?_;refine aJ [1, 4, 5, 6, 7, 102, 103, 104] fun k kp hk hp => ?_;refine go ?_;obtain ⟨y43, hc63, hm⟩ := bd hm;refine RP (fun _ => cn 16 x24 _ hc63) ?_;refine aa ?_;refine go ?_;refine hk _ _ ?_;clear hk hp k kp;have ho64 := az hm hr5;subst ho64;replace hm : some (.inr (.inr (y43))) = some r4 := hm5;have ho65 := az hm hr4;subst ho65;replace hm : some (y43) = some r := hm4;refine an ?_;refine ag ?_;refine ai ?_;refine aG ?_;refine ag ?_;refine ay ?_;refine ag ?_;refine ay ?_;refine aG ?_;refine ag ?_;refine ay ?_;refine ab [] ?_;obtain rfl := Option.some.inj hm;exact en
                ·rw [if_neg h62] at hm;have h62b := decide_eq_false h62;refine aS ?_;refine gax (a2 (em (eK .i64) y37 x42.toNat) h62b) ?_;refine hk _ _ ?_;clear hk k
                 by_cases h66 : (y37.getD x42.toNat default) ≥ (p1.vars.length : Int)
                 ·rw [if_pos h66] at hm;refine ah rfl (decide_eq_true h66) ?_;refine aJ [1, 4, 5, 6, 7, 102, 103, 104] fun k kp hk hp => ?_;refine go ?_;obtain ⟨y44, hc67, hm⟩ := bd hm;refine RP (fun _ => cn 16 x24 _ hc67) ?_;refine aa ?_;refine go ?_;refine hk _ _ ?_;clear hk hp k kp;have ho68 := az hm hr5;subst ho68;replace hm : some (.inr (.inr (y44))) = some r4 := hm5;have ho69 := az hm hr4;subst ho69;replace hm : some (y44) = some r := hm4;refine an ?_;refine ag ?_;refine ai ?_;refine aG ?_;refine ag ?_;refine ay ?_;refine ag ?_;refine ay ?_;refine aG ?_;refine ag ?_;refine ay ?_;refine ab [] ?_;obtain rfl := Option.some.inj hm;exact en
                 ·rw [if_neg h66] at hm;refine aj rfl (decide_eq_false h66) ?_;refine ar ?_;refine ax ?_;refine am (hk13 _ _ ?_);refine bm ?_;refine aB (IntKind.wrap .i64 (x42 + 1)) () hm ?_;exact ls
               ·rw [if_neg h60] at hm;refine aj rfl (decide_eq_false h60) ?_;refine aY ?_;have ho70 := az hm hr5;subst ho70;replace hm : f8 p1 x24 = some r4 := hm5;refine aP ?_;refine aL ?_;refine aA ?_;refine av () () hm ?_;exact ls
             ·rintro _ _ hm;replace hm : f8 p1 x24 = some r4 := hm;refine aD ?_;unfold f8 at hm;refine aJ [5, 105, 106, 107] fun k kp hk hp => ?_;refine go ?_;obtain ⟨y38, hc56, hm⟩ := bd hm;refine RP (fun _ => sE p1 (p1.rules.getD x24.toNat default) _ hc56) ?_;refine aa ?_;refine go ?_;refine hk _ _ ?_;clear hk hp k kp
              by_cases h57 : y38 = true
              ·rw [if_pos h57] at hm;refine aj rfl (by rw [show y38 = true from (h57)]; rfl) ?_;refine ar ?_;refine ax ?_;refine av () () hm ?_;exact ls
              ·rw [if_neg h57] at hm;refine ah rfl (by rw [show y38 = false from (Bool.eq_false_iff.2 h57)]; rfl) ?_;refine aJ [1, 4, 108, 109, 110] fun k kp hk hp => ?_;refine go ?_;obtain ⟨y39, hc58, hm⟩ := bd hm;refine RP (fun _ => cn 10 x24 _ hc58) ?_;refine aa ?_;refine go ?_;refine hk _ _ ?_;clear hk hp k kp;have ho59 := az hm hr4;subst ho59;replace hm : some (y39) = some r := hm4;refine an ?_;refine ag ?_;refine ay ?_;refine aG ?_;refine ag ?_;refine ay ?_;refine ab [] ?_;obtain rfl := Option.some.inj hm;exact en
     ·rintro _ _ hm;replace hm : i5 x24 = some r4 := hm;refine aD ?_;unfold i5 at hm;refine bm ?_;refine aB (IntKind.wrap .i64 (x24 + 1)) () hm ?_;exact ls
    ·rw [if_neg h27] at hm;refine aj rfl (decide_eq_false h27) ?_;refine aY ?_;have ho71 := az hm hr4;subst ho71;replace hm : fZ p1 = some r := hm4;refine aP ?_;refine aL ?_;refine aA ?_;refine av () () hm ?_;exact ls
  ·rintro _ _ hm;replace hm : fZ p1 = some r := hm;refine aD ?_;unfold fZ at hm;refine aJ [111, 112, 113, 114, 115] fun k kp hk hp => ?_;refine go ?_;obtain ⟨y2, hc3, hm⟩ := bd hm;refine RP (fun _ => st p1 (p1.rules.length : Int) _ hc3) ?_;refine aa ?_;refine go ?_;refine hk _ _ ?_;clear hk hp k kp;refine aF (S := Unit) (V := Unit) [9, 10, 11, 116, 117, 118, 119, 120, 121, 122, 123, 124, 125, 126, 127, 128, 129, 130, 131, 132, 133, 134, 135, 136, 137, 138, 139, 140, 141, 142, 143, 144, 145, 146, 147, 148, 149, 150, 151, 152, 153] (fun _ _ => []) (fun _ _ => [.box [.tree 2 (p1.vars.map ak.enc), .tree 1 (p1.in_.map (eK .i64)), .tree 1 (p1.out_.map (eK .i64)), .tree 6 (p1.rules.map ae.enc)], .box [.int .i64 0, .int .i64 0], .box [.int .i64 ((y1).code), .int .i64 ((y1).at_)]]) (fun _ => fW p1 y2 = some r) ?_ ?_
   ·skip;refine ao [] ?_
    refine aw ?_;obtain ⟨o2, hl2, hm2⟩ := bd hm;refine aQ (S := Int) (V := Unit) (O := Unit ⊕ au) [9, 10, 11, 116, 117, 118, 119, 120, 121, 122, 123, 124, 125, 126, 127, 128, 129, 130, 131, 132, 133, 134, 135, 136, 137, 138, 139, 140, 141, 142, 143, 144, 145, 146, 147, 148, 149, 150, 151, 152, 153] (fun x12 _ => [(9, .c (.int .i64 x12))]) (fun x12 _ => [.box [.tree 2 (p1.vars.map ak.enc), .tree 1 (p1.in_.map (eK .i64)), .tree 1 (p1.out_.map (eK .i64)), .tree 6 (p1.rules.map ae.enc)], .box [.int .i64 0, .int .i64 0], .box [.int .i64 ((y1).code), .int .i64 ((y1).at_)]]) _ _ () hl2 ?_ ?_
    ·exact ls
    ·rintro x12 _ r2 hm hr2;replace hm : fY p1 y2 x12 = some r2 := hm;refine aD ?_;unfold fY at hm;refine aq fun k4 hk4 => ?_;refine ao [116, 117, 118, 119] ?_
     by_cases h13 : x12 < (p1.rules.length : Int)
     ·rw [if_pos h13] at hm;refine ah rfl (decide_eq_true h13) ?_;refine ar ?_;refine am (hk4 _ _ ?_);refine aF (S := Unit) (V := Unit) [10, 11, 120, 123, 124, 125, 126, 127, 128, 129, 130, 131, 132, 133, 134, 135, 136, 137, 138, 139, 140, 141, 142, 143, 144, 145, 146, 147, 148, 149, 150, 151, 152, 153] (fun _ _ => []) (fun _ _ => [.box [.tree 2 (p1.vars.map ak.enc), .tree 1 (p1.in_.map (eK .i64)), .tree 1 (p1.out_.map (eK .i64)), .tree 6 (p1.rules.map ae.enc)], .box [.int .i64 0, .int .i64 0], .box [.int .i64 ((y1).code), .int .i64 ((y1).at_)]]) (fun _ => fX x12 = some r2) ?_ ?_
      ·skip;refine aw ?_
       obtain ⟨hg14a, hm⟩ := gd hm;refine aJ [120, 123, 124, 125, 126, 127, 128] fun k kp hk hp => ?_;refine gox (em ae.enc p1.rules x12.toNat) ?_;obtain ⟨y13, hc15, hm⟩ := bd hm;refine RP (fun _ => pm (p1.rules.getD x12.toNat default) _ hc15) ?_;refine aa ?_;refine go ?_;refine hk _ _ ?_;clear hk hp k kp;refine ao [] ?_;refine aw ?_;obtain ⟨o3, hl3, hm3⟩ := bd hm;refine aQ (S := Int) (V := Unit) (O := Unit ⊕ au) [11, 129, 130, 131, 132, 133, 134, 135, 136, 137, 138, 139, 140, 141, 142, 143, 144, 145, 146, 147, 148, 149, 150, 151, 152, 153] (fun x16 _ => [(11, .c (.int .i64 x16))]) (fun x16 _ => [.box [.tree 2 (p1.vars.map ak.enc), .tree 1 (p1.in_.map (eK .i64)), .tree 1 (p1.out_.map (eK .i64)), .tree 6 (p1.rules.map ae.enc)], .box [.int .i64 0, .int .i64 0], .box [.int .i64 ((y1).code), .int .i64 ((y1).at_)]]) _ _ () hl3 ?_ ?_
       ·exact ls
       ·rintro x16 _ r3 hm hr3;replace hm : i4 p1 y2 x12 y13 x16 = some r3 := hm;refine aD ?_;unfold i4 at hm;refine aq fun k5 hk5 => ?_;refine ao [129, 130, 131] ?_
        by_cases h16 : x16 < (y13.length : Int)
        ·rw [if_pos h16] at hm;refine ah rfl (decide_eq_true h16) ?_;refine ar ?_;refine am (hk5 _ _ ?_);refine aq fun k6 hk6 => ?_;refine aw ?_;obtain ⟨hg17a, hm⟩ := gd hm;refine dl [132, 135, 136, 137, 138, 139, 140, 141, 142, 143, 144, 145, 146, 147, 148, 149, 150] (by kernel_rfl) [0, 1, 0, 0, 12, 28, 63, 127, 255, 511, 511, 511, 3583, 7679, 16383, 32767, 65535] [false, false, false, false, false, false, true, true, true, false, false, false, false, false, true, true, true] (by kernel_rfl) fun k hk => ?_;refine aS ?_;refine gax (em (eK .i64) y13 x16.toNat) ?_;obtain ⟨y17, hc18, hm⟩ := bd hm
         refine bj (fun _ => dU p1.in_ (y13.getD x16.toNat default) _ hc18) (by first | trivial | exact bP rfl) (by first | trivial | (intro _; first | trivial | simp [aK]) | simp [aK]) rfl (fun _ => rfl) ?_
         by_cases h19 : y17 = true
         ·rw [if_pos h19] at hm;have h19b := h19
          have h19c : (!y17) = false := by rw [h19b]; rfl
          refine aS ?_;refine gax (a2 h19b h19c) ?_;refine hk _ _ ?_;clear hk k;refine aj rfl rfl ?_;refine ar ?_;refine ax ?_;refine am (hk6 _ _ ?_);refine bm ?_;refine aB (IntKind.wrap .i64 (x16 + 1)) () hm ?_
          first | (simp only [bS, bX, reduceIte, ↓reduceIte, reduceCtorEq, Int.reduceToNat, Nat.reduceDiv, Nat.reduceMod, Nat.reduceLT, Nat.reduceLeDiff, Nat.reduceAdd, Nat.reduceSub, Nat.reduceMul, Nat.reduceEqDiff, Nat.reduceBEq, Nat.reduceBNe, Nat.reduceGT] <;> first | done | (and_intros <;> first | rfl | (simp; done) | omega | (simp [lit, bX, eK, eB, eS, eL]; done) | (simp only [bw, List.length_cons, List.length_nil, List.length_append, List.length_set, List.length_replicate, List.length_map, List.length_take, List.length_drop]; omega))) | (simp only [bS, bX, reduceIte, ↓reduceIte, reduceCtorEq, Int.reduceToNat, Nat.reduceDiv, Nat.reduceMod, Nat.reduceLT, Nat.reduceLeDiff, Nat.reduceAdd, Nat.reduceSub, Nat.reduceMul, Nat.reduceEqDiff, Nat.reduceBEq, Nat.reduceBNe, Nat.reduceGT, *] <;> first | done | (and_intros <;> first | rfl | (simp; done) | omega | (simp [lit, bX, eK, eB, eS, eL]; done) | (simp only [bw, List.length_cons, List.length_nil, List.length_append, List.length_set, List.length_replicate, List.length_map, List.length_take, List.length_drop]; omega)))
         ·rw [if_neg h19] at hm;have h19b := Bool.eq_false_iff.2 h19
          have h19c : (!y17) = true := by rw [h19b]; rfl
          refine aS ?_;refine gax (a2 (em (eK .i64) y13 x16.toNat) (a2 h19b h19c)) ?_;obtain ⟨y18, hc20, hm⟩ := bd hm
          refine bj (fun _ => dU y2 (y13.getD x16.toNat default) _ hc20) (by first | trivial | exact bP rfl) (by first | trivial | (intro _; first | trivial | simp [aK]) | simp [aK]) rfl (fun _ => rfl) ?_
          refine aS ?_;refine gax (a2 h19b h19c) ?_;refine hk _ _ ?_;clear hk k
          by_cases h21 : y18 = true
          ·rw [if_pos h21] at hm;refine aj rfl (by rw [show y18 = true from (h21)]; rfl) ?_;refine ar ?_;refine ax ?_;refine am (hk6 _ _ ?_);refine bm ?_;refine aB (IntKind.wrap .i64 (x16 + 1)) () hm ?_
           first | (simp only [bS, bX, reduceIte, ↓reduceIte, reduceCtorEq, Int.reduceToNat, Nat.reduceDiv, Nat.reduceMod, Nat.reduceLT, Nat.reduceLeDiff, Nat.reduceAdd, Nat.reduceSub, Nat.reduceMul, Nat.reduceEqDiff, Nat.reduceBEq, Nat.reduceBNe, Nat.reduceGT] <;> first | done | (and_intros <;> first | rfl | (simp; done) | omega | (simp [lit, bX, eK, eB, eS, eL]; done) | (simp only [bw, List.length_cons, List.length_nil, List.length_append, List.length_set, List.length_replicate, List.length_map, List.length_take, List.length_drop]; omega))) | (simp only [bS, bX, reduceIte, ↓reduceIte, reduceCtorEq, Int.reduceToNat, Nat.reduceDiv, Nat.reduceMod, Nat.reduceLT, Nat.reduceLeDiff, Nat.reduceAdd, Nat.reduceSub, Nat.reduceMul, Nat.reduceEqDiff, Nat.reduceBEq, Nat.reduceBNe, Nat.reduceGT, *] <;> first | done | (and_intros <;> first | rfl | (simp; done) | omega | (simp [lit, bX, eK, eB, eS, eL]; done) | (simp only [bw, List.length_cons, List.length_nil, List.length_append, List.length_set, List.length_replicate, List.length_map, List.length_take, List.length_drop]; omega)))
          ·rw [if_neg h21] at hm;refine ah rfl (by rw [show y18 = false from (Bool.eq_false_iff.2 h21)]; rfl) ?_;refine aJ [1, 8, 9, 10, 11, 151, 152, 153] fun k kp hk hp => ?_;refine go ?_;obtain ⟨y19, hc22, hm⟩ := bd hm;refine RP (fun _ => cn 9 x12 _ hc22) ?_;refine aa ?_;refine go ?_;refine hk _ _ ?_;clear hk hp k kp;have ho23 := az hm hr3;subst ho23;replace hm : some (.inr (.inr (y19))) = some r2 := hm3;have ho24 := az hm hr2;subst ho24;replace hm : some (y19) = some r := hm2;refine an ?_;refine ag ?_;refine ai ?_;refine aG ?_;refine ag ?_;refine ag ?_;refine ay ?_;refine aG ?_;refine ag ?_;refine ay ?_;refine ab [] ?_;obtain rfl := Option.some.inj hm;exact en
        ·rw [if_neg h16] at hm;refine aj rfl (decide_eq_false h16) ?_;refine aY ?_;have ho25 := az hm hr3;subst ho25;replace hm : fX x12 = some r2 := hm3;refine aP ?_;refine aL ?_;refine aA ?_;refine ax ?_;refine av () () hm ?_;exact ls
      ·rintro _ _ hm;replace hm : fX x12 = some r2 := hm;refine aD ?_;unfold fX at hm;refine bm ?_;refine aB (IntKind.wrap .i64 (x12 + 1)) () hm ?_;exact ls
     ·rw [if_neg h13] at hm;refine aj rfl (decide_eq_false h13) ?_;refine aY ?_;have ho26 := az hm hr2;subst ho26;replace hm : fW p1 y2 = some r := hm2;refine aP ?_;refine aL ?_;refine aA ?_;refine av () () hm ?_;exact ls
   ·rintro _ _ hm;replace hm : fW p1 y2 = some r := hm;refine aD ?_;unfold fW at hm;refine aF (S := Unit) (V := Unit) [1, 8, 12, 154, 155, 156, 157, 158, 159, 160, 161, 162, 163, 164, 165, 166, 167, 168, 169, 170, 171, 172, 173, 174, 175, 176, 177, 178, 179, 180] (fun _ _ => []) (fun _ _ => [.box [.tree 2 (p1.vars.map ak.enc), .tree 1 (p1.in_.map (eK .i64)), .tree 1 (p1.out_.map (eK .i64)), .tree 6 (p1.rules.map ae.enc)], .box [.int .i64 0, .int .i64 0], .box [.int .i64 ((y1).code), .int .i64 ((y1).at_)]]) (fun _ => i2 = some r) ?_ ?_
    ·skip;refine ao [] ?_
     refine aw ?_;obtain ⟨o1, hl1, hm1⟩ := bd hm;refine aQ (S := Int) (V := Unit) (O := Unit ⊕ au) [12, 154, 155, 156, 157, 158, 159, 160, 161, 162, 163, 164, 165, 166, 167, 168, 169, 170, 171, 172, 173, 174, 175, 176, 177, 178, 179, 180] (fun x5 _ => [(12, .c (.int .i64 x5))]) (fun x5 _ => [.box [.tree 2 (p1.vars.map ak.enc), .tree 1 (p1.in_.map (eK .i64)), .tree 1 (p1.out_.map (eK .i64)), .tree 6 (p1.rules.map ae.enc)], .box [.int .i64 0, .int .i64 0], .box [.int .i64 ((y1).code), .int .i64 ((y1).at_)]]) _ _ () hl1 ?_ ?_
     ·exact ls
     ·rintro x5 _ r1 hm hr1;replace hm : fV p1 y2 x5 = some r1 := hm;refine aD ?_;unfold fV at hm;refine aq fun k2 hk2 => ?_;refine ao [154, 155, 156, 157] ?_
      by_cases h4 : x5 < (p1.out_.length : Int)
      ·rw [if_pos h4] at hm;refine ah rfl (decide_eq_true h4) ?_;refine ar ?_;refine am (hk2 _ _ ?_);refine aq fun k3 hk3 => ?_;refine aw ?_;obtain ⟨hg5a, hm⟩ := gd hm;refine dl [158, 161, 162, 163, 164, 165, 166, 167, 168, 169, 170, 171, 172, 173, 174, 175, 176, 177, 178] (by kernel_rfl) [0, 1, 0, 4, 0, 28, 60, 127, 255, 511, 1023, 1023, 3071, 1023, 15359, 31743, 65535, 131071, 262143] [false, false, false, false, false, false, false, true, true, true, false, false, false, false, false, false, true, true, true] (by kernel_rfl) fun k hk => ?_;refine aS ?_;refine gax (em (eK .i64) p1.out_ x5.toNat) ?_;obtain ⟨y6, hc6, hm⟩ := bd hm
       refine bj (fun _ => dU p1.in_ (p1.out_.getD x5.toNat default) _ hc6) (by first | trivial | exact bP rfl) (by first | trivial | (intro _; first | trivial | simp [aK]) | simp [aK]) rfl (fun _ => rfl) ?_
       by_cases h7 : y6 = true
       ·rw [if_pos h7] at hm;have h7b := h7
        have h7c : (!y6) = false := by rw [h7b]; rfl
        refine aS ?_;refine gax (a2 h7b h7c) ?_;refine hk _ _ ?_;clear hk k;refine aj rfl rfl ?_;refine ar ?_;refine ax ?_;refine am (hk3 _ _ ?_);refine bm ?_;refine aB (IntKind.wrap .i64 (x5 + 1)) () hm ?_
        first | (simp only [bS, bX, reduceIte, ↓reduceIte, reduceCtorEq, Int.reduceToNat, Nat.reduceDiv, Nat.reduceMod, Nat.reduceLT, Nat.reduceLeDiff, Nat.reduceAdd, Nat.reduceSub, Nat.reduceMul, Nat.reduceEqDiff, Nat.reduceBEq, Nat.reduceBNe, Nat.reduceGT] <;> first | done | (and_intros <;> first | rfl | (simp; done) | omega | (simp [lit, bX, eK, eB, eS, eL]; done) | (simp only [bw, List.length_cons, List.length_nil, List.length_append, List.length_set, List.length_replicate, List.length_map, List.length_take, List.length_drop]; omega))) | (simp only [bS, bX, reduceIte, ↓reduceIte, reduceCtorEq, Int.reduceToNat, Nat.reduceDiv, Nat.reduceMod, Nat.reduceLT, Nat.reduceLeDiff, Nat.reduceAdd, Nat.reduceSub, Nat.reduceMul, Nat.reduceEqDiff, Nat.reduceBEq, Nat.reduceBNe, Nat.reduceGT, *] <;> first | done | (and_intros <;> first | rfl | (simp; done) | omega | (simp [lit, bX, eK, eB, eS, eL]; done) | (simp only [bw, List.length_cons, List.length_nil, List.length_append, List.length_set, List.length_replicate, List.length_map, List.length_take, List.length_drop]; omega)))
       ·rw [if_neg h7] at hm;have h7b := Bool.eq_false_iff.2 h7
        have h7c : (!y6) = true := by rw [h7b]; rfl
        refine aS ?_;refine gax (a2 (em (eK .i64) p1.out_ x5.toNat) (a2 h7b h7c)) ?_;obtain ⟨y7, hc8, hm⟩ := bd hm
        refine bj (fun _ => dU y2 (p1.out_.getD x5.toNat default) _ hc8) (by first | trivial | exact bP rfl) (by first | trivial | (intro _; first | trivial | simp [aK]) | simp [aK]) rfl (fun _ => rfl) ?_
        refine aS ?_;refine gax (a2 h7b h7c) ?_;refine hk _ _ ?_;clear hk k
        by_cases h9 : y7 = true
        ·rw [if_pos h9] at hm;refine aj rfl (by rw [show y7 = true from (h9)]; rfl) ?_;refine ar ?_;refine ax ?_;refine am (hk3 _ _ ?_);refine bm ?_;refine aB (IntKind.wrap .i64 (x5 + 1)) () hm ?_
         first | (simp only [bS, bX, reduceIte, ↓reduceIte, reduceCtorEq, Int.reduceToNat, Nat.reduceDiv, Nat.reduceMod, Nat.reduceLT, Nat.reduceLeDiff, Nat.reduceAdd, Nat.reduceSub, Nat.reduceMul, Nat.reduceEqDiff, Nat.reduceBEq, Nat.reduceBNe, Nat.reduceGT] <;> first | done | (and_intros <;> first | rfl | (simp; done) | omega | (simp [lit, bX, eK, eB, eS, eL]; done) | (simp only [bw, List.length_cons, List.length_nil, List.length_append, List.length_set, List.length_replicate, List.length_map, List.length_take, List.length_drop]; omega))) | (simp only [bS, bX, reduceIte, ↓reduceIte, reduceCtorEq, Int.reduceToNat, Nat.reduceDiv, Nat.reduceMod, Nat.reduceLT, Nat.reduceLeDiff, Nat.reduceAdd, Nat.reduceSub, Nat.reduceMul, Nat.reduceEqDiff, Nat.reduceBEq, Nat.reduceBNe, Nat.reduceGT, *] <;> first | done | (and_intros <;> first | rfl | (simp; done) | omega | (simp [lit, bX, eK, eB, eS, eL]; done) | (simp only [bw, List.length_cons, List.length_nil, List.length_append, List.length_set, List.length_replicate, List.length_map, List.length_take, List.length_drop]; omega)))
        ·rw [if_neg h9] at hm;refine ah rfl (by rw [show y7 = false from (Bool.eq_false_iff.2 h9)]; rfl) ?_;refine aJ [1, 8, 12, 179, 180] fun k kp hk hp => ?_;refine go ?_;obtain ⟨y8, hc10, hm⟩ := bd hm;refine RP (fun _ => cn 9 (-1) _ hc10) ?_;refine aa ?_;refine go ?_;refine hk _ _ ?_;clear hk hp k kp;have ho11 := az hm hr1;subst ho11;replace hm : some (y8) = some r := hm1;refine an ?_;refine ag ?_;refine ai ?_;refine aG ?_;refine ag ?_;refine ay ?_;refine ab [] ?_;obtain rfl := Option.some.inj hm;exact en
      ·rw [if_neg h4] at hm;refine aj rfl (decide_eq_false h4) ?_;refine aY ?_;have ho12 := az hm hr1;subst ho12;replace hm : i2 = some r := hm1;refine aP ?_;refine aL ?_;refine aA ?_;refine av () () hm ?_;exact ls
    ·rintro _ _ hm;replace hm : i2 = some r := hm;refine aD ?_;unfold i2 at hm;refine ao [181] ?_;refine an ?_;refine ab [] ?_;obtain rfl := Option.some.inj hm;exact en
end Pam

namespace Pam
open Go Go.Proofs
set_option maxRecDepth 100000 in
set_option maxHeartbeats 1000000 in
theorem gg (p1 : List Int) (p2 : List Int) (r : Bool) (hm : eC p1 p2 = some r) : bU Try.prog 22 [.c (.tree 1 (p1.map (eK .i64))), .c (.tree 1 (p2.map (eK .i64)))] (.c (.bool r)) := by
 refine aN 26 [.tmp 4] Try.func22 rfl rfl rfl (by kernel_rfl) (by simp) ?_;refine bu ?_;unfold eC at hm;refine ao [4] ?_;refine aq fun k1 hk1 => ?_;refine ao [6, 7, 8, 9] ?_
 by_cases h1 : ¬ (p1.length : Int) = (p2.length : Int)
 ·rw [if_pos h1] at hm;refine ah rfl (bne_iff_ne.2 h1) ?_;refine ao [0, 1, 10] ?_;refine an ?_;refine ai ?_;refine ab [] ?_;obtain rfl := Option.some.inj hm;exact en
 ·rw [if_neg h1] at hm;refine aj rfl (bne_eq_false_iff_eq.2 (Decidable.not_not.1 h1)) ?_;refine ar ?_;refine am (hk1 _ _ ?_);refine aF (S := Unit) (V := Unit) [0, 1, 4, 5, 10, 11, 12, 13, 14, 15, 16, 17, 18, 19, 20, 21, 22, 23, 24, 25] (fun _ _ => []) (fun _ _ => []) (fun _ => i7 = some r) ?_ ?_
  ·skip;refine ao [10] ?_
   refine aw ?_;obtain ⟨o1, hl1, hm1⟩ := bd hm;refine aQ (S := Int) (V := Unit) (O := Unit ⊕ Bool) [4, 5, 11, 12, 13, 14, 15, 16, 17, 18, 19, 20, 21, 22, 23, 24, 25] (fun x3 _ => [(5, .c (.int .i64 x3))]) (fun x3 _ => []) _ _ () hl1 ?_ ?_
   ·exact ls
   ·rintro x3 _ r1 hm hr1;replace hm : i8 p1 p2 x3 = some r1 := hm;refine aD ?_;unfold i8 at hm;refine aq fun k2 hk2 => ?_;refine ao [11, 12, 13] ?_
    by_cases h2 : x3 < (p1.length : Int)
    ·rw [if_pos h2] at hm;refine ah rfl (decide_eq_true h2) ?_;refine ar ?_;refine am (hk2 _ _ ?_);refine aq fun k3 hk3 => ?_;refine aw ?_;obtain ⟨⟨hg3a, hg3b⟩, hm⟩ := gd hm;refine mR (a2 (em (eK .i64) p1 x3.toNat) (em (eK .i64) p2 x3.toNat)) [14, 17, 18, 19, 20, 21, 22, 23, 24] [0, 0, 3, 7, 0, 0, 48, 112, 255] [false, false, false, false, false, false, false, false, true] ?_
     by_cases h4 : ¬ (p1.getD x3.toNat default) = (p2.getD x3.toNat default)
     ·rw [if_pos h4] at hm;refine ah rfl (bne_iff_ne.2 h4) ?_;refine ao [0, 1, 5, 25] ?_;have ho5 := az hm hr1;subst ho5;replace hm : some false = some r := hm1;refine an ?_;refine ag ?_;refine ai ?_;refine aG ?_;refine ag ?_;refine ay ?_;refine ab [] ?_;obtain rfl := Option.some.inj hm;exact en
     ·rw [if_neg h4] at hm;refine aj rfl (bne_eq_false_iff_eq.2 (Decidable.not_not.1 h4)) ?_;refine ar ?_;refine ax ?_;refine am (hk3 _ _ ?_);refine bm ?_;refine aB (IntKind.wrap .i64 (x3 + 1)) () hm ?_;exact ls
    ·rw [if_neg h2] at hm;refine aj rfl (decide_eq_false h2) ?_;refine aY ?_;have ho6 := az hm hr1;subst ho6;replace hm : i7 = some r := hm1;refine aP ?_;refine aL ?_;refine aA ?_;refine av () () hm ?_;exact ls
  ·rintro _ _ hm;replace hm : i7 = some r := hm;refine aD ?_;unfold i7 at hm;refine ao [] ?_;refine an ?_;refine ab [] ?_;obtain rfl := Option.some.inj hm;exact en
end Pam

namespace Pam
open Go Go.Proofs
set_option maxRecDepth 100000 in
set_option maxHeartbeats 1000000 in
theorem sF (p1 : List aI) (p2 : List aI) (r : Bool) (hm : kS p1 p2 = some r) : bU Try.prog 75 [.c (.tree 4 (p1.map aI.enc)), .c (.tree 4 (p2.map aI.enc))] (.c (.bool r)) := by
 refine aN 26 [.tmp 4] Try.func75 rfl rfl rfl (by kernel_rfl) (by simp) ?_;refine bu ?_;unfold kS at hm;refine ao [4] ?_;refine aq fun k1 hk1 => ?_;refine ao [6, 7, 8, 9] ?_
 by_cases h1 : ¬ (p1.length : Int) = (p2.length : Int)
 ·rw [if_pos h1] at hm;refine ah rfl (bne_iff_ne.2 h1) ?_;refine ao [0, 1, 10] ?_;refine an ?_;refine ai ?_;refine ab [] ?_;obtain rfl := Option.some.inj hm;exact en
 ·rw [if_neg h1] at hm;refine aj rfl (bne_eq_false_iff_eq.2 (Decidable.not_not.1 h1)) ?_;refine ar ?_;refine am (hk1 _ _ ?_);refine aF (S := Unit) (V := Unit) [0, 1, 4, 5, 10, 11, 12, 13, 14, 15, 16, 17, 18, 19, 20, 21, 22, 23, 24, 25] (fun _ _ => []) (fun _ _ => []) (fun _ => i9 = some r) ?_ ?_
  ·skip;refine ao [10] ?_
   refine aw ?_;obtain ⟨o1, hl1, hm1⟩ := bd hm;refine aQ (S := Int) (V := Unit) (O := Unit ⊕ Bool) [4, 5, 11, 12, 13, 14, 15, 16, 17, 18, 19, 20, 21, 22, 23, 24, 25] (fun x3 _ => [(5, .c (.int .i64 x3))]) (fun x3 _ => []) _ _ () hl1 ?_ ?_
   ·exact ls
   ·rintro x3 _ r1 hm hr1;replace hm : ja p1 p2 x3 = some r1 := hm;refine aD ?_;unfold ja at hm;refine aq fun k2 hk2 => ?_;refine ao [11, 12, 13] ?_
    by_cases h2 : x3 < (p1.length : Int)
    ·rw [if_pos h2] at hm;refine ah rfl (decide_eq_true h2) ?_;refine ar ?_;refine am (hk2 _ _ ?_);refine aq fun k3 hk3 => ?_;refine aw ?_;obtain ⟨⟨hg3a, hg3b⟩, hm⟩ := gd hm;refine mR (a2 (em aI.enc p1 x3.toNat) (em aI.enc p2 x3.toNat)) [14, 17, 18, 19, 20, 21, 22, 23, 24] [0, 0, 3, 7, 0, 0, 48, 112, 255] [false, false, false, false, false, false, false, false, true] ?_
     by_cases h4 : ((p1.getD x3.toNat default).op) = ((p2.getD x3.toNat default).op) ∧ ((p1.getD x3.toNat default).k) = ((p2.getD x3.toNat default).k) ∧ ((p1.getD x3.toNat default).v) = ((p2.getD x3.toNat default).v) ∧ ((p1.getD x3.toNat default).n) = ((p2.getD x3.toNat default).n)
     ·rw [if_pos h4] at hm;refine aj rfl (by rw [show ((((p1.getD x3.toNat default).op) == ((p2.getD x3.toNat default).op)) && ((((p1.getD x3.toNat default).k) == ((p2.getD x3.toNat default).k)) && ((((p1.getD x3.toNat default).v) == ((p2.getD x3.toNat default).v)) && (((p1.getD x3.toNat default).n) == ((p2.getD x3.toNat default).n))))) = true from (by simpa [Bool.and_eq_true] using h4)]; rfl) ?_;refine ar ?_;refine ax ?_;refine am (hk3 _ _ ?_);refine bm ?_;refine aB (IntKind.wrap .i64 (x3 + 1)) () hm ?_;exact ls
     ·rw [if_neg h4] at hm;refine ah rfl (by rw [show ((((p1.getD x3.toNat default).op) == ((p2.getD x3.toNat default).op)) && ((((p1.getD x3.toNat default).k) == ((p2.getD x3.toNat default).k)) && ((((p1.getD x3.toNat default).v) == ((p2.getD x3.toNat default).v)) && (((p1.getD x3.toNat default).n) == ((p2.getD x3.toNat default).n))))) = false from (Bool.eq_false_iff.2 (fun hh => h4 (by simpa [Bool.and_eq_true] using hh)))]; rfl) ?_;refine ao [0, 1, 5, 25] ?_;have ho5 := az hm hr1;subst ho5;replace hm : some false = some r := hm1;refine an ?_;refine ag ?_;refine ai ?_;refine aG ?_;refine ag ?_;refine ay ?_;refine ab [] ?_;obtain rfl := Option.some.inj hm;exact en
    ·rw [if_neg h2] at hm;refine aj rfl (decide_eq_false h2) ?_;refine aY ?_;have ho6 := az hm hr1;subst ho6;replace hm : i9 = some r := hm1;refine aP ?_;refine aL ?_;refine aA ?_;refine av () () hm ?_;exact ls
  ·rintro _ _ hm;replace hm : i9 = some r := hm;refine aD ?_;unfold i9 at hm;refine ao [] ?_;refine an ?_;refine ab [] ?_;obtain rfl := Option.some.inj hm;exact en
end Pam

namespace Pam
open Go Go.Proofs
set_option maxRecDepth 100000 in
set_option maxHeartbeats 1000000 in
theorem mm (p1 : ae) (p2 : ae) (r : Bool) (hm : fb p1 p2 = some r) : bU Try.prog 38 [.a [.int .i64 p1.op, .int .i64 p1.k, .int .i64 p1.out_, .int .i64 p1.n, .tree 1 (p1.a.map (eK .i64)), .tree 4 (p1.e.map aI.enc)], .a [.int .i64 p2.op, .int .i64 p2.k, .int .i64 p2.out_, .int .i64 p2.n, .tree 1 (p2.a.map (eK .i64)), .tree 4 (p2.e.map aI.enc)]] (.c (.bool r)) := by
 refine aN 45 [.tmp 4] Try.func38 rfl rfl rfl (by kernel_rfl) (by simp) ?_;refine bu ?_;unfold fb at hm;refine ao [0, 1, 4] ?_;refine bx [2, 3, 5, 6, 7, 8, 9, 10, 11, 12, 13, 14, 15, 16, 17, 18, 19, 20, 21, 22, 23, 24, 25, 26, 27, 28, 29, 30, 31, 32, 33, 34, 35, 36, 37, 38, 39, 40, 41, 42, 43, 44] fun k kp hk hp => ?_;refine ap 6 ?_;refine go ?_
 by_cases h1 : p1.op = p2.op
 ·rw [if_pos h1] at hm;have h1b := beq_iff_eq.2 h1;refine ap 7 ?_;refine gox h1b ?_
  by_cases h2 : p1.k = p2.k
  ·rw [if_pos h2] at hm;have h2b := beq_iff_eq.2 h2;refine ap 7 ?_;refine gox (a2 h1b h2b) ?_
   by_cases h3 : p1.out_ = p2.out_
   ·rw [if_pos h3] at hm;have h3b := beq_iff_eq.2 h3;refine ap 7 ?_;refine gox (a2 h1b (a2 h2b h3b)) ?_
    by_cases h4 : p1.n = p2.n
    ·rw [if_pos h4] at hm;have h4b := beq_iff_eq.2 h4;refine aa ?_;refine gox (a2 h1b (a2 h2b (a2 h3b h4b))) ?_;obtain ⟨y1, hc5, hm⟩ := bd hm;refine RP (fun _ => gg p1.a p2.a _ hc5) ?_
     by_cases h6 : y1 = true
     ·rw [if_pos h6] at hm;have h6b := h6;refine aa ?_;refine gox (a2 h1b (a2 h2b (a2 h3b (a2 h4b h6b)))) ?_;obtain ⟨y2, hc7, hm⟩ := bd hm;refine RP (fun _ => sF p1.e p2.e _ hc7) ?_;refine aa ?_;refine gox (a2 h1b (a2 h2b (a2 h3b (a2 h4b h6b)))) ?_;refine hk _ _ ?_;clear hk hp k kp;refine an ?_;refine ab [] ?_;obtain rfl := Option.some.inj hm;exact en
     ·rw [if_neg h6] at hm;have h6b := Bool.eq_false_iff.2 h6;refine aa ?_;refine gox (a2 h1b (a2 h2b (a2 h3b (a2 h4b h6b)))) ?_;refine hk _ _ ?_;clear hk hp k kp;refine an ?_;refine ab [] ?_;obtain rfl := Option.some.inj hm;exact en
    ·rw [if_neg h4] at hm;have h4b := beq_eq_false_iff_ne.2 h4;refine aa ?_;refine gox (a2 h1b (a2 h2b (a2 h3b h4b))) ?_;refine hk _ _ ?_;clear hk hp k kp;refine an ?_;refine ab [] ?_;obtain rfl := Option.some.inj hm;exact en
   ·rw [if_neg h3] at hm;have h3b := beq_eq_false_iff_ne.2 h3;refine aa ?_;refine gox (a2 h1b (a2 h2b h3b)) ?_;refine hk _ _ ?_;clear hk hp k kp;refine an ?_;refine ab [] ?_;obtain rfl := Option.some.inj hm;exact en
  ·rw [if_neg h2] at hm;have h2b := beq_eq_false_iff_ne.2 h2;refine aa ?_;refine gox (a2 h1b h2b) ?_;refine hk _ _ ?_;clear hk hp k kp;refine an ?_;refine ab [] ?_;obtain rfl := Option.some.inj hm;exact en
 ·rw [if_neg h1] at hm;have h1b := beq_eq_false_iff_ne.2 h1;refine aa ?_;refine gox h1b ?_;refine hk _ _ ?_;clear hk hp k kp;refine an ?_;refine ab [] ?_;obtain rfl := Option.some.inj hm;exact en
end Pam

namespace Pam
open Go Go.Proofs
set_option maxRecDepth 100000 in
set_option maxHeartbeats 8000000 in
theorem jp (p1 : af) (p2 : af) (r : Bool) (hm : c9 p1 p2 = some r) : bU Try.prog 45 [.a [.tree 2 (p1.vars.map ak.enc), .tree 1 (p1.in_.map (eK .i64)), .tree 1 (p1.out_.map (eK .i64)), .tree 6 (p1.rules.map ae.enc)], .a [.tree 2 (p2.vars.map ak.enc), .tree 1 (p2.in_.map (eK .i64)), .tree 1 (p2.out_.map (eK .i64)), .tree 6 (p2.rules.map ae.enc)]] (.c (.bool r)) := by
 refine aN 76 [.tmp 4] Try.func45 rfl rfl rfl (by kernel_rfl) (by simp) ?_;refine bu ?_;unfold c9 at hm;refine ao [0, 1, 4] ?_;refine aq fun k1 hk1 => ?_;refine bx [7, 8, 9, 10, 11, 12, 13, 14, 15, 16, 17, 18, 19, 20, 21, 22, 23, 24, 25, 26, 27, 28, 29, 30, 31, 32, 33, 34, 35, 36, 37] fun k kp hk hp => ?_;refine ap 8 ?_;refine go ?_
 by_cases h1 : ¬ (p1.vars.length : Int) = (p2.vars.length : Int)
 ·rw [if_pos h1] at hm;have h1b := bne_iff_ne.2 h1;refine aa ?_;refine gox h1b ?_;refine hk _ _ ?_;clear hk hp k kp;refine ah rfl rfl ?_;refine ao [2, 3, 38] ?_;refine an ?_;refine ai ?_;refine ab [] ?_;obtain rfl := Option.some.inj hm;exact en
 ·rw [if_neg h1] at hm;have h1b : ((p1.vars.length : Int) != (p2.vars.length : Int)) = false := bne_eq_false_iff_eq.2 (Decidable.not_not.1 h1);refine ap 9 ?_;refine gox h1b ?_
  by_cases h2 : ¬ (p1.rules.length : Int) = (p2.rules.length : Int)
  ·rw [if_pos h2] at hm;have h2b := bne_iff_ne.2 h2;refine aa ?_;refine gox (a2 h1b h2b) ?_;refine hk _ _ ?_;clear hk hp k kp;refine ah rfl rfl ?_;refine ao [2, 3, 38] ?_;refine an ?_;refine ai ?_;refine ab [] ?_;obtain rfl := Option.some.inj hm;exact en
  ·rw [if_neg h2] at hm;have h2b : ((p1.rules.length : Int) != (p2.rules.length : Int)) = false := bne_eq_false_iff_eq.2 (Decidable.not_not.1 h2);refine aa ?_;refine gox (a2 h1b h2b) ?_;obtain ⟨y1, hc3, hm⟩ := bd hm;refine RP (fun _ => gg p1.in_ p2.in_ _ hc3) ?_
   by_cases h4 : y1 = true
   ·rw [if_pos h4] at hm;have h4b := h4
    have h4c : (!y1) = false := by rw [h4b]; rfl
    refine aa ?_;refine gox (a2 h1b (a2 h2b (a2 h4b h4c))) ?_;obtain ⟨y2, hc5, hm⟩ := bd hm;refine RP (fun _ => gg p1.out_ p2.out_ _ hc5) ?_;refine aa ?_;refine gox (a2 h1b (a2 h2b (a2 h4b h4c))) ?_;refine hk _ _ ?_;clear hk hp k kp
    by_cases h6 : y2 = true
    ·rw [if_pos h6] at hm;refine aj rfl (by rw [show y2 = true from (h6)]; rfl) ?_;refine ar ?_;refine am (hk1 _ _ ?_);refine aF (S := Unit) (V := Unit) [4, 5, 38, 39, 40, 41, 42, 43, 44, 45, 46, 47, 48, 49, 50, 51, 52, 53, 54, 55, 56] (fun _ _ => []) (fun _ _ => [.box [.tree 2 (p1.vars.map ak.enc), .tree 1 (p1.in_.map (eK .i64)), .tree 1 (p1.out_.map (eK .i64)), .tree 6 (p1.rules.map ae.enc)], .box [.tree 2 (p2.vars.map ak.enc), .tree 1 (p2.in_.map (eK .i64)), .tree 1 (p2.out_.map (eK .i64)), .tree 6 (p2.rules.map ae.enc)]]) (fun _ => eV p1 p2 = some r) ?_ ?_
     ·skip;refine ao [38] ?_
      refine aw ?_;obtain ⟨o2, hl2, hm2⟩ := bd hm;refine aQ (S := Int) (V := Unit) (O := Unit ⊕ Bool) [4, 5, 39, 40, 41, 42, 43, 44, 45, 46, 47, 48, 49, 50, 51, 52, 53, 54, 55, 56] (fun x10 _ => [(5, .c (.int .i64 x10))]) (fun x10 _ => [.box [.tree 2 (p1.vars.map ak.enc), .tree 1 (p1.in_.map (eK .i64)), .tree 1 (p1.out_.map (eK .i64)), .tree 6 (p1.rules.map ae.enc)], .box [.tree 2 (p2.vars.map ak.enc), .tree 1 (p2.in_.map (eK .i64)), .tree 1 (p2.out_.map (eK .i64)), .tree 6 (p2.rules.map ae.enc)]]) _ _ () hl2 ?_ ?_
      ·exact ls
      ·rintro x10 _ r2 hm hr2;replace hm : gN p1 p2 x10 = some r2 := hm;refine aD ?_;unfold gN at hm;refine aq fun k4 hk4 => ?_;refine ao [39, 40, 41, 42] ?_
       by_cases h13 : x10 < (p1.vars.length : Int)
       ·rw [if_pos h13] at hm;refine ah rfl (decide_eq_true h13) ?_;refine ar ?_;refine am (hk4 _ _ ?_);refine aq fun k5 hk5 => ?_;refine aw ?_;obtain ⟨⟨hg14a, hg14b⟩, hm⟩ := gd hm;refine mR (a2 (em ak.enc p1.vars x10.toNat) (em ak.enc p2.vars x10.toNat)) [43, 46, 47, 48, 49, 50, 51, 52, 53, 54, 55] [0, 1, 0, 7, 15, 0, 32, 0, 224, 480, 1023] [false, false, false, false, false, false, false, false, false, false, true] ?_
        by_cases h15 : ((p1.vars.getD x10.toNat default).elem) = ((p2.vars.getD x10.toNat default).elem) ∧ ((p1.vars.getD x10.toNat default).n) = ((p2.vars.getD x10.toNat default).n)
        ·rw [if_pos h15] at hm;refine aj rfl (by rw [show ((((p1.vars.getD x10.toNat default).elem) == ((p2.vars.getD x10.toNat default).elem)) && (((p1.vars.getD x10.toNat default).n) == ((p2.vars.getD x10.toNat default).n))) = true from (by simpa [Bool.and_eq_true] using h15)]; rfl) ?_;refine ar ?_;refine ax ?_;refine am (hk5 _ _ ?_);refine bm ?_;refine aB (IntKind.wrap .i64 (x10 + 1)) () hm ?_;exact ls
        ·rw [if_neg h15] at hm;refine ah rfl (by rw [show ((((p1.vars.getD x10.toNat default).elem) == ((p2.vars.getD x10.toNat default).elem)) && (((p1.vars.getD x10.toNat default).n) == ((p2.vars.getD x10.toNat default).n))) = false from (Bool.eq_false_iff.2 (fun hh => h15 (by simpa [Bool.and_eq_true] using hh)))]; rfl) ?_;refine ao [2, 3, 5, 56] ?_;have ho16 := az hm hr2;subst ho16;replace hm : some false = some r := hm2;refine an ?_;refine ag ?_;refine ai ?_;refine aG ?_;refine ag ?_;refine ay ?_;refine ab [] ?_;obtain rfl := Option.some.inj hm;exact en
       ·rw [if_neg h13] at hm;refine aj rfl (decide_eq_false h13) ?_;refine aY ?_;have ho17 := az hm hr2;subst ho17;replace hm : eV p1 p2 = some r := hm2;refine aP ?_;refine aL ?_;refine aA ?_;refine av () () hm ?_;exact ls
     ·rintro _ _ hm;replace hm : eV p1 p2 = some r := hm;refine aD ?_;unfold eV at hm;refine aF (S := Unit) (V := Unit) [2, 3, 4, 6, 57, 58, 59, 60, 61, 62, 63, 64, 65, 66, 67, 68, 69, 70, 71, 72, 73, 74, 75] (fun _ _ => []) (fun _ _ => [.box [.tree 2 (p1.vars.map ak.enc), .tree 1 (p1.in_.map (eK .i64)), .tree 1 (p1.out_.map (eK .i64)), .tree 6 (p1.rules.map ae.enc)], .box [.tree 2 (p2.vars.map ak.enc), .tree 1 (p2.in_.map (eK .i64)), .tree 1 (p2.out_.map (eK .i64)), .tree 6 (p2.rules.map ae.enc)]]) (fun _ => gL = some r) ?_ ?_
      ·skip;refine ao [] ?_
       refine aw ?_;obtain ⟨o1, hl1, hm1⟩ := bd hm;refine aQ (S := Int) (V := Unit) (O := Unit ⊕ Bool) [4, 6, 57, 58, 59, 60, 61, 62, 63, 64, 65, 66, 67, 68, 69, 70, 71, 72, 73, 74, 75] (fun x5 _ => [(6, .c (.int .i64 x5))]) (fun x5 _ => [.box [.tree 2 (p1.vars.map ak.enc), .tree 1 (p1.in_.map (eK .i64)), .tree 1 (p1.out_.map (eK .i64)), .tree 6 (p1.rules.map ae.enc)], .box [.tree 2 (p2.vars.map ak.enc), .tree 1 (p2.in_.map (eK .i64)), .tree 1 (p2.out_.map (eK .i64)), .tree 6 (p2.rules.map ae.enc)]]) _ _ () hl1 ?_ ?_
       ·exact ls
       ·rintro x5 _ r1 hm hr1;replace hm : gM p1 p2 x5 = some r1 := hm;refine aD ?_;unfold gM at hm;refine aq fun k2 hk2 => ?_;refine ao [57, 58, 59, 60] ?_
        by_cases h7 : x5 < (p1.rules.length : Int)
        ·rw [if_pos h7] at hm;refine ah rfl (decide_eq_true h7) ?_;refine ar ?_;refine am (hk2 _ _ ?_);refine aq fun k3 hk3 => ?_;refine aw ?_;obtain ⟨⟨hg8a, hg8b⟩, hm⟩ := gd hm;refine lm [61, 64, 65, 66, 67, 68, 69, 70, 71, 72, 73, 74] (by kernel_rfl) [0, 1, 0, 7, 15, 0, 32, 0, 224, 480, 1023, 2047] [false, false, false, false, false, false, false, false, false, false, true, true] (by kernel_rfl) fun k hk => ?_;refine gax (a2 (em ae.enc p1.rules x5.toNat) (em ae.enc p2.rules x5.toNat)) ?_;obtain ⟨y6, hc9, hm⟩ := bd hm;refine AP (fun _ => mm (p1.rules.getD x5.toNat default) (p2.rules.getD x5.toNat default) _ hc9) ?_;refine ga ?_;refine hk _ _ ?_;clear hk k
         by_cases h10 : y6 = true
         ·rw [if_pos h10] at hm;refine aj rfl (by rw [show y6 = true from (h10)]; rfl) ?_;refine ar ?_;refine ax ?_;refine am (hk3 _ _ ?_);refine bm ?_;refine aB (IntKind.wrap .i64 (x5 + 1)) () hm ?_;exact ls
         ·rw [if_neg h10] at hm;refine ah rfl (by rw [show y6 = false from (Bool.eq_false_iff.2 h10)]; rfl) ?_;refine ao [2, 3, 6, 75] ?_;have ho11 := az hm hr1;subst ho11;replace hm : some false = some r := hm1;refine an ?_;refine ag ?_;refine ai ?_;refine aG ?_;refine ag ?_;refine ay ?_;refine ab [] ?_;obtain rfl := Option.some.inj hm;exact en
        ·rw [if_neg h7] at hm;refine aj rfl (decide_eq_false h7) ?_;refine aY ?_;have ho12 := az hm hr1;subst ho12;replace hm : gL = some r := hm1;refine aP ?_;refine aL ?_;refine aA ?_;refine av () () hm ?_;exact ls
      ·rintro _ _ hm;replace hm : gL = some r := hm;refine aD ?_;unfold gL at hm;refine ao [] ?_;refine an ?_;refine ab [] ?_;obtain rfl := Option.some.inj hm;exact en
    ·rw [if_neg h6] at hm;refine ah rfl (by rw [show y2 = false from (Bool.eq_false_iff.2 h6)]; rfl) ?_;refine ao [2, 3, 38] ?_;refine an ?_;refine ai ?_;refine ab [] ?_;obtain rfl := Option.some.inj hm;exact en
   ·rw [if_neg h4] at hm;have h4b := Bool.eq_false_iff.2 h4
    have h4c : (!y1) = true := by rw [h4b]; rfl
    refine aa ?_;refine gox (a2 h1b (a2 h2b (a2 h4b h4c))) ?_;refine hk _ _ ?_;clear hk hp k kp;refine ah rfl rfl ?_;refine ao [2, 3, 38] ?_;refine an ?_;refine ai ?_;refine ab [] ?_;obtain rfl := Option.some.inj hm;exact en
end Pam
