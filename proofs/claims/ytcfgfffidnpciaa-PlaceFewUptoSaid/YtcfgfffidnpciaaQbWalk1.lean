/- the walk of ref_MostOf, printed by a program of ours -/
import Derived.Test.YtcfgfffidnpciaaQBase2
import Derived.Test.YtcfgfffidnpciaaQBase3
import Derived.Test.YtcfgfffidnpciaaQabFun1
import Derived.Test.YtcfgfffidnpciaaQabWalk3
import Derived.Test.YtcfgfffidnpciaaQbFun1
set_option linter.all false
set_option maxRecDepth 100000
set_option maxHeartbeats 8000000
namespace Pam
open Go Go.Proofs
theorem qy (p1 : ab) (r : Int) (hm : j8 p1 = some r) : cz Try.prog 20 [.a [.tree 2 (p1.vars.map ap.enc), .tree 1 (p1.in_.map (eK .i64)), .tree 1 (p1.out_.map (eK .i64)), .tree 6 (p1.rules.map ae.enc)]] (.c (.int .i64 r)) := by
 refine aK 53 [.tmp 2] Try.func20 rfl rfl rfl (by kernel_rfl) (by simp) ?_;refine bH ?_;unfold j8 at hm;refine ak [0, 2] ?_;refine aY [8, 9] fun k kp hk hp => ?_;refine go ?_;obtain ⟨y1, hc1, hm⟩ := bd hm;refine RP (fun _ => mr p1 _ hc1) ?_;refine aa ?_;refine go ?_;refine hk _ _ ?_;clear hk hp k kp;refine ak [] ?_;refine aG (S := Int) (V := Unit) [1, 3, 4, 5, 6, 7, 10, 11, 12, 13, 14, 15, 16, 17, 18, 19, 20, 21, 22, 23, 24, 25, 26, 27, 28, 29, 30, 31, 32, 33, 34, 35, 36, 37, 38, 39, 40, 41, 42, 43, 44, 45, 46, 47, 48, 49, 50, 51] (fun x2 _ => [(4, .c (.int .i64 x2))]) (fun x2 _ => [.box [.tree 2 (p1.vars.map ap.enc), .tree 1 (p1.in_.map (eK .i64)), .tree 1 (p1.out_.map (eK .i64)), .tree 6 (p1.rules.map ae.enc)]]) (fun x2 => iz x2 = some r) ?_ ?_
 ·skip;refine ak [] ?_
  refine aw ?_;obtain ⟨o1, hl1, hm1⟩ := bd hm;refine bg (S := (Int × Int)) (V := Unit) (O := Int) [4, 5, 6, 7, 10, 11, 12, 13, 14, 15, 16, 17, 18, 19, 20, 21, 22, 23, 24, 25, 26, 27, 28, 29, 30, 31, 32, 33, 34, 35, 36, 37, 38, 39, 40, 41, 42, 43, 44, 45, 46, 47, 48, 49, 50, 51] (fun (x7, x8) _ => [(4, .c (.int .i64 x7)), (5, .c (.int .i64 x8))]) (fun (x7, x8) _ => [.box [.tree 2 (p1.vars.map ap.enc), .tree 1 (p1.in_.map (eK .i64)), .tree 1 (p1.out_.map (eK .i64)), .tree 6 (p1.rules.map ae.enc)]]) _ _ () hl1 ?_ ?_
  ·exact ls
  ·rintro ⟨x7, x8⟩ _ r1 hm hr1;replace hm : dh p1 y1 x7 x8 = some r1 := hm;refine aI ?_;unfold dh at hm;refine ao fun k1 hk1 => ?_;refine ak [10, 11, 12, 13] ?_
   by_cases h2 : x8 ≤ (p1.rules.length : Int)
   ·rw [iP h2] at hm;refine ag rfl (dT h2) ?_;refine aq ?_;refine aj (hk1 _ _ ?_);refine aG (S := Int) (V := Unit) [4, 6, 7, 14, 17, 18, 19, 20, 21, 22, 23, 24, 25, 26, 27, 28, 29, 30, 31, 32, 33, 34, 35, 36, 37, 38, 39, 40, 41, 42, 43, 44, 45, 46, 47, 48, 49, 50, 51] (fun x9 _ => [(4, .c (.int .i64 x9))]) (fun x9 _ => [.box [.tree 2 (p1.vars.map ap.enc), .tree 1 (p1.in_.map (eK .i64)), .tree 1 (p1.out_.map (eK .i64)), .tree 6 (p1.rules.map ae.enc)]]) (fun x9 => gO x8 x9 = some r1) ?_ ?_
    ·skip;refine aw ?_
     refine ak [14] ?_;refine aG (S := Int) (V := Unit) [6, 7, 17, 18, 19, 20, 21, 22, 23, 24, 25, 26, 27, 28, 29, 30, 31, 32, 33, 34, 35, 36, 37, 38, 39, 40, 41, 42, 43, 44, 45, 46, 47] (fun x10 _ => [(6, .c (.int .i64 x10))]) (fun x10 _ => [.box [.tree 2 (p1.vars.map ap.enc), .tree 1 (p1.in_.map (eK .i64)), .tree 1 (p1.out_.map (eK .i64)), .tree 6 (p1.rules.map ae.enc)]]) (fun x10 => gP x7 x8 x10 = some r1) ?_ ?_
     ·skip;refine ak [] ?_
      refine aw ?_;obtain ⟨o2, hl2, hm2⟩ := bd hm;refine bg (S := (Int × Int)) (V := Unit) (O := Int) [6, 7, 17, 18, 19, 20, 21, 22, 23, 24, 25, 26, 27, 28, 29, 30, 31, 32, 33, 34, 35, 36, 37, 38, 39, 40, 41, 42, 43, 44, 45, 46, 47] (fun (x15, x16) _ => [(6, .c (.int .i64 x15)), (7, .c (.int .i64 x16))]) (fun (x15, x16) _ => [.box [.tree 2 (p1.vars.map ap.enc), .tree 1 (p1.in_.map (eK .i64)), .tree 1 (p1.out_.map (eK .i64)), .tree 6 (p1.rules.map ae.enc)]]) _ _ () hl2 ?_ ?_
      ·exact ls
      ·rintro ⟨x15, x16⟩ _ r2 hm hr2;replace hm : dg p1 y1 x8 x15 x16 = some r2 := hm;refine aI ?_;unfold dg at hm;refine ao fun k2 hk2 => ?_;refine ak [17, 18, 19] ?_
       by_cases h4 : x16 < (y1.length : Int)
       ·rw [iP h4] at hm;refine ag rfl (dT h4) ?_;refine aq ?_;refine aj (hk2 _ _ ?_);refine ao fun k3 hk3 => ?_;refine aw ?_;obtain ⟨hg5a, hm⟩ := gd hm;refine dX [20, 23, 24, 25, 26, 27, 28, 29, 30, 31, 32, 33, 34, 35, 36, 37] fun k kp hk hp => ?_;refine ay 8 ?_;refine gox (em am.enc y1 x16.toNat) ?_
        by_cases h6 : ((y1.getD x16.toNat default).from_) ≤ x8
        ·rw [iP h6] at hm;have h6b := dT h6;refine aa ?_;refine gox (a2 (em am.enc y1 x16.toNat) h6b) ?_;refine hk _ _ ?_;clear hk hp k kp
         by_cases h7 : ((y1.getD x16.toNat default).to) ≥ x8
         ·rw [iP h7] at hm;refine ag rfl (dT h7) ?_;obtain ⟨hg8a, hm⟩ := gd hm;refine gF fun k kp hk hp => ?_;refine gox (em ap.enc p1.vars x16.toNat) ?_;obtain ⟨y17, hc9, hm⟩ := bd hm;refine RP (fun _ => gD ((p1.vars.getD x16.toNat default).n) _ hc9) ?_;refine aa ?_;refine go ?_;refine hk _ _ ?_;clear hk hp k kp;refine az ?_;refine aj (hk3 _ _ ?_);refine bD ?_;refine aE ((IntKind.wrap .i64 (x15 + y17)), (IntKind.wrap .i64 (x16 + 1))) () hm ?_;exact ls
         ·rw [iN h7] at hm;refine ah rfl (dF h7) ?_;refine aq ?_;refine az ?_;refine aj (hk3 _ _ ?_);refine bD ?_;refine aE (x15, (IntKind.wrap .i64 (x16 + 1))) () hm ?_;exact ls
        ·rw [iN h6] at hm;have h6b := dF h6;refine aa ?_;refine gox h6b ?_;refine hk _ _ ?_;clear hk hp k kp;refine ah rfl rfl ?_;refine aq ?_;refine az ?_;refine aj (hk3 _ _ ?_);refine bD ?_;refine aE (x15, (IntKind.wrap .i64 (x16 + 1))) () hm ?_;exact ls
       ·rw [iN h4] at hm;refine ah rfl (dF h4) ?_;refine bk ?_;have ho10 := aH hm hr2;subst ho10;replace hm : gP x7 x8 x15 = some r1 := hm2;refine aW (aT (aC ?_));refine ar x15 () hm ?_;exact ls
     ·rintro x10 _ hm;replace hm : gP x7 x8 x10 = some r1 := hm;refine aI ?_;unfold gP at hm;refine ak [48, 49] ?_
      by_cases h3 : x10 > x7
      ·rw [iP h3] at hm;refine ag rfl (dT h3) ?_;refine bD ?_;refine az ?_;refine ar x10 () hm ?_;exact ls
      ·rw [iN h3] at hm;refine ah rfl (dF h3) ?_;refine aq ?_;refine az ?_;refine ar x7 () hm ?_;exact ls
    ·rintro x9 _ hm;replace hm : gO x8 x9 = some r1 := hm;refine aI ?_;unfold gO at hm;refine bD ?_;refine aE (x9, (IntKind.wrap .i64 (x8 + 1))) () hm ?_;exact ls
   ·rw [iN h2] at hm;refine ah rfl (dF h2) ?_;refine bk ?_;have ho11 := aH hm hr1;subst ho11;replace hm : iz x7 = some r := hm1;refine aW (aT (aC ?_));refine ar x7 () hm ?_;exact ls
 ·rintro x2 _ hm;replace hm : iz x2 = some r := hm;refine aI ?_;unfold iz at hm;refine ak [4, 52] ?_;refine an ?_
  cases hm
  exact kr 0
theorem oV (p1 : ab) (r : Bool) (hm : jM p1 = some r) : cz Try.prog 5 [.a [.tree 2 (p1.vars.map ap.enc), .tree 1 (p1.in_.map (eK .i64)), .tree 1 (p1.out_.map (eK .i64)), .tree 6 (p1.rules.map ae.enc)]] (.c (.bool r)) := by
 refine aK 95 [.tmp 2] Try.func5 rfl rfl rfl (by kernel_rfl) (by simp) ?_;refine bH ?_;unfold jM at hm;refine ak [0, 2] ?_;refine ao fun k1 hk1 => ?_;refine aY [11] fun k kp hk hp => ?_;refine go ?_;obtain ⟨y1, hc1, hm⟩ := bd hm;refine RP (fun _ => kz  _ hc1) ?_;refine aa ?_;refine go ?_;refine hk _ _ ?_;clear hk hp k kp
 by_cases h2 : y1 = true
 ·rw [iP h2] at hm;refine ah rfl (by rw [show y1 = true from (h2)]; rfl) ?_;refine aq ?_;refine aj (hk1 _ _ ?_);refine ao fun k2 hk2 => ?_;refine aY [12, 13] fun k kp hk hp => ?_;refine go ?_;obtain ⟨y2, hc3, hm⟩ := bd hm;refine RP (fun _ => j7 p1 150 _ hc3) ?_;refine aa ?_;refine go ?_;refine hk _ _ ?_;clear hk hp k kp
  by_cases h4 : y2 = true
  ·rw [iP h4] at hm;refine ag rfl (h4) ?_;refine ak [1, 14] ?_;refine an ?_;refine ai ?_
   cases hm
   exact kr 0
  ·rw [iN h4] at hm;refine ah rfl (fB h4) ?_;refine aq ?_;refine aj (hk2 _ _ ?_);refine aY [14, 15, 16, 17, 18, 19] fun k kp hk hp => ?_;refine go ?_;obtain ⟨y3, hc5, hm⟩ := bd hm;refine RP (fun _ => kE p1 _ hc5) ?_;refine aa ?_;refine go ?_;refine hk _ _ ?_;clear hk hp k kp;refine ao fun k3 hk3 => ?_;refine ak [4, 20, 21] ?_
   by_cases h6 : ¬ ((y3.2).code) = 0
   ·rw [iP h6] at hm;refine ag rfl (bne_iff_ne.2 h6) ?_;refine ak [1, 3, 22] ?_;refine an ?_;refine ai ?_
    cases hm
    exact kr 0
   ·rw [iN h6] at hm;refine ah rfl (bne_eq_false_iff_eq.2 (Decidable.not_not.1 h6)) ?_;refine aq ?_;refine aj (hk3 _ _ ?_);refine ak [22] ?_;refine aG (S := (Int × Int × Int)) (V := Unit) [5, 6, 7, 8, 9, 23, 24, 25, 26, 27, 28, 29, 30, 31, 32, 33, 34, 35, 36, 37, 38, 39, 40, 41, 42, 43, 44, 45, 46, 47, 48, 49, 50, 51, 52, 53, 54, 55, 56, 57] (fun (x4, x5, x6) _ => [(5, .c (.int .i64 x4)), (6, .c (.int .i64 x5)), (7, .c (.int .i64 x6))]) (fun (x4, x5, x6) _ => [.box [.tree 2 (p1.vars.map ap.enc), .tree 1 (p1.in_.map (eK .i64)), .tree 1 (p1.out_.map (eK .i64)), .tree 6 (p1.rules.map ae.enc)], .box [.tree 1 (((y3.1).at_).map (eK .i64)), .tree 1 (((y3.1).keep).map (eK .i64)), .int .i64 ((y3.1).cells)], .box [.int .i64 ((y3.2).code), .int .i64 ((y3.2).at_)]]) (fun (x4, x5, x6) => ef p1 y3 x4 x5 x6 = some r) ?_ ?_
    ·skip;refine ak [] ?_
     refine aw ?_;obtain ⟨o2, hl2, hm2⟩ := bd hm;refine bg (S := (Int × Int × Int × Int)) (V := Unit) (O := (Int × Int × Int)) [5, 6, 7, 8, 9, 23, 24, 25, 26, 27, 28, 29, 30, 31, 32, 33, 34, 35, 36, 37, 38, 39, 40, 41, 42, 43, 44, 45, 46, 47, 48, 49, 50, 51, 52, 53, 54, 55, 56, 57] (fun (x25, x26, x27, x28) _ => [(5, .c (.int .i64 x25)), (6, .c (.int .i64 x26)), (7, .c (.int .i64 x27)), (8, .c (.int .i64 x28))]) (fun (x25, x26, x27, x28) _ => [.box [.tree 2 (p1.vars.map ap.enc), .tree 1 (p1.in_.map (eK .i64)), .tree 1 (p1.out_.map (eK .i64)), .tree 6 (p1.rules.map ae.enc)], .box [.tree 1 (((y3.1).at_).map (eK .i64)), .tree 1 (((y3.1).keep).map (eK .i64)), .int .i64 ((y3.1).cells)], .box [.int .i64 ((y3.2).code), .int .i64 ((y3.2).at_)]]) _ _ () hl2 ?_ ?_
     ·exact ls
     ·rintro ⟨x25, x26, x27, x28⟩ _ r2 hm hr2;replace hm : cQ p1 x25 x26 x27 x28 = some r2 := hm;refine aI ?_;unfold cQ at hm;refine ao fun k6 hk6 => ?_;refine ak [23, 24, 25, 26] ?_
      by_cases h13 : x28 < (p1.rules.length : Int)
      ·rw [iP h13] at hm;refine ag rfl (dT h13) ?_;refine aq ?_;refine aj (hk6 _ _ ?_);refine ao fun k7 hk7 => ?_;refine aw ?_;obtain ⟨⟨hg14a, hg14b⟩, hm⟩ := gd hm;refine nm [27, 30, 31, 32, 33, 34, 35, 36, 37, 38, 39, 40, 41] (by kernel_rfl) [0, 1, 0, 4, 0, 28, 60, 124, 255, 511, 1023, 2047, 4095] [false, false, false, false, false, false, false, false, true, true, true, true, true] (by kernel_rfl) fun k hk => ?_;refine gax (a2 (em ae.enc p1.rules x28.toNat) (em ap.enc p1.vars (((p1.rules.getD x28.toNat default).out_).toNat))) ?_;obtain ⟨y29, hc15, hm⟩ := bd hm;refine AP (fun _ => gD ((p1.vars.getD (((p1.rules.getD x28.toNat default).out_).toNat) default).n) _ hc15) ?_;refine ga ?_;refine hk _ _ ?_;clear hk k;refine aG (S := Int) (V := Unit) [5, 42, 43, 44, 45, 46, 47, 48, 49, 50, 51] (fun x30 _ => [(5, .c (.int .i64 x30))]) (fun x30 _ => [.box [.tree 2 (p1.vars.map ap.enc), .tree 1 (p1.in_.map (eK .i64)), .tree 1 (p1.out_.map (eK .i64)), .tree 6 (p1.rules.map ae.enc)], .box [.tree 1 (((y3.1).at_).map (eK .i64)), .tree 1 (((y3.1).keep).map (eK .i64)), .int .i64 ((y3.1).cells)], .box [.int .i64 ((y3.2).code), .int .i64 ((y3.2).at_)]]) (fun x30 => eU x26 x27 x28 y29 x30 = some r2) ?_ ?_
       ·skip;refine bo (em ae.enc p1.rules x28.toNat) [42, 43, 44, 45, 46, 47] ?_
        by_cases h16 : ((p1.rules.getD x28.toNat default).op) = 13
        ·rw [iP h16] at hm;refine ag rfl (eQ h16) ?_;refine bD ?_;refine ar (IntKind.wrap .i64 (x25 + y29)) () hm ?_;exact ls
        ·rw [iN h16] at hm;refine ah rfl (nB h16) ?_;refine aq ?_;refine ar x25 () hm ?_;exact ls
       ·rintro x30 _ hm;replace hm : eU x26 x27 x28 y29 x30 = some r2 := hm;refine aI ?_;unfold eU at hm;refine ak [52, 53, 54] ?_;refine bD ?_;refine az ?_;refine aj (hk7 _ _ ?_);refine bD ?_;refine aE (x30, (IntKind.wrap .i64 (x26 + y29)), (if y29 > x27 then y29 else x27), (IntKind.wrap .i64 (x28 + 1))) () hm ?_;exact ls
      ·rw [iN h13] at hm;refine ah rfl (dF h13) ?_;refine bk ?_;have ho17 := aH hm hr2;subst ho17;replace hm : ef p1 y3 x25 x26 x27 = some r := hm2;refine aW (aT (aC ?_));refine ar (x25, x26, x27) () hm ?_;exact ls
    ·rintro ⟨x4, x5, x6⟩ _ hm;replace hm : ef p1 y3 x4 x5 x6 = some r := hm;refine aI ?_;unfold ef at hm;refine aG (S := Int) (V := Unit) [6, 10, 58, 59, 60, 61, 62, 63, 64, 65, 66, 67, 68, 69, 70, 71, 72, 73, 74, 75, 76, 77] (fun x7 _ => [(6, .c (.int .i64 x7))]) (fun x7 _ => [.box [.tree 2 (p1.vars.map ap.enc), .tree 1 (p1.in_.map (eK .i64)), .tree 1 (p1.out_.map (eK .i64)), .tree 6 (p1.rules.map ae.enc)], .box [.tree 1 (((y3.1).at_).map (eK .i64)), .tree 1 (((y3.1).keep).map (eK .i64)), .int .i64 ((y3.1).cells)], .box [.int .i64 ((y3.2).code), .int .i64 ((y3.2).at_)]]) (fun x7 => eT p1 y3 x4 x6 x7 = some r) ?_ ?_
     ·skip;refine ak [] ?_
      refine aw ?_;obtain ⟨o1, hl1, hm1⟩ := bd hm;refine bg (S := (Int × Int)) (V := Unit) (O := Int) [6, 10, 58, 59, 60, 61, 62, 63, 64, 65, 66, 67, 68, 69, 70, 71, 72, 73, 74, 75, 76, 77] (fun (x13, x14) _ => [(6, .c (.int .i64 x13)), (10, .c (.int .i64 x14))]) (fun (x13, x14) _ => [.box [.tree 2 (p1.vars.map ap.enc), .tree 1 (p1.in_.map (eK .i64)), .tree 1 (p1.out_.map (eK .i64)), .tree 6 (p1.rules.map ae.enc)], .box [.tree 1 (((y3.1).at_).map (eK .i64)), .tree 1 (((y3.1).keep).map (eK .i64)), .int .i64 ((y3.1).cells)], .box [.int .i64 ((y3.2).code), .int .i64 ((y3.2).at_)]]) _ _ () hl1 ?_ ?_
      ·exact ls
      ·rintro ⟨x13, x14⟩ _ r1 hm hr1;replace hm : cP p1 x13 x14 = some r1 := hm;refine aI ?_;unfold cP at hm;refine ao fun k4 hk4 => ?_;refine ak [58, 59, 60, 61] ?_
       by_cases h9 : x14 < (p1.in_.length : Int)
       ·rw [iP h9] at hm;refine ag rfl (dT h9) ?_;refine aq ?_;refine aj (hk4 _ _ ?_);refine ao fun k5 hk5 => ?_;refine aw ?_;obtain ⟨⟨hg10a, hg10b⟩, hm⟩ := gd hm;refine sa (by kernel_rfl) [0, 0, 2, 0, 8, 0, 56, 120, 254, 510, 1022, 2046, 4095, 8191] [false, false, false, false, false, false, false, false, false, false, false, false, true, true] (by kernel_rfl) fun k hk => ?_;refine gax (a2 (em (eK .i64) p1.in_ x14.toNat) (em ap.enc p1.vars ((p1.in_.getD x14.toNat default).toNat))) ?_;obtain ⟨y15, hc11, hm⟩ := bd hm;refine AP (fun _ => gD ((p1.vars.getD ((p1.in_.getD x14.toNat default).toNat) default).n) _ hc11) ?_;refine ga ?_;refine hk _ _ ?_;clear hk k;refine az ?_;refine aj (hk5 _ _ ?_);refine bD ?_;refine aE ((IntKind.wrap .i64 (x13 + y15)), (IntKind.wrap .i64 (x14 + 1))) () hm ?_;exact ls
       ·rw [iN h9] at hm;refine ah rfl (dF h9) ?_;refine bk ?_;have ho12 := aH hm hr1;subst ho12;replace hm : eT p1 y3 x4 x6 x13 = some r := hm1;refine aW (aT (aC ?_));refine ar x13 () hm ?_;exact ls
     ·rintro x7 _ hm;replace hm : eT p1 y3 x4 x6 x7 = some r := hm;refine aI ?_;unfold eT at hm;refine fa [1, 3, 5, 6, 7, 78, 79, 80, 81, 82, 83, 84, 85, 86, 87, 88, 89, 90, 91, 92, 93, 94] (by kernel_rfl) [0, 1, 0, 0, 12, 31, 63, 127, 255, 127, 127, 1151, 3711, 127, 15999, 32767, 65535, 131071] [false, false, false, false, false, true, true, false, false, false, false, false, false, false, false, true, true, true] (by kernel_rfl) fun k hk => ?_;refine bV 7 rfl ?_;refine ga ?_
      by_cases h7 : ((y3.1).cells) ≤ (IntKind.wrap .i64 (x4 + x7))
      ·rw [iP h7] at hm;have h7b := dT h7;refine aM ?_;refine gax h7b ?_;obtain ⟨y8, hc8, hm⟩ := bd hm;refine pat (fun _ => qy p1 _ hc8) ?_;refine aM ?_;refine gax h7b ?_;refine hk _ _ ?_;clear hk k;refine an ?_
       cases hm
       exact kr 0
      ·rw [iN h7] at hm;have h7b := dF h7;refine aM ?_;refine gax h7b ?_;refine hk _ _ ?_;clear hk k;refine an ?_
       cases hm
       exact kr 0
 ·rw [iN h2] at hm;refine ag rfl (by rw [show y1 = false from (fB h2)]; rfl) ?_;refine ak [1, 12] ?_;refine an ?_;refine ai ?_
  cases hm
  exact kr 0
end Pam
