/- the walk of ref_Cells, printed by a program of ours -/
import Derived.Test.YtpfekllhlfodiaaOBase2
import Derived.Test.YtpfekllhlfodiaaOabcdFun1
import Derived.Test.YtpfekllhlfodiaaOTypes1
import Derived.Test.YtpfekllhlfodiaaOBase3
set_option linter.all false
namespace Pam
open Go Go.Proofs
set_option maxRecDepth 100000 in
set_option maxHeartbeats 1000000 in
theorem kT (p1 : Int) (r : Int) (hm : jU p1 = some r) : bU Try.prog 60 [.c (.int .i64 p1)] (.c (.int .i64 r)) := by
 refine aN 6 [.tmp 2] Try.func60 rfl rfl rfl (by kernel_rfl) (by simp) ?_;refine bu ?_;unfold jU at hm;refine ao [2] ?_;refine aq fun k1 hk1 => ?_;refine ao [3] ?_
 by_cases h1 : p1 < 1
 ·rw [if_pos h1] at hm;refine ah rfl (decide_eq_true h1) ?_;refine ao [0, 4] ?_;refine an ?_;refine ai ?_;refine ab [] ?_;obtain rfl := Option.some.inj hm;exact en
 ·rw [if_neg h1] at hm;refine aj rfl (decide_eq_false h1) ?_;refine ar ?_;refine am (hk1 _ _ ?_);refine ao [0, 4, 5] ?_;refine an ?_;refine ab [] ?_;obtain rfl := Option.some.inj hm;exact en
end Pam

namespace Pam
open Go Go.Proofs
set_option maxRecDepth 100000 in
set_option maxHeartbeats 8000000 in
theorem iU (p1 : af) (p2 : Int) (r : Bool) (hm : dZ p1 p2 = some r) : bU Try.prog 32 [.a [.tree 2 (p1.vars.map ak.enc), .tree 1 (p1.in_.map (eK .i64)), .tree 1 (p1.out_.map (eK .i64)), .tree 6 (p1.rules.map ae.enc)], .c (.int .i64 p2)] (.c (.bool r)) := by
 refine aN 103 [.tmp 4] Try.func32 rfl rfl rfl (by kernel_rfl) (by simp) ?_;refine bu ?_;unfold dZ at hm;refine ao [0, 4] ?_;refine aq fun k1 hk1 => ?_;refine bx [9, 10, 11, 12, 13, 14, 15, 16, 17, 18, 19, 20, 21, 22, 23, 24, 25, 26, 27, 28, 29, 30, 31, 32, 33] fun k kp hk hp => ?_;refine ap 6 ?_;refine go ?_
 by_cases h1 : (p1.vars.length : Int) > p2
 ·rw [if_pos h1] at hm;have h1b := decide_eq_true h1;refine aa ?_;refine gox h1b ?_;refine hk _ _ ?_;clear hk hp k kp;refine ah rfl rfl ?_;refine ao [1, 2, 34] ?_;refine an ?_;refine ai ?_;refine ab [] ?_;obtain rfl := Option.some.inj hm;exact en
 ·rw [if_neg h1] at hm;have h1b := decide_eq_false h1;refine ap 7 ?_;refine gox h1b ?_
  by_cases h2 : (p1.rules.length : Int) > p2
  ·rw [if_pos h2] at hm;have h2b := decide_eq_true h2;refine aa ?_;refine gox (a2 h1b h2b) ?_;refine hk _ _ ?_;clear hk hp k kp;refine ah rfl rfl ?_;refine ao [1, 2, 34] ?_;refine an ?_;refine ai ?_;refine ab [] ?_;obtain rfl := Option.some.inj hm;exact en
  ·rw [if_neg h2] at hm;have h2b := decide_eq_false h2;refine ap 7 ?_;refine gox (a2 h1b h2b) ?_
   by_cases h3 : (p1.in_.length : Int) > p2
   ·rw [if_pos h3] at hm;have h3b := decide_eq_true h3;refine aa ?_;refine gox (a2 h1b (a2 h2b h3b)) ?_;refine hk _ _ ?_;clear hk hp k kp;refine ah rfl rfl ?_;refine ao [1, 2, 34] ?_;refine an ?_;refine ai ?_;refine ab [] ?_;obtain rfl := Option.some.inj hm;exact en
   ·rw [if_neg h3] at hm;have h3b := decide_eq_false h3;refine aa ?_;refine gox (a2 h1b (a2 h2b h3b)) ?_;refine hk _ _ ?_;clear hk hp k kp
    by_cases h4 : (p1.out_.length : Int) > p2
    ·rw [if_pos h4] at hm;refine ah rfl (decide_eq_true h4) ?_;refine ao [1, 2, 34] ?_;refine an ?_;refine ai ?_;refine ab [] ?_;obtain rfl := Option.some.inj hm;exact en
    ·rw [if_neg h4] at hm;refine aj rfl (decide_eq_false h4) ?_;refine ar ?_;refine am (hk1 _ _ ?_);refine ao [34] ?_;refine aF (S := Int) (V := Unit) [4, 5, 6, 35, 36, 37, 38, 39, 40, 41, 42, 43, 44, 45, 46, 47, 48, 49, 50, 51, 52, 53, 54, 55, 56, 57] (fun x1 _ => [(5, .c (.int .i64 x1))]) (fun x1 _ => [.box [.tree 2 (p1.vars.map ak.enc), .tree 1 (p1.in_.map (eK .i64)), .tree 1 (p1.out_.map (eK .i64)), .tree 6 (p1.rules.map ae.enc)]]) (fun x1 => dp p1 p2 x1 = some r) ?_ ?_
     ·skip;refine ao [] ?_
      refine aw ?_;obtain ⟨o2, hl2, hm2⟩ := bd hm;refine aQ (S := (Int × Int)) (V := Unit) (O := Int ⊕ Bool) [4, 5, 6, 35, 36, 37, 38, 39, 40, 41, 42, 43, 44, 45, 46, 47, 48, 49, 50, 51, 52, 53, 54, 55, 56, 57] (fun (x15, x16) _ => [(5, .c (.int .i64 x15)), (6, .c (.int .i64 x16))]) (fun (x15, x16) _ => [.box [.tree 2 (p1.vars.map ak.enc), .tree 1 (p1.in_.map (eK .i64)), .tree 1 (p1.out_.map (eK .i64)), .tree 6 (p1.rules.map ae.enc)]]) _ _ () hl2 ?_ ?_
      ·exact ls
      ·rintro ⟨x15, x16⟩ _ r2 hm hr2;replace hm : cz p1 x15 x16 = some r2 := hm;refine aD ?_;unfold cz at hm;refine aq fun k4 hk4 => ?_;refine ao [35, 36, 37, 38] ?_
       by_cases h15 : x16 < (p1.vars.length : Int)
       ·rw [if_pos h15] at hm;refine ah rfl (decide_eq_true h15) ?_;refine ar ?_;refine am (hk4 _ _ ?_);refine aq fun k5 hk5 => ?_;refine aw ?_;refine aq fun k6 hk6 => ?_;obtain ⟨hg16a, hm⟩ := gd hm;refine bo (em ak.enc p1.vars x16.toNat) [39, 42, 43, 44, 45, 46, 47] ?_
        by_cases h17 : ((p1.vars.getD x16.toNat default).n) > 1000
        ·rw [if_pos h17] at hm;refine ah rfl (decide_eq_true h17) ?_;refine ao [1, 2, 5, 6, 48] ?_;have ho18 := az hm hr2;subst ho18;replace hm : some true = some r := hm2;refine an ?_;refine ai ?_;refine ag ?_;refine ai ?_;refine aG ?_;refine ag ?_;refine ay ?_;refine ab [] ?_;obtain rfl := Option.some.inj hm;exact en
        ·rw [if_neg h17] at hm;refine aj rfl (decide_eq_false h17) ?_;refine ar ?_;refine am (hk6 _ _ ?_);refine eY fun k kp hk hp => ?_;refine gox (em ak.enc p1.vars x16.toNat) ?_;obtain ⟨y17, hc19, hm⟩ := bd hm;refine RP (fun _ => kT ((p1.vars.getD x16.toNat default).n) _ hc19) ?_;refine aa ?_;refine go ?_;refine hk _ _ ?_;clear hk hp k kp;refine ax ?_;refine am (hk5 _ _ ?_);refine bm ?_;refine aB ((IntKind.wrap .i64 (x15 + y17)), (IntKind.wrap .i64 (x16 + 1))) () hm ?_;exact ls
       ·rw [if_neg h15] at hm;refine aj rfl (decide_eq_false h15) ?_;refine aY ?_;have ho20 := az hm hr2;subst ho20;replace hm : dp p1 p2 x15 = some r := hm2;refine aP ?_;refine aL ?_;refine aA ?_;refine av x15 () hm ?_;exact ls
     ·rintro x1 _ hm;replace hm : dp p1 p2 x1 = some r := hm;refine aD ?_;unfold dp at hm;refine aF (S := Int) (V := Unit) [2, 4, 5, 7, 8, 58, 59, 60, 61, 62, 63, 64, 65, 66, 67, 68, 69, 70, 71, 72, 73, 74, 75, 76, 77, 78, 79, 80, 81, 82, 83, 84, 85, 86, 87, 88, 89, 90, 91, 92, 93, 94, 95, 96, 97, 98] (fun x2 _ => [(5, .c (.int .i64 x2))]) (fun x2 _ => [.box [.tree 2 (p1.vars.map ak.enc), .tree 1 (p1.in_.map (eK .i64)), .tree 1 (p1.out_.map (eK .i64)), .tree 6 (p1.rules.map ae.enc)]]) (fun x2 => d8 p2 x2 = some r) ?_ ?_
      ·skip;refine ao [] ?_
       refine aw ?_;obtain ⟨o1, hl1, hm1⟩ := bd hm;refine aQ (S := (Int × Int)) (V := Unit) (O := Int ⊕ Bool) [4, 5, 7, 8, 58, 59, 60, 61, 62, 63, 64, 65, 66, 67, 68, 69, 70, 71, 72, 73, 74, 75, 76, 77, 78, 79, 80, 81, 82, 83, 84, 85, 86, 87, 88, 89, 90, 91, 92, 93, 94, 95, 96, 97, 98] (fun (x7, x8) _ => [(5, .c (.int .i64 x7)), (7, .c (.int .i64 x8))]) (fun (x7, x8) _ => [.box [.tree 2 (p1.vars.map ak.enc), .tree 1 (p1.in_.map (eK .i64)), .tree 1 (p1.out_.map (eK .i64)), .tree 6 (p1.rules.map ae.enc)]]) _ _ () hl1 ?_ ?_
       ·exact ls
       ·rintro ⟨x7, x8⟩ _ r1 hm hr1;replace hm : cy p1 x7 x8 = some r1 := hm;refine aD ?_;unfold cy at hm;refine aq fun k2 hk2 => ?_;refine ao [58, 59, 60, 61] ?_
        by_cases h5 : x8 < (p1.rules.length : Int)
        ·rw [if_pos h5] at hm;refine ah rfl (decide_eq_true h5) ?_;refine ar ?_;refine am (hk2 _ _ ?_);refine aq fun k3 hk3 => ?_;refine aw ?_;obtain ⟨hg6a, hm⟩ := gd hm;refine bo (em ae.enc p1.rules x8.toNat) [62, 65, 66, 67, 68, 69] ?_;refine aF (S := Unit) (V := Unit) [4, 70, 71, 72, 73, 74, 75, 76, 77, 78, 79, 80, 81, 82, 83, 84, 85, 86, 87, 88, 89] (fun _ _ => []) (fun _ _ => [.box [.tree 2 (p1.vars.map ak.enc), .tree 1 (p1.in_.map (eK .i64)), .tree 1 (p1.out_.map (eK .i64)), .tree 6 (p1.rules.map ae.enc)], .box [.int .i64 ((p1.rules.getD x8.toNat default).op), .int .i64 ((p1.rules.getD x8.toNat default).k), .int .i64 ((p1.rules.getD x8.toNat default).out_), .int .i64 ((p1.rules.getD x8.toNat default).n), .tree 1 (((p1.rules.getD x8.toNat default).a).map (eK .i64)), .tree 4 (((p1.rules.getD x8.toNat default).e).map aI.enc)]]) (fun _ => d9 p1 x7 x8 = some r1) ?_ ?_
         ·skip;refine bx [70, 71, 72, 73, 74, 75, 76, 77, 78, 79, 80, 81, 82, 83, 84, 85, 86, 87, 88] fun k kp hk hp => ?_
          refine ap 5 ?_;refine go ?_
          by_cases h7 : (((p1.rules.getD x8.toNat default).a).length : Int) > 100
          ·rw [if_pos h7] at hm;have h7b := decide_eq_true h7;refine aa ?_;refine gox h7b ?_;refine hk _ _ ?_;clear hk hp k kp;refine ah rfl rfl ?_;refine ao [1, 2, 5, 7, 8, 89] ?_;have ho8 := az hm hr1;subst ho8;replace hm : some true = some r := hm1;refine an ?_;refine ay ?_;refine ag ?_;refine ai ?_;refine aG ?_;refine ag ?_;refine ay ?_;refine ab [] ?_;obtain rfl := Option.some.inj hm;exact en
          ·rw [if_neg h7] at hm;have h7b := decide_eq_false h7;refine ap 6 ?_;refine gox h7b ?_
           by_cases h9 : (((p1.rules.getD x8.toNat default).e).length : Int) > 1000
           ·rw [if_pos h9] at hm;have h9b := decide_eq_true h9;refine aa ?_;refine gox (a2 h7b h9b) ?_;refine hk _ _ ?_;clear hk hp k kp;refine ah rfl rfl ?_;refine ao [1, 2, 5, 7, 8, 89] ?_;have ho10 := az hm hr1;subst ho10;replace hm : some true = some r := hm1;refine an ?_;refine ay ?_;refine ag ?_;refine ai ?_;refine aG ?_;refine ag ?_;refine ay ?_;refine ab [] ?_;obtain rfl := Option.some.inj hm;exact en
           ·rw [if_neg h9] at hm;have h9b := decide_eq_false h9;refine ap 4 ?_;refine gox (a2 h7b h9b) ?_
            by_cases h11 : ((p1.rules.getD x8.toNat default).op) = 15
            ·rw [if_pos h11] at hm;have h11b := beq_iff_eq.2 h11;refine aa ?_;refine gox (a2 h7b (a2 h9b h11b)) ?_;refine hk _ _ ?_;clear hk hp k kp
             by_cases h12 : ((p1.rules.getD x8.toNat default).n) > 1000
             ·rw [if_pos h12] at hm;refine ah rfl (decide_eq_true h12) ?_;refine ao [1, 2, 5, 7, 8, 89] ?_;have ho13 := az hm hr1;subst ho13;replace hm : some true = some r := hm1;refine an ?_;refine ay ?_;refine ag ?_;refine ai ?_;refine aG ?_;refine ag ?_;refine ay ?_;refine ab [] ?_;obtain rfl := Option.some.inj hm;exact en
             ·rw [if_neg h12] at hm;refine aj rfl (decide_eq_false h12) ?_;refine ar ?_;refine av () () hm ?_;exact ls
            ·rw [if_neg h11] at hm;have h11b := beq_eq_false_iff_ne.2 h11;refine aa ?_;refine gox (a2 h7b (a2 h9b h11b)) ?_;refine hk _ _ ?_;clear hk hp k kp;refine aj rfl rfl ?_;refine ar ?_;refine av () () hm ?_;exact ls
         ·rintro _ _ hm;replace hm : d9 p1 x7 x8 = some r1 := hm;refine aD ?_;unfold d9 at hm;refine bm ?_;refine ax ?_;refine am (hk3 _ _ ?_);refine bm ?_;refine aB ((IntKind.wrap .i64 (x7 + (IntKind.wrap .i64 ((((p1.rules.getD x8.toNat default).a).length : Int) + (((p1.rules.getD x8.toNat default).e).length : Int))))), (IntKind.wrap .i64 (x8 + 1))) () hm ?_;exact ls
        ·rw [if_neg h5] at hm;refine aj rfl (decide_eq_false h5) ?_;refine aY ?_;have ho14 := az hm hr1;subst ho14;replace hm : d8 p2 x7 = some r := hm1;refine aP ?_;refine aL ?_;refine aA ?_;refine av x7 () hm ?_;exact ls
      ·rintro x2 _ hm;replace hm : d8 p2 x2 = some r := hm;refine aD ?_;unfold d8 at hm;refine ao [1, 5, 99, 100, 101, 102] ?_;refine an ?_;refine ab [] ?_;obtain rfl := Option.some.inj hm;exact en
end Pam

namespace Pam
open Go Go.Proofs
set_option maxRecDepth 100000 in
set_option maxHeartbeats 1000000 in
theorem dU (p1 : List Int) (p2 : Int) (r : Bool) (hm : hY p1 p2 = some r) : bU Try.prog 61 [.c (.tree 1 (p1.map (eK .i64))), .c (.int .i64 p2)] (.c (.bool r)) := by
 refine aN 18 [.tmp 4] Try.func61 rfl rfl rfl (by kernel_rfl) (by simp) ?_;refine bu ?_;unfold hY at hm;refine ao [4] ?_;refine aF (S := Unit) (V := Unit) [0, 1, 4, 5, 6, 7, 8, 9, 10, 11, 12, 13, 14, 15, 16, 17] (fun _ _ => []) (fun _ _ => []) (fun _ => nU = some r) ?_ ?_
 ·skip;refine ao [] ?_
  refine aw ?_;obtain ⟨o1, hl1, hm1⟩ := bd hm;refine aQ (S := Int) (V := Unit) (O := Unit ⊕ Bool) [4, 5, 6, 7, 8, 9, 10, 11, 12, 13, 14, 15, 16, 17] (fun x3 _ => [(5, .c (.int .i64 x3))]) (fun x3 _ => []) _ _ () hl1 ?_ ?_
  ·exact ls
  ·rintro x3 _ r1 hm hr1;replace hm : nV p1 p2 x3 = some r1 := hm;refine aD ?_;unfold nV at hm;refine aq fun k1 hk1 => ?_;refine ao [6, 7, 8] ?_
   by_cases h1 : x3 < (p1.length : Int)
   ·rw [if_pos h1] at hm;refine ah rfl (decide_eq_true h1) ?_;refine ar ?_;refine am (hk1 _ _ ?_);refine aq fun k2 hk2 => ?_;refine aw ?_;obtain ⟨hg2a, hm⟩ := gd hm;refine bo (em (eK .i64) p1 x3.toNat) [9, 12, 13, 14, 15, 16] ?_
    by_cases h3 : (p1.getD x3.toNat default) = p2
    ·rw [if_pos h3] at hm;refine ah rfl (beq_iff_eq.2 h3) ?_;refine ao [0, 1, 5, 17] ?_;have ho4 := az hm hr1;subst ho4;replace hm : some true = some r := hm1;refine an ?_;refine ag ?_;refine ai ?_;refine aG ?_;refine ag ?_;refine ay ?_;refine ab [] ?_;obtain rfl := Option.some.inj hm;exact en
    ·rw [if_neg h3] at hm;refine aj rfl (beq_eq_false_iff_ne.2 h3) ?_;refine ar ?_;refine ax ?_;refine am (hk2 _ _ ?_);refine bm ?_;refine aB (IntKind.wrap .i64 (x3 + 1)) () hm ?_;exact ls
   ·rw [if_neg h1] at hm;refine aj rfl (decide_eq_false h1) ?_;refine aY ?_;have ho5 := az hm hr1;subst ho5;replace hm : nU = some r := hm1;refine aP ?_;refine aL ?_;refine aA ?_;refine av () () hm ?_;exact ls
 ·rintro _ _ hm;replace hm : nU = some r := hm;refine aD ?_;unfold nU at hm;refine ao [] ?_;refine an ?_;refine ab [] ?_;obtain rfl := Option.some.inj hm;exact en
end Pam

namespace Pam
open Go Go.Proofs
set_option maxRecDepth 100000 in
set_option maxHeartbeats 1000000 in
theorem qo (p1 : List Int) (p2 : Int) (r : (List Int)) (hm : lr p1 p2 = some r) : bU Try.prog 92 [.c (.tree 1 (p1.map (eK .i64))), .c (.int .i64 p2)] (.c (.tree 1 (r.map (eK .i64)))) := by
 refine aN 48 [.tmp 4] Try.func92 rfl rfl rfl (by kernel_rfl) (by simp) ?_;refine bu ?_;unfold lr at hm;refine ao [4] ?_;refine ao [] ?_;refine ao [] ?_;refine cx (fm 5 1 3 (by decide) rfl (Nat.le_of_ble_eq_true rfl)) ?_;refine nT ?_;refine aF (S := ((List Int) × Bool)) (V := Nat) [0, 5, 6, 7, 8, 9, 10, 11, 12, 13, 14, 15, 16, 17, 18, 19, 20, 21, 22, 23, 24, 25, 26, 27, 28, 29, 30, 31, 32, 33, 34, 35, 36, 37, 38, 39, 40] (fun (l3, b5) v4 => [(5, .c (.osl 0 v4 0 l3.length)), (6, .c (.bool b5))]) (fun (l3, b5) v4 => [.arr 1 v4 3 (l3.map (eK .i64))]) (fun (l3, b5) => gS p2 l3 b5 = some r) ?_ ?_
 ·skip;refine ao [] ?_
  refine aw ?_;obtain ⟨o1, hl1, hm1⟩ := bd hm;refine aQ (S := ((List Int) × Bool × Int)) (V := Nat) (O := ((List Int) × Bool)) [5, 6, 7, 8, 9, 10, 11, 12, 13, 14, 15, 16, 17, 18, 19, 20, 21, 22, 23, 24, 25, 26, 27, 28, 29, 30, 31, 32, 33, 34, 35, 36, 37, 38, 39, 40] (fun (l20, b22, x23) v21 => [(5, .c (.osl 0 v21 0 l20.length)), (6, .c (.bool b22)), (7, .c (.int .i64 x23))]) (fun (l20, b22, x23) v21 => [.arr 1 v21 3 (l20.map (eK .i64))]) _ _ 0 hl1 ?_ ?_
  ·exact ls
  ·rintro ⟨l20, b22, x23⟩ v21 r1 hm hr1;replace hm : eu p1 p2 l20 b22 x23 = some r1 := hm;refine aD ?_;unfold eu at hm;refine aq fun k2 hk2 => ?_;refine ao [8, 9, 10] ?_
   by_cases h3 : x23 < (p1.length : Int)
   ·rw [if_pos h3] at hm;refine ah rfl (decide_eq_true h3) ?_;refine ar ?_;refine am (hk2 _ _ ?_);refine aq fun k3 hk3 => ?_;refine aw ?_;refine aF (S := ((List Int) × Bool)) (V := Nat) [5, 6, 11, 14, 15, 16, 17, 18, 19, 20, 21, 22, 23, 24, 25, 26, 27, 28, 29, 30, 31, 32, 33] (fun (l26, b28) v27 => [(5, .c (.osl 0 v27 0 l26.length)), (6, .c (.bool b28))]) (fun (l26, b28) v27 => [.arr 1 v27 3 (l26.map (eK .i64))]) (fun (l26, b28) => et p1 x23 l26 b28 = some r1) ?_ ?_
    ·skip
     by_cases h5 : b22 = true
     ·rw [if_pos h5] at hm;have h5b := h5
      have h5c : (!b22) = false := by rw [h5b]; rfl
      refine bo (a2 h5b h5c) [11, 14, 15, 16, 17, 18, 19, 20, 21, 22] ?_;refine aj rfl rfl ?_;refine ar ?_;refine av (l20, b22) v21 hm ?_
      first | (simp only [bS, bX, reduceIte, ↓reduceIte, reduceCtorEq, Int.reduceToNat, Nat.reduceDiv, Nat.reduceMod, Nat.reduceLT, Nat.reduceLeDiff, Nat.reduceAdd, Nat.reduceSub, Nat.reduceMul, Nat.reduceEqDiff, Nat.reduceBEq, Nat.reduceBNe, Nat.reduceGT] <;> first | done | (and_intros <;> first | rfl | (simp; done) | omega | (simp [lit, bX, eK, eB, eS, eL]; done) | (simp only [bw, List.length_cons, List.length_nil, List.length_append, List.length_set, List.length_replicate, List.length_map, List.length_take, List.length_drop]; omega))) | (simp only [bS, bX, reduceIte, ↓reduceIte, reduceCtorEq, Int.reduceToNat, Nat.reduceDiv, Nat.reduceMod, Nat.reduceLT, Nat.reduceLeDiff, Nat.reduceAdd, Nat.reduceSub, Nat.reduceMul, Nat.reduceEqDiff, Nat.reduceBEq, Nat.reduceBNe, Nat.reduceGT, *] <;> first | done | (and_intros <;> first | rfl | (simp; done) | omega | (simp [lit, bX, eK, eB, eS, eL]; done) | (simp only [bw, List.length_cons, List.length_nil, List.length_append, List.length_set, List.length_replicate, List.length_map, List.length_take, List.length_drop]; omega)))
     ·rw [if_neg h5] at hm;have h5b := Bool.eq_false_iff.2 h5
      have h5c : (!b22) = true := by rw [h5b]; rfl
      obtain ⟨hg6a, hm⟩ := gd hm;refine bo (a2 (em (eK .i64) p1 x23.toNat) (a2 h5b h5c)) [11, 14, 15, 16, 17, 18, 19, 20, 21, 22] ?_
      by_cases h7 : (p1.getD x23.toNat default) ≥ p2
      ·rw [if_pos h7] at hm;refine ah rfl (decide_eq_true h7) ?_;refine aq fun k4 hk4 => ?_;refine bo (em (eK .i64) p1 x23.toNat) [6, 23, 24, 25, 26, 27, 28] ?_
       by_cases h8 : (p1.getD x23.toNat default) > p2
       ·rw [if_pos h8] at hm;refine ah rfl (decide_eq_true h8) ?_;obtain ⟨⟨hg9ax, hg9ay⟩, hm⟩ := gd hm;refine bm ?_;refine am (hk4 _ _ ?_);refine bm ?_;refine av ((l20 ++ (lit ([p2] : List Int))), true) (v21 + 1) hm ?_
        first | (simp only [bS, bX, reduceIte, ↓reduceIte, reduceCtorEq, Int.reduceToNat, Nat.reduceDiv, Nat.reduceMod, Nat.reduceLT, Nat.reduceLeDiff, Nat.reduceAdd, Nat.reduceSub, Nat.reduceMul, Nat.reduceEqDiff, Nat.reduceBEq, Nat.reduceBNe, Nat.reduceGT] <;> first | done | (and_intros <;> first | rfl | (simp; done) | omega | (simp [lit, bX, eK, eB, eS, eL]; done) | (simp only [bw, List.length_cons, List.length_nil, List.length_append, List.length_set, List.length_replicate, List.length_map, List.length_take, List.length_drop]; omega))) | (simp only [bS, bX, reduceIte, ↓reduceIte, reduceCtorEq, Int.reduceToNat, Nat.reduceDiv, Nat.reduceMod, Nat.reduceLT, Nat.reduceLeDiff, Nat.reduceAdd, Nat.reduceSub, Nat.reduceMul, Nat.reduceEqDiff, Nat.reduceBEq, Nat.reduceBNe, Nat.reduceGT, *] <;> first | done | (and_intros <;> first | rfl | (simp; done) | omega | (simp [lit, bX, eK, eB, eS, eL]; done) | (simp only [bw, List.length_cons, List.length_nil, List.length_append, List.length_set, List.length_replicate, List.length_map, List.length_take, List.length_drop]; omega)))
       ·rw [if_neg h8] at hm;refine aj rfl (decide_eq_false h8) ?_;refine ar ?_;refine am (hk4 _ _ ?_);refine bm ?_;refine av (l20, true) v21 hm ?_
        first | (simp only [bS, bX, reduceIte, ↓reduceIte, reduceCtorEq, Int.reduceToNat, Nat.reduceDiv, Nat.reduceMod, Nat.reduceLT, Nat.reduceLeDiff, Nat.reduceAdd, Nat.reduceSub, Nat.reduceMul, Nat.reduceEqDiff, Nat.reduceBEq, Nat.reduceBNe, Nat.reduceGT] <;> first | done | (and_intros <;> first | rfl | (simp; done) | omega | (simp [lit, bX, eK, eB, eS, eL]; done) | (simp only [bw, List.length_cons, List.length_nil, List.length_append, List.length_set, List.length_replicate, List.length_map, List.length_take, List.length_drop]; omega))) | (simp only [bS, bX, reduceIte, ↓reduceIte, reduceCtorEq, Int.reduceToNat, Nat.reduceDiv, Nat.reduceMod, Nat.reduceLT, Nat.reduceLeDiff, Nat.reduceAdd, Nat.reduceSub, Nat.reduceMul, Nat.reduceEqDiff, Nat.reduceBEq, Nat.reduceBNe, Nat.reduceGT, *] <;> first | done | (and_intros <;> first | rfl | (simp; done) | omega | (simp [lit, bX, eK, eB, eS, eL]; done) | (simp only [bw, List.length_cons, List.length_nil, List.length_append, List.length_set, List.length_replicate, List.length_map, List.length_take, List.length_drop]; omega)))
      ·rw [if_neg h7] at hm;refine aj rfl (decide_eq_false h7) ?_;refine ar ?_;refine av (l20, b22) v21 hm ?_
       first | (simp only [bS, bX, reduceIte, ↓reduceIte, reduceCtorEq, Int.reduceToNat, Nat.reduceDiv, Nat.reduceMod, Nat.reduceLT, Nat.reduceLeDiff, Nat.reduceAdd, Nat.reduceSub, Nat.reduceMul, Nat.reduceEqDiff, Nat.reduceBEq, Nat.reduceBNe, Nat.reduceGT] <;> first | done | (and_intros <;> first | rfl | (simp; done) | omega | (simp [lit, bX, eK, eB, eS, eL]; done) | (simp only [bw, List.length_cons, List.length_nil, List.length_append, List.length_set, List.length_replicate, List.length_map, List.length_take, List.length_drop]; omega))) | (simp only [bS, bX, reduceIte, ↓reduceIte, reduceCtorEq, Int.reduceToNat, Nat.reduceDiv, Nat.reduceMod, Nat.reduceLT, Nat.reduceLeDiff, Nat.reduceAdd, Nat.reduceSub, Nat.reduceMul, Nat.reduceEqDiff, Nat.reduceBEq, Nat.reduceBNe, Nat.reduceGT, *] <;> first | done | (and_intros <;> first | rfl | (simp; done) | omega | (simp [lit, bX, eK, eB, eS, eL]; done) | (simp only [bw, List.length_cons, List.length_nil, List.length_append, List.length_set, List.length_replicate, List.length_map, List.length_take, List.length_drop]; omega)))
    ·rintro ⟨l26, b28⟩ v27 hm;replace hm : et p1 x23 l26 b28 = some r1 := hm;refine aD ?_;unfold et at hm;obtain ⟨⟨hg4a, ⟨hg4bx, hg4by⟩⟩, hm⟩ := gd hm;refine mn (em (eK .i64) p1 x23.toNat) ?_;refine ax ?_;refine am (hk3 _ _ ?_);refine bm ?_;refine aB ((l26 ++ (lit ([(p1.getD x23.toNat default)] : List Int))), b28, (IntKind.wrap .i64 (x23 + 1))) (v27 + 1) hm ?_;exact ls
   ·rw [if_neg h3] at hm;refine aj rfl (decide_eq_false h3) ?_;refine aY ?_;have ho10 := az hm hr1;subst ho10;replace hm : gS p2 l20 b22 = some r := hm1;refine aP ?_;refine aL ?_;refine aA ?_;refine av (l20, b22) v21 hm ?_;exact ls
 ·rintro ⟨l3, b5⟩ v4 hm;replace hm : gS p2 l3 b5 = some r := hm;refine aD ?_;unfold gS at hm;refine aq fun k1 hk1 => ?_;refine ao [6, 41] ?_
  by_cases h1 : b5 = true
  ·rw [if_pos h1] at hm;refine aj rfl (by rw [show b5 = true from (h1)]; rfl) ?_;refine ar ?_;refine am (hk1 _ _ ?_);refine ao [1, 5, 42, 47] ?_;refine e9 (bn 0 rfl) ?_;refine an ?_;refine ab [] ?_;obtain rfl := Option.some.inj hm;exact en
  ·rw [if_neg h1] at hm;refine ah rfl (by rw [show b5 = false from (Bool.eq_false_iff.2 h1)]; rfl) ?_;obtain ⟨⟨hg2ax, hg2ay⟩, hm⟩ := gd hm;refine bm ?_;refine am (hk1 _ _ ?_);refine ao [1, 5, 42, 43, 44, 45, 46, 47] ?_;refine ff [.arr 1 (v4 + 1) 3 ((l3 ++ (lit ([p2] : List Int))).map (eK .i64)), .arr 1 0 3 ((lit ([p2] : List Int)).map (eK .i64))] ?_;refine e9 (bn 0 rfl) ?_;refine an ?_;refine ab [] ?_;obtain rfl := Option.some.inj hm;exact en
end Pam

namespace Pam
open Go Go.Proofs
set_option maxRecDepth 100000 in
set_option maxHeartbeats 1000000 in
theorem vt (p1 : aI) (r : Bool) (hm : nX p1 = some r) : bU Try.prog 93 [.a [.int .i64 p1.op, .int .i64 p1.k, .int .i64 p1.v, .int .i64 p1.n]] (.c (.bool r)) := by
 refine aN 16 [.tmp 2] Try.func93 rfl rfl rfl (by kernel_rfl) (by simp) ?_;refine bu ?_;unfold nX at hm;refine ao [0, 2] ?_;refine bx [1, 3, 4, 5, 6, 7, 8, 9, 10, 11, 12, 13, 14, 15] fun k kp hk hp => ?_;refine ap 4 ?_;refine go ?_
 by_cases h1 : p1.op = 2
 ·rw [if_pos h1] at hm;have h1b := beq_iff_eq.2 h1;refine aa ?_;refine gox h1b ?_;refine hk _ _ ?_;clear hk hp k kp;refine an ?_;refine ab [] ?_;obtain rfl := Option.some.inj hm;exact en
 ·rw [if_neg h1] at hm;have h1b := beq_eq_false_iff_ne.2 h1;refine ap 5 ?_;refine gox h1b ?_
  by_cases h2 : p1.op = 3
  ·rw [if_pos h2] at hm;have h2b := beq_iff_eq.2 h2;refine aa ?_;refine gox (a2 h1b h2b) ?_;refine hk _ _ ?_;clear hk hp k kp;refine an ?_;refine ab [] ?_;obtain rfl := Option.some.inj hm;exact en
  ·rw [if_neg h2] at hm;have h2b := beq_eq_false_iff_ne.2 h2;refine aa ?_;refine gox (a2 h1b h2b) ?_;refine hk _ _ ?_;clear hk hp k kp;refine an ?_;refine ab [] ?_;obtain rfl := Option.some.inj hm;exact en
end Pam

namespace Pam
open Go Go.Proofs
set_option maxRecDepth 100000 in
set_option maxHeartbeats 1000000 in
theorem wg (p1 : ae) (r : (List Int)) (hm : ph p1 = some r) : bU Try.prog 37 [.a [.int .i64 p1.op, .int .i64 p1.k, .int .i64 p1.out_, .int .i64 p1.n, .tree 1 (p1.a.map (eK .i64)), .tree 4 (p1.e.map aI.enc)]] (.c (.tree 1 (r.map (eK .i64)))) := by
 refine aN 42 [.tmp 2] Try.func37 rfl rfl rfl (by kernel_rfl) (by simp) ?_;refine bu ?_;unfold ph at hm;refine ao [0, 2] ?_;refine ao [] ?_;refine aF (S := (List Int)) (V := Unit) [3, 4, 6, 7, 8, 9, 10, 11, 12, 13, 14, 15, 16, 17, 18, 19] (fun l1 _ => [(3, .c (.tree 1 (l1.map (eK .i64))))]) (fun l1 _ => [.box [.int .i64 p1.op, .int .i64 p1.k, .int .i64 p1.out_, .int .i64 p1.n, .tree 1 (p1.a.map (eK .i64)), .tree 4 (p1.e.map aI.enc)]]) (fun l1 => jx p1 l1 = some r) ?_ ?_
 ·skip;refine ao [] ?_
  refine aw ?_;refine cx (wT 3 1 rfl) ?_;refine oQ ?_;obtain ⟨o2, hl2, hm2⟩ := bd hm;refine aQ (S := ((List Int) × Int)) (V := Unit) (O := (List Int)) [3, 4, 6, 7, 8, 9, 10, 11, 12, 13, 14, 15, 16, 17, 18, 19] (fun (l18, x19) _ => [(3, .c (.tree 1 (l18.map (eK .i64)))), (4, .c (.int .i64 x19))]) (fun (l18, x19) _ => [.box [.int .i64 p1.op, .int .i64 p1.k, .int .i64 p1.out_, .int .i64 p1.n, .tree 1 (p1.a.map (eK .i64)), .tree 4 (p1.e.map aI.enc)]]) _ _ () hl2 ?_ ?_
  ·exact ls
  ·rintro ⟨l18, x19⟩ _ r2 hm hr2;replace hm : gw p1 l18 x19 = some r2 := hm;refine aD ?_;unfold gw at hm;refine aq fun k3 hk3 => ?_;refine ao [6, 7, 8, 9] ?_
   by_cases h7 : x19 < (p1.a.length : Int)
   ·rw [if_pos h7] at hm;refine ah rfl (decide_eq_true h7) ?_;refine ar ?_;refine am (hk3 _ _ ?_);refine aq fun k4 hk4 => ?_;refine aw ?_;obtain ⟨hg8a, hm⟩ := gd hm;refine eY fun k kp hk hp => ?_;refine gox (em (eK .i64) p1.a x19.toNat) ?_;obtain ⟨y20, hc9, hm⟩ := bd hm;refine RP (fun _ => qo l18 (p1.a.getD x19.toNat default) _ hc9) ?_;refine aa ?_;refine go ?_;refine hk _ _ ?_;clear hk hp k kp;refine ax ?_;refine am (hk4 _ _ ?_);refine bm ?_;refine aB (y20, (IntKind.wrap .i64 (x19 + 1))) () hm ?_;exact ls
   ·rw [if_neg h7] at hm;refine aj rfl (decide_eq_false h7) ?_;refine aY ?_;have ho10 := az hm hr2;subst ho10;replace hm : jx p1 l18 = some r := hm2;refine aP ?_;refine aL ?_;refine aA ?_;refine av l18 () hm ?_;exact ls
 ·rintro l1 _ hm;replace hm : jx p1 l1 = some r := hm;refine aD ?_;unfold jx at hm;refine aF (S := (List Int)) (V := Unit) [1, 3, 5, 20, 21, 22, 23, 24, 25, 26, 27, 28, 29, 30, 31, 32, 33, 34, 35, 36, 37, 38, 39, 40] (fun l2 _ => [(3, .c (.tree 1 (l2.map (eK .i64))))]) (fun l2 _ => [.box [.int .i64 p1.op, .int .i64 p1.k, .int .i64 p1.out_, .int .i64 p1.n, .tree 1 (p1.a.map (eK .i64)), .tree 4 (p1.e.map aI.enc)]]) (fun l2 => kz l2 = some r) ?_ ?_
  ·skip;refine ao [] ?_
   refine aw ?_;obtain ⟨o1, hl1, hm1⟩ := bd hm;refine aQ (S := ((List Int) × Int)) (V := Unit) (O := (List Int)) [3, 5, 20, 21, 22, 23, 24, 25, 26, 27, 28, 29, 30, 31, 32, 33, 34, 35, 36, 37, 38, 39, 40] (fun (l7, x8) _ => [(3, .c (.tree 1 (l7.map (eK .i64)))), (5, .c (.int .i64 x8))]) (fun (l7, x8) _ => [.box [.int .i64 p1.op, .int .i64 p1.k, .int .i64 p1.out_, .int .i64 p1.n, .tree 1 (p1.a.map (eK .i64)), .tree 4 (p1.e.map aI.enc)]]) _ _ () hl1 ?_ ?_
   ·exact ls
   ·rintro ⟨l7, x8⟩ _ r1 hm hr1;replace hm : gu p1 l7 x8 = some r1 := hm;refine aD ?_;unfold gu at hm;refine aq fun k1 hk1 => ?_;refine ao [20, 21, 22, 23] ?_
    by_cases h1 : x8 < (p1.e.length : Int)
    ·rw [if_pos h1] at hm;refine ah rfl (decide_eq_true h1) ?_;refine ar ?_;refine am (hk1 _ _ ?_);refine aq fun k2 hk2 => ?_;refine aw ?_;obtain ⟨hg2a, hm⟩ := gd hm;refine aJ [24, 27, 28, 29, 30, 31] fun k kp hk hp => ?_;refine gox (em aI.enc p1.e x8.toNat) ?_;obtain ⟨y9, hc3, hm⟩ := bd hm;refine RP (fun _ => vt (p1.e.getD x8.toNat default) _ hc3) ?_;refine aa ?_;refine gox (em aI.enc p1.e x8.toNat) ?_;refine hk _ _ ?_;clear hk hp k kp
     by_cases h4 : y9 = true
     ·rw [if_pos h4] at hm;refine ah rfl (h4) ?_;refine eY fun k kp hk hp => ?_;refine gox (em aI.enc p1.e x8.toNat) ?_;obtain ⟨y10, hc5, hm⟩ := bd hm;refine RP (fun _ => qo l7 ((p1.e.getD x8.toNat default).v) _ hc5) ?_;refine aa ?_;refine go ?_;refine hk _ _ ?_;clear hk hp k kp;refine ax ?_;refine am (hk2 _ _ ?_);refine bm ?_;refine aB (y10, (IntKind.wrap .i64 (x8 + 1))) () hm ?_;exact ls
     ·rw [if_neg h4] at hm;refine aj rfl (Bool.eq_false_iff.2 h4) ?_;refine ar ?_;refine ax ?_;refine am (hk2 _ _ ?_);refine bm ?_;refine aB (l7, (IntKind.wrap .i64 (x8 + 1))) () hm ?_;exact ls
    ·rw [if_neg h1] at hm;refine aj rfl (decide_eq_false h1) ?_;refine aY ?_;have ho6 := az hm hr1;subst ho6;replace hm : kz l7 = some r := hm1;refine aP ?_;refine aL ?_;refine aA ?_;refine av l7 () hm ?_;exact ls
  ·rintro l2 _ hm;replace hm : kz l2 = some r := hm;refine aD ?_;unfold kz at hm;refine ao [3, 41] ?_;refine an ?_;refine ab [] ?_;obtain rfl := Option.some.inj hm;exact en
end Pam

namespace Pam
open Go Go.Proofs
set_option maxRecDepth 100000 in
set_option maxHeartbeats 1000000 in
theorem pm (p1 : ae) (r : (List Int)) (hm : mT p1 = some r) : bU Try.prog 87 [.a [.int .i64 p1.op, .int .i64 p1.k, .int .i64 p1.out_, .int .i64 p1.n, .tree 1 (p1.a.map (eK .i64)), .tree 4 (p1.e.map aI.enc)]] (.c (.tree 1 (r.map (eK .i64)))) := by
 refine aN 9 [.tmp 2] Try.func87 rfl rfl rfl (by kernel_rfl) (by simp) ?_;refine bu ?_;unfold mT at hm;refine ao [0, 2] ?_;refine aF (S := (List aI)) (V := Unit) [3, 4, 5, 6] (fun l1 _ => []) (fun l1 _ => [.box [.int .i64 p1.op, .int .i64 p1.k, .int .i64 p1.out_, .int .i64 p1.n, .tree 1 (p1.a.map (eK .i64)), .tree 4 (l1.map aI.enc)]]) (fun l1 => jy p1 l1 = some r) ?_ ?_
 ·skip;refine ao [3, 4] ?_
  by_cases h2 : p1.op < 14
  ·rw [if_pos h2] at hm;refine ah rfl (decide_eq_true h2) ?_;refine bm ?_
   refine vZ (ln 0 [.int .i64 p1.op, .int .i64 p1.k, .int .i64 p1.out_, .int .i64 p1.n, .tree 1 (p1.a.map (eK .i64)), .tree 4 []] rfl (by and_intros <;> trivial)) ?_
   refine gz ?_;refine av [] () hm ?_;exact ls
  ·rw [if_neg h2] at hm;refine aj rfl (decide_eq_false h2) ?_;refine ar ?_;refine av p1.e () hm ?_;exact ls
 ·rintro l1 _ hm;replace hm : jy p1 l1 = some r := hm;refine aD ?_;unfold jy at hm;refine aJ [1, 7, 8] fun k kp hk hp => ?_;refine go ?_;obtain ⟨y2, hc1, hm⟩ := bd hm;refine RP (fun _ => wg (ae.mk p1.op p1.k p1.out_ p1.n p1.a l1) _ hc1) ?_;refine aa ?_;refine go ?_;refine hk _ _ ?_;clear hk hp k kp;refine an ?_;refine ab [] ?_;obtain rfl := Option.some.inj hm;exact en
end Pam

namespace Pam
open Go Go.Proofs
set_option maxRecDepth 100000 in
set_option maxHeartbeats 1000000 in
theorem eW (p1 : List Int) (r : (List Int)) (hm : bQ p1 = some r) : fR Try.prog 89 [.c (.tree 1 (p1.map (eK .i64)))] [] (fun p σ => (p = .c (.osl 0 1 0 r.length) ∧ σ = [.arr 1 1 3 (r.map (eK .i64))])) (fun _ _ => False) := by
 refine aN 8 [.tmp 2] Try.func89 rfl rfl rfl (by kernel_rfl) (by simp) ?_;refine bu ?_;unfold bQ at hm;refine ao [2] ?_;refine aq fun k1 hk1 => ?_
 by_cases h1 : p1 = []
 ·rw [if_pos h1] at hm;refine rF 0 (s := 1) (by rw [h1]; rfl) ?_ ?_
  ·refine oQ ?_;refine ao [3] ?_;refine ah rfl rfl ?_;refine ao [0, 4] ?_;refine cx (fm 2 1 3 (by decide) rfl (Nat.le_of_ble_eq_true rfl)) ?_;refine nT ?_;refine cx (nR 1 3 (by decide)) ?_;simp only [bZ, bL, reduceIte, ↓reduceIte, reduceCtorEq, Int.reduceToNat, Nat.reduceDiv, Nat.reduceMod, Nat.reduceLT, Nat.reduceLeDiff, Nat.reduceAdd, Nat.reduceSub, Nat.reduceMul, Nat.reduceEqDiff, Nat.reduceBEq, Nat.reduceBNe, Nat.reduceGT, List.length_cons, List.length_nil, List.length_append, List.cons_append, List.nil_append];refine e9 (pg 1 0 (by decide) rfl rfl) ?_;refine e9 (nQ 0 1 (by decide) (Nat.le_of_ble_eq_true rfl) (Nat.le_of_ble_eq_true rfl) rfl rfl) ?_;refine an ?_;refine ai ?_;refine ab [.arr 1 1 3 ([].map (eK .i64))] ?_;obtain rfl := Option.some.inj hm;exact en
  ·refine oQ ?_;refine ao [3] ?_;refine aj rfl rfl ?_;refine ar ?_;refine am (hk1 _ _ ?_);refine ao [0, 4, 5, 6, 7] ?_;refine ff [.arr 1 1 3 ([].map (eK .i64))] ?_;refine an ?_;refine ab [.arr 1 1 3 ([].map (eK .i64))] ?_;obtain rfl := Option.some.inj hm;exact en
 ·rw [if_neg h1] at hm;refine ao [3] ?_;refine aj rfl rfl ?_;refine ar ?_;refine am (hk1 _ _ ?_);obtain ⟨⟨hg2ax, hg2ay⟩, hm⟩ := gd hm;refine ao [0, 4, 5, 6, 7] ?_;refine ff [.arr 1 1 3 (p1.map (eK .i64))] ?_;refine an ?_;refine ab [.arr 1 1 3 (p1.map (eK .i64))] ?_;obtain rfl := Option.some.inj hm;exact en
end Pam

namespace Pam
open Go Go.Proofs
theorem oA (p1 : List Int) (v0_ : Nat) (r : List Int) (hm : eZ p1 = some r) : fR Try.prog 90 [.c (.osl 0 v0_ 0 p1.length)] [.arr 1 v0_ 3 (p1.map (eK .i64))] (fun p σ => (p = .t [] ∧ σ = [.arr 1 v0_ 3 (r.map (eK .i64))])) (fun _ _ => False) := by
 unfold eZ at hm
 split at hm
 ·rename_i h
  simp only [Option.some.injEq] at hm;subst hm;exact yq yv rfl ⟨_, Try.func90, rfl, by kernel_rfl⟩ 3 v0_ p1 h
 ·cases hm
end Pam

namespace Pam
open Go Go.Proofs
theorem m6 (p0 : Nat) (p1 : List Int) (v0_ : Nat) (r : List Int) (hm : dL p0 p1 = some r) : fR Try.prog 91 [.c (.osl 0 v0_ 0 p0)] [.arr 1 v0_ 3 (p1.map (eK .i64))] (fun p σ => (p = .c (.osl 0 v0_ 0 r.length) ∧ σ = [.arr 1 v0_ 3 (r.map (eK .i64))])) (fun _ _ => False) := by
 unfold dL at hm
 split at hm
 ·rename_i h
  simp only [Option.some.injEq] at hm;subst hm;obtain ⟨rfl, h⟩ := h;exact vq vv rfl ⟨_, Try.func91, rfl, by kernel_rfl⟩ 3 v0_ p1 h
 ·cases hm
end Pam

namespace Pam
open Go Go.Proofs
set_option maxRecDepth 100000 in
set_option maxHeartbeats 1000000 in
theorem po (p1 : ae) (r : (List Int)) (hm : mV p1 = some r) : bU Try.prog 36 [.a [.int .i64 p1.op, .int .i64 p1.k, .int .i64 p1.out_, .int .i64 p1.n, .tree 1 (p1.a.map (eK .i64)), .tree 4 (p1.e.map aI.enc)]] (.c (.tree 1 (r.map (eK .i64)))) := by
 refine aN 32 [.tmp 2] Try.func36 rfl rfl rfl (by kernel_rfl) (by simp) ?_;refine bu ?_;unfold mV at hm;refine ao [0, 2] ?_;refine aJ [6, 7, 8] fun k kp hk hp => ?_;refine go ?_;obtain ⟨y1, hc1, hm⟩ := bd hm;refine RA (eW p1.a  _ hc1) [] ?_;rintro p σ' ⟨rfl, rfl⟩ _;refine aa ?_;refine go ?_;refine hk _ _ ?_;clear hk hp k kp;refine aF (S := (List Int)) (V := Nat) [1, 3, 5, 9, 10, 11, 12, 13, 14, 15, 16, 17, 18, 19, 20, 21, 22, 23, 24, 25, 26, 27] (fun l4 v5 => [(3, .c (.osl 1 v5 0 l4.length))]) (fun l4 v5 => [.box [.int .i64 p1.op, .int .i64 p1.k, .int .i64 p1.out_, .int .i64 p1.n, .tree 1 (p1.a.map (eK .i64)), .tree 4 (p1.e.map aI.enc)], .arr 1 v5 3 (l4.map (eK .i64))]) (fun l4 => kB l4 = some r) ?_ ?_
 ·skip;refine ao [1, 9] ?_
  refine aw ?_;obtain ⟨o1, hl1, hm1⟩ := bd hm;refine aQ (S := ((List Int) × Int)) (V := Nat) (O := (List Int)) [3, 5, 12, 13, 14, 15, 16, 17, 18, 19, 20, 21, 22, 23, 24, 25, 26, 27] (fun (l20, x22) v21 => [(3, .c (.osl 1 v21 0 l20.length)), (12, .c (.int .i64 x22))]) (fun (l20, x22) v21 => [.box [.int .i64 p1.op, .int .i64 p1.k, .int .i64 p1.out_, .int .i64 p1.n, .tree 1 (p1.a.map (eK .i64)), .tree 4 (p1.e.map aI.enc)], .arr 1 v21 3 (l20.map (eK .i64))]) _ _ 1 hl1 ?_ ?_
  ·exact ls
  ·rintro ⟨l20, x22⟩ v21 r1 hm hr1;replace hm : gC p1 l20 x22 = some r1 := hm;refine aD ?_;unfold gC at hm;refine ao [] ?_;refine aq fun k1 hk1 => ?_
   by_cases h7 : x22 < (p1.e.length : Int)
   ·rw [if_pos h7] at hm;refine ah rfl (decide_eq_true h7) ?_;refine ar ?_;refine am (hk1 _ _ ?_);refine aq fun k2 hk2 => ?_;refine aw ?_;obtain ⟨hg8a, hm⟩ := gd hm;refine bo (em aI.enc p1.e x22.toNat) [13, 14, 15] ?_;refine ao [16] ?_;refine aw ?_;refine aF (S := Bool) (V := Nat) [3, 17, 18, 19, 20, 21] (fun b25 v24 => [(3, .c (.osl 1 v24 0 l20.length)), (18, .c (.bool b25))]) (fun b25 v24 => [.box [.int .i64 p1.op, .int .i64 p1.k, .int .i64 p1.out_, .int .i64 p1.n, .tree 1 (p1.a.map (eK .i64)), .tree 4 (p1.e.map aI.enc)], .arr 1 v24 3 (l20.map (eK .i64)), .box [.int .i64 ((p1.e.getD x22.toNat default).op), .int .i64 ((p1.e.getD x22.toNat default).k), .int .i64 ((p1.e.getD x22.toNat default).v), .int .i64 ((p1.e.getD x22.toNat default).n)]]) (fun b25 => iB p1 l20 x22 b25 = some r1) ?_ ?_
    ·skip;refine ao [19] ?_
     by_cases h11 : ((p1.e.getD x22.toNat default).op) = 2
     ·rw [if_pos h11] at hm;refine ah rfl (beq_iff_eq.2 h11) ?_;refine ar ?_;refine av (((p1.e.getD x22.toNat default).op) == 2) v21 hm ?_;exact ls
     ·rw [if_neg h11] at hm;refine aj rfl (beq_eq_false_iff_ne.2 h11) ?_;refine ao [20] ?_
      by_cases h12 : ((p1.e.getD x22.toNat default).op) = 3
      ·rw [if_pos h12] at hm;refine ah rfl (beq_iff_eq.2 h12) ?_;refine ar ?_;refine av (((p1.e.getD x22.toNat default).op) == 3) v21 hm ?_;exact ls
      ·rw [if_neg h12] at hm;refine aj rfl (beq_eq_false_iff_ne.2 h12) ?_;refine bm ?_;refine av (((p1.e.getD x22.toNat default).op) == 8) v21 hm ?_;exact ls
    ·rintro b25 v24 hm;replace hm : iB p1 l20 x22 b25 = some r1 := hm;refine aD ?_;unfold iB at hm
     by_cases h9 : b25 = true
     ·rw [if_pos h9] at hm;refine ah rfl (h9) ?_;obtain ⟨⟨hg10ax, hg10ay⟩, hm⟩ := gd hm;refine bm ?_;refine ax ?_;refine ax ?_;refine am (hk2 _ _ ?_);refine bm ?_;refine aB ((l20 ++ (lit ([(p1.e.getD x22.toNat default).v] : List Int))), (IntKind.wrap .i64 (x22 + 1))) (v24 + 1) hm ?_;exact ls
     ·rw [if_neg h9] at hm;refine aj rfl (Bool.eq_false_iff.2 h9) ?_;refine ar ?_;refine ax ?_;refine ax ?_;refine am (hk2 _ _ ?_);refine bm ?_;refine aB (l20, (IntKind.wrap .i64 (x22 + 1))) v24 hm ?_;exact ls
   ·rw [if_neg h7] at hm;refine aj rfl (decide_eq_false h7) ?_;refine aY ?_;have ho13 := az hm hr1;subst ho13;replace hm : kB l20 = some r := hm1;refine aP ?_;refine aL ?_;refine aA ?_;refine av l20 v21 hm ?_;exact ls
 ·rintro l4 v5 hm;replace hm : kB l4 = some r := hm;refine aD ?_;unfold kB at hm;refine aJ [28, 29] fun k kp hk hp => ?_;refine go ?_;obtain ⟨y6, hc3, hm⟩ := bd hm;refine RA (oA l4 v5 _ hc3) [1] ?_;rintro p σ' ⟨rfl, rfl⟩ _;refine aa ?_;refine go ?_;refine hk _ _ ?_;clear hk hp k kp;refine aJ [3, 30, 31] fun k kp hk hp => ?_;refine go ?_;obtain ⟨y7, hc5, hm⟩ := bd hm;refine RA (m6 l4.length y6 v5 _ hc5) [1] ?_;rintro p σ' ⟨rfl, rfl⟩ _;refine aa ?_;refine go ?_;refine hk _ _ ?_;clear hk hp k kp;refine e9 (bn 1 rfl) ?_;refine an ?_;refine ab [] ?_;obtain rfl := Option.some.inj hm;exact en
end Pam

namespace Pam
open Go Go.Proofs
set_option maxRecDepth 100000 in
set_option maxHeartbeats 1000000 in
theorem ko (p1 : Int) (p2 : aH) (r : Bool) (hm : gD p1 p2 = some r) : fR Try.prog 124 [.c (.optr 0 0), .c (.int .i64 p1)] [.box [.tree 2 (p2.system.vars.map ak.enc), .tree 1 (p2.system.in_.map (eK .i64)), .tree 1 (p2.system.out_.map (eK .i64)), .tree 6 (p2.system.rules.map ae.enc), .int .i64 p2.code]] (fun p σ => (p = .c (.bool r) ∧ σ = [.box [.tree 2 (p2.system.vars.map ak.enc), .tree 1 (p2.system.in_.map (eK .i64)), .tree 1 (p2.system.out_.map (eK .i64)), .tree 6 (p2.system.rules.map ae.enc), .int .i64 p2.code]])) (fun _ _ => False) := by
 refine aN 17 [.tmp 4] Try.func124 rfl rfl rfl (by kernel_rfl) (by simp) ?_;refine bu ?_;unfold gD at hm;refine ao [4] ?_
 by_cases h1 : p1 ≥ 0
 ·rw [if_pos h1] at hm;have h1b := decide_eq_true h1;refine bo h1b [0, 1, 5, 6, 7, 8, 9, 10, 11, 12, 13, 14, 15, 16] ?_;refine an ?_;refine ab [.box [.tree 2 (p2.system.vars.map ak.enc), .tree 1 (p2.system.in_.map (eK .i64)), .tree 1 (p2.system.out_.map (eK .i64)), .tree 6 (p2.system.rules.map ae.enc), .int .i64 p2.code]] ?_;obtain rfl := Option.some.inj hm;exact en
 ·rw [if_neg h1] at hm;have h1b := decide_eq_false h1;refine bo h1b [0, 1, 5, 6, 7, 8, 9, 10, 11, 12, 13, 14, 15, 16] ?_;refine an ?_;refine ab [.box [.tree 2 (p2.system.vars.map ak.enc), .tree 1 (p2.system.in_.map (eK .i64)), .tree 1 (p2.system.out_.map (eK .i64)), .tree 6 (p2.system.rules.map ae.enc), .int .i64 p2.code]] ?_;obtain rfl := Option.some.inj hm;exact en
end Pam

namespace Pam
open Go Go.Proofs
set_option maxRecDepth 100000 in
set_option maxHeartbeats 1000000 in
theorem nZ (p1 : List Int) (p2 : Int) (r : Int) (hm : eO p1 p2 = some r) : bU Try.prog 108 [.c (.tree 1 (p1.map (eK .i64))), .c (.int .i64 p2)] (.c (.int .i64 r)) := by
 refine aN 19 [.tmp 4] Try.func108 rfl rfl rfl (by kernel_rfl) (by simp) ?_;refine bu ?_;unfold eO at hm;refine ao [4] ?_;refine aF (S := Unit) (V := Unit) [0, 1, 4, 5, 6, 7, 8, 9, 10, 11, 12, 13, 14, 15, 16, 17, 18] (fun _ _ => []) (fun _ _ => []) (fun _ => dt = some r) ?_ ?_
 ·skip;refine ao [6] ?_
  refine aw ?_;obtain ⟨o1, hl1, hm1⟩ := bd hm;refine aQ (S := Int) (V := Unit) (O := Unit ⊕ Int) [4, 5, 8, 9, 10, 11, 12, 13, 14, 15, 16, 17, 18] (fun x3 _ => [(8, .c (.int .i64 x3))]) (fun x3 _ => []) _ _ () hl1 ?_ ?_
  ·exact ls
  ·rintro x3 _ r1 hm hr1;replace hm : du p1 p2 x3 = some r1 := hm;refine aD ?_;unfold du at hm;refine ao [] ?_;refine aq fun k1 hk1 => ?_
   by_cases h1 : x3 < (p1.length : Int)
   ·rw [if_pos h1] at hm;refine ah rfl (decide_eq_true h1) ?_;refine ar ?_;refine am (hk1 _ _ ?_);refine aq fun k2 hk2 => ?_;refine aw ?_;refine ao [9, 10] ?_;obtain ⟨hg2a, hm⟩ := gd hm;refine bo (em (eK .i64) p1 x3.toNat) [11, 12, 13, 14, 15] ?_
    by_cases h3 : p2 = (p1.getD x3.toNat default)
    ·rw [if_pos h3] at hm;refine ah rfl (beq_iff_eq.2 h3) ?_;refine ao [0, 1, 5, 7, 8, 16, 17] ?_;have ho4 := az hm hr1;subst ho4;replace hm : some x3 = some r := hm1;refine an ?_;refine ag ?_;refine ai ?_;refine aG ?_;refine ag ?_;refine ay ?_;refine ab [] ?_;obtain rfl := Option.some.inj hm;exact en
    ·rw [if_neg h3] at hm;refine aj rfl (beq_eq_false_iff_ne.2 h3) ?_;refine ar ?_;refine ax ?_;refine am (hk2 _ _ ?_);refine bm ?_;refine aB (IntKind.wrap .i64 (x3 + 1)) () hm ?_;exact ls
   ·rw [if_neg h1] at hm;refine aj rfl (decide_eq_false h1) ?_;refine aY ?_;have ho5 := az hm hr1;subst ho5;replace hm : dt = some r := hm1;refine aP ?_;refine aL ?_;refine aA ?_;refine av () () hm ?_;exact ls
 ·rintro _ _ hm;replace hm : dt = some r := hm;refine aD ?_;unfold dt at hm;refine ao [] ?_;refine an ?_;refine ab [] ?_;obtain rfl := Option.some.inj hm;exact en
end Pam

namespace Pam
open Go Go.Proofs
set_option maxRecDepth 100000 in
set_option maxHeartbeats 1000000 in
theorem mX (p1 : List Int) (p2 : Int) (r : Bool) (hm : dv p1 p2 = some r) : bU Try.prog 125 [.c (.tree 1 (p1.map (eK .i64))), .c (.int .i64 p2)] (.c (.bool r)) := by
 refine aN 9 [.tmp 4] Try.func125 rfl rfl rfl (by kernel_rfl) (by simp) ?_;refine bu ?_;unfold dv at hm;refine ao [4] ?_;refine aJ [0, 1, 5, 6, 7, 8] fun k kp hk hp => ?_;refine go ?_;obtain ⟨y1, hc1, hm⟩ := bd hm;refine RP (fun _ => nZ p1 p2 _ hc1) ?_;refine aa ?_;refine go ?_;refine hk _ _ ?_;clear hk hp k kp;refine an ?_;refine ab [] ?_;obtain rfl := Option.some.inj hm;exact en
end Pam

namespace Pam
open Go Go.Proofs
set_option maxRecDepth 100000 in
set_option maxHeartbeats 8000000 in
theorem qZ (p1 : aH) (r : au) (hm : jz p1 = some r) : fR Try.prog 81 [.c (.optr 0 0)] [.box [.tree 2 (p1.system.vars.map ak.enc), .tree 1 (p1.system.in_.map (eK .i64)), .tree 1 (p1.system.out_.map (eK .i64)), .tree 6 (p1.system.rules.map ae.enc), .int .i64 p1.code]] (fun p σ => (p = .a [.int .i64 ((r).code), .int .i64 ((r).at_)] ∧ σ = [.box [.tree 2 (p1.system.vars.map ak.enc), .tree 1 (p1.system.in_.map (eK .i64)), .tree 1 (p1.system.out_.map (eK .i64)), .tree 6 (p1.system.rules.map ae.enc), .int .i64 p1.code]])) (fun _ _ => False) := by
 refine aN 122 [.cell 2 33] Try.func81 rfl rfl rfl (by kernel_rfl) (by simp) ?_;refine bu ?_;unfold jz at hm;refine ao [] ?_;refine aq fun k1 hk1 => ?_;refine bx [9, 10, 11, 12, 13, 14, 15, 16, 17, 18, 19, 20, 21, 22, 23, 24, 25, 26, 27, 28, 29, 30, 31, 32, 33, 34, 35, 36, 37, 38, 39, 40, 41] fun k kp hk hp => ?_;refine ap 8 ?_;refine go ?_
 by_cases h1 : (p1.system.vars.length : Int) > 400
 ·rw [if_pos h1] at hm;have h1b := decide_eq_true h1;refine aa ?_;refine gox h1b ?_;refine hk _ _ ?_;clear hk hp k kp;refine ah rfl rfl ?_;refine ao [0, 42, 43] ?_;refine an ?_;refine ai ?_;refine ab [.box [.tree 2 (p1.system.vars.map ak.enc), .tree 1 (p1.system.in_.map (eK .i64)), .tree 1 (p1.system.out_.map (eK .i64)), .tree 6 (p1.system.rules.map ae.enc), .int .i64 p1.code]] ?_;obtain rfl := Option.some.inj hm;exact en
 ·rw [if_neg h1] at hm;have h1b := decide_eq_false h1;refine ap 9 ?_;refine gox h1b ?_
  by_cases h2 : (p1.system.rules.length : Int) > 400
  ·rw [if_pos h2] at hm;have h2b := decide_eq_true h2;refine aa ?_;refine gox (a2 h1b h2b) ?_;refine hk _ _ ?_;clear hk hp k kp;refine ah rfl rfl ?_;refine ao [0, 42, 43] ?_;refine an ?_;refine ai ?_;refine ab [.box [.tree 2 (p1.system.vars.map ak.enc), .tree 1 (p1.system.in_.map (eK .i64)), .tree 1 (p1.system.out_.map (eK .i64)), .tree 6 (p1.system.rules.map ae.enc), .int .i64 p1.code]] ?_;obtain rfl := Option.some.inj hm;exact en
  ·rw [if_neg h2] at hm;have h2b := decide_eq_false h2;refine ap 9 ?_;refine gox (a2 h1b h2b) ?_
   by_cases h3 : (p1.system.in_.length : Int) > 400
   ·rw [if_pos h3] at hm;have h3b := decide_eq_true h3;refine aa ?_;refine gox (a2 h1b (a2 h2b h3b)) ?_;refine hk _ _ ?_;clear hk hp k kp;refine ah rfl rfl ?_;refine ao [0, 42, 43] ?_;refine an ?_;refine ai ?_;refine ab [.box [.tree 2 (p1.system.vars.map ak.enc), .tree 1 (p1.system.in_.map (eK .i64)), .tree 1 (p1.system.out_.map (eK .i64)), .tree 6 (p1.system.rules.map ae.enc), .int .i64 p1.code]] ?_;obtain rfl := Option.some.inj hm;exact en
   ·rw [if_neg h3] at hm;have h3b := decide_eq_false h3;refine aa ?_;refine gox (a2 h1b (a2 h2b h3b)) ?_;refine hk _ _ ?_;clear hk hp k kp
    by_cases h4 : (p1.system.out_.length : Int) > 400
    ·rw [if_pos h4] at hm;refine ah rfl (decide_eq_true h4) ?_;refine ao [0, 42, 43] ?_;refine an ?_;refine ai ?_;refine ab [.box [.tree 2 (p1.system.vars.map ak.enc), .tree 1 (p1.system.in_.map (eK .i64)), .tree 1 (p1.system.out_.map (eK .i64)), .tree 6 (p1.system.rules.map ae.enc), .int .i64 p1.code]] ?_;obtain rfl := Option.some.inj hm;exact en
    ·rw [if_neg h4] at hm;refine aj rfl (decide_eq_false h4) ?_;refine ar ?_;refine am (hk1 _ _ ?_);refine aF (S := Unit) (V := Unit) [3, 4, 42, 44, 45, 46, 47, 48, 49, 50, 51, 52, 53, 54, 55, 56, 57, 58, 59, 60, 61, 62, 63, 64, 65, 66, 67, 68, 69, 70, 71, 72, 73, 74, 75, 76, 77] (fun _ _ => []) (fun _ _ => [.box [.tree 2 (p1.system.vars.map ak.enc), .tree 1 (p1.system.in_.map (eK .i64)), .tree 1 (p1.system.out_.map (eK .i64)), .tree 6 (p1.system.rules.map ae.enc), .int .i64 p1.code], .box [.int .i64 0, .int .i64 0]]) (fun _ => cW p1 = some r) ?_ ?_
     ·skip;refine ao [42, 44, 45, 46, 47] ?_
      refine aw ?_;obtain ⟨o3, hl3, hm3⟩ := bd hm;refine aQ (S := Int) (V := Unit) (O := Unit ⊕ au) [3, 4, 50, 51, 52, 53, 54, 55, 56, 57, 58, 59, 60, 61, 62, 63, 64, 65, 66, 67, 68, 69, 70, 71, 72, 73, 74, 75, 76, 77] (fun x14 _ => [(50, .c (.int .i64 x14))]) (fun x14 _ => [.box [.tree 2 (p1.system.vars.map ak.enc), .tree 1 (p1.system.in_.map (eK .i64)), .tree 1 (p1.system.out_.map (eK .i64)), .tree 6 (p1.system.rules.map ae.enc), .int .i64 p1.code], .box [.int .i64 0, .int .i64 0]]) _ _ () hl3 ?_ ?_
      ·exact ls
      ·rintro x14 _ r3 hm hr3;replace hm : eT p1 x14 = some r3 := hm;refine aD ?_;unfold eT at hm;refine ao [] ?_;refine aq fun k7 hk7 => ?_
       by_cases h23 : x14 < (p1.system.vars.length : Int)
       ·rw [if_pos h23] at hm;refine ah rfl (decide_eq_true h23) ?_;refine ar ?_;refine am (hk7 _ _ ?_);refine aq fun k8 hk8 => ?_;refine aw ?_;obtain ⟨hg24a, hm⟩ := gd hm;refine bo (em ak.enc p1.system.vars x14.toNat) [51, 52, 53, 54] ?_;refine aF (S := Unit) (V := Unit) [55, 56, 57, 58, 59, 60, 61, 62, 63, 64, 65] (fun _ _ => []) (fun _ _ => [.box [.tree 2 (p1.system.vars.map ak.enc), .tree 1 (p1.system.in_.map (eK .i64)), .tree 1 (p1.system.out_.map (eK .i64)), .tree 6 (p1.system.rules.map ae.enc), .int .i64 p1.code], .box [.int .i64 0, .int .i64 0], .box [.int .u8 ((p1.system.vars.getD x14.toNat default).elem), .int .i64 ((p1.system.vars.getD x14.toNat default).n)]]) (fun _ => dN p1 x14 = some r3) ?_ ?_
        ·skip;refine bx [55, 56, 57, 58, 59, 60, 61] fun k kp hk hp => ?_
         refine ap 4 ?_;refine go ?_
         by_cases h29 : ¬ ((p1.system.vars.getD x14.toNat default).elem) = 105
         ·rw [if_pos h29] at hm;have h29b := bne_iff_ne.2 h29;refine aa ?_;refine gox h29b ?_;refine hk _ _ ?_;clear hk hp k kp
          by_cases h30 : ¬ ((p1.system.vars.getD x14.toNat default).elem) = 98
          ·rw [if_pos h30] at hm;refine ah rfl (bne_iff_ne.2 h30) ?_;refine ao [0, 3, 4, 48, 49, 50, 62, 63, 64, 65] ?_;have ho31 := az hm hr3;subst ho31;replace hm : some (au.mk 10 (IntKind.wrap .i64 ((-2) - x14))) = some r := hm3;refine an ?_;refine ay ?_;refine ag ?_;refine ai ?_;refine aG ?_;refine ag ?_;refine ay ?_;refine ab [.box [.tree 2 (p1.system.vars.map ak.enc), .tree 1 (p1.system.in_.map (eK .i64)), .tree 1 (p1.system.out_.map (eK .i64)), .tree 6 (p1.system.rules.map ae.enc), .int .i64 p1.code]] ?_;obtain rfl := Option.some.inj hm;exact en
          ·rw [if_neg h30] at hm;refine aj rfl (bne_eq_false_iff_eq.2 (Decidable.not_not.1 h30)) ?_;refine ar ?_;refine av () () hm ?_;exact ls
         ·rw [if_neg h29] at hm;have h29b : (((p1.system.vars.getD x14.toNat default).elem) != 105) = false := bne_eq_false_iff_eq.2 (Decidable.not_not.1 h29);refine aa ?_;refine gox h29b ?_;refine hk _ _ ?_;clear hk hp k kp;refine aj rfl rfl ?_;refine ar ?_;refine av () () hm ?_;exact ls
        ·rintro _ _ hm;replace hm : dN p1 x14 = some r3 := hm;refine aD ?_;unfold dN at hm;refine bx [4, 66, 67, 68, 69, 70, 71, 72] fun k kp hk hp => ?_;refine ap 4 ?_;refine go ?_
         by_cases h25 : ((p1.system.vars.getD x14.toNat default).n) < 0
         ·rw [if_pos h25] at hm;have h25b := decide_eq_true h25;refine aa ?_;refine gox h25b ?_;refine hk _ _ ?_;clear hk hp k kp;refine ah rfl rfl ?_;refine ao [0, 3, 48, 49, 50, 73, 74, 75, 76] ?_;have ho26 := az hm hr3;subst ho26;replace hm : some (au.mk 13 (IntKind.wrap .i64 ((-2) - x14))) = some r := hm3;refine an ?_;refine ag ?_;refine ai ?_;refine aG ?_;refine ag ?_;refine ay ?_;refine ab [.box [.tree 2 (p1.system.vars.map ak.enc), .tree 1 (p1.system.in_.map (eK .i64)), .tree 1 (p1.system.out_.map (eK .i64)), .tree 6 (p1.system.rules.map ae.enc), .int .i64 p1.code]] ?_;obtain rfl := Option.some.inj hm;exact en
         ·rw [if_neg h25] at hm;have h25b := decide_eq_false h25;refine aa ?_;refine gox h25b ?_;refine hk _ _ ?_;clear hk hp k kp
          by_cases h27 : ((p1.system.vars.getD x14.toNat default).n) > 300
          ·rw [if_pos h27] at hm;refine ah rfl (decide_eq_true h27) ?_;refine ao [0, 3, 48, 49, 50, 73, 74, 75, 76] ?_;have ho28 := az hm hr3;subst ho28;replace hm : some (au.mk 13 (IntKind.wrap .i64 ((-2) - x14))) = some r := hm3;refine an ?_;refine ag ?_;refine ai ?_;refine aG ?_;refine ag ?_;refine ay ?_;refine ab [.box [.tree 2 (p1.system.vars.map ak.enc), .tree 1 (p1.system.in_.map (eK .i64)), .tree 1 (p1.system.out_.map (eK .i64)), .tree 6 (p1.system.rules.map ae.enc), .int .i64 p1.code]] ?_;obtain rfl := Option.some.inj hm;exact en
          ·rw [if_neg h27] at hm;refine aj rfl (decide_eq_false h27) ?_;refine ar ?_;refine ax ?_;refine am (hk8 _ _ ?_);refine bm ?_;refine aB (IntKind.wrap .i64 (x14 + 1)) () hm ?_;exact ls
       ·rw [if_neg h23] at hm;refine aj rfl (decide_eq_false h23) ?_;refine aY ?_;have ho32 := az hm hr3;subst ho32;replace hm : cW p1 = some r := hm3;refine aP ?_;refine aL ?_;refine aA ?_;refine av () () hm ?_;exact ls
     ·rintro _ _ hm;replace hm : cW p1 = some r := hm;refine aD ?_;unfold cW at hm;refine aF (S := Unit) (V := Unit) [5, 6, 78, 79, 80, 81, 82, 83, 84, 85, 86, 87, 88, 89, 90, 91, 92, 93, 94, 95, 96, 97, 98, 99, 100, 101, 102, 103, 104] (fun _ _ => []) (fun _ _ => [.box [.tree 2 (p1.system.vars.map ak.enc), .tree 1 (p1.system.in_.map (eK .i64)), .tree 1 (p1.system.out_.map (eK .i64)), .tree 6 (p1.system.rules.map ae.enc), .int .i64 p1.code], .box [.int .i64 0, .int .i64 0]]) (fun _ => dM p1 = some r) ?_ ?_
      ·skip;refine ao [78, 79, 80, 81] ?_
       refine aw ?_;obtain ⟨o2, hl2, hm2⟩ := bd hm;refine aQ (S := Int) (V := Unit) (O := Unit ⊕ au) [5, 6, 84, 85, 86, 87, 88, 89, 90, 91, 92, 93, 94, 95, 96, 97, 98, 99, 100, 101, 102, 103, 104] (fun x8 _ => [(84, .c (.int .i64 x8))]) (fun x8 _ => [.box [.tree 2 (p1.system.vars.map ak.enc), .tree 1 (p1.system.in_.map (eK .i64)), .tree 1 (p1.system.out_.map (eK .i64)), .tree 6 (p1.system.rules.map ae.enc), .int .i64 p1.code], .box [.int .i64 0, .int .i64 0]]) _ _ () hl2 ?_ ?_
       ·exact ls
       ·rintro x8 _ r2 hm hr2;replace hm : gG p1 x8 = some r2 := hm;refine aD ?_;unfold gG at hm;refine ao [] ?_;refine aq fun k4 hk4 => ?_
        by_cases h12 : x8 < (p1.system.in_.length : Int)
        ·rw [if_pos h12] at hm;refine ah rfl (decide_eq_true h12) ?_;refine ar ?_;refine am (hk4 _ _ ?_);refine aq fun k5 hk5 => ?_;refine aw ?_;obtain ⟨hg13a, hm⟩ := gd hm;refine bo (em (eK .i64) p1.system.in_ x8.toNat) [85, 86, 87, 88] ?_;refine aq fun k6 hk6 => ?_;refine aJ [89, 90, 91] fun k kp hk hp => ?_;refine go ?_;obtain ⟨y9, hc14, hm⟩ := bd hm;refine RA (ko (p1.system.in_.getD x8.toNat default) p1  _ hc14) [0] ?_;rintro p σ' ⟨rfl, rfl⟩ _;refine aa ?_;refine go ?_;refine hk _ _ ?_;clear hk hp k kp
         by_cases h16 : y9 = true
         ·rw [if_pos h16] at hm;refine aj rfl (by rw [show y9 = true from (h16)]; rfl) ?_;refine ar ?_;refine am (hk6 _ _ ?_);obtain ⟨hg17a, hm⟩ := gd hm;refine aJ [5, 6, 92, 94, 95, 96, 97, 98, 99, 100, 101] fun k kp hk hp => ?_;refine go ?_;obtain ⟨y10, hc18, hm⟩ := bd hm;refine RP (fun _ => mX (p1.system.in_.take x8.toNat) (p1.system.in_.getD x8.toNat default) _ hc18) ?_;refine aa ?_;refine go ?_;refine hk _ _ ?_;clear hk hp k kp
          by_cases h19 : y10 = true
          ·rw [if_pos h19] at hm;refine ah rfl (h19) ?_;refine ao [0, 82, 83, 84, 102, 103] ?_;have ho20 := az hm hr2;subst ho20;replace hm : some (au.mk 8 (-1)) = some r := hm2;refine an ?_;refine ag ?_;refine ai ?_;refine aG ?_;refine ag ?_;refine ay ?_;refine ab [.box [.tree 2 (p1.system.vars.map ak.enc), .tree 1 (p1.system.in_.map (eK .i64)), .tree 1 (p1.system.out_.map (eK .i64)), .tree 6 (p1.system.rules.map ae.enc), .int .i64 p1.code]] ?_;obtain rfl := Option.some.inj hm;exact en
          ·rw [if_neg h19] at hm;refine aj rfl (Bool.eq_false_iff.2 h19) ?_;refine ar ?_;refine ax ?_;refine am (hk5 _ _ ?_);refine bm ?_;refine aB (IntKind.wrap .i64 (x8 + 1)) () hm ?_;exact ls
         ·rw [if_neg h16] at hm;refine ah rfl (by rw [show y9 = false from (Bool.eq_false_iff.2 h16)]; rfl) ?_;refine ao [0, 5, 6, 82, 83, 84, 92, 93] ?_;have ho21 := az hm hr2;subst ho21;replace hm : some (au.mk 16 (-1)) = some r := hm2;refine an ?_;refine ai ?_;refine ag ?_;refine ai ?_;refine aG ?_;refine ag ?_;refine ay ?_;refine ab [.box [.tree 2 (p1.system.vars.map ak.enc), .tree 1 (p1.system.in_.map (eK .i64)), .tree 1 (p1.system.out_.map (eK .i64)), .tree 6 (p1.system.rules.map ae.enc), .int .i64 p1.code]] ?_;obtain rfl := Option.some.inj hm;exact en
        ·rw [if_neg h12] at hm;refine aj rfl (decide_eq_false h12) ?_;refine aY ?_;have ho22 := az hm hr2;subst ho22;replace hm : dM p1 = some r := hm2;refine aP ?_;refine aL ?_;refine aA ?_;refine av () () hm ?_;exact ls
      ·rintro _ _ hm;replace hm : dM p1 = some r := hm;refine aD ?_;unfold dM at hm;refine aF (S := Unit) (V := Unit) [0, 8, 105, 106, 107, 108, 109, 110, 111, 112, 113, 114, 115, 116, 117, 118, 119, 120] (fun _ _ => []) (fun _ _ => [.box [.tree 2 (p1.system.vars.map ak.enc), .tree 1 (p1.system.in_.map (eK .i64)), .tree 1 (p1.system.out_.map (eK .i64)), .tree 6 (p1.system.rules.map ae.enc), .int .i64 p1.code], .box [.int .i64 0, .int .i64 0]]) (fun _ => gE = some r) ?_ ?_
       ·skip;refine ao [105, 106, 107, 108] ?_
        refine aw ?_;obtain ⟨o1, hl1, hm1⟩ := bd hm;refine aQ (S := Int) (V := Unit) (O := Unit ⊕ au) [8, 111, 112, 113, 114, 115, 116, 117, 118, 119, 120] (fun x3 _ => [(111, .c (.int .i64 x3))]) (fun x3 _ => [.box [.tree 2 (p1.system.vars.map ak.enc), .tree 1 (p1.system.in_.map (eK .i64)), .tree 1 (p1.system.out_.map (eK .i64)), .tree 6 (p1.system.rules.map ae.enc), .int .i64 p1.code], .box [.int .i64 0, .int .i64 0]]) _ _ () hl1 ?_ ?_
        ·exact ls
        ·rintro x3 _ r1 hm hr1;replace hm : gF p1 x3 = some r1 := hm;refine aD ?_;unfold gF at hm;refine ao [] ?_;refine aq fun k2 hk2 => ?_
         by_cases h5 : x3 < (p1.system.out_.length : Int)
         ·rw [if_pos h5] at hm;refine ah rfl (decide_eq_true h5) ?_;refine ar ?_;refine am (hk2 _ _ ?_);refine aq fun k3 hk3 => ?_;refine aw ?_;obtain ⟨hg6a, hm⟩ := gd hm;refine bo (em (eK .i64) p1.system.out_ x3.toNat) [112, 113, 114] ?_;refine aJ [8, 115, 116, 117] fun k kp hk hp => ?_;refine go ?_;obtain ⟨y4, hc7, hm⟩ := bd hm;refine RA (ko (p1.system.out_.getD x3.toNat default) p1  _ hc7) [0] ?_;rintro p σ' ⟨rfl, rfl⟩ _;refine aa ?_;refine go ?_;refine hk _ _ ?_;clear hk hp k kp
          by_cases h9 : y4 = true
          ·rw [if_pos h9] at hm;refine aj rfl (by rw [show y4 = true from (h9)]; rfl) ?_;refine ar ?_;refine ax ?_;refine am (hk3 _ _ ?_);refine bm ?_;refine aB (IntKind.wrap .i64 (x3 + 1)) () hm ?_;exact ls
          ·rw [if_neg h9] at hm;refine ah rfl (by rw [show y4 = false from (Bool.eq_false_iff.2 h9)]; rfl) ?_;refine ao [0, 109, 110, 111, 118, 119] ?_;have ho10 := az hm hr1;subst ho10;replace hm : some (au.mk 16 (-1)) = some r := hm1;refine an ?_;refine ag ?_;refine ai ?_;refine aG ?_;refine ag ?_;refine ay ?_;refine ab [.box [.tree 2 (p1.system.vars.map ak.enc), .tree 1 (p1.system.in_.map (eK .i64)), .tree 1 (p1.system.out_.map (eK .i64)), .tree 6 (p1.system.rules.map ae.enc), .int .i64 p1.code]] ?_;obtain rfl := Option.some.inj hm;exact en
         ·rw [if_neg h5] at hm;refine aj rfl (decide_eq_false h5) ?_;refine aY ?_;have ho11 := az hm hr1;subst ho11;replace hm : gE = some r := hm1;refine aP ?_;refine aL ?_;refine aA ?_;refine av () () hm ?_;exact ls
       ·rintro _ _ hm;replace hm : gE = some r := hm;refine aD ?_;unfold gE at hm;refine ao [121] ?_;refine an ?_;refine ab [.box [.tree 2 (p1.system.vars.map ak.enc), .tree 1 (p1.system.in_.map (eK .i64)), .tree 1 (p1.system.out_.map (eK .i64)), .tree 6 (p1.system.rules.map ae.enc), .int .i64 p1.code]] ?_;obtain rfl := Option.some.inj hm;exact en
end Pam

namespace Pam
open Go Go.Proofs
set_option maxRecDepth 100000 in
set_option maxHeartbeats 1000000 in
theorem cZ (p1 : Bool) (p2 : Int) (p3 : aH) (r : Int) (hm : bK p1 p2 p3 = some r) : fR Try.prog 126 [.c (.optr 0 0), .c (.bool p1), .c (.int .i64 p2)] [.box [.tree 2 (p3.system.vars.map ak.enc), .tree 1 (p3.system.in_.map (eK .i64)), .tree 1 (p3.system.out_.map (eK .i64)), .tree 6 (p3.system.rules.map ae.enc), .int .i64 p3.code]] (fun p σ => (p = .t [] ∧ σ = [.box [.tree 2 (p3.system.vars.map ak.enc), .tree 1 (p3.system.in_.map (eK .i64)), .tree 1 (p3.system.out_.map (eK .i64)), .tree 6 (p3.system.rules.map ae.enc), .int .i64 r]])) (fun _ _ => False) := by
 refine aN 18 [] Try.func126 rfl rfl rfl (by kernel_rfl) (by simp) ?_;refine bu ?_;unfold bK at hm
 by_cases h1 : p1 = true
 ·rw [if_pos h1] at hm;have h1b := h1;refine bo h1b [1, 6, 7, 8, 9, 10, 11, 12] ?_
  by_cases h2 : p3.code = 0
  ·rw [if_pos h2] at hm;refine ah rfl (beq_iff_eq.2 h2) ?_;refine bm ?_;refine pW [.box [.tree 2 (p3.system.vars.map ak.enc), .tree 1 (p3.system.in_.map (eK .i64)), .tree 1 (p3.system.out_.map (eK .i64)), .tree 6 (p3.system.rules.map ae.enc), .int .i64 p2]] ?_;obtain rfl := Option.some.inj hm;exact en
  ·rw [if_neg h2] at hm;refine aj rfl (beq_eq_false_iff_ne.2 h2) ?_;refine ar ?_;refine pW [.box [.tree 2 (p3.system.vars.map ak.enc), .tree 1 (p3.system.in_.map (eK .i64)), .tree 1 (p3.system.out_.map (eK .i64)), .tree 6 (p3.system.rules.map ae.enc), .int .i64 p3.code]] ?_;obtain rfl := Option.some.inj hm;exact en
 ·rw [if_neg h1] at hm;have h1b := Bool.eq_false_iff.2 h1;refine bo h1b [1, 6, 7, 8, 9, 10, 11, 12] ?_;refine aj rfl rfl ?_;refine ar ?_;refine pW [.box [.tree 2 (p3.system.vars.map ak.enc), .tree 1 (p3.system.in_.map (eK .i64)), .tree 1 (p3.system.out_.map (eK .i64)), .tree 6 (p3.system.rules.map ae.enc), .int .i64 p3.code]] ?_;obtain rfl := Option.some.inj hm;exact en
end Pam

namespace Pam
open Go Go.Proofs
set_option maxRecDepth 100000 in
set_option maxHeartbeats 1000000 in
theorem ra (p1 : Int) (r : Int) (hm : mA p1 = some r) : bU Try.prog 127 [.c (.int .i64 p1)] (.c (.int .i64 r)) := by
  refine aN 12 [.tmp 2] Try.func127 rfl rfl rfl (by kernel_rfl) (by simp) ?_;refine nO (by simp only [kc, Env.ofList, List.length_nil, List.length_cons, bE, Nat.reduceDiv, Nat.reduceMod, Nat.reduceLT, Nat.reduceLeDiff, Nat.reduceAdd, Nat.reduceSub, Nat.reduceMul, Nat.reduceEqDiff, Nat.reduceBEq, Nat.reduceBNe, Nat.reduceGT, Int.reduceToNat]; rfl) rfl ?_;unfold mA at hm;refine aJ [2] fun k kp hk hp => ?_;simp only [bR, bT, tab, bX, reduceIte, ↓reduceIte, reduceCtorEq, Int.reduceToNat, Nat.reduceDiv, Nat.reduceMod, Nat.reduceLT, Nat.reduceLeDiff, Nat.reduceAdd, Nat.reduceSub, Nat.reduceMul, Nat.reduceEqDiff, Nat.reduceBEq, Nat.reduceBNe, Nat.reduceGT]
  repeat refine ⟨by first | omega | assumption | decide | exact bk fun _ => rfl | (intro _; omega) | rfl | exact fun e => absurd (List.map_eq_nil_iff.1 e) (by assumption) | (and_intros <;> first | omega | assumption | decide | exact bk fun _ => rfl), ?_⟩
  refine hk _ _ ?_;clear hk hp k kp;refine aq fun k1 hk1 => ?_
  by_cases h1 : p1 < 1
  · rw [if_pos h1] at hm
    have h1b := decide_eq_true h1;refine aJ [3, 4, 5, 6, 7] fun k kp hk hp => ?_;simp only [bR, bT, tab, bX, reduceIte, ↓reduceIte, reduceCtorEq, Int.reduceToNat, Nat.reduceDiv, Nat.reduceMod, Nat.reduceLT, Nat.reduceLeDiff, Nat.reduceAdd, Nat.reduceSub, Nat.reduceMul, Nat.reduceEqDiff, Nat.reduceBEq, Nat.reduceBNe, Nat.reduceGT, h1b]
    repeat refine ⟨by first | omega | assumption | decide | exact bk fun _ => rfl | (intro _; omega) | rfl | exact fun e => absurd (List.map_eq_nil_iff.1 e) (by assumption) | (and_intros <;> first | omega | assumption | decide | exact bk fun _ => rfl), ?_⟩
    refine hk _ _ ?_;clear hk hp k kp;refine ah rfl rfl ?_;refine aJ [0, 8] fun k kp hk hp => ?_;simp only [bR, bT, tab, bX, reduceIte, ↓reduceIte, reduceCtorEq, Int.reduceToNat, Nat.reduceDiv, Nat.reduceMod, Nat.reduceLT, Nat.reduceLeDiff, Nat.reduceAdd, Nat.reduceSub, Nat.reduceMul, Nat.reduceEqDiff, Nat.reduceBEq, Nat.reduceBNe, Nat.reduceGT]
    repeat refine ⟨by first | omega | assumption | decide | exact bk fun _ => rfl | (intro _; omega) | rfl | exact fun e => absurd (List.map_eq_nil_iff.1 e) (by assumption) | (and_intros <;> first | omega | assumption | decide | exact bk fun _ => rfl), ?_⟩
    refine hk _ _ ?_;clear hk hp k kp;refine an ?_;refine ai ?_;refine ab [] ?_;obtain rfl := Option.some.inj hm
    simp only [bF, bT, tab, bX, Sum.elim_inl, Sum.elim_inr, reduceIte, ↓reduceIte, reduceCtorEq, Int.reduceToNat, Nat.reduceDiv, Nat.reduceMod, Nat.reduceLT, Nat.reduceLeDiff, Nat.reduceAdd, Nat.reduceSub, Nat.reduceMul, Nat.reduceEqDiff, Nat.reduceBEq, Nat.reduceBNe, Nat.reduceGT] <;> first | done | rfl | (and_intros <;> first | rfl | omega | (simp; done))
  · rw [if_neg h1] at hm
    have h1b := decide_eq_false h1;refine aJ [3, 4, 5, 6, 7] fun k kp hk hp => ?_;simp only [bR, bT, tab, bX, reduceIte, ↓reduceIte, reduceCtorEq, Int.reduceToNat, Nat.reduceDiv, Nat.reduceMod, Nat.reduceLT, Nat.reduceLeDiff, Nat.reduceAdd, Nat.reduceSub, Nat.reduceMul, Nat.reduceEqDiff, Nat.reduceBEq, Nat.reduceBNe, Nat.reduceGT, h1b]
    repeat refine ⟨by first | omega | assumption | decide | exact bk fun _ => rfl | (intro _; omega) | rfl | exact fun e => absurd (List.map_eq_nil_iff.1 e) (by assumption) | (and_intros <;> first | omega | assumption | decide | exact bk fun _ => rfl), ?_⟩
    refine hk _ _ ?_;clear hk hp k kp
    by_cases h2 : p1 > 16
    · rw [if_pos h2] at hm
      refine ah rfl (decide_eq_true h2) ?_;refine aJ [0, 8] fun k kp hk hp => ?_;simp only [bR, bT, tab, bX, reduceIte, ↓reduceIte, reduceCtorEq, Int.reduceToNat, Nat.reduceDiv, Nat.reduceMod, Nat.reduceLT, Nat.reduceLeDiff, Nat.reduceAdd, Nat.reduceSub, Nat.reduceMul, Nat.reduceEqDiff, Nat.reduceBEq, Nat.reduceBNe, Nat.reduceGT]
      repeat refine ⟨by first | omega | assumption | decide | exact bk fun _ => rfl | (intro _; omega) | rfl | exact fun e => absurd (List.map_eq_nil_iff.1 e) (by assumption) | (and_intros <;> first | omega | assumption | decide | exact bk fun _ => rfl), ?_⟩
      refine hk _ _ ?_;clear hk hp k kp;refine an ?_;refine ai ?_;refine ab [] ?_;obtain rfl := Option.some.inj hm
      simp only [bF, bT, tab, bX, Sum.elim_inl, Sum.elim_inr, reduceIte, ↓reduceIte, reduceCtorEq, Int.reduceToNat, Nat.reduceDiv, Nat.reduceMod, Nat.reduceLT, Nat.reduceLeDiff, Nat.reduceAdd, Nat.reduceSub, Nat.reduceMul, Nat.reduceEqDiff, Nat.reduceBEq, Nat.reduceBNe, Nat.reduceGT] <;> first | done | rfl | (and_intros <;> first | rfl | omega | (simp; done))
    · rw [if_neg h2] at hm
      refine aj rfl (decide_eq_false h2) ?_;refine ar ?_;refine am (hk1 _ _ ?_);obtain ⟨hg3a, hm⟩ := gd hm;refine bx [0, 8, 9, 10, 11] fun k kp hk hp => ?_;refine ap 2 ?_;simp only [bR, bT, tab, bX, reduceIte, ↓reduceIte, reduceCtorEq, Int.reduceToNat, Nat.reduceDiv, Nat.reduceMod, Nat.reduceLT, Nat.reduceLeDiff, Nat.reduceAdd, Nat.reduceSub, Nat.reduceMul, Nat.reduceEqDiff, Nat.reduceBEq, Nat.reduceBNe, Nat.reduceGT, List.replicate, List.foldr]
      repeat refine ⟨by first | omega | assumption | decide | exact bk fun _ => rfl | (intro _; omega) | rfl | exact fun e => absurd (List.map_eq_nil_iff.1 e) (by assumption) | (and_intros <;> first | omega | assumption | decide | exact bk fun _ => rfl), ?_⟩
      refine qW (At (lit ([0, 0, 1, 1, 2, 3, 2, 2, 1, 3, 3, 1, 2, 2, 0, 1, 1] : List Int)) 17 rfl (by first | rfl | (simp only [bR, bT, tab, bX, reduceIte, ↓reduceIte, reduceCtorEq, Int.reduceToNat, Nat.reduceDiv, Nat.reduceMod, Nat.reduceLT, Nat.reduceLeDiff, Nat.reduceAdd, Nat.reduceSub, Nat.reduceMul, Nat.reduceEqDiff, Nat.reduceBEq, Nat.reduceBNe, Nat.reduceGT]; done)) (by first | rfl | (simp only [bR, bT, tab, bX, reduceIte, ↓reduceIte, reduceCtorEq, Int.reduceToNat, Nat.reduceDiv, Nat.reduceMod, Nat.reduceLT, Nat.reduceLeDiff, Nat.reduceAdd, Nat.reduceSub, Nat.reduceMul, Nat.reduceEqDiff, Nat.reduceBEq, Nat.reduceBNe, Nat.reduceGT]; done)) (by unfold lit; rfl) (by first | kernel_rfl | exact of_decide_eq_true (by kernel_rfl)) (by first | kernel_rfl | exact of_decide_eq_true (by kernel_rfl)) (by kernel_rfl) (by omega) (by omega)) (by first | rfl | (simp only [bR, bT, tab, bX, reduceIte, ↓reduceIte, reduceCtorEq, Int.reduceToNat, Nat.reduceDiv, Nat.reduceMod, Nat.reduceLT, Nat.reduceLeDiff, Nat.reduceAdd, Nat.reduceSub, Nat.reduceMul, Nat.reduceEqDiff, Nat.reduceBEq, Nat.reduceBNe, Nat.reduceGT]; done)) (by first | trivial | exact bP rfl) ?_
      simp only [bR, bT, tab, bX, reduceIte, ↓reduceIte, reduceCtorEq, Int.reduceToNat, Nat.reduceDiv, Nat.reduceMod, Nat.reduceLT, Nat.reduceLeDiff, Nat.reduceAdd, Nat.reduceSub, Nat.reduceMul, Nat.reduceEqDiff, Nat.reduceBEq, Nat.reduceBNe, Nat.reduceGT];refine aa ?_;simp only [bR, bT, tab, bX, reduceIte, ↓reduceIte, reduceCtorEq, Int.reduceToNat, Nat.reduceDiv, Nat.reduceMod, Nat.reduceLT, Nat.reduceLeDiff, Nat.reduceAdd, Nat.reduceSub, Nat.reduceMul, Nat.reduceEqDiff, Nat.reduceBEq, Nat.reduceBNe, Nat.reduceGT]
      repeat refine ⟨by first | omega | assumption | decide | exact bk fun _ => rfl | (intro _; omega) | rfl | exact fun e => absurd (List.map_eq_nil_iff.1 e) (by assumption) | (and_intros <;> first | omega | assumption | decide | exact bk fun _ => rfl), ?_⟩
      refine hk _ _ ?_;clear hk hp k kp;refine an ?_;refine ab [] ?_;obtain rfl := Option.some.inj hm
      simp only [bF, bT, tab, bX, Sum.elim_inl, Sum.elim_inr, reduceIte, ↓reduceIte, reduceCtorEq, Int.reduceToNat, Nat.reduceDiv, Nat.reduceMod, Nat.reduceLT, Nat.reduceLeDiff, Nat.reduceAdd, Nat.reduceSub, Nat.reduceMul, Nat.reduceEqDiff, Nat.reduceBEq, Nat.reduceBNe, Nat.reduceGT] <;> first | done | rfl | (and_intros <;> first | rfl | omega | (simp; done))
end Pam

namespace Pam
open Go Go.Proofs
set_option maxRecDepth 100000 in
set_option maxHeartbeats 8000000 in
theorem nl (p1 : Int) (r : (Int × Int × Int)) (hm : lQ p1 = some r) : bU Try.prog 138 [.c (.int .i64 p1)] (.t [.c (.int .u8 r.1), .c (.int .u8 r.2.1), .c (.int .i64 r.2.2)]) := by
 refine aN 32 [.tmp 2, .tmp 3, .tmp 4] Try.func138 rfl rfl rfl (by kernel_rfl) (by simp) ?_;refine bu ?_;unfold lQ at hm;refine ao [2, 3, 4] ?_;refine aq fun k1 hk1 => ?_;refine aw ?_
 by_cases h1 : p1 ≥ 1
 ·rw [if_pos h1] at hm;have h1b := decide_eq_true h1;refine bo h1b [6, 7, 8, 9, 10, 11] ?_
  by_cases h2 : p1 ≤ 7
  ·rw [if_pos h2] at hm;refine ah rfl (decide_eq_true h2) ?_;refine ao [0, 5] ?_;refine an ?_;refine ag ?_;refine ai ?_;refine ab [] ?_;obtain rfl := Option.some.inj hm;exact en
  ·rw [if_neg h2] at hm;refine aj rfl (decide_eq_false h2) ?_
   by_cases h3 : p1 = 8
   ·rw [if_pos h3] at hm;have h3b := beq_iff_eq.2 h3;refine bo h3b [5, 13, 14, 15, 16, 17, 18] ?_;refine ah rfl rfl ?_;refine ao [0, 12] ?_;refine an ?_;refine ag ?_;refine ai ?_;refine ab [] ?_;obtain rfl := Option.some.inj hm;exact en
   ·rw [if_neg h3] at hm;have h3b := beq_eq_false_iff_ne.2 h3;refine bo h3b [5, 13, 14, 15, 16, 17, 18] ?_
    by_cases h4 : p1 = 9
    ·rw [if_pos h4] at hm;refine ah rfl (beq_iff_eq.2 h4) ?_;refine ao [0, 12] ?_;refine an ?_;refine ag ?_;refine ai ?_;refine ab [] ?_;obtain rfl := Option.some.inj hm;exact en
    ·rw [if_neg h4] at hm;refine aj rfl (beq_eq_false_iff_ne.2 h4) ?_
     by_cases h5 : p1 ≥ 10
     ·rw [if_pos h5] at hm;have h5b := decide_eq_true h5;refine bo h5b [12, 20, 21, 22, 23, 24, 25] ?_
      by_cases h6 : p1 ≤ 12
      ·rw [if_pos h6] at hm;refine ah rfl (decide_eq_true h6) ?_;refine ao [0, 19] ?_;refine an ?_;refine ag ?_;refine ai ?_;refine ab [] ?_;obtain rfl := Option.some.inj hm;exact en
      ·rw [if_neg h6] at hm;refine aj rfl (decide_eq_false h6) ?_;refine ao [19, 27, 28] ?_
       by_cases h7 : p1 = 13
       ·rw [if_pos h7] at hm;refine ah rfl (beq_iff_eq.2 h7) ?_;refine ao [0, 26] ?_;refine an ?_;refine ag ?_;refine ai ?_;refine ab [] ?_;obtain rfl := Option.some.inj hm;exact en
       ·rw [if_neg h7] at hm;refine aj rfl (beq_eq_false_iff_ne.2 h7) ?_;refine ao [0, 26, 30, 31] ?_
        by_cases h8 : p1 = 14
        ·rw [if_pos h8] at hm;refine ah rfl (beq_iff_eq.2 h8) ?_;refine ao [29] ?_;refine an ?_;refine ag ?_;refine ai ?_;refine ab [] ?_;obtain rfl := Option.some.inj hm;exact en
        ·rw [if_neg h8] at hm;refine aj rfl (beq_eq_false_iff_ne.2 h8) ?_;refine ar ?_;refine ax ?_;refine am (hk1 _ _ ?_);refine ao [29] ?_;refine an ?_;refine ab [] ?_;obtain rfl := Option.some.inj hm;exact en
     ·rw [if_neg h5] at hm;have h5b := decide_eq_false h5;refine bo h5b [12, 20, 21, 22, 23, 24, 25] ?_;refine aj rfl rfl ?_;refine ao [19, 27, 28] ?_
      by_cases h9 : p1 = 13
      ·rw [if_pos h9] at hm;refine ah rfl (beq_iff_eq.2 h9) ?_;refine ao [0, 26] ?_;refine an ?_;refine ag ?_;refine ai ?_;refine ab [] ?_;obtain rfl := Option.some.inj hm;exact en
      ·rw [if_neg h9] at hm;refine aj rfl (beq_eq_false_iff_ne.2 h9) ?_;refine ao [0, 26, 30, 31] ?_
       by_cases h10 : p1 = 14
       ·rw [if_pos h10] at hm;refine ah rfl (beq_iff_eq.2 h10) ?_;refine ao [29] ?_;refine an ?_;refine ag ?_;refine ai ?_;refine ab [] ?_;obtain rfl := Option.some.inj hm;exact en
       ·rw [if_neg h10] at hm;refine aj rfl (beq_eq_false_iff_ne.2 h10) ?_;refine ar ?_;refine ax ?_;refine am (hk1 _ _ ?_);refine ao [29] ?_;refine an ?_;refine ab [] ?_;obtain rfl := Option.some.inj hm;exact en
 ·rw [if_neg h1] at hm;have h1b := decide_eq_false h1;refine bo h1b [6, 7, 8, 9, 10, 11] ?_;refine aj rfl rfl ?_
  by_cases h11 : p1 = 8
  ·rw [if_pos h11] at hm;have h11b := beq_iff_eq.2 h11;refine bo h11b [5, 13, 14, 15, 16, 17, 18] ?_;refine ah rfl rfl ?_;refine ao [0, 12] ?_;refine an ?_;refine ag ?_;refine ai ?_;refine ab [] ?_;obtain rfl := Option.some.inj hm;exact en
  ·rw [if_neg h11] at hm;have h11b := beq_eq_false_iff_ne.2 h11;refine bo h11b [5, 13, 14, 15, 16, 17, 18] ?_
   by_cases h12 : p1 = 9
   ·rw [if_pos h12] at hm;refine ah rfl (beq_iff_eq.2 h12) ?_;refine ao [0, 12] ?_;refine an ?_;refine ag ?_;refine ai ?_;refine ab [] ?_;obtain rfl := Option.some.inj hm;exact en
   ·rw [if_neg h12] at hm;refine aj rfl (beq_eq_false_iff_ne.2 h12) ?_
    by_cases h13 : p1 ≥ 10
    ·rw [if_pos h13] at hm;have h13b := decide_eq_true h13;refine bo h13b [12, 20, 21, 22, 23, 24, 25] ?_
     by_cases h14 : p1 ≤ 12
     ·rw [if_pos h14] at hm;refine ah rfl (decide_eq_true h14) ?_;refine ao [0, 19] ?_;refine an ?_;refine ag ?_;refine ai ?_;refine ab [] ?_;obtain rfl := Option.some.inj hm;exact en
     ·rw [if_neg h14] at hm;refine aj rfl (decide_eq_false h14) ?_;refine ao [19, 27, 28] ?_
      by_cases h15 : p1 = 13
      ·rw [if_pos h15] at hm;refine ah rfl (beq_iff_eq.2 h15) ?_;refine ao [0, 26] ?_;refine an ?_;refine ag ?_;refine ai ?_;refine ab [] ?_;obtain rfl := Option.some.inj hm;exact en
      ·rw [if_neg h15] at hm;refine aj rfl (beq_eq_false_iff_ne.2 h15) ?_;refine ao [0, 26, 30, 31] ?_
       by_cases h16 : p1 = 14
       ·rw [if_pos h16] at hm;refine ah rfl (beq_iff_eq.2 h16) ?_;refine ao [29] ?_;refine an ?_;refine ag ?_;refine ai ?_;refine ab [] ?_;obtain rfl := Option.some.inj hm;exact en
       ·rw [if_neg h16] at hm;refine aj rfl (beq_eq_false_iff_ne.2 h16) ?_;refine ar ?_;refine ax ?_;refine am (hk1 _ _ ?_);refine ao [29] ?_;refine an ?_;refine ab [] ?_;obtain rfl := Option.some.inj hm;exact en
    ·rw [if_neg h13] at hm;have h13b := decide_eq_false h13;refine bo h13b [12, 20, 21, 22, 23, 24, 25] ?_;refine aj rfl rfl ?_;refine ao [19, 27, 28] ?_
     by_cases h17 : p1 = 13
     ·rw [if_pos h17] at hm;refine ah rfl (beq_iff_eq.2 h17) ?_;refine ao [0, 26] ?_;refine an ?_;refine ag ?_;refine ai ?_;refine ab [] ?_;obtain rfl := Option.some.inj hm;exact en
     ·rw [if_neg h17] at hm;refine aj rfl (beq_eq_false_iff_ne.2 h17) ?_;refine ao [0, 26, 30, 31] ?_
      by_cases h18 : p1 = 14
      ·rw [if_pos h18] at hm;refine ah rfl (beq_iff_eq.2 h18) ?_;refine ao [29] ?_;refine an ?_;refine ag ?_;refine ai ?_;refine ab [] ?_;obtain rfl := Option.some.inj hm;exact en
      ·rw [if_neg h18] at hm;refine aj rfl (beq_eq_false_iff_ne.2 h18) ?_;refine ar ?_;refine ax ?_;refine am (hk1 _ _ ?_);refine ao [29] ?_;refine an ?_;refine ab [] ?_;obtain rfl := Option.some.inj hm;exact en
end Pam

namespace Pam
open Go Go.Proofs
set_option maxRecDepth 100000 in
set_option maxHeartbeats 1000000 in
theorem rb (p1 : List Int) (p2 : aH) (r : Bool) (hm : jA p1 p2 = some r) : fR Try.prog 146 [.c (.optr 0 0), .c (.tree 1 (p1.map (eK .i64)))] [.box [.tree 2 (p2.system.vars.map ak.enc), .tree 1 (p2.system.in_.map (eK .i64)), .tree 1 (p2.system.out_.map (eK .i64)), .tree 6 (p2.system.rules.map ae.enc), .int .i64 p2.code]] (fun p σ => (p = .c (.bool r) ∧ σ = [.box [.tree 2 (p2.system.vars.map ak.enc), .tree 1 (p2.system.in_.map (eK .i64)), .tree 1 (p2.system.out_.map (eK .i64)), .tree 6 (p2.system.rules.map ae.enc), .int .i64 p2.code]])) (fun _ _ => False) := by
 refine aN 33 [.tmp 4] Try.func146 rfl rfl rfl (by kernel_rfl) (by simp) ?_;refine bu ?_;unfold jA at hm;refine ao [4] ?_;refine aF (S := Unit) (V := Unit) [0, 1, 4, 6, 7, 8, 9, 10, 11, 12, 13, 14, 15, 16, 17, 18, 19, 20, 21, 22, 23, 24, 25, 26, 27, 28, 29, 30, 31, 32] (fun _ _ => []) (fun _ _ => [.box [.tree 2 (p2.system.vars.map ak.enc), .tree 1 (p2.system.in_.map (eK .i64)), .tree 1 (p2.system.out_.map (eK .i64)), .tree 6 (p2.system.rules.map ae.enc), .int .i64 p2.code]]) (fun _ => gH = some r) ?_ ?_
 ·skip;refine ao [] ?_
  refine aw ?_;obtain ⟨o1, hl1, hm1⟩ := bd hm;refine aQ (S := Int) (V := Unit) (O := Unit ⊕ Bool) [4, 6, 9, 10, 11, 12, 13, 14, 15, 16, 17, 18, 19, 20, 21, 22, 23, 24, 25, 26, 27, 28, 29, 30, 31, 32] (fun x3 _ => [(9, .c (.int .i64 x3))]) (fun x3 _ => [.box [.tree 2 (p2.system.vars.map ak.enc), .tree 1 (p2.system.in_.map (eK .i64)), .tree 1 (p2.system.out_.map (eK .i64)), .tree 6 (p2.system.rules.map ae.enc), .int .i64 p2.code]]) _ _ () hl1 ?_ ?_
  ·exact ls
  ·rintro x3 _ r1 hm hr1;replace hm : gI p1 p2 x3 = some r1 := hm;refine aD ?_;unfold gI at hm;refine ao [] ?_;refine aq fun k1 hk1 => ?_
   by_cases h1 : x3 < (p1.length : Int)
   ·rw [if_pos h1] at hm;refine ah rfl (decide_eq_true h1) ?_;refine ar ?_;refine am (hk1 _ _ ?_);refine aq fun k2 hk2 => ?_;refine aw ?_;obtain ⟨hg2a, hm⟩ := gd hm;refine bo (em (eK .i64) p1 x3.toNat) [10, 11, 12] ?_;obtain ⟨⟨hg3a, hg3b, hg3c⟩, hm⟩ := gd hm;refine mR (a2 (em ak.enc p2.system.vars ((p1.getD x3.toNat default).toNat)) (a2 (em (eK .i64) p1 0) (em ak.enc p2.system.vars ((p1.getD 0 default).toNat)))) [6, 13, 14, 15, 16, 17, 18, 19, 20, 21, 22, 23, 24, 25, 26, 27, 28, 29, 30] [0, 1, 3, 7, 15, 0, 63, 127, 0, 256, 768, 1792, 3840, 0, 8192, 24576, 65280, 130816, 262143] [false, false, false, false, false, false, false, false, false, false, false, false, false, false, false, false, false, false, true] ?_
    by_cases h4 : ((p2.system.vars.getD ((p1.getD x3.toNat default).toNat) default).elem) = ((p2.system.vars.getD ((p1.getD 0 default).toNat) default).elem) ∧ ((p2.system.vars.getD ((p1.getD x3.toNat default).toNat) default).n) = ((p2.system.vars.getD ((p1.getD 0 default).toNat) default).n)
    ·rw [if_pos h4] at hm;refine aj rfl (by rw [show ((((p2.system.vars.getD ((p1.getD x3.toNat default).toNat) default).elem) == ((p2.system.vars.getD ((p1.getD 0 default).toNat) default).elem)) && (((p2.system.vars.getD ((p1.getD x3.toNat default).toNat) default).n) == ((p2.system.vars.getD ((p1.getD 0 default).toNat) default).n))) = true from (by simpa [Bool.and_eq_true] using h4)]; rfl) ?_;refine ar ?_;refine ax ?_;refine am (hk2 _ _ ?_);refine bm ?_;refine aB (IntKind.wrap .i64 (x3 + 1)) () hm ?_;exact ls
    ·rw [if_neg h4] at hm;refine ah rfl (by rw [show ((((p2.system.vars.getD ((p1.getD x3.toNat default).toNat) default).elem) == ((p2.system.vars.getD ((p1.getD 0 default).toNat) default).elem)) && (((p2.system.vars.getD ((p1.getD x3.toNat default).toNat) default).n) == ((p2.system.vars.getD ((p1.getD 0 default).toNat) default).n))) = false from (Bool.eq_false_iff.2 (fun hh => h4 (by simpa [Bool.and_eq_true] using hh)))]; rfl) ?_;refine ao [0, 1, 7, 8, 9, 31] ?_;have ho5 := az hm hr1;subst ho5;replace hm : some false = some r := hm1;refine an ?_;refine ag ?_;refine ai ?_;refine aG ?_;refine ag ?_;refine ay ?_;refine ab [.box [.tree 2 (p2.system.vars.map ak.enc), .tree 1 (p2.system.in_.map (eK .i64)), .tree 1 (p2.system.out_.map (eK .i64)), .tree 6 (p2.system.rules.map ae.enc), .int .i64 p2.code]] ?_;obtain rfl := Option.some.inj hm;exact en
   ·rw [if_neg h1] at hm;refine aj rfl (decide_eq_false h1) ?_;refine aY ?_;have ho6 := az hm hr1;subst ho6;replace hm : gH = some r := hm1;refine aP ?_;refine aL ?_;refine aA ?_;refine av () () hm ?_;exact ls
 ·rintro _ _ hm;replace hm : gH = some r := hm;refine aD ?_;unfold gH at hm;refine ao [] ?_;refine an ?_;refine ab [.box [.tree 2 (p2.system.vars.map ak.enc), .tree 1 (p2.system.in_.map (eK .i64)), .tree 1 (p2.system.out_.map (eK .i64)), .tree 6 (p2.system.rules.map ae.enc), .int .i64 p2.code]] ?_;obtain rfl := Option.some.inj hm;exact en
end Pam

namespace Pam
open Go Go.Proofs
set_option maxRecDepth 100000 in
set_option maxHeartbeats 1000000 in
theorem ki (p1 : Int) (r : ak) (hm : iL p1 = some r) : bU Try.prog 147 [.c (.int .u8 p1)] (.a [.int .u8 ((r).elem), .int .i64 ((r).n)]) := by
 refine aN 5 [.cell 2 97] Try.func147 rfl rfl rfl (by kernel_rfl) (by simp) ?_;refine bu ?_;unfold iL at hm;refine ao [] ?_;refine ao [0, 3, 4] ?_;refine an ?_;refine ab [] ?_;obtain rfl := Option.some.inj hm;exact en
end Pam

namespace Pam
open Go Go.Proofs
set_option maxRecDepth 100000 in
set_option maxHeartbeats 1000000 in
theorem mo (p1 : aH) (p2 : List Int) (v1_ : Nat) (r : Bool) (hm : fo p1 p2 = some r) : fR Try.prog 146 [.c (.optr 0 0), .c (.osl 1 v1_ 0 p2.length)] [.box [.tree 2 (p1.system.vars.map ak.enc), .tree 1 (p1.system.in_.map (eK .i64)), .tree 1 (p1.system.out_.map (eK .i64)), .tree 6 (p1.system.rules.map ae.enc), .int .i64 p1.code], .arr 1 v1_ 3 (p2.map (eK .i64))] (fun p σ => (p = .c (.bool r) ∧ σ = [.box [.tree 2 (p1.system.vars.map ak.enc), .tree 1 (p1.system.in_.map (eK .i64)), .tree 1 (p1.system.out_.map (eK .i64)), .tree 6 (p1.system.rules.map ae.enc), .int .i64 p1.code], .arr 1 v1_ 3 (p2.map (eK .i64))])) (fun _ _ => False) := by
 refine aN 33 [.tmp 4] Try.func146 rfl rfl rfl (by kernel_rfl) (by simp) ?_;refine bu ?_;unfold fo at hm;refine ao [4] ?_;refine aF (S := Unit) (V := Unit) [0, 1, 4, 6, 7, 8, 9, 10, 11, 12, 13, 14, 15, 16, 17, 18, 19, 20, 21, 22, 23, 24, 25, 26, 27, 28, 29, 30, 31, 32] (fun _ _ => []) (fun _ _ => [.box [.tree 2 (p1.system.vars.map ak.enc), .tree 1 (p1.system.in_.map (eK .i64)), .tree 1 (p1.system.out_.map (eK .i64)), .tree 6 (p1.system.rules.map ae.enc), .int .i64 p1.code], .arr 1 v1_ 3 (p2.map (eK .i64))]) (fun _ => e7 = some r) ?_ ?_
 ·skip;refine ao [] ?_
  refine aw ?_;obtain ⟨o1, hl1, hm1⟩ := bd hm;refine aQ (S := Int) (V := Unit) (O := Unit ⊕ Bool) [1, 4, 6, 7, 9, 10, 11, 12, 13, 14, 15, 16, 17, 18, 19, 20, 21, 22, 23, 24, 25, 26, 27, 28, 29, 30, 31, 32] (fun x3 _ => [(1, .c (.osl 1 v1_ 0 p2.length)), (7, .c (.osl 1 v1_ 0 p2.length)), (9, .c (.int .i64 x3))]) (fun x3 _ => [.box [.tree 2 (p1.system.vars.map ak.enc), .tree 1 (p1.system.in_.map (eK .i64)), .tree 1 (p1.system.out_.map (eK .i64)), .tree 6 (p1.system.rules.map ae.enc), .int .i64 p1.code], .arr 1 v1_ 3 (p2.map (eK .i64))]) _ _ () hl1 ?_ ?_
  ·exact ls
  ·rintro x3 _ r1 hm hr1;replace hm : e8 p1 p2 x3 = some r1 := hm;refine aD ?_;unfold e8 at hm;refine ao [] ?_;refine aq fun k1 hk1 => ?_
   by_cases h1 : x3 < (p2.length : Int)
   ·rw [if_pos h1] at hm;refine ah rfl (decide_eq_true h1) ?_;refine ar ?_;refine am (hk1 _ _ ?_);refine aq fun k2 hk2 => ?_;refine aw ?_;obtain ⟨hg2a, hm⟩ := gd hm;refine bo (em (eK .i64) p2 x3.toNat) [10, 11, 12] ?_;obtain ⟨⟨hg3a, hg3b, hg3c⟩, hm⟩ := gd hm;refine mR (a2 (em ak.enc p1.system.vars ((p2.getD x3.toNat default).toNat)) (a2 (em (eK .i64) p2 0) (em ak.enc p1.system.vars ((p2.getD 0 default).toNat)))) [6, 13, 14, 15, 16, 17, 18, 19, 20, 21, 22, 23, 24, 25, 26, 27, 28, 29, 30] [0, 1, 3, 7, 15, 0, 63, 127, 0, 256, 768, 1792, 3840, 0, 8192, 24576, 65280, 130816, 262143] [false, false, false, false, false, false, false, false, false, false, false, false, false, false, false, false, false, false, true] ?_
    by_cases h4 : ((p1.system.vars.getD ((p2.getD x3.toNat default).toNat) default).elem) = ((p1.system.vars.getD ((p2.getD 0 default).toNat) default).elem) ∧ ((p1.system.vars.getD ((p2.getD x3.toNat default).toNat) default).n) = ((p1.system.vars.getD ((p2.getD 0 default).toNat) default).n)
    ·rw [if_pos h4] at hm;refine aj rfl (by rw [show ((((p1.system.vars.getD ((p2.getD x3.toNat default).toNat) default).elem) == ((p1.system.vars.getD ((p2.getD 0 default).toNat) default).elem)) && (((p1.system.vars.getD ((p2.getD x3.toNat default).toNat) default).n) == ((p1.system.vars.getD ((p2.getD 0 default).toNat) default).n))) = true from (by simpa [Bool.and_eq_true] using h4)]; rfl) ?_;refine ar ?_;refine ax ?_;refine am (hk2 _ _ ?_);refine bm ?_;refine aB (IntKind.wrap .i64 (x3 + 1)) () hm ?_;exact ls
    ·rw [if_neg h4] at hm;refine ah rfl (by rw [show ((((p1.system.vars.getD ((p2.getD x3.toNat default).toNat) default).elem) == ((p1.system.vars.getD ((p2.getD 0 default).toNat) default).elem)) && (((p1.system.vars.getD ((p2.getD x3.toNat default).toNat) default).n) == ((p1.system.vars.getD ((p2.getD 0 default).toNat) default).n))) = false from (Bool.eq_false_iff.2 (fun hh => h4 (by simpa [Bool.and_eq_true] using hh)))]; rfl) ?_;refine ao [0, 1, 7, 8, 9, 31] ?_;have ho5 := az hm hr1;subst ho5;replace hm : some false = some r := hm1;refine an ?_;refine ag ?_;refine ai ?_;refine aG ?_;refine ag ?_;refine ay ?_;refine ab [.box [.tree 2 (p1.system.vars.map ak.enc), .tree 1 (p1.system.in_.map (eK .i64)), .tree 1 (p1.system.out_.map (eK .i64)), .tree 6 (p1.system.rules.map ae.enc), .int .i64 p1.code], .arr 1 v1_ 3 (p2.map (eK .i64))] ?_;obtain rfl := Option.some.inj hm;exact en
   ·rw [if_neg h1] at hm;refine aj rfl (decide_eq_false h1) ?_;refine aY ?_;have ho6 := az hm hr1;subst ho6;replace hm : e7 = some r := hm1;refine aP ?_;refine aL ?_;refine aA ?_;refine av () () hm ?_;exact ls
 ·rintro _ _ hm;replace hm : e7 = some r := hm;refine aD ?_;unfold e7 at hm;refine ao [] ?_;refine an ?_;refine ab [.box [.tree 2 (p1.system.vars.map ak.enc), .tree 1 (p1.system.in_.map (eK .i64)), .tree 1 (p1.system.out_.map (eK .i64)), .tree 6 (p1.system.rules.map ae.enc), .int .i64 p1.code], .arr 1 v1_ 3 (p2.map (eK .i64))] ?_;obtain rfl := Option.some.inj hm;exact en
end Pam

namespace Pam
open Go Go.Proofs
set_option maxRecDepth 100000 in
set_option maxHeartbeats 1000000 in
theorem mY (p1 : Int) (r : Bool) (hm : jB p1 = some r) : bU Try.prog 148 [.c (.int .i64 p1)] (.c (.bool r)) := by
 refine aN 19 [.tmp 2] Try.func148 rfl rfl rfl (by kernel_rfl) (by simp) ?_;refine bu ?_;unfold jB at hm;refine ao [2] ?_;refine aJ [0, 6, 7, 8, 9, 10, 11] fun k kp hk hp => ?_;refine go ?_;obtain ⟨y1, hc1, hm⟩ := bd hm;refine RP (fun _ => nl p1 _ hc1) ?_;refine aa ?_;refine go ?_;refine hk _ _ ?_;clear hk hp k kp
 by_cases h2 : y1.2.2 = 2
 ·rw [if_pos h2] at hm;have h2b := beq_iff_eq.2 h2;refine bo h2b [3, 4, 5, 12, 13, 14, 15, 16, 17, 18] ?_;refine an ?_;refine ab [] ?_;obtain rfl := Option.some.inj hm;exact en
 ·rw [if_neg h2] at hm;have h2b := beq_eq_false_iff_ne.2 h2;refine bo h2b [3, 4, 5, 12, 13, 14, 15, 16, 17, 18] ?_;refine an ?_;refine ab [] ?_;obtain rfl := Option.some.inj hm;exact en
end Pam

namespace Pam
open Go Go.Proofs
set_option maxRecDepth 100000 in
set_option maxHeartbeats 1000000 in
theorem re (p1 : Int) (p2 : aH) (r : (ak × Bool)) (hm : jC p1 p2 = some r) : fR Try.prog 149 [.c (.optr 0 0), .c (.int .i64 p1)] [.box [.tree 2 (p2.system.vars.map ak.enc), .tree 1 (p2.system.in_.map (eK .i64)), .tree 1 (p2.system.out_.map (eK .i64)), .tree 6 (p2.system.rules.map ae.enc), .int .i64 p2.code]] (fun p σ => (p = .t [.a [.int .u8 ((r.1).elem), .int .i64 ((r.1).n)], .c (.bool r.2)] ∧ σ = [.box [.tree 2 (p2.system.vars.map ak.enc), .tree 1 (p2.system.in_.map (eK .i64)), .tree 1 (p2.system.out_.map (eK .i64)), .tree 6 (p2.system.rules.map ae.enc), .int .i64 p2.code]])) (fun _ _ => False) := by
 refine aN 26 [.cell 4 97, .tmp 5] Try.func149 rfl rfl rfl (by kernel_rfl) (by simp) ?_;refine bu ?_;unfold jC at hm;refine ao [5] ?_;obtain ⟨hg1a, hm⟩ := gd hm;refine rc [0, 1, 6, 7, 8, 9, 10, 11, 12, 13, 14, 15, 16, 17, 18, 19, 20, 21, 22, 23, 24, 25] (by kernel_rfl) [1] [0, 1, 3, 7, 15, 0, 63, 127, 255, 511, 0, 1024, 3072, 7168, 15360, 0, 64512, 130048, 261120, 523264, 1023, 2097151] [false, false, false, false, false, false, false, false, false, false, false, false, false, false, false, false, false, false, false, false, false, true] [false, false, false, false, false, false, false, false, false, false, false, false, false, false, false, false, false, false, false, false, true, false] [[], [], [], [], [], [], [], [], [], [], [0], [16], [17], [18], [19], [1], [20, 21], [22], [23], [24], [], []] (by kernel_rfl) fun k hk => ?_
 simp only [bAP, bT, tab, bX, reduceIte, ↓reduceIte, reduceCtorEq, Int.reduceToNat, Nat.reduceDiv, Nat.reduceMod, Nat.reduceLT, Nat.reduceLeDiff, Nat.reduceAdd, Nat.reduceSub, Nat.reduceMul, Nat.reduceEqDiff, Nat.reduceBEq, Nat.reduceBNe, Nat.reduceGT, qV ak.enc p2.system.vars p1.toNat (by first | omega | (simp only [bw, List.length_cons, List.length_nil, List.length_append, List.length_set, List.length_replicate, List.length_map, List.length_take, List.length_drop]; omega))]
 repeat refine ⟨by first | omega | assumption | decide | exact bk fun _ => rfl | (intro _; omega) | rfl | exact fun e => absurd (List.map_eq_nil_iff.1 e) (by assumption) | (and_intros <;> first | omega | assumption | decide | exact bk fun _ => rfl) | (refine .inl ?_; simp only [fT]; and_intros <;> first | rfl | trivial) | (refine .inr (.inl ?_); simp only [fT]; and_intros <;> first | rfl | trivial) | (refine .inr ?_; simp only [kj]; and_intros <;> first | exact .inl rfl | exact .inr rfl | trivial) | (refine .inr (.inr ⟨rfl, ?_⟩); simp only [kj]; and_intros <;> first | exact .inl rfl | exact .inr rfl | trivial) | exact .inl rfl, ?_⟩
 obtain ⟨y1, hc2, hm⟩ := bd hm
 refine ur (fun _ => ki ((p2.system.vars.getD p1.toNat default).elem) _ hc2) (by first | trivial | exact bP rfl) (by first | trivial | (intro _; first | trivial | simp [aK]) | simp [aK]) rfl (fun _ => rfl) ?_
 simp only [bAP, bT, tab, bX, reduceIte, ↓reduceIte, reduceCtorEq, Int.reduceToNat, Nat.reduceDiv, Nat.reduceMod, Nat.reduceLT, Nat.reduceLeDiff, Nat.reduceAdd, Nat.reduceSub, Nat.reduceMul, Nat.reduceEqDiff, Nat.reduceBEq, Nat.reduceBNe, Nat.reduceGT, qV ak.enc p2.system.vars p1.toNat (by first | omega | (simp only [bw, List.length_cons, List.length_nil, List.length_append, List.length_set, List.length_replicate, List.length_map, List.length_take, List.length_drop]; omega))]
 repeat refine ⟨by first | omega | assumption | decide | exact bk fun _ => rfl | (intro _; omega) | rfl | exact fun e => absurd (List.map_eq_nil_iff.1 e) (by assumption) | (and_intros <;> first | omega | assumption | decide | exact bk fun _ => rfl) | (refine .inl ?_; simp only [fT]; and_intros <;> first | rfl | trivial) | (refine .inr (.inl ?_); simp only [fT]; and_intros <;> first | rfl | trivial) | (refine .inr ?_; simp only [kj]; and_intros <;> first | exact .inl rfl | exact .inr rfl | trivial) | (refine .inr (.inr ⟨rfl, ?_⟩); simp only [kj]; and_intros <;> first | exact .inl rfl | exact .inr rfl | trivial) | exact .inl rfl, ?_⟩
 refine hk _ _ ?_;clear hk k;refine an ?_;refine ab [.box [.tree 2 (p2.system.vars.map ak.enc), .tree 1 (p2.system.in_.map (eK .i64)), .tree 1 (p2.system.out_.map (eK .i64)), .tree 6 (p2.system.rules.map ae.enc), .int .i64 p2.code]] ?_;obtain rfl := Option.some.inj hm;exact en
end Pam

namespace Pam
open Go Go.Proofs
set_option maxRecDepth 100000 in
set_option maxHeartbeats 1000000 in
theorem bW (p1 : Int) (p2 : List Int) (v1_ : Nat) (r : Int) (hm : bC p1 p2 = some r) : fR Try.prog 178 [.c (.int .i64 p1), .c (.optr 0 0)] [.box [.osl 1 v1_ 0 p2.length], .arr 1 v1_ 5 (p2.map (eK .u8))] (fun p σ => (p = .c (.int .u8 r) ∧ σ = [.box [.osl 1 v1_ 0 p2.length], .arr 1 v1_ 5 (p2.map (eK .u8))])) (fun _ _ => False) := by
 refine aN 15 [.tmp 3] Try.func178 rfl rfl rfl (by kernel_rfl) (by simp) ?_;refine bu ?_;unfold bC at hm;refine ao [3] ?_;refine aq fun k1 hk1 => ?_;refine ao [4, 5, 6] ?_
 by_cases h1 : p1 > (p2.length : Int)
 ·rw [if_pos h1] at hm;refine ah rfl (decide_eq_true h1) ?_;refine ao [0, 1, 7] ?_;refine an ?_;refine ai ?_;refine ab [.box [.osl 1 v1_ 0 p2.length], .arr 1 v1_ 5 (p2.map (eK .u8))] ?_;obtain rfl := Option.some.inj hm;exact en
 ·rw [if_neg h1] at hm;refine aj rfl (decide_eq_false h1) ?_;refine ar ?_;refine am (hk1 _ _ ?_);obtain ⟨hg2a, hm⟩ := gd hm;refine bo (em (eK .u8) p2 ((IntKind.wrap .i64 ((p2.length : Int) - p1)).toNat)) [0, 1, 7, 8, 9, 10, 11, 12, 13, 14] ?_;refine an ?_;refine ab [.box [.osl 1 v1_ 0 p2.length], .arr 1 v1_ 5 (p2.map (eK .u8))] ?_;obtain rfl := Option.some.inj hm;exact en
end Pam

namespace Pam
open Go Go.Proofs
set_option maxRecDepth 100000 in
set_option maxHeartbeats 8000000 in
theorem qe (p1 : aI) (p2 : Int) (p3 : aH) (p4 : List Int) (v1_ : Nat) (r : (Int × Int × Bool)) (hm : aW p1 p2 p3 p4 = some r) : fR Try.prog 175 [.c (.optr 0 0), .a [.int .i64 p1.op, .int .i64 p1.k, .int .i64 p1.v, .int .i64 p1.n], .c (.int .i64 p2), .c (.osl 1 v1_ 0 p4.length)] [.box [.tree 2 (p3.system.vars.map ak.enc), .tree 1 (p3.system.in_.map (eK .i64)), .tree 1 (p3.system.out_.map (eK .i64)), .tree 6 (p3.system.rules.map ae.enc), .int .i64 p3.code], .arr 1 v1_ 5 (p4.map (eK .u8))] (fun p σ => (p = .t [.c (.int .i64 r.1), .c (.int .u8 r.2.1), .c (.bool r.2.2)] ∧ σ = [.box [.tree 2 (p3.system.vars.map ak.enc), .tree 1 (p3.system.in_.map (eK .i64)), .tree 1 (p3.system.out_.map (eK .i64)), .tree 6 (p3.system.rules.map ae.enc), .int .i64 p3.code], .arr 1 v1_ 5 (p4.map (eK .u8))])) (fun _ _ => False) := by
 refine aN 180 [.tmp 8, .tmp 9, .tmp 10] Try.func175 rfl rfl rfl (by kernel_rfl) (by simp) ?_;refine bu ?_;unfold aW at hm;refine ao [1, 3, 8, 9, 10] ?_;refine ao [7, 17] ?_;refine aq fun k1 hk1 => ?_;refine ao [18] ?_;refine aw ?_;refine ao [21] ?_
 by_cases h1 : p1.op = 1
 ·rw [if_pos h1] at hm;refine ah rfl (beq_iff_eq.2 h1) ?_;refine aq fun k2 hk2 => ?_;refine ao [0, 2, 11, 19, 20, 22, 23] ?_
  by_cases h2 : p1.k = 1
  ·rw [if_pos h2] at hm;refine ah rfl (beq_iff_eq.2 h2) ?_;refine dl [5, 24, 25, 26, 27, 28, 29, 30, 31, 32] (by kernel_rfl) [0, 1, 3, 7, 15, 31, 63, 127, 15, 271, 1023] [true, true, true, true, false, false, false, false, false, false, true] (by kernel_rfl) fun k hk => ?_;refine dS 4 rfl ?_;refine ga ?_
   by_cases h3 : p1.n = 0
   ·rw [if_pos h3] at hm;have h3b := beq_iff_eq.2 h3;refine aS ?_;refine gax h3b ?_;refine hk _ _ ?_;clear hk k;refine an ?_;refine ai ?_;refine ag ?_;refine ai ?_;refine ab [.box [.tree 2 (p3.system.vars.map ak.enc), .tree 1 (p3.system.in_.map (eK .i64)), .tree 1 (p3.system.out_.map (eK .i64)), .tree 6 (p3.system.rules.map ae.enc), .int .i64 p3.code], .arr 1 v1_ 5 (p4.map (eK .u8))] ?_;obtain rfl := Option.some.inj hm;exact en
   ·rw [if_neg h3] at hm;have h3b := beq_eq_false_iff_ne.2 h3;refine aS ?_;refine gax h3b ?_;refine hk _ _ ?_;clear hk k;refine an ?_;refine ai ?_;refine ag ?_;refine ai ?_;refine ab [.box [.tree 2 (p3.system.vars.map ak.enc), .tree 1 (p3.system.in_.map (eK .i64)), .tree 1 (p3.system.out_.map (eK .i64)), .tree 6 (p3.system.rules.map ae.enc), .int .i64 p3.code], .arr 1 v1_ 5 (p4.map (eK .u8))] ?_;obtain rfl := Option.some.inj hm;exact en
  ·rw [if_neg h2] at hm;refine aj rfl (beq_eq_false_iff_ne.2 h2) ?_;refine ar ?_;refine am (hk2 _ _ ?_);refine wW [5, 24, 33, 34, 35] [0, 1, 3, 0, 8, 31] [false, false, false, false, false, true] ?_;refine an ?_;refine ag ?_;refine ai ?_;refine ab [.box [.tree 2 (p3.system.vars.map ak.enc), .tree 1 (p3.system.in_.map (eK .i64)), .tree 1 (p3.system.out_.map (eK .i64)), .tree 6 (p3.system.rules.map ae.enc), .int .i64 p3.code], .arr 1 v1_ 5 (p4.map (eK .u8))] ?_;obtain rfl := Option.some.inj hm;exact en
 ·rw [if_neg h1] at hm;refine aj rfl (beq_eq_false_iff_ne.2 h1) ?_;refine ao [20, 37] ?_
  by_cases h4 : p1.op = 2
  ·rw [if_pos h4] at hm;refine ah rfl (beq_iff_eq.2 h4) ?_;obtain ⟨hg5a, hm⟩ := gd hm;refine mR (em ak.enc p3.system.vars p1.v.toNat) [0, 2, 5, 11, 19, 36, 38, 39, 40, 41, 42, 43, 44, 45, 46, 47, 48, 49, 50, 51, 52, 53, 54, 55, 56, 57, 58] [0, 1, 3, 7, 15, 0, 32, 127, 255, 511, 0, 1024, 3072, 7168, 15360, 0, 32768, 130048, 261120, 523264, 1047552, 0, 2098175, 8388607] [false, false, false, false, false, false, false, false, false, false, false, false, false, false, false, false, false, false, false, false, false, false, false, true] ?_;refine an ?_;refine ag ?_;refine ai ?_;refine ab [.box [.tree 2 (p3.system.vars.map ak.enc), .tree 1 (p3.system.in_.map (eK .i64)), .tree 1 (p3.system.out_.map (eK .i64)), .tree 6 (p3.system.rules.map ae.enc), .int .i64 p3.code], .arr 1 v1_ 5 (p4.map (eK .u8))] ?_;obtain rfl := Option.some.inj hm;exact en
  ·rw [if_neg h4] at hm;refine aj rfl (beq_eq_false_iff_ne.2 h4) ?_;refine ao [36, 60] ?_
   by_cases h6 : p1.op = 3
   ·rw [if_pos h6] at hm;refine ah rfl (beq_iff_eq.2 h6) ?_;obtain ⟨hg7a, hm⟩ := gd hm;refine mR (em ak.enc p3.system.vars p1.v.toNat) [0, 11, 19, 59, 61, 62, 63, 64, 65, 66, 67, 68, 69] [0, 1, 3, 7, 15, 0, 32, 127, 255, 0, 1023] [false, false, false, false, false, false, false, false, false, false, true] ?_;refine dl [2, 5, 12, 70, 71, 72, 73, 74, 75, 76, 77, 78, 79, 80, 81, 82, 83, 84, 85, 86, 87, 88] (by kernel_rfl) [0, 1, 0, 4, 12, 28, 60, 124, 252, 508, 1020, 2044, 4092, 2044, 10236, 2044, 59388, 131068, 262140, 2044, 526335, 2097151] [false, false, false, false, false, false, false, false, false, false, false, false, false, false, false, false, false, false, false, false, false, true] (by kernel_rfl) fun k hk => ?_;refine dS 6 rfl ?_;refine ga ?_
    by_cases h8 : ((p3.system.vars.getD p1.v.toNat default).n) > 0
    ·rw [if_pos h8] at hm;have h8b := decide_eq_true h8;refine dS 5 rfl ?_;refine gax h8b ?_
     by_cases h9 : p1.n ≥ 0
     ·rw [if_pos h9] at hm;have h9b := decide_eq_true h9;refine aS ?_;refine gax (a2 h8b h9b) ?_;refine hk _ _ ?_;clear hk k;refine an ?_;refine ag ?_;refine ai ?_;refine ab [.box [.tree 2 (p3.system.vars.map ak.enc), .tree 1 (p3.system.in_.map (eK .i64)), .tree 1 (p3.system.out_.map (eK .i64)), .tree 6 (p3.system.rules.map ae.enc), .int .i64 p3.code], .arr 1 v1_ 5 (p4.map (eK .u8))] ?_;obtain rfl := Option.some.inj hm;exact en
     ·rw [if_neg h9] at hm;have h9b := decide_eq_false h9;refine aS ?_;refine gax (a2 h8b h9b) ?_;refine hk _ _ ?_;clear hk k;refine an ?_;refine ag ?_;refine ai ?_;refine ab [.box [.tree 2 (p3.system.vars.map ak.enc), .tree 1 (p3.system.in_.map (eK .i64)), .tree 1 (p3.system.out_.map (eK .i64)), .tree 6 (p3.system.rules.map ae.enc), .int .i64 p3.code], .arr 1 v1_ 5 (p4.map (eK .u8))] ?_;obtain rfl := Option.some.inj hm;exact en
    ·rw [if_neg h8] at hm;have h8b := decide_eq_false h8;refine aS ?_;refine gax h8b ?_;refine hk _ _ ?_;clear hk k;refine an ?_;refine ag ?_;refine ai ?_;refine ab [.box [.tree 2 (p3.system.vars.map ak.enc), .tree 1 (p3.system.in_.map (eK .i64)), .tree 1 (p3.system.out_.map (eK .i64)), .tree 6 (p3.system.rules.map ae.enc), .int .i64 p3.code], .arr 1 v1_ 5 (p4.map (eK .u8))] ?_;obtain rfl := Option.some.inj hm;exact en
   ·rw [if_neg h6] at hm;refine aj rfl (beq_eq_false_iff_ne.2 h6) ?_;refine ao [2, 59, 90] ?_
    by_cases h10 : p1.op = 4
    ·rw [if_pos h10] at hm;refine ah rfl (beq_iff_eq.2 h10) ?_;refine dl [0, 5, 11, 19, 89, 91, 92, 93, 94, 95, 96, 97, 98] (by kernel_rfl) [0, 1, 3, 7, 15, 31, 63, 127, 15, 271, 1023] [true, true, true, true, false, false, false, false, false, false, true] (by kernel_rfl) fun k hk => ?_;refine dS 4 rfl ?_;refine ga ?_
     by_cases h11 : p1.n ≥ (-1000000)
     ·rw [if_pos h11] at hm;have h11b := decide_eq_true h11;refine aS ?_;refine gax h11b ?_;refine hk _ _ ?_;clear hk k;refine an ?_;refine ag ?_;refine ai ?_;refine ab [.box [.tree 2 (p3.system.vars.map ak.enc), .tree 1 (p3.system.in_.map (eK .i64)), .tree 1 (p3.system.out_.map (eK .i64)), .tree 6 (p3.system.rules.map ae.enc), .int .i64 p3.code], .arr 1 v1_ 5 (p4.map (eK .u8))] ?_;obtain rfl := Option.some.inj hm;exact en
     ·rw [if_neg h11] at hm;have h11b := decide_eq_false h11;refine aS ?_;refine gax h11b ?_;refine hk _ _ ?_;clear hk k;refine an ?_;refine ag ?_;refine ai ?_;refine ab [.box [.tree 2 (p3.system.vars.map ak.enc), .tree 1 (p3.system.in_.map (eK .i64)), .tree 1 (p3.system.out_.map (eK .i64)), .tree 6 (p3.system.rules.map ae.enc), .int .i64 p3.code], .arr 1 v1_ 5 (p4.map (eK .u8))] ?_;obtain rfl := Option.some.inj hm;exact en
    ·rw [if_neg h10] at hm;refine aj rfl (beq_eq_false_iff_ne.2 h10) ?_;refine aF (S := Bool) (V := Unit) [89, 99, 100, 101] (fun b1 _ => [(99, .c (.bool b1))]) (fun b1 _ => [.box [.tree 2 (p3.system.vars.map ak.enc), .tree 1 (p3.system.in_.map (eK .i64)), .tree 1 (p3.system.out_.map (eK .i64)), .tree 6 (p3.system.rules.map ae.enc), .int .i64 p3.code], .arr 1 v1_ 5 (p4.map (eK .u8)), .box [.int .i64 p1.op, .int .i64 p1.k, .int .i64 p1.v, .int .i64 p1.n], .box [.osl 1 v1_ 0 p4.length]]) (fun b1 => bY p1 p3 p4 b1 = some r) ?_ ?_
     ·skip;refine ao [89, 100] ?_
      by_cases h40 : p1.op = 5
      ·rw [if_pos h40] at hm;refine ah rfl (beq_iff_eq.2 h40) ?_;refine ar ?_;refine av (p1.op == 5) () hm ?_;exact ls
      ·rw [if_neg h40] at hm;refine aj rfl (beq_eq_false_iff_ne.2 h40) ?_;refine bm ?_;refine av (p1.op == 6) () hm ?_;exact ls
     ·rintro b1 _ hm;replace hm : bY p1 p3 p4 b1 = some r := hm;refine aD ?_;unfold bY at hm
      by_cases h12 : b1 = true
      ·rw [if_pos h12] at hm;refine ah rfl (h12) ?_;refine aJ [0, 19, 99, 102, 103, 104, 105, 106, 107, 108] fun k kp hk hp => ?_;refine go ?_;obtain ⟨y2, hc13, hm⟩ := bd hm;refine RP (fun _ => nl p1.k _ hc13) ?_;refine aa ?_;refine go ?_;refine hk _ _ ?_;clear hk hp k kp;refine bx [5, 11, 13, 14, 15, 109, 110, 111, 112, 113, 114, 115, 116, 117, 118, 119, 120, 121, 122, 123, 124, 125, 126, 127, 128, 129, 130, 131, 132] fun k kp hk hp => ?_;refine ap 9 ?_;refine go ?_
       by_cases h14 : y2.2.2 = (IntKind.wrap .i64 ((IntKind.wrap .i64 (p1.op - 5)) + 1))
       ·rw [if_pos h14] at hm;have h14b := beq_iff_eq.2 h14;refine aa ?_;refine gox h14b ?_;obtain ⟨y3, hc15, hm⟩ := bd hm;refine RA (bW 1 p4 v1_ _ hc15) [3, 1] ?_;rintro p σ' ⟨rfl, rfl⟩ _;refine ap 4 ?_;refine gox h14b ?_
        by_cases h17 : y3 = y2.1
        ·rw [if_pos h17] at hm;have h17b := beq_iff_eq.2 h17
         by_cases h18 : y2.2.2 = 1
         ·rw [if_pos h18] at hm;have h18b := beq_iff_eq.2 h18;refine aa ?_;refine gox (a2 h14b (a2 h17b h18b)) ?_;refine hk _ _ ?_;clear hk hp k kp;refine an ?_;refine ag ?_;refine ai ?_;refine ab [.box [.tree 2 (p3.system.vars.map ak.enc), .tree 1 (p3.system.in_.map (eK .i64)), .tree 1 (p3.system.out_.map (eK .i64)), .tree 6 (p3.system.rules.map ae.enc), .int .i64 p3.code], .arr 1 v1_ 5 (p4.map (eK .u8))] ?_;obtain rfl := Option.some.inj hm;exact en
         ·rw [if_neg h18] at hm;have h18b := beq_eq_false_iff_ne.2 h18;refine aa ?_;refine gox (a2 h14b (a2 h17b h18b)) ?_;obtain ⟨y4, hc19, hm⟩ := bd hm;refine RA (bW 2 p4 v1_ _ hc19) [3, 1] ?_;rintro p σ' ⟨rfl, rfl⟩ _;refine aa ?_;refine gox (a2 h14b (a2 h17b h18b)) ?_;refine hk _ _ ?_;clear hk hp k kp;refine an ?_;refine ag ?_;refine ai ?_;refine ab [.box [.tree 2 (p3.system.vars.map ak.enc), .tree 1 (p3.system.in_.map (eK .i64)), .tree 1 (p3.system.out_.map (eK .i64)), .tree 6 (p3.system.rules.map ae.enc), .int .i64 p3.code], .arr 1 v1_ 5 (p4.map (eK .u8))] ?_;obtain rfl := Option.some.inj hm;exact en
        ·rw [if_neg h17] at hm;have h17b := beq_eq_false_iff_ne.2 h17;refine aa ?_;refine gox (a2 h14b h17b) ?_;refine hk _ _ ?_;clear hk hp k kp;refine an ?_;refine ag ?_;refine ai ?_;refine ab [.box [.tree 2 (p3.system.vars.map ak.enc), .tree 1 (p3.system.in_.map (eK .i64)), .tree 1 (p3.system.out_.map (eK .i64)), .tree 6 (p3.system.rules.map ae.enc), .int .i64 p3.code], .arr 1 v1_ 5 (p4.map (eK .u8))] ?_;obtain rfl := Option.some.inj hm;exact en
       ·rw [if_neg h14] at hm;have h14b := beq_eq_false_iff_ne.2 h14;refine aa ?_;refine gox h14b ?_;refine hk _ _ ?_;clear hk hp k kp;refine an ?_;refine ag ?_;refine ai ?_;refine ab [.box [.tree 2 (p3.system.vars.map ak.enc), .tree 1 (p3.system.in_.map (eK .i64)), .tree 1 (p3.system.out_.map (eK .i64)), .tree 6 (p3.system.rules.map ae.enc), .int .i64 p3.code], .arr 1 v1_ 5 (p4.map (eK .u8))] ?_;obtain rfl := Option.some.inj hm;exact en
      ·rw [if_neg h12] at hm;refine aj rfl (Bool.eq_false_iff.2 h12) ?_;refine ao [99, 134] ?_
       by_cases h21 : p1.op = 7
       ·rw [if_pos h21] at hm;refine ah rfl (beq_iff_eq.2 h21) ?_;refine aJ [0, 5, 11, 19, 133, 135, 136, 137, 138, 139, 140, 141, 142, 143, 144, 145, 146, 147, 148, 149, 150, 151] fun k kp hk hp => ?_;refine go ?_;obtain ⟨y5, hc22, hm⟩ := bd hm;refine RA (bW 1 p4 v1_ _ hc22) [3, 1] ?_;rintro p σ' ⟨rfl, rfl⟩ _;refine aa ?_;refine go ?_;obtain ⟨y6, hc24, hm⟩ := bd hm;refine RA (bW 3 p4 v1_ _ hc24) [3, 1] ?_;rintro p σ' ⟨rfl, rfl⟩ _
        by_cases h26 : y6 = 98
        ·rw [if_pos h26] at hm;have h26b := beq_iff_eq.2 h26;refine aa ?_;refine gox h26b ?_;obtain ⟨y7, hc27, hm⟩ := bd hm;refine RA (bW 1 p4 v1_ _ hc27) [3, 1] ?_;rintro p σ' ⟨rfl, rfl⟩ _;refine aa ?_;refine gox h26b ?_;obtain ⟨y8, hc29, hm⟩ := bd hm;refine RA (bW 2 p4 v1_ _ hc29) [3, 1] ?_;rintro p σ' ⟨rfl, rfl⟩ _
         by_cases h31 : y7 = y8
         ·rw [if_pos h31] at hm;have h31b := beq_iff_eq.2 h31;refine aa ?_;refine gox (a2 h26b h31b) ?_;obtain ⟨y9, hc32, hm⟩ := bd hm;refine RA (bW 1 p4 v1_ _ hc32) [3, 1] ?_;rintro p σ' ⟨rfl, rfl⟩ _;refine aa ?_;refine gox (a2 h26b h31b) ?_;refine hk _ _ ?_;clear hk hp k kp;refine an ?_;refine ag ?_;refine ai ?_;refine ab [.box [.tree 2 (p3.system.vars.map ak.enc), .tree 1 (p3.system.in_.map (eK .i64)), .tree 1 (p3.system.out_.map (eK .i64)), .tree 6 (p3.system.rules.map ae.enc), .int .i64 p3.code], .arr 1 v1_ 5 (p4.map (eK .u8))] ?_;obtain rfl := Option.some.inj hm;exact en
         ·rw [if_neg h31] at hm;have h31b := beq_eq_false_iff_ne.2 h31;refine aa ?_;refine gox (a2 h26b h31b) ?_;refine hk _ _ ?_;clear hk hp k kp;refine an ?_;refine ag ?_;refine ai ?_;refine ab [.box [.tree 2 (p3.system.vars.map ak.enc), .tree 1 (p3.system.in_.map (eK .i64)), .tree 1 (p3.system.out_.map (eK .i64)), .tree 6 (p3.system.rules.map ae.enc), .int .i64 p3.code], .arr 1 v1_ 5 (p4.map (eK .u8))] ?_;obtain rfl := Option.some.inj hm;exact en
        ·rw [if_neg h26] at hm;have h26b := beq_eq_false_iff_ne.2 h26;refine aa ?_;refine gox h26b ?_;refine hk _ _ ?_;clear hk hp k kp;refine an ?_;refine ag ?_;refine ai ?_;refine ab [.box [.tree 2 (p3.system.vars.map ak.enc), .tree 1 (p3.system.in_.map (eK .i64)), .tree 1 (p3.system.out_.map (eK .i64)), .tree 6 (p3.system.rules.map ae.enc), .int .i64 p3.code], .arr 1 v1_ 5 (p4.map (eK .u8))] ?_;obtain rfl := Option.some.inj hm;exact en
       ·rw [if_neg h21] at hm;refine aj rfl (beq_eq_false_iff_ne.2 h21) ?_;refine ao [19, 133, 153] ?_
        by_cases h34 : p1.op = 8
        ·rw [if_pos h34] at hm;refine ah rfl (beq_iff_eq.2 h34) ?_;obtain ⟨hg35a, hm⟩ := gd hm;refine mR (em ak.enc p3.system.vars p1.v.toNat) [0, 5, 152, 154, 155, 156, 157, 158, 159, 160, 161, 162] [0, 1, 3, 7, 15, 0, 32, 127, 255, 0, 1023] [false, false, false, false, false, false, false, false, false, false, true] ?_;refine dl [11, 16, 163, 164, 165, 166, 167, 168, 169, 170, 171, 172, 173, 174, 175, 176, 177, 178, 179] (by kernel_rfl) [0, 1, 0, 4, 12, 28, 60, 124, 60, 316, 1020, 2044, 4092, 8188, 16380, 32764, 65532, 32764, 163839, 524287] [false, false, false, false, false, false, false, false, false, false, false, false, false, false, false, false, false, false, false, true] (by kernel_rfl) fun k hk => ?_;refine dS 6 rfl ?_;refine ga ?_
         by_cases h36 : ((p3.system.vars.getD p1.v.toNat default).n) > 0
         ·rw [if_pos h36] at hm;have h36b := decide_eq_true h36;refine aS ?_;refine gax h36b ?_;obtain ⟨y10, hc37, hm⟩ := bd hm
          refine iC (σ2 := [.box [.tree 2 (p3.system.vars.map ak.enc), .tree 1 (p3.system.in_.map (eK .i64)), .tree 1 (p3.system.out_.map (eK .i64)), .tree 6 (p3.system.rules.map ae.enc), .int .i64 p3.code], .arr 1 v1_ 5 (p4.map (eK .u8)), .box [.int .i64 p1.op, .int .i64 p1.k, .int .i64 p1.v, .int .i64 p1.n], .box [.osl 1 v1_ 0 p4.length], .box [.int .u8 ((p3.system.vars.getD p1.v.toNat default).elem), .int .i64 ((p3.system.vars.getD p1.v.toNat default).n)]]) (res := .c (.int .u8 y10)) ⟨_, _, _, _, [3, 1], bW 1 p4 v1_ _ hc37, by simp, by simp, rfl, rfl, by first | trivial | (simp [bX, eK, eB, eS, eL, d1, bB, PV.under, CV.under, bh, OB.under, bl]; done), by first | trivial | (simp [bX, eK, eB, eS, eL, d1, bB, PV.under, CV.under, bh, OB.under, bl]; done), fun q τ hq _ => by obtain ⟨rfl, rfl⟩ := hq; exact ⟨rfl, rfl⟩, fun _ _ h => h.elim⟩ (by first | trivial | exact bP rfl) (by first | trivial | (intro _; first | trivial | simp [aK]) | simp [aK]) (by first | exact .inl rfl | exact .inr (by simp only [fT]; and_intros <;> first | rfl | trivial)) ?_
          refine dS 5 rfl ?_;refine gax h36b ?_
          by_cases h38 : y10 = ((p3.system.vars.getD p1.v.toNat default).elem)
          ·rw [if_pos h38] at hm;have h38b := beq_iff_eq.2 h38;refine aS ?_;refine gax (a2 h36b h38b) ?_;obtain ⟨y11, hc39, hm⟩ := bd hm
           refine iC (σ2 := [.box [.tree 2 (p3.system.vars.map ak.enc), .tree 1 (p3.system.in_.map (eK .i64)), .tree 1 (p3.system.out_.map (eK .i64)), .tree 6 (p3.system.rules.map ae.enc), .int .i64 p3.code], .arr 1 v1_ 5 (p4.map (eK .u8)), .box [.int .i64 p1.op, .int .i64 p1.k, .int .i64 p1.v, .int .i64 p1.n], .box [.osl 1 v1_ 0 p4.length], .box [.int .u8 ((p3.system.vars.getD p1.v.toNat default).elem), .int .i64 ((p3.system.vars.getD p1.v.toNat default).n)]]) (res := .c (.int .u8 y11)) ⟨_, _, _, _, [3, 1], bW 2 p4 v1_ _ hc39, by simp, by simp, rfl, rfl, by first | trivial | (simp [bX, eK, eB, eS, eL, d1, bB, PV.under, CV.under, bh, OB.under, bl]; done), by first | trivial | (simp [bX, eK, eB, eS, eL, d1, bB, PV.under, CV.under, bh, OB.under, bl]; done), fun q τ hq _ => by obtain ⟨rfl, rfl⟩ := hq; exact ⟨rfl, rfl⟩, fun _ _ h => h.elim⟩ (by first | trivial | exact bP rfl) (by first | trivial | (intro _; first | trivial | simp [aK]) | simp [aK]) (by first | exact .inl rfl | exact .inr (by simp only [fT]; and_intros <;> first | rfl | trivial)) ?_
           refine aS ?_;refine gax (a2 h36b h38b) ?_;refine hk _ _ ?_;clear hk k;refine an ?_;refine ag ?_;refine ai ?_;refine ab [.box [.tree 2 (p3.system.vars.map ak.enc), .tree 1 (p3.system.in_.map (eK .i64)), .tree 1 (p3.system.out_.map (eK .i64)), .tree 6 (p3.system.rules.map ae.enc), .int .i64 p3.code], .arr 1 v1_ 5 (p4.map (eK .u8))] ?_;obtain rfl := Option.some.inj hm;exact en
          ·rw [if_neg h38] at hm;have h38b := beq_eq_false_iff_ne.2 h38;refine aS ?_;refine gax (a2 h36b h38b) ?_;refine hk _ _ ?_;clear hk k;refine an ?_;refine ag ?_;refine ai ?_;refine ab [.box [.tree 2 (p3.system.vars.map ak.enc), .tree 1 (p3.system.in_.map (eK .i64)), .tree 1 (p3.system.out_.map (eK .i64)), .tree 6 (p3.system.rules.map ae.enc), .int .i64 p3.code], .arr 1 v1_ 5 (p4.map (eK .u8))] ?_;obtain rfl := Option.some.inj hm;exact en
         ·rw [if_neg h36] at hm;have h36b := decide_eq_false h36;refine aS ?_;refine gax h36b ?_;refine hk _ _ ?_;clear hk k;refine an ?_;refine ag ?_;refine ai ?_;refine ab [.box [.tree 2 (p3.system.vars.map ak.enc), .tree 1 (p3.system.in_.map (eK .i64)), .tree 1 (p3.system.out_.map (eK .i64)), .tree 6 (p3.system.rules.map ae.enc), .int .i64 p3.code], .arr 1 v1_ 5 (p4.map (eK .u8))] ?_;obtain rfl := Option.some.inj hm;exact en
        ·rw [if_neg h34] at hm;refine aj rfl (beq_eq_false_iff_ne.2 h34) ?_;refine ar ?_;refine ax ?_;refine am (hk1 _ _ ?_);refine ao [0, 5, 11, 152] ?_;refine an ?_;refine ab [.box [.tree 2 (p3.system.vars.map ak.enc), .tree 1 (p3.system.in_.map (eK .i64)), .tree 1 (p3.system.out_.map (eK .i64)), .tree 6 (p3.system.rules.map ae.enc), .int .i64 p3.code], .arr 1 v1_ 5 (p4.map (eK .u8))] ?_;obtain rfl := Option.some.inj hm;exact en
end Pam

namespace Pam
open Go Go.Proofs
set_option maxRecDepth 100000 in
set_option maxHeartbeats 1000000 in
theorem rf (p1 : List aI) (p2 : Int) (p3 : aH) (r : (Int × Bool)) (hm : jD p1 p2 p3 = some r) : fR Try.prog 167 [.c (.optr 0 0), .c (.tree 4 (p1.map aI.enc)), .c (.int .i64 p2)] [.box [.tree 2 (p3.system.vars.map ak.enc), .tree 1 (p3.system.in_.map (eK .i64)), .tree 1 (p3.system.out_.map (eK .i64)), .tree 6 (p3.system.rules.map ae.enc), .int .i64 p3.code]] (fun p σ => (p = .t [.c (.int .u8 r.1), .c (.bool r.2)] ∧ σ = [.box [.tree 2 (p3.system.vars.map ak.enc), .tree 1 (p3.system.in_.map (eK .i64)), .tree 1 (p3.system.out_.map (eK .i64)), .tree 6 (p3.system.rules.map ae.enc), .int .i64 p3.code]])) (fun _ _ => False) := by
 refine aN 53 [.tmp 6, .tmp 7] Try.func167 rfl rfl rfl (by kernel_rfl) (by simp) ?_;refine bu ?_;unfold jD at hm;refine ao [6, 7] ?_;refine ao [] ?_;refine cx (fm 8 1 5 (by decide) rfl (Nat.le_of_ble_eq_true rfl)) ?_;refine nT ?_;refine aF (S := (List Int)) (V := Nat) [0, 1, 2, 6, 7, 8, 10, 11, 12, 13, 14, 15, 16, 17, 18, 19, 20, 21, 22, 23, 24, 25, 26, 27, 28, 29, 30, 31, 32, 33, 34, 35, 36, 37, 38, 39, 40, 41, 42, 43, 44, 45, 46] (fun l3 v4 => [(8, .c (.osl 1 v4 0 l3.length))]) (fun l3 v4 => [.box [.tree 2 (p3.system.vars.map ak.enc), .tree 1 (p3.system.in_.map (eK .i64)), .tree 1 (p3.system.out_.map (eK .i64)), .tree 6 (p3.system.rules.map ae.enc), .int .i64 p3.code], .arr 1 v4 5 (l3.map (eK .u8))]) (fun l3 => cJ l3 = some r) ?_ ?_
 ·skip;refine ao [1] ?_
  refine aw ?_;obtain ⟨o1, hl1, hm1⟩ := bd hm;refine aQ (S := ((List Int) × Int)) (V := Nat) (O := (List Int) ⊕ (Int × Bool)) [6, 7, 8, 10, 11, 12, 13, 16, 17, 18, 19, 20, 21, 22, 23, 24, 25, 26, 27, 28, 29, 30, 31, 32, 33, 34, 35, 36, 37, 38, 39, 40, 41, 42, 43, 44, 45, 46] (fun (l17, x19) v18 => [(8, .c (.osl 1 v18 0 l17.length)), (16, .c (.int .i64 x19))]) (fun (l17, x19) v18 => [.box [.tree 2 (p3.system.vars.map ak.enc), .tree 1 (p3.system.in_.map (eK .i64)), .tree 1 (p3.system.out_.map (eK .i64)), .tree 6 (p3.system.rules.map ae.enc), .int .i64 p3.code], .arr 1 v18 5 (l17.map (eK .u8))]) _ _ 0 hl1 ?_ ?_
  ·exact ls
  ·rintro ⟨l17, x19⟩ v18 r1 hm hr1;replace hm : bp p1 p2 p3 l17 x19 = some r1 := hm;refine aD ?_;unfold bp at hm;refine ao [] ?_;refine aq fun k2 hk2 => ?_
   by_cases h3 : x19 < (p1.length : Int)
   ·rw [if_pos h3] at hm;refine ah rfl (decide_eq_true h3) ?_;refine ar ?_;refine am (hk2 _ _ ?_);refine aq fun k3 hk3 => ?_;refine aw ?_;obtain ⟨hg4a, hm⟩ := gd hm;refine bo (em aI.enc p1 x19.toNat) [17, 18, 19] ?_;refine aJ [10, 20, 21, 22, 23, 24, 25, 26, 27, 28] fun k kp hk hp => ?_;refine go ?_;obtain ⟨y20, hc5, hm⟩ := bd hm;refine RA (qe (p1.getD x19.toNat default) p2 p3 l17 v18 _ hc5) [0, 1] ?_;rintro p σ' ⟨rfl, rfl⟩ _;refine aa ?_;refine go ?_;refine hk _ _ ?_;clear hk hp k kp;refine aq fun k4 hk4 => ?_
    by_cases h7 : y20.2.2 = true
    ·rw [if_pos h7] at hm;have h7b := h7
     have h7c : (!y20.2.2) = false := by rw [h7b]; rfl
     refine bo (a2 h7b h7c) [13, 29, 30, 31, 32, 33, 34, 35] ?_
     by_cases h8 : (l17.length : Int) < y20.1
     ·rw [if_pos h8] at hm;refine ah rfl (decide_eq_true h8) ?_;refine ao [0, 2, 8, 11, 12, 14, 15, 16, 36] ?_;have ho9 := az hm hr1;subst ho9;replace hm : some (0, false) = some r := hm1;refine an ?_;refine ai ?_;refine ag ?_;refine ai ?_;refine aG ?_;refine ag ?_;refine ay ?_;refine ab [.box [.tree 2 (p3.system.vars.map ak.enc), .tree 1 (p3.system.in_.map (eK .i64)), .tree 1 (p3.system.out_.map (eK .i64)), .tree 6 (p3.system.rules.map ae.enc), .int .i64 p3.code]] ?_;obtain rfl := Option.some.inj hm;exact en
     ·rw [if_neg h8] at hm;refine aj rfl (decide_eq_false h8) ?_;refine ar ?_;refine am (hk4 _ _ ?_);obtain ⟨⟨hg10a, ⟨hg10bx, hg10by⟩⟩, hm⟩ := gd hm;refine bm ?_;refine ax ?_;refine am (hk3 _ _ ?_);refine bm ?_;refine aB (((l17.take ((IntKind.wrap .i64 ((l17.length : Int) - y20.1)).toNat)) ++ (lit ([y20.2.1] : List Int))), (IntKind.wrap .i64 (x19 + 1))) (v18 + 1) hm ?_;exact ls
    ·rw [if_neg h7] at hm;have h7b := Bool.eq_false_iff.2 h7
     have h7c : (!y20.2.2) = true := by rw [h7b]; rfl
     refine bo (a2 h7b h7c) [13, 29, 30, 31, 32, 33, 34, 35] ?_;refine ah rfl rfl ?_;refine ao [0, 2, 8, 11, 12, 14, 15, 16, 36] ?_;have ho11 := az hm hr1;subst ho11;replace hm : some (0, false) = some r := hm1;refine an ?_;refine ai ?_;refine ag ?_;refine ai ?_;refine aG ?_;refine ag ?_;refine ay ?_;refine ab [.box [.tree 2 (p3.system.vars.map ak.enc), .tree 1 (p3.system.in_.map (eK .i64)), .tree 1 (p3.system.out_.map (eK .i64)), .tree 6 (p3.system.rules.map ae.enc), .int .i64 p3.code]] ?_;obtain rfl := Option.some.inj hm;exact en
   ·rw [if_neg h3] at hm;refine aj rfl (decide_eq_false h3) ?_;refine aY ?_;have ho12 := az hm hr1;subst ho12;replace hm : cJ l17 = some r := hm1;refine aP ?_;refine aL ?_;refine aA ?_;refine av l17 v18 hm ?_;exact ls
 ·rintro l3 v4 hm;replace hm : cJ l3 = some r := hm;refine aD ?_;unfold cJ at hm;refine aq fun k1 hk1 => ?_;refine ao [47, 48] ?_
  by_cases h1 : ¬ (l3.length : Int) = 1
  ·rw [if_pos h1] at hm;refine ah rfl (bne_iff_ne.2 h1) ?_;refine ao [8, 49] ?_;refine an ?_;refine ai ?_;refine ab [.box [.tree 2 (p3.system.vars.map ak.enc), .tree 1 (p3.system.in_.map (eK .i64)), .tree 1 (p3.system.out_.map (eK .i64)), .tree 6 (p3.system.rules.map ae.enc), .int .i64 p3.code]] ?_;obtain rfl := Option.some.inj hm;exact en
  ·rw [if_neg h1] at hm;refine aj rfl (bne_eq_false_iff_eq.2 (Decidable.not_not.1 h1)) ?_;refine ar ?_;refine am (hk1 _ _ ?_);obtain ⟨hg2a, hm⟩ := gd hm;refine bo (em (eK .u8) l3 0) [8, 49, 50, 51, 52] ?_;refine an ?_;refine ab [.box [.tree 2 (p3.system.vars.map ak.enc), .tree 1 (p3.system.in_.map (eK .i64)), .tree 1 (p3.system.out_.map (eK .i64)), .tree 6 (p3.system.rules.map ae.enc), .int .i64 p3.code]] ?_;obtain rfl := Option.some.inj hm;exact en
end Pam

namespace Pam
open Go Go.Proofs
set_option maxRecDepth 100000 in
set_option maxHeartbeats 8000000 in
theorem rg (p1 : ae) (p2 : ak) (p3 : ak) (p4 : aH) (r : Bool) (hm : hZ p1 p2 p3 p4 = some r) : fR Try.prog 150 [.c (.optr 0 0), .a [.int .i64 p1.op, .int .i64 p1.k, .int .i64 p1.out_, .int .i64 p1.n, .tree 1 (p1.a.map (eK .i64)), .tree 4 (p1.e.map aI.enc)], .a [.int .u8 p2.elem, .int .i64 p2.n], .a [.int .u8 p3.elem, .int .i64 p3.n]] [.box [.tree 2 (p4.system.vars.map ak.enc), .tree 1 (p4.system.in_.map (eK .i64)), .tree 1 (p4.system.out_.map (eK .i64)), .tree 6 (p4.system.rules.map ae.enc), .int .i64 p4.code]] (fun p σ => (p = .c (.bool r) ∧ σ = [.box [.tree 2 (p4.system.vars.map ak.enc), .tree 1 (p4.system.in_.map (eK .i64)), .tree 1 (p4.system.out_.map (eK .i64)), .tree 6 (p4.system.rules.map ae.enc), .int .i64 p4.code]])) (fun _ _ => False) := by
 refine aN 98 [.tmp 8] Try.func150 rfl rfl rfl (by kernel_rfl) (by simp) ?_;refine bu ?_;unfold hZ at hm;refine ao [1, 2, 3, 8] ?_;refine ao [16, 17, 18] ?_;refine ao [19, 20] ?_;refine aF (S := Int) (V := Unit) [6, 7, 8, 9, 21, 22, 23, 24, 25, 26, 27, 28, 29, 30, 31, 32, 33, 34, 35, 36, 37, 38, 39, 40, 41, 42, 43, 44, 45, 46, 47, 48, 49, 50, 51, 52, 53, 54, 55, 56, 57, 58, 59, 60, 61, 62, 63, 64, 65, 66, 67, 68] (fun x1 _ => [(9, .c (.int .i64 x1))]) (fun x1 _ => [.box [.tree 2 (p4.system.vars.map ak.enc), .tree 1 (p4.system.in_.map (eK .i64)), .tree 1 (p4.system.out_.map (eK .i64)), .tree 6 (p4.system.rules.map ae.enc), .int .i64 p4.code], .box [.int .i64 p1.op, .int .i64 p1.k, .int .i64 p1.out_, .int .i64 p1.n, .tree 1 (p1.a.map (eK .i64)), .tree 4 (p1.e.map aI.enc)], .box [.int .u8 p2.elem, .int .i64 p2.n], .box [.int .u8 p3.elem, .int .i64 p3.n]]) (fun x1 => cK p1 p2 p4 x1 = some r) ?_ ?_
 ·skip;refine ao [21] ?_
  refine aw ?_;refine ao [24] ?_
  by_cases h7 : p1.op = 15
  ·rw [if_pos h7] at hm;refine ah rfl (beq_iff_eq.2 h7) ?_;refine aq fun k1 hk1 => ?_;refine bx [6, 7, 9, 22, 23, 25, 26, 27, 28, 29, 30, 31, 32, 33, 34, 35, 36, 37, 38, 39, 40, 41, 42, 43, 44, 45, 46, 47] fun k kp hk hp => ?_;refine ap 4 ?_;refine go ?_
   by_cases h8 : p1.n < 1
   ·rw [if_pos h8] at hm;have h8b := decide_eq_true h8;refine aa ?_;refine gox h8b ?_;refine hk _ _ ?_;clear hk hp k kp;refine ah rfl rfl ?_;refine ao [0, 5, 10, 48] ?_;refine an ?_;refine ai ?_;refine ag ?_;refine ay ?_;refine ab [.box [.tree 2 (p4.system.vars.map ak.enc), .tree 1 (p4.system.in_.map (eK .i64)), .tree 1 (p4.system.out_.map (eK .i64)), .tree 6 (p4.system.rules.map ae.enc), .int .i64 p4.code]] ?_;obtain rfl := Option.some.inj hm;exact en
   ·rw [if_neg h8] at hm;have h8b := decide_eq_false h8;refine ap 5 ?_;refine gox h8b ?_
    by_cases h9 : p1.n > 300
    ·rw [if_pos h9] at hm;have h9b := decide_eq_true h9;refine aa ?_;refine gox (a2 h8b h9b) ?_;refine hk _ _ ?_;clear hk hp k kp;refine ah rfl rfl ?_;refine ao [0, 5, 10, 48] ?_;refine an ?_;refine ai ?_;refine ag ?_;refine ay ?_;refine ab [.box [.tree 2 (p4.system.vars.map ak.enc), .tree 1 (p4.system.in_.map (eK .i64)), .tree 1 (p4.system.out_.map (eK .i64)), .tree 6 (p4.system.rules.map ae.enc), .int .i64 p4.code]] ?_;obtain rfl := Option.some.inj hm;exact en
    ·rw [if_neg h9] at hm;have h9b := decide_eq_false h9;refine aa ?_;refine gox (a2 h8b h9b) ?_;obtain ⟨y4, hc10, hm⟩ := bd hm;refine RP (fun _ => mY p1.k _ hc10) ?_
     by_cases h11 : y4 = true
     ·rw [if_pos h11] at hm;have h11b := h11
      have h11c : (!y4) = false := by rw [h11b]; rfl
      refine ap 8 ?_;refine gox (a2 h8b (a2 h9b (a2 h11b h11c))) ?_
      by_cases h12 : p3.elem = p2.elem ∧ p3.n = p2.n
      ·rw [if_pos h12] at hm
       have h12b : ((p3.elem == p2.elem) && (p3.n == p2.n)) = true := by simpa [Bool.and_eq_true] using h12
       have h12c : (!((p3.elem == p2.elem) && (p3.n == p2.n))) = false := by rw [h12b]; rfl
       refine aa ?_;refine gox (a2 h8b (a2 h9b (a2 h11b (a2 h11c (a2 h12b h12c))))) ?_;refine hk _ _ ?_;clear hk hp k kp
       by_cases h13 : p2.n > 0
       ·rw [if_pos h13] at hm;refine ah rfl (decide_eq_true h13) ?_;refine ao [0, 5, 10, 48] ?_;refine an ?_;refine ai ?_;refine ag ?_;refine ay ?_;refine ab [.box [.tree 2 (p4.system.vars.map ak.enc), .tree 1 (p4.system.in_.map (eK .i64)), .tree 1 (p4.system.out_.map (eK .i64)), .tree 6 (p4.system.rules.map ae.enc), .int .i64 p4.code]] ?_;obtain rfl := Option.some.inj hm;exact en
       ·rw [if_neg h13] at hm;refine aj rfl (decide_eq_false h13) ?_;refine ar ?_;refine am (hk1 _ _ ?_);refine bm ?_;refine ax ?_;refine av p1.n () hm ?_
        first | (simp only [bS, bX, reduceIte, ↓reduceIte, reduceCtorEq, Int.reduceToNat, Nat.reduceDiv, Nat.reduceMod, Nat.reduceLT, Nat.reduceLeDiff, Nat.reduceAdd, Nat.reduceSub, Nat.reduceMul, Nat.reduceEqDiff, Nat.reduceBEq, Nat.reduceBNe, Nat.reduceGT] <;> first | done | (and_intros <;> first | rfl | (simp; done) | omega | (simp [lit, bX, eK, eB, eS, eL]; done) | (simp only [bw, List.length_cons, List.length_nil, List.length_append, List.length_set, List.length_replicate, List.length_map, List.length_take, List.length_drop]; omega))) | (simp only [bS, bX, reduceIte, ↓reduceIte, reduceCtorEq, Int.reduceToNat, Nat.reduceDiv, Nat.reduceMod, Nat.reduceLT, Nat.reduceLeDiff, Nat.reduceAdd, Nat.reduceSub, Nat.reduceMul, Nat.reduceEqDiff, Nat.reduceBEq, Nat.reduceBNe, Nat.reduceGT, *] <;> first | done | (and_intros <;> first | rfl | (simp; done) | omega | (simp [lit, bX, eK, eB, eS, eL]; done) | (simp only [bw, List.length_cons, List.length_nil, List.length_append, List.length_set, List.length_replicate, List.length_map, List.length_take, List.length_drop]; omega)))
      ·rw [if_neg h12] at hm;have h12b : ((p3.elem == p2.elem) && (p3.n == p2.n)) = false := Bool.eq_false_iff.2 (fun hh => h12 (by simpa [Bool.and_eq_true] using hh))
       have h12c : (!((p3.elem == p2.elem) && (p3.n == p2.n))) = true := by rw [h12b]; rfl
       refine aa ?_;refine gox (a2 h8b (a2 h9b (a2 h11b (a2 h11c (a2 h12b h12c))))) ?_;refine hk _ _ ?_;clear hk hp k kp;refine ah rfl rfl ?_;refine ao [0, 5, 10, 48] ?_;refine an ?_;refine ai ?_;refine ag ?_;refine ay ?_;refine ab [.box [.tree 2 (p4.system.vars.map ak.enc), .tree 1 (p4.system.in_.map (eK .i64)), .tree 1 (p4.system.out_.map (eK .i64)), .tree 6 (p4.system.rules.map ae.enc), .int .i64 p4.code]] ?_;obtain rfl := Option.some.inj hm;exact en
     ·rw [if_neg h11] at hm;have h11b := Bool.eq_false_iff.2 h11
      have h11c : (!y4) = true := by rw [h11b]; rfl
      refine aa ?_;refine gox (a2 h8b (a2 h9b (a2 h11b h11c))) ?_;refine hk _ _ ?_;clear hk hp k kp;refine ah rfl rfl ?_;refine ao [0, 5, 10, 48] ?_;refine an ?_;refine ai ?_;refine ag ?_;refine ay ?_;refine ab [.box [.tree 2 (p4.system.vars.map ak.enc), .tree 1 (p4.system.in_.map (eK .i64)), .tree 1 (p4.system.out_.map (eK .i64)), .tree 6 (p4.system.rules.map ae.enc), .int .i64 p4.code]] ?_;obtain rfl := Option.some.inj hm;exact en
  ·rw [if_neg h7] at hm;refine aj rfl (beq_eq_false_iff_ne.2 h7) ?_;refine ao [22, 23, 52] ?_
   by_cases h14 : p1.op = 16
   ·rw [if_pos h14] at hm;refine ah rfl (beq_iff_eq.2 h14) ?_;refine dl [6, 7, 51, 53, 54, 55, 56, 57, 58, 59, 60, 61, 62, 63, 64, 65, 66, 67] (by kernel_rfl) [0, 1, 3, 7, 15, 31, 63, 127, 255, 511, 1023, 1023, 3071, 7167, 16383, 32767] [true, true, true, true, true, true, true, true, true, true, false, false, false, false, true, true] (by kernel_rfl) fun k hk => ?_;refine aS ?_;refine ga ?_;obtain ⟨y5, hc15, hm⟩ := bd hm
    refine bj (fun _ => mY p1.k _ hc15) (by first | trivial | exact bP rfl) (by first | trivial | (intro _; first | trivial | simp [aK]) | simp [aK]) rfl (fun _ => rfl) ?_
    by_cases h16 : y5 = true
    ·rw [if_pos h16] at hm;have h16b := h16
     have h16c : (!y5) = false := by rw [h16b]; rfl
     refine dS 7 rfl ?_;refine gax (a2 h16b h16c) ?_
     by_cases h17 : p2.n = 0
     ·rw [if_pos h17] at hm;have h17b := beq_iff_eq.2 h17;refine aS ?_;refine gax (a2 h16b (a2 h16c h17b)) ?_;refine hk _ _ ?_;clear hk k;refine ah rfl rfl ?_;refine ao [0, 5, 9, 10, 68] ?_;refine an ?_;refine ag ?_;refine ay ?_;refine ab [.box [.tree 2 (p4.system.vars.map ak.enc), .tree 1 (p4.system.in_.map (eK .i64)), .tree 1 (p4.system.out_.map (eK .i64)), .tree 6 (p4.system.rules.map ae.enc), .int .i64 p4.code]] ?_;obtain rfl := Option.some.inj hm;exact en
     ·rw [if_neg h17] at hm;have h17b := beq_eq_false_iff_ne.2 h17;refine aS ?_;refine gax (a2 h16b (a2 h16c h17b)) ?_;obtain ⟨y6, hc18, hm⟩ := bd hm
      refine bj (fun _ => ki p2.elem _ hc18) (by first | trivial | exact bP rfl) (by first | trivial | (intro _; first | trivial | simp [aK]) | simp [aK]) rfl (fun _ => rfl) ?_
      refine aS ?_;refine gax (a2 h16b (a2 h16c h17b)) ?_;refine hk _ _ ?_;clear hk k
      by_cases h19 : p3.elem = ((y6).elem) ∧ p3.n = ((y6).n)
      ·rw [if_pos h19] at hm;refine aj rfl (by rw [show ((p3.elem == ((y6).elem)) && (p3.n == ((y6).n))) = true from (by simpa [Bool.and_eq_true] using h19)]; rfl) ?_;refine ar ?_;refine ax ?_;refine av (if 1 > p2.n then 1 else p2.n) () hm ?_
       first | (simp only [bS, bX, reduceIte, ↓reduceIte, reduceCtorEq, Int.reduceToNat, Nat.reduceDiv, Nat.reduceMod, Nat.reduceLT, Nat.reduceLeDiff, Nat.reduceAdd, Nat.reduceSub, Nat.reduceMul, Nat.reduceEqDiff, Nat.reduceBEq, Nat.reduceBNe, Nat.reduceGT] <;> first | done | (and_intros <;> first | rfl | (simp; done) | omega | (simp [lit, bX, eK, eB, eS, eL]; done) | (simp only [bw, List.length_cons, List.length_nil, List.length_append, List.length_set, List.length_replicate, List.length_map, List.length_take, List.length_drop]; omega))) | (simp only [bS, bX, reduceIte, ↓reduceIte, reduceCtorEq, Int.reduceToNat, Nat.reduceDiv, Nat.reduceMod, Nat.reduceLT, Nat.reduceLeDiff, Nat.reduceAdd, Nat.reduceSub, Nat.reduceMul, Nat.reduceEqDiff, Nat.reduceBEq, Nat.reduceBNe, Nat.reduceGT, *] <;> first | done | (and_intros <;> first | rfl | (simp; done) | omega | (simp [lit, bX, eK, eB, eS, eL]; done) | (simp only [bw, List.length_cons, List.length_nil, List.length_append, List.length_set, List.length_replicate, List.length_map, List.length_take, List.length_drop]; omega)))
      ·rw [if_neg h19] at hm;refine ah rfl (by rw [show ((p3.elem == ((y6).elem)) && (p3.n == ((y6).n))) = false from (Bool.eq_false_iff.2 (fun hh => h19 (by simpa [Bool.and_eq_true] using hh)))]; rfl) ?_;refine ao [0, 5, 9, 10, 68] ?_;refine an ?_;refine ag ?_;refine ay ?_;refine ab [.box [.tree 2 (p4.system.vars.map ak.enc), .tree 1 (p4.system.in_.map (eK .i64)), .tree 1 (p4.system.out_.map (eK .i64)), .tree 6 (p4.system.rules.map ae.enc), .int .i64 p4.code]] ?_;obtain rfl := Option.some.inj hm;exact en
    ·rw [if_neg h16] at hm;have h16b := Bool.eq_false_iff.2 h16
     have h16c : (!y5) = true := by rw [h16b]; rfl
     refine aS ?_;refine gax (a2 h16b h16c) ?_;refine hk _ _ ?_;clear hk k;refine ah rfl rfl ?_;refine ao [0, 5, 9, 10, 68] ?_;refine an ?_;refine ag ?_;refine ay ?_;refine ab [.box [.tree 2 (p4.system.vars.map ak.enc), .tree 1 (p4.system.in_.map (eK .i64)), .tree 1 (p4.system.out_.map (eK .i64)), .tree 6 (p4.system.rules.map ae.enc), .int .i64 p4.code]] ?_;obtain rfl := Option.some.inj hm;exact en
   ·rw [if_neg h14] at hm;refine aj rfl (beq_eq_false_iff_ne.2 h14) ?_;refine ar ?_;refine ax ?_;refine av (if 1 > p2.n then 1 else p2.n) () hm ?_;exact ls
 ·rintro x1 _ hm;replace hm : cK p1 p2 p4 x1 = some r := hm;refine aD ?_;unfold cK at hm;refine aJ [12, 13, 69, 70, 71, 72, 73, 74, 75] fun k kp hk hp => ?_;refine go ?_;obtain ⟨y2, hc1, hm⟩ := bd hm;refine RP (fun _ => nl p1.k _ hc1) ?_;refine aa ?_;refine go ?_;refine hk _ _ ?_;clear hk hp k kp;refine aF (S := Unit) (V := Unit) [8, 11, 76, 77, 78, 79, 80, 81, 82, 83] (fun _ _ => []) (fun _ _ => [.box [.tree 2 (p4.system.vars.map ak.enc), .tree 1 (p4.system.in_.map (eK .i64)), .tree 1 (p4.system.out_.map (eK .i64)), .tree 6 (p4.system.rules.map ae.enc), .int .i64 p4.code], .box [.int .i64 p1.op, .int .i64 p1.k, .int .i64 p1.out_, .int .i64 p1.n, .tree 1 (p1.a.map (eK .i64)), .tree 4 (p1.e.map aI.enc)], .box [.int .u8 p2.elem, .int .i64 p2.n], .box [.int .u8 p3.elem, .int .i64 p3.n]]) (fun _ => dO p1 p2 p4 x1 = some r) ?_ ?_
  ·skip;refine bx [11, 76, 77, 78, 79, 80, 81, 82] fun k kp hk hp => ?_
   refine ap 4 ?_;refine go ?_
   by_cases h5 : ¬ p1.op = 14
   ·rw [if_pos h5] at hm;have h5b := bne_iff_ne.2 h5;refine aa ?_;refine gox h5b ?_;refine hk _ _ ?_;clear hk hp k kp
    by_cases h6 : ¬ y2.1 = p2.elem
    ·rw [if_pos h6] at hm;refine ah rfl (bne_iff_ne.2 h6) ?_;refine ao [0, 5, 9, 10, 83] ?_;refine an ?_;refine ay ?_;refine ab [.box [.tree 2 (p4.system.vars.map ak.enc), .tree 1 (p4.system.in_.map (eK .i64)), .tree 1 (p4.system.out_.map (eK .i64)), .tree 6 (p4.system.rules.map ae.enc), .int .i64 p4.code]] ?_;obtain rfl := Option.some.inj hm;exact en
    ·rw [if_neg h6] at hm;refine aj rfl (bne_eq_false_iff_eq.2 (Decidable.not_not.1 h6)) ?_;refine ar ?_;refine av () () hm ?_;exact ls
   ·rw [if_neg h5] at hm;have h5b : (p1.op != 14) = false := bne_eq_false_iff_eq.2 (Decidable.not_not.1 h5);refine aa ?_;refine gox h5b ?_;refine hk _ _ ?_;clear hk hp k kp;refine aj rfl rfl ?_;refine ar ?_;refine av () () hm ?_;exact ls
  ·rintro _ _ hm;replace hm : dO p1 p2 p4 x1 = some r := hm;refine aD ?_;unfold dO at hm;refine aJ [0, 5, 9, 84, 85, 86, 87, 88, 89, 90, 91] fun k kp hk hp => ?_;refine go ?_;obtain ⟨y3, hc2, hm⟩ := bd hm;refine RA (rf p1.e x1 p4  _ hc2) [0] ?_;rintro p σ' ⟨rfl, rfl⟩ _;refine aa ?_;refine go ?_;refine hk _ _ ?_;clear hk hp k kp
   by_cases h4 : y3.2 = true
   ·rw [if_pos h4] at hm;have h4b := h4;refine bo h4b [10, 14, 15, 92, 93, 94, 95, 96, 97] ?_;refine an ?_;refine ab [.box [.tree 2 (p4.system.vars.map ak.enc), .tree 1 (p4.system.in_.map (eK .i64)), .tree 1 (p4.system.out_.map (eK .i64)), .tree 6 (p4.system.rules.map ae.enc), .int .i64 p4.code]] ?_;obtain rfl := Option.some.inj hm;exact en
   ·rw [if_neg h4] at hm;have h4b := Bool.eq_false_iff.2 h4;refine bo h4b [10, 14, 15, 92, 93, 94, 95, 96, 97] ?_;refine an ?_;refine ab [.box [.tree 2 (p4.system.vars.map ak.enc), .tree 1 (p4.system.in_.map (eK .i64)), .tree 1 (p4.system.out_.map (eK .i64)), .tree 6 (p4.system.rules.map ae.enc), .int .i64 p4.code]] ?_;obtain rfl := Option.some.inj hm;exact en
end Pam
