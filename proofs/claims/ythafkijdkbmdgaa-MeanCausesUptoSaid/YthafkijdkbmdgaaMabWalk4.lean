/- the walk of ref_GreatSystem, printed by a program of ours -/
import Derived.Test.YthafkijdkbmdgaaMBase2
import Derived.Test.YthafkijdkbmdgaaMBase3
import Derived.Test.YthafkijdkbmdgaaMabFun1
import Derived.Test.YthafkijdkbmdgaaMabWalk3
set_option linter.all false
set_option maxRecDepth 100000
set_option maxHeartbeats 8000000
namespace Pam
open Go Go.Proofs
theorem ln (p1 : ae) (p2 : Int) (r : Bool) (hm : fK p1 p2 = some r) : dw Try.prog 7 [.a [.tree 2 (p1.vars.map ah.enc), .tree 1 (p1.in_.map (eK .i64)), .tree 1 (p1.out_.map (eK .i64)), .tree 6 (p1.rules.map ab.enc)], .c (.int .i64 p2)] (.c (.bool r)) := by
 refine aC 103 [.tmp 4] Try.func7 rfl rfl rfl (by kernel_rfl) (by simp) ?_;refine bo ?_;unfold fK at hm;refine ak [0, 4] ?_;refine ap fun k1 hk1 => ?_;refine bl [9, 10, 11, 12, 13, 14, 15, 16, 17, 18, 19, 20, 21, 22, 23, 24, 25, 26, 27, 28, 29, 30, 31, 32, 33] fun k kp hk hp => ?_;refine ao 6 ?_;refine go ?_
 by_cases h1 : (p1.vars.length : Int) > p2
 ·rw [iP h1] at hm;have h1b := dT h1;refine aa ?_;refine gox h1b ?_;refine hk _ _ ?_;clear hk hp k kp;refine af rfl rfl ?_;refine ak [1, 2, 34] ?_;refine am ?_;refine ag ?_
  cases hm
  exact kr 0
 ·rw [iN h1] at hm;have h1b := dF h1;refine ao 7 ?_;refine gox h1b ?_
  by_cases h2 : (p1.rules.length : Int) > p2
  ·rw [iP h2] at hm;have h2b := dT h2;refine aa ?_;refine gox (a2 h1b h2b) ?_;refine hk _ _ ?_;clear hk hp k kp;refine af rfl rfl ?_;refine ak [1, 2, 34] ?_;refine am ?_;refine ag ?_
   cases hm
   exact kr 0
  ·rw [iN h2] at hm;have h2b := dF h2;refine ao 7 ?_;refine gox (a2 h1b h2b) ?_
   by_cases h3 : (p1.in_.length : Int) > p2
   ·rw [iP h3] at hm;have h3b := dT h3;refine aa ?_;refine gox (a2 h1b (a2 h2b h3b)) ?_;refine hk _ _ ?_;clear hk hp k kp;refine af rfl rfl ?_;refine ak [1, 2, 34] ?_;refine am ?_;refine ag ?_
    cases hm
    exact kr 0
   ·rw [iN h3] at hm;have h3b := dF h3;refine aa ?_;refine gox (a2 h1b (a2 h2b h3b)) ?_;refine hk _ _ ?_;clear hk hp k kp
    by_cases h4 : (p1.out_.length : Int) > p2
    ·rw [iP h4] at hm;refine af rfl (dT h4) ?_;refine ak [1, 2, 34] ?_;refine am ?_;refine ag ?_
     cases hm
     exact kr 0
    ·rw [iN h4] at hm;refine ai rfl (dF h4) ?_;refine au ?_;refine an (hk1 _ _ ?_);refine ak [34] ?_;refine aH (S := Int) (V := Unit) [4, 5, 6, 35, 36, 37, 38, 39, 40, 41, 42, 43, 44, 45, 46, 47, 48, 49, 50, 51, 52, 53, 54, 55, 56, 57] (fun x1 _ => [(5, .c (.int .i64 x1))]) (fun x1 _ => [.box [.tree 2 (p1.vars.map ah.enc), .tree 1 (p1.in_.map (eK .i64)), .tree 1 (p1.out_.map (eK .i64)), .tree 6 (p1.rules.map ab.enc)]]) (fun x1 => dy p1 p2 x1 = some r) ?_ ?_
     ·skip;refine ak [] ?_
      refine aw ?_;obtain ⟨o2, hl2, hm2⟩ := bd hm;refine bj (S := (Int × Int)) (V := Unit) (O := Int ⊕ Bool) [4, 5, 6, 35, 36, 37, 38, 39, 40, 41, 42, 43, 44, 45, 46, 47, 48, 49, 50, 51, 52, 53, 54, 55, 56, 57] (fun (x15, x16) _ => [(5, .c (.int .i64 x15)), (6, .c (.int .i64 x16))]) (fun (x15, x16) _ => [.box [.tree 2 (p1.vars.map ah.enc), .tree 1 (p1.in_.map (eK .i64)), .tree 1 (p1.out_.map (eK .i64)), .tree 6 (p1.rules.map ab.enc)]]) _ _ () hl2 ?_ ?_
      ·exact ls
      ·rintro ⟨x15, x16⟩ _ r2 hm hr2;replace hm : cy p1 x15 x16 = some r2 := hm;refine aM ?_;unfold cy at hm;refine ap fun k4 hk4 => ?_;refine ak [35, 36, 37, 38] ?_
       by_cases h15 : x16 < (p1.vars.length : Int)
       ·rw [iP h15] at hm;refine af rfl (dT h15) ?_;refine au ?_;refine an (hk4 _ _ ?_);refine ap fun k5 hk5 => ?_;refine aw ?_;refine ap fun k6 hk6 => ?_;obtain ⟨hg16a, hm⟩ := gd hm;refine bU (em ah.enc p1.vars x16.toNat) [39, 42, 43, 44, 45, 46, 47] ?_
        by_cases h17 : ((p1.vars.getD x16.toNat default).n) > 1000
        ·rw [iP h17] at hm;refine af rfl (dT h17) ?_;refine ak [1, 2, 5, 6, 48] ?_;have ho18 := aQ hm hr2;subst ho18;replace hm : some true = some r := hm2;refine am ?_;refine ag (aj (ag (bC (aj (aZ ?_)))))
         cases hm
         exact kr 0
        ·rw [iN h17] at hm;refine ai rfl (dF h17) ?_;refine au ?_;refine an (hk6 _ _ ?_);refine je fun k kp hk hp => ?_;refine gox (em ah.enc p1.vars x16.toNat) ?_;obtain ⟨y17, hc19, hm⟩ := bd hm;refine RP (fun _ => ul ((p1.vars.getD x16.toNat default).n) _ hc19) ?_;refine aa ?_;refine go ?_;refine hk _ _ ?_;clear hk hp k kp;refine aB ?_;refine an (hk5 _ _ ?_);refine ck ?_;refine aL ((IntKind.wrap .i64 (x15 + y17)), (IntKind.wrap .i64 (x16 + 1))) () hm ?_;exact ls
       ·rw [iN h15] at hm;refine ai rfl (dF h15) ?_;refine bB ?_;have ho20 := aQ hm hr2;subst ho20;replace hm : dy p1 p2 x15 = some r := hm2;refine bg (aY (aG ?_));refine ay x15 () hm ?_;exact ls
     ·rintro x1 _ hm;replace hm : dy p1 p2 x1 = some r := hm;refine aM ?_;unfold dy at hm;refine aH (S := Int) (V := Unit) [2, 4, 5, 7, 8, 58, 59, 60, 61, 62, 63, 64, 65, 66, 67, 68, 69, 70, 71, 72, 73, 74, 75, 76, 77, 78, 79, 80, 81, 82, 83, 84, 85, 86, 87, 88, 89, 90, 91, 92, 93, 94, 95, 96, 97, 98] (fun x2 _ => [(5, .c (.int .i64 x2))]) (fun x2 _ => [.box [.tree 2 (p1.vars.map ah.enc), .tree 1 (p1.in_.map (eK .i64)), .tree 1 (p1.out_.map (eK .i64)), .tree 6 (p1.rules.map ab.enc)]]) (fun x2 => eg p2 x2 = some r) ?_ ?_
      ·skip;refine ak [] ?_
       refine aw ?_;obtain ⟨o1, hl1, hm1⟩ := bd hm;refine bj (S := (Int × Int)) (V := Unit) (O := Int ⊕ Bool) [4, 5, 7, 8, 58, 59, 60, 61, 62, 63, 64, 65, 66, 67, 68, 69, 70, 71, 72, 73, 74, 75, 76, 77, 78, 79, 80, 81, 82, 83, 84, 85, 86, 87, 88, 89, 90, 91, 92, 93, 94, 95, 96, 97, 98] (fun (x7, x8) _ => [(5, .c (.int .i64 x7)), (7, .c (.int .i64 x8))]) (fun (x7, x8) _ => [.box [.tree 2 (p1.vars.map ah.enc), .tree 1 (p1.in_.map (eK .i64)), .tree 1 (p1.out_.map (eK .i64)), .tree 6 (p1.rules.map ab.enc)]]) _ _ () hl1 ?_ ?_
       ·exact ls
       ·rintro ⟨x7, x8⟩ _ r1 hm hr1;replace hm : cx p1 x7 x8 = some r1 := hm;refine aM ?_;unfold cx at hm;refine ap fun k2 hk2 => ?_;refine ak [58, 59, 60, 61] ?_
        by_cases h5 : x8 < (p1.rules.length : Int)
        ·rw [iP h5] at hm;refine af rfl (dT h5) ?_;refine au ?_;refine an (hk2 _ _ ?_);refine ap fun k3 hk3 => ?_;refine aw ?_;obtain ⟨hg6a, hm⟩ := gd hm;refine bU (em ab.enc p1.rules x8.toNat) [62, 65, 66, 67, 68, 69] ?_;refine aH (S := Unit) (V := Unit) [4, 70, 71, 72, 73, 74, 75, 76, 77, 78, 79, 80, 81, 82, 83, 84, 85, 86, 87, 88, 89] (fun _ _ => []) (fun _ _ => [.box [.tree 2 (p1.vars.map ah.enc), .tree 1 (p1.in_.map (eK .i64)), .tree 1 (p1.out_.map (eK .i64)), .tree 6 (p1.rules.map ab.enc)], .box [.int .i64 ((p1.rules.getD x8.toNat default).op), .int .i64 ((p1.rules.getD x8.toNat default).k), .int .i64 ((p1.rules.getD x8.toNat default).out_), .int .i64 ((p1.rules.getD x8.toNat default).n), .tree 1 (((p1.rules.getD x8.toNat default).a).map (eK .i64)), .tree 4 (((p1.rules.getD x8.toNat default).e).map aq.enc)]]) (fun _ => eh p1 x7 x8 = some r1) ?_ ?_
         ·skip;refine bl [70, 71, 72, 73, 74, 75, 76, 77, 78, 79, 80, 81, 82, 83, 84, 85, 86, 87, 88] fun k kp hk hp => ?_
          refine ao 5 ?_;refine go ?_
          by_cases h7 : (((p1.rules.getD x8.toNat default).a).length : Int) > 100
          ·rw [iP h7] at hm;have h7b := dT h7;refine aa ?_;refine gox h7b ?_;refine hk _ _ ?_;clear hk hp k kp;refine af rfl rfl ?_;refine ak [1, 2, 5, 7, 8, 89] ?_;have ho8 := aQ hm hr1;subst ho8;replace hm : some true = some r := hm1;refine am ?_;refine aZ (aj (ag (bC (aj (aZ ?_)))))
           cases hm
           exact kr 0
          ·rw [iN h7] at hm;have h7b := dF h7;refine ao 6 ?_;refine gox h7b ?_
           by_cases h9 : (((p1.rules.getD x8.toNat default).e).length : Int) > 1000
           ·rw [iP h9] at hm;have h9b := dT h9;refine aa ?_;refine gox (a2 h7b h9b) ?_;refine hk _ _ ?_;clear hk hp k kp;refine af rfl rfl ?_;refine ak [1, 2, 5, 7, 8, 89] ?_;have ho10 := aQ hm hr1;subst ho10;replace hm : some true = some r := hm1;refine am ?_;refine aZ (aj (ag (bC (aj (aZ ?_)))))
            cases hm
            exact kr 0
           ·rw [iN h9] at hm;have h9b := dF h9;refine ao 4 ?_;refine gox (a2 h7b h9b) ?_
            by_cases h11 : ((p1.rules.getD x8.toNat default).op) = 15
            ·rw [iP h11] at hm;have h11b := eQ h11;refine aa ?_;refine gox (a2 h7b (a2 h9b h11b)) ?_;refine hk _ _ ?_;clear hk hp k kp
             by_cases h12 : ((p1.rules.getD x8.toNat default).n) > 1000
             ·rw [iP h12] at hm;refine af rfl (dT h12) ?_;refine ak [1, 2, 5, 7, 8, 89] ?_;have ho13 := aQ hm hr1;subst ho13;replace hm : some true = some r := hm1;refine am ?_;refine aZ (aj (ag (bC (aj (aZ ?_)))))
              cases hm
              exact kr 0
             ·rw [iN h12] at hm;refine ai rfl (dF h12) ?_;refine au ?_;refine ay () () hm ?_;exact ls
            ·rw [iN h11] at hm;have h11b := nB h11;refine aa ?_;refine gox (a2 h7b (a2 h9b h11b)) ?_;refine hk _ _ ?_;clear hk hp k kp;refine ai rfl rfl ?_;refine au ?_;refine ay () () hm ?_;exact ls
         ·rintro _ _ hm;replace hm : eh p1 x7 x8 = some r1 := hm;refine aM ?_;unfold eh at hm;refine ck ?_;refine aB ?_;refine an (hk3 _ _ ?_);refine ck ?_;refine aL ((IntKind.wrap .i64 (x7 + (IntKind.wrap .i64 ((((p1.rules.getD x8.toNat default).a).length : Int) + (((p1.rules.getD x8.toNat default).e).length : Int))))), (IntKind.wrap .i64 (x8 + 1))) () hm ?_;exact ls
        ·rw [iN h5] at hm;refine ai rfl (dF h5) ?_;refine bB ?_;have ho14 := aQ hm hr1;subst ho14;replace hm : eg p2 x7 = some r := hm1;refine bg (aY (aG ?_));refine ay x7 () hm ?_;exact ls
      ·rintro x2 _ hm;replace hm : eg p2 x2 = some r := hm;refine aM ?_;unfold eg at hm;refine ak [1, 5, 99, 100, 101, 102] ?_;refine am ?_
       cases hm
       exact kr 0
theorem j7 (p1 : List (List Int)) (r : Bool) (hm : gj p1 = some r) : dw Try.prog 8 [.c (.tree 1 (p1.map (eL 1 (eK .i64))))] (.c (.bool r)) := by
 refine aC 19 [.tmp 2] Try.func8 rfl rfl rfl (by kernel_rfl) (by simp) ?_;refine bo ?_;unfold gj at hm;refine ak [2] ?_;refine ap fun k1 hk1 => ?_;refine ak [4, 5] ?_
 by_cases h1 : (p1.length : Int) > 60
 ·rw [iP h1] at hm;refine af rfl (dT h1) ?_;refine ak [0, 6] ?_;refine am ?_;refine ag ?_
  cases hm
  exact kr 0
 ·rw [iN h1] at hm;refine ai rfl (dF h1) ?_;refine au ?_;refine an (hk1 _ _ ?_);refine aH (S := Unit) (V := Unit) [0, 2, 3, 6, 7, 8, 9, 10, 11, 12, 13, 14, 15, 16, 17, 18] (fun _ _ => []) (fun _ _ => []) (fun _ => gL = some r) ?_ ?_
  ·skip;refine ak [6] ?_
   refine aw ?_;obtain ⟨o1, hl1, hm1⟩ := bd hm;refine bj (S := Int) (V := Unit) (O := Unit ⊕ Bool) [2, 3, 7, 8, 9, 10, 11, 12, 13, 14, 15, 16, 17, 18] (fun x3 _ => [(3, .c (.int .i64 x3))]) (fun x3 _ => []) _ _ () hl1 ?_ ?_
   ·exact ls
   ·rintro x3 _ r1 hm hr1;replace hm : gM p1 x3 = some r1 := hm;refine aM ?_;unfold gM at hm;refine ap fun k2 hk2 => ?_;refine ak [7, 8, 9] ?_
    by_cases h2 : x3 < (p1.length : Int)
    ·rw [iP h2] at hm;refine af rfl (dT h2) ?_;refine au ?_;refine an (hk2 _ _ ?_);refine ap fun k3 hk3 => ?_;refine aw ?_;obtain ⟨hg3a, hm⟩ := gd hm;refine bU (em (eL 1 (eK .i64)) p1 x3.toNat) [10, 13, 14, 15, 16, 17] ?_
     by_cases h4 : ((p1.getD x3.toNat default).length : Int) > 10000
     ·rw [iP h4] at hm;refine af rfl (dT h4) ?_;refine ak [0, 3, 18] ?_;have ho5 := aQ hm hr1;subst ho5;replace hm : some true = some r := hm1;refine am ?_;refine aj (ag (bC (aj (aZ ?_))))
      cases hm
      exact kr 0
     ·rw [iN h4] at hm;refine ai rfl (dF h4) ?_;refine au ?_;refine aB ?_;refine an (hk3 _ _ ?_);refine ck ?_;refine aL (IntKind.wrap .i64 (x3 + 1)) () hm ?_;exact ls
    ·rw [iN h2] at hm;refine ai rfl (dF h2) ?_;refine bB ?_;have ho6 := aQ hm hr1;subst ho6;replace hm : gL = some r := hm1;refine bg (aY (aG ?_));refine ay () () hm ?_;exact ls
  ·rintro _ _ hm;replace hm : gL = some r := hm;refine aM ?_;unfold gL at hm;refine ak [] ?_;refine am ?_
   cases hm
   exact kr 0
end Pam
