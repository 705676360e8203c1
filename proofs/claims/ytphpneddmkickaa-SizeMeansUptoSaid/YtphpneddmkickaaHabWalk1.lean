/- the walk of slices_Equal_api_Size_api_Term, printed by a program of ours -/
import Derived.Test.YtphpneddmkickaaHBase2
import Derived.Test.YtphpneddmkickaaHBase3
import Derived.Test.YtphpneddmkickaaHabcFun1
import Derived.Test.YtphpneddmkickaaHabcWalk1
set_option linter.all false
set_option maxRecDepth 100000
set_option maxHeartbeats 8000000
namespace Pam
open Go Go.Proofs
theorem gF (p1 : List aa) (p2 : List aa) (r : Bool) (hm : cd p1 p2 = some r) : cZ Try.prog 28 [.c (.tree 2 (p1.map aa.enc)), .c (.tree 2 (p2.map aa.enc))] (.c (.bool r)) := by
 refine bq 26 [.tmp 4] Try.func28 rfl rfl rfl (by kernel_rfl) (by simp) ?_;refine cU ?_;unfold cd at hm;refine am [4] ?_;refine ak fun k1 hk1 => ?_;refine am [6, 7, 8, 9] ?_
 by_cases h1 : ¬ (p1.length : Int) = (p2.length : Int)
 ·rw [iP h1] at hm;refine af rfl (bne_iff_ne.2 h1) ?_;refine am [0, 1, 10] ?_;refine az ?_;refine ao ?_
  cases hm
  exact kr 0
 ·rw [iN h1] at hm;refine ai rfl (bne_eq_false_iff_eq.2 (Decidable.not_not.1 h1)) ?_;refine ap ?_;refine ah (hk1 _ _ ?_);refine a9 (S := Unit) (V := Unit) [0, 1, 4, 5, 10, 11, 12, 13, 14, 15, 16, 17, 18, 19, 20, 21, 22, 23, 24, 25] (fun _ _ => []) (fun _ _ => []) (fun _ => bQ = some r) ?_ ?_
  ·skip;refine am [10, 11] ?_
   refine aq ?_;obtain ⟨o1, hl1, hm1⟩ := bd hm;refine bn (S := Int) (V := Unit) (O := Unit ⊕ Bool) [4, 5, 13, 14, 15, 16, 17, 18, 19, 20, 21, 22, 23, 24, 25] (fun x3 _ => [(13, .c (.int .i64 x3))]) (fun x3 _ => []) _ _ () hl1 ?_ ?_
   ·exact ls
   ·rintro x3 _ r1 hm hr1;replace hm : bU p1 p2 x3 = some r1 := hm;refine aU ?_;unfold bU at hm;refine am [] ?_;refine ak fun k2 hk2 => ?_
    by_cases h2 : x3 < (p1.length : Int)
    ·rw [iP h2] at hm;refine af rfl (dT h2) ?_;refine ap ?_;refine ah (hk2 _ _ ?_);refine ak fun k3 hk3 => ?_;refine aq ?_;refine am [14, 15] ?_;obtain ⟨⟨hg3a, hg3b⟩, hm⟩ := gd hm;refine rz (a2 (em aa.enc p1 x3.toNat) (em aa.enc p2 x3.toNat)) [5, 16, 17, 18, 19, 20, 21, 22, 23] [0, 0, 3, 7, 0, 0, 48, 112, 255] [false, false, false, false, false, false, false, false, true] ?_
     by_cases h4 : ((p1.getD x3.toNat default).n) = ((p2.getD x3.toNat default).n) ∧ ((p1.getD x3.toNat default).name) = ((p2.getD x3.toNat default).name)
     ·rw [iP h4] at hm;refine ai rfl (by rw [show ((((p1.getD x3.toNat default).n) == ((p2.getD x3.toNat default).n)) && (((p1.getD x3.toNat default).name) == ((p2.getD x3.toNat default).name))) = true from (by simpa [Bool.and_eq_true] using h4)]; rfl) ?_;refine ap ?_;refine aA ?_;refine ah (hk3 _ _ ?_);refine cp ?_;refine aB (IntKind.wrap .i64 (x3 + 1)) () hm ?_;exact ls
     ·rw [iN h4] at hm;refine af rfl (by rw [show ((((p1.getD x3.toNat default).n) == ((p2.getD x3.toNat default).n)) && (((p1.getD x3.toNat default).name) == ((p2.getD x3.toNat default).name))) = false from (fB (fun hh => h4 (by simpa [Bool.and_eq_true] using hh)))]; rfl) ?_;refine am [0, 1, 12, 13, 24] ?_;have ho5 := av hm hr1;subst ho5;replace hm : some false = some r := hm1;refine az ?_;refine aj (ao (aR (aj (aC ?_))))
      cases hm
      exact kr 0
    ·rw [iN h2] at hm;refine ai rfl (dF h2) ?_;refine br ?_;have ho6 := av hm hr1;subst ho6;replace hm : bQ = some r := hm1;refine a8 (aY (ar ?_));refine au () () hm ?_;exact ls
  ·rintro _ _ hm;replace hm : bQ = some r := hm;refine aU ?_;unfold bQ at hm;refine am [] ?_;refine az ?_
   cases hm
   exact kr 0
theorem jC (fuel : Nat) (p1 : List aa) (p2 : List aa) (r : Bool) (hm : fT fuel p1 p2 = some r) : cZ Try.prog 15 [.c (.tree 2 (p1.map aa.enc)), .c (.tree 2 (p2.map aa.enc))] (.c (.bool r)) := by
 refine bq 32 [.tmp 4] Try.func15 rfl rfl rfl (by kernel_rfl) (by simp) ?_;refine cU ?_;unfold fT at hm;refine am [4] ?_;refine bm [0, 9, 10, 11, 12, 13] fun k kp hk hp => ?_;refine go ?_;obtain ⟨y1, hc1, hm⟩ := bd hm;refine RP (fun _ => fV fuel p1 _ hc1) ?_;refine ae ?_;refine go ?_;refine hk _ _ ?_;clear hk hp k kp;refine bm [1, 14, 15, 16, 17, 18] fun k kp hk hp => ?_;refine go ?_;obtain ⟨y2, hc2, hm⟩ := bd hm;refine RP (fun _ => fV fuel p2 _ hc2) ?_;refine ae ?_;refine go ?_;refine hk _ _ ?_;clear hk hp k kp;refine eU [5, 6, 7, 8, 19, 20, 21, 22, 23, 24, 25, 26, 27, 28, 29, 30, 31] fun k kp hk hp => ?_;refine aw 4 ?_;refine go ?_
 by_cases h3 : ((y1.2).code) = 0
 ·rw [iP h3] at hm;have h3b := eQ h3;refine aw 5 ?_;refine gox h3b ?_
  by_cases h4 : ((y2.2).code) = 0
  ·rw [iP h4] at hm;have h4b := eQ h4;refine ae ?_;refine gox (a2 h3b h4b) ?_;obtain ⟨y3, hc5, hm⟩ := bd hm;refine RP (fun _ => gF y1.1 y2.1 _ hc5) ?_;refine ae ?_;refine gox (a2 h3b h4b) ?_;refine hk _ _ ?_;clear hk hp k kp;refine az ?_
   cases hm
   exact kr 0
  ·rw [iN h4] at hm;have h4b := nB h4;refine ae ?_;refine gox (a2 h3b h4b) ?_;refine hk _ _ ?_;clear hk hp k kp;refine az ?_
   cases hm
   exact kr 0
 ·rw [iN h3] at hm;have h3b := nB h3;refine ae ?_;refine gox h3b ?_;refine hk _ _ ?_;clear hk hp k kp;refine az ?_
  cases hm
  exact kr 0
end Pam
