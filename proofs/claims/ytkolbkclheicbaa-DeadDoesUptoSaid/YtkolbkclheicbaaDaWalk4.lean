/- the walk of law_DeadDoes, printed by a program of ours -/
import Derived.Test.YtkolbkclheicbaaDBase3
import Derived.Test.YtkolbkclheicbaaDBase2
import Derived.Test.YtkolbkclheicbaaDaFun1
import Derived.Test.YtkolbkclheicbaaDaWalk3
set_option linter.all false
set_option maxRecDepth 100000
set_option maxHeartbeats 8000000
namespace Pam
open Go Go.Proofs
theorem m9 (p1 : af) (r : Bool) (hm : iO p1 = some r) : bD Try.prog 3 [.a [.tree 2 (p1.vars.map ao.enc), .tree 1 (p1.in_.map (eK .i64)), .tree 1 (p1.out_.map (eK .i64)), .tree 6 (p1.rules.map ah.enc)]] (.c (.bool r)) := by
 refine aM 62 [.tmp 2] Try.func3 rfl rfl rfl (by kernel_rfl) (by simp) ?_;refine bI ?_;unfold iO at hm;refine an [0, 2] ?_;refine ap fun k1 hk1 => ?_;refine aI [9] fun k kp hk hp => ?_;refine go ?_;obtain ⟨y1, hc1, hm⟩ := bd hm;refine RP (fun _ => mG  _ hc1) ?_;refine aa ?_;refine go ?_;refine hk _ _ ?_;clear hk hp k kp
 by_cases h2 : y1 = true
 ·rw [iP h2] at hm;refine ai rfl (by rw [show y1 = true from (h2)]; rfl) ?_;refine aq ?_;refine am (hk1 _ _ ?_);refine ap fun k2 hk2 => ?_;refine aI [10, 11] fun k kp hk hp => ?_;refine go ?_;obtain ⟨y2, hc3, hm⟩ := bd hm;refine RP (fun _ => lJ p1 150 _ hc3) ?_;refine aa ?_;refine go ?_;refine hk _ _ ?_;clear hk hp k kp
  by_cases h4 : y2 = true
  ·rw [iP h4] at hm;refine ag rfl (h4) ?_;refine an [1, 12] ?_;refine aj ?_;refine ae ?_
   cases hm
   exact kr 0
  ·rw [iN h4] at hm;refine ai rfl (fB h4) ?_;refine aq ?_;refine am (hk2 _ _ ?_);refine aI [12, 13, 14] fun k kp hk hp => ?_;refine go ?_;obtain ⟨y3, hc5, hm⟩ := bd hm;refine RP (fun _ => jl p1 _ hc5) ?_;refine aa ?_;refine go ?_;refine hk _ _ ?_;clear hk hp k kp;refine aI [15, 16, 17, 18, 19] fun k kp hk hp => ?_;refine go ?_;obtain ⟨y4, hc6, hm⟩ := bd hm;refine RP (fun _ => kG (y3) _ hc6) ?_;refine aa ?_;refine go ?_;refine hk _ _ ?_;clear hk hp k kp;refine aI [20, 21, 22, 23, 24] fun k kp hk hp => ?_;refine go ?_;obtain ⟨y5, hc7, hm⟩ := bd hm;refine RP (fun _ => mh (y3) _ hc7) ?_;refine aa ?_;refine go ?_;refine hk _ _ ?_;clear hk hp k kp;refine aI [25, 26] fun k kp hk hp => ?_;refine go ?_;obtain ⟨y6, hc8, hm⟩ := bd hm;refine RP (fun _ => m6 p1 _ hc8) ?_;refine aa ?_;refine go ?_;refine hk _ _ ?_;clear hk hp k kp;refine ap fun k3 hk3 => ?_;refine bp [3, 5, 7, 27, 28, 29, 30, 31, 32, 33, 34, 35, 36, 37, 38, 39] fun k kp hk hp => ?_;refine ak 4 ?_;refine go ?_
   by_cases h9 : ((y4.2).code) = ((y6).code) ∧ ((y4.2).at_) = ((y6).at_)
   ·rw [iP h9] at hm
    have h9b : ((((y4.2).code) == ((y6).code)) && (((y4.2).at_) == ((y6).at_))) = true := by simpa [Bool.and_eq_true] using h9
    have h9c : (!((((y4.2).code) == ((y6).code)) && (((y4.2).at_) == ((y6).at_)))) = false := by rw [h9b]; rfl
    refine ak 5 ?_;refine gox (a2 h9b h9c) ?_
    by_cases h10 : ((y5.2).code) = ((y6).code) ∧ ((y5.2).at_) = ((y6).at_)
    ·rw [iP h10] at hm
     have h10b : ((((y5.2).code) == ((y6).code)) && (((y5.2).at_) == ((y6).at_))) = true := by simpa [Bool.and_eq_true] using h10
     have h10c : (!((((y5.2).code) == ((y6).code)) && (((y5.2).at_) == ((y6).at_)))) = false := by rw [h10b]; rfl
     refine aa ?_;refine gox (a2 h9b (a2 h9c (a2 h10b h10c))) ?_;obtain ⟨y7, hc11, hm⟩ := bd hm;refine RP (fun _ => hL (y3) p1 _ hc11) ?_;refine aa ?_;refine gox (a2 h9b (a2 h9c (a2 h10b h10c))) ?_;refine hk _ _ ?_;clear hk hp k kp
     by_cases h12 : y7 = true
     ·rw [iP h12] at hm;refine ai rfl (by rw [show y7 = true from (h12)]; rfl) ?_;refine aq ?_;refine am (hk3 _ _ ?_);refine ap fun k4 hk4 => ?_;refine an [8, 40, 41, 42] ?_
      by_cases h13 : ¬ ((y6).code) = 0
      ·rw [iP h13] at hm;refine ag rfl (bne_iff_ne.2 h13) ?_;refine bp [1, 4, 6, 43, 44, 45, 46, 47, 48, 49, 50, 51] fun k kp hk hp => ?_;refine ak 4 ?_;refine go ?_
       by_cases h14 : (y4.1.length : Int) = 0
       ·rw [iP h14] at hm;have h14b := eQ h14;refine aa ?_;refine gox h14b ?_
        refine gT (jF 49 (.a [.tree 2 ([].map ao.enc), .tree 1 ([].map (eK .i64)), .tree 1 ([].map (eK .i64)), .tree 6 ([].map ah.enc)]) rfl (by and_intros <;> trivial)) ?_
        refine gox h14b ?_;obtain ⟨y8, hc15, hm⟩ := bd hm;refine RP (fun _ => hL (y5.1) (af.mk [] [] [] []) _ hc15) ?_;refine aa ?_;refine gox h14b ?_;refine hk _ _ ?_;clear hk hp k kp;refine aj ?_;refine ae ?_
        cases hm
        exact kr 0
       ·rw [iN h14] at hm;have h14b := nB h14;refine aa ?_;refine gox h14b ?_;refine hk _ _ ?_;clear hk hp k kp;refine aj ?_;refine ae ?_
        cases hm
        exact kr 0
      ·rw [iN h13] at hm;refine ai rfl (bne_eq_false_iff_eq.2 (Decidable.not_not.1 h13)) ?_;refine aq ?_;refine am (hk4 _ _ ?_);refine dg [1, 4, 6, 43, 52, 53, 54, 55, 56, 57, 58, 59, 60, 61] (by kernel_rfl) [0, 0, 2, 7, 15, 31, 31, 95, 255, 511, 1023] [false, false, false, true, true, false, false, false, true, true, true] (by kernel_rfl) fun k hk => ?_;refine aL ?_;refine ga ?_;obtain ⟨y9, hc16, hm⟩ := bd hm;refine pat (fun _ => kh p1 _ hc16) ?_;refine aL ?_;refine ga ?_;obtain ⟨y10, hc17, hm⟩ := bd hm;refine pat (fun _ => mH y4.1 y9 _ hc17) ?_
       by_cases h18 : y10 = true
       ·rw [iP h18] at hm;have h18b := h18;refine aL ?_;refine gax h18b ?_;obtain ⟨y11, hc19, hm⟩ := bd hm;refine pat (fun _ => ql p1 _ hc19) ?_;refine aL ?_;refine gax h18b ?_;obtain ⟨y12, hc20, hm⟩ := bd hm;refine pat (fun _ => hL (y5.1) (y11) _ hc20) ?_;refine aL ?_;refine gax h18b ?_;refine hk _ _ ?_;clear hk k;refine aj ?_
        cases hm
        exact kr 0
       ·rw [iN h18] at hm;have h18b := fB h18;refine aL ?_;refine gax h18b ?_;refine hk _ _ ?_;clear hk k;refine aj ?_
        cases hm
        exact kr 0
     ·rw [iN h12] at hm;refine ag rfl (by rw [show y7 = false from (fB h12)]; rfl) ?_;refine an [1, 4, 6, 8, 40] ?_;refine aj ?_;refine ae ?_
      cases hm
      exact kr 0
    ·rw [iN h10] at hm;have h10b : ((((y5.2).code) == ((y6).code)) && (((y5.2).at_) == ((y6).at_))) = false := fB (fun hh => h10 (by simpa [Bool.and_eq_true] using hh))
     have h10c : (!((((y5.2).code) == ((y6).code)) && (((y5.2).at_) == ((y6).at_)))) = true := by rw [h10b]; rfl
     refine aa ?_;refine gox (a2 h9b (a2 h9c (a2 h10b h10c))) ?_;refine hk _ _ ?_;clear hk hp k kp;refine ag rfl rfl ?_;refine an [1, 4, 6, 8, 40] ?_;refine aj ?_;refine ae ?_
     cases hm
     exact kr 0
   ·rw [iN h9] at hm;have h9b : ((((y4.2).code) == ((y6).code)) && (((y4.2).at_) == ((y6).at_))) = false := fB (fun hh => h9 (by simpa [Bool.and_eq_true] using hh))
    have h9c : (!((((y4.2).code) == ((y6).code)) && (((y4.2).at_) == ((y6).at_)))) = true := by rw [h9b]; rfl
    refine aa ?_;refine gox (a2 h9b h9c) ?_;refine hk _ _ ?_;clear hk hp k kp;refine ag rfl rfl ?_;refine an [1, 4, 6, 8, 40] ?_;refine aj ?_;refine ae ?_
    cases hm
    exact kr 0
 ·rw [iN h2] at hm;refine ag rfl (by rw [show y1 = false from (fB h2)]; rfl) ?_;refine an [1, 10] ?_;refine aj ?_;refine ae ?_
  cases hm
  exact kr 0
end Pam
