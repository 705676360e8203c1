/- the walk of law_RenderApart, printed by a program of ours -/
import Derived.Test.YtmlmnddnklhfpaaGreatDoorBBase2
import Derived.Test.YtmlmnddnklhfpaaGreatDoorBBase3
import Derived.Test.YtmlmnddnklhfpaaGreatDoorBabcData1
import Derived.Test.YtmlmnddnklhfpaaGreatDoorBcFun1
import Derived.Test.YtmlmnddnklhfpaaGreatDoorBabcWalk2
import Derived.Test.YtmlmnddnklhfpaaGreatDoorBbcWalk1
set_option linter.all false
set_option maxRecDepth 100000
set_option maxHeartbeats 8000000
namespace Pam
open Go Go.Proofs
theorem ue(fuel:Nat)(p1 p2:az)(r:Bool)(hm:lc fuel p1 p2=some r):cq Tryz.prog 5 [.a [(ct4 p1.nodes)],.a [(ct4 p2.nodes)]] (.c (.bool r)):=by
 refine sf 42 [.tmp 4] Tryz.func5 ?_;unfold lc at hm;refine aj [0,1,4] ?_;refine ap fun k1 hk1=>?_;refine ao [9] fun k kp hk hp=>?_;refine go ?_;obtain ⟨y1,hc1,hm⟩:=bd hm;refine (RP (fun _=>mD fuel  _ hc1)∘ab∘goK∘hk _ _) ?_;refine cn hm rfl (fun _ hm=>?_) fun _ hm=>?_;refine ai ?_;refine an (hk1 _ _ ?_);refine ap fun k2 hk2=>?_;refine ao [10,11,12,13,14,15] fun k kp hk hp=>?_;refine go ?_;obtain ⟨y2,hc3,hm⟩:=bd hm;refine RP (fun _=>rq fuel p1 _ hc3) ?_;refine cb hm (fun _ h4b hm=>?_) fun _ h4b hm=>?_;refine (ab∘aI h4b∘hk _ _∘iZ rfl rfl∘aj [2,3,16]) ?_;exact Lw4;refine (ab∘aI h4b) ?_;obtain ⟨y3,hc5,hm⟩:=bd hm;refine (RP (fun _=>rq fuel p2 _ hc5)∘ab∘aI h4b∘hk _ _) ?_;refine cd hm rfl (fun _ hm=>?_) fun _ hm=>?_;refine aj [2,3,16] ?_;exact Lw4;refine ai ?_;refine an (hk2 _ _ ?_);refine ao [16,17,18,19,20,21] fun k kp hk hp=>?_;refine go ?_;obtain ⟨y4,hc7,hm⟩:=bd hm;refine (RP (fun _=>jI fuel p1 _ hc7)∘ab∘goK∘hk _ _) ?_;refine ao [22,23,24,25,26] fun k kp hk hp=>?_;refine go ?_;obtain ⟨y5,hc8,hm⟩:=bd hm;refine (RP (fun _=>jI fuel p2 _ hc8)∘ab∘goK∘hk _ _) ?_;refine ap fun k3 hk3=>?_;refine dj [6,8,27,28,29,30,31,32,33] fun k kp hk hp=>?_;refine (ak 4∘goK) ?_;refine cb hm (fun _ h9b hm=>?_) fun _ h9b hm=>?_;refine (ab∘aI h9b∘hk _ _∘iZ rfl rfl∘aj [2,3,5,7,34]) ?_;exact Lw4;refine (ab∘aI h9b∘hk _ _) ?_;refine cd hm rfl (fun _ hm=>?_) fun _ hm=>?_;refine aj [2,3,5,7,34] ?_;exact Lw4;refine ai ?_;refine an (hk3 _ _ ?_);refine ao [2,3,5,7,34,35,36,37,38,39,40,41] fun k kp hk hp=>?_;refine go ?_;obtain ⟨y6,hc11,hm⟩:=bd hm;refine (RP (fun _=>sF fuel p1 p2 _ hc11)∘ab∘goK) ?_;exact Lw1;refine aj [2,3,10] ?_;exact Lw4
end Pam
