/- the walk of law_RenderBack, printed by a program of ours -/
import Derived.Test.YtmlmnddnklhfpaaGreatDoorBBase2
import Derived.Test.YtmlmnddnklhfpaaGreatDoorBBase3
import Derived.Test.YtmlmnddnklhfpaaGreatDoorBabcData1
import Derived.Test.YtmlmnddnklhfpaaGreatDoorBbFun1
import Derived.Test.YtmlmnddnklhfpaaGreatDoorBabcWalk1
import Derived.Test.YtmlmnddnklhfpaaGreatDoorBabcWalk2
import Derived.Test.YtmlmnddnklhfpaaGreatDoorBbcWalk1
set_option linter.all false
set_option maxRecDepth 100000
set_option maxHeartbeats 8000000
namespace Pam
open Go Go.Proofs
theorem uJ(fuel:Nat)(p1:az)(r:Bool)(hm:lH fuel p1=some r):cq Tryz.prog 4 [.a [(ct4 p1.nodes)]] (.c (.bool r)):=by
 refine sf 41 [.tmp 2] Tryz.func4 ?_;unfold lH at hm;refine aj [0,2] ?_;refine ap fun k1 hk1=>?_;refine ao [7] fun k kp hk hp=>?_;refine go ?_;obtain ⟨y1,hc1,hm⟩:=bd hm;refine (RP (fun _=>mD fuel  _ hc1)∘ab∘goK∘hk _ _) ?_;refine cn hm rfl (fun _ hm=>?_) fun _ hm=>?_;refine ai ?_;refine an (hk1 _ _ ?_);refine ap fun k2 hk2=>?_;refine ao [8,9] fun k kp hk hp=>?_;refine go ?_;obtain ⟨y2,hc3,hm⟩:=bd hm;refine (RP (fun _=>rq fuel p1 _ hc3)∘ab∘goK∘hk _ _) ?_;refine cd hm rfl (fun _ hm=>?_) fun _ hm=>?_;refine aj [1,10] ?_;exact Lw4;refine ai ?_;refine an (hk2 _ _ ?_);refine ao [10,11,12,13,14,15] fun k kp hk hp=>?_;refine go ?_;obtain ⟨y3,hc5,hm⟩:=bd hm;refine (RP (fun _=>jI fuel p1 _ hc5)∘ab∘goK∘hk _ _) ?_;refine ap fun k3 hk3=>?_;refine aj [16,17] ?_;refine cd hm rfl (fun _ hm=>?_) fun _ hm=>?_;refine Aj [1,3,4,18,19,20,21,22] 5 24 fun k hk=>?_;refine ga ?_;obtain ⟨y4,hc7,hm⟩:=bd hm;refine (AP (fun _=>rz fuel p1 _ hc7)∘gaK∘hk _ _) ?_;exact Lw4;refine ai ?_;refine an (hk3 _ _ ?_);refine ao [4,18,23,24,25,26,27] fun k kp hk hp=>?_;refine go ?_;obtain ⟨y5,hc8,hm⟩:=bd hm;refine (RP (fun _=>mq fuel y3.1 _ hc8)∘ab∘goK∘hk _ _) ?_;refine dj [1,3,5,6,28,29,30,31,32,33,34,35,36,37,38,39,40] fun k kp hk hp=>?_;refine (ak 4∘goK) ?_;refine cb hm (fun _ h9b hm=>?_) fun _ h9b hm=>?_;refine (ab∘aI h9b) ?_;obtain ⟨y6,hc10,hm⟩:=bd hm;refine RP (fun _=>sF fuel p1 (y5.1) _ hc10) ?_;refine cb hm (fun _ h11b hm=>?_) fun _ h11b hm=>?_;refine (ab∘aI (a2 h9b h11b)) ?_;exact Lw1;refine (ab∘aI (a2 h9b h11b)) ?_;exact Lw1;refine (ab∘aI h9b) ?_;exact Lw1;refine aj [1,8] ?_;exact Lw4
end Pam
