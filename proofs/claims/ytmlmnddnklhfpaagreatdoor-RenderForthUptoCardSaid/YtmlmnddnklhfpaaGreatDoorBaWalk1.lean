/- the walk of law_RenderForth, printed by a program of ours -/
import Derived.Test.YtmlmnddnklhfpaaGreatDoorBBase2
import Derived.Test.YtmlmnddnklhfpaaGreatDoorBBase3
import Derived.Test.YtmlmnddnklhfpaaGreatDoorBabcData1
import Derived.Test.YtmlmnddnklhfpaaGreatDoorBaFun1
import Derived.Test.YtmlmnddnklhfpaaGreatDoorBabcWalk1
import Derived.Test.YtmlmnddnklhfpaaGreatDoorBabcWalk2
set_option linter.all false
set_option maxRecDepth 100000
set_option maxHeartbeats 8000000
namespace Pam
open Go Go.Proofs
theorem tU(fuel:Nat)(p1:Ω)(r:Bool)(hm:kV fuel p1=some r):cq Tryz.prog 3 [.c (.str p1)] (.c (.bool r)):=by
 refine sf 58 [.tmp 2] Tryz.func3 ?_;unfold kV at hm;refine aj [2] ?_;refine ap fun k1 hk1=>?_;refine ao [11] fun k kp hk hp=>?_;refine go ?_;obtain ⟨y1,hc1,hm⟩:=bd hm;refine (RP (fun _=>mD fuel  _ hc1)∘ab∘goK∘hk _ _) ?_;refine cn hm rfl (fun _ hm=>?_) fun _ hm=>?_;refine ai ?_;refine an (hk1 _ _ ?_);refine ap fun k2 hk2=>?_;refine aj [12,13,14] ?_;refine cd hm rfl (fun _ hm=>?_) fun _ hm=>?_;refine aj [0,15] ?_;exact Lw4;refine ai ?_;refine an (hk2 _ _ ?_);refine ao [0,15,16,17,18,19,20] fun k kp hk hp=>?_;refine go ?_;obtain ⟨y2,hc4,hm⟩:=bd hm;refine (RP (fun _=>mq fuel p1 _ hc4)∘ab∘goK∘hk _ _) ?_;refine ap fun k3 hk3=>?_;refine aj [4,21,22] ?_;refine cd hm rfl (fun _ hm=>?_) fun _ hm=>?_;refine aj [3,23] ?_;exact Lw4;refine ai ?_;refine an (hk3 _ _ ?_);refine ao [3,23,24,25,26,27,28] fun k kp hk hp=>?_;refine go ?_;obtain ⟨y3,hc6,hm⟩:=bd hm;refine (RP (fun _=>jI fuel (y2.1) _ hc6)∘ab∘goK∘hk _ _) ?_;refine ap fun k4 hk4=>?_;refine aj [29,30] ?_;refine cd hm rfl (fun _ hm=>?_) fun _ hm=>?_;refine aj [5,6,31,32,33,34] ?_;exact Lw4;refine ai ?_;refine an (hk4 _ _ ?_);refine ao [6,31,35,36,37,38,39] fun k kp hk hp=>?_;refine go ?_;obtain ⟨y4,hc8,hm⟩:=bd hm;refine (RP (fun _=>mq fuel y3.1 _ hc8)∘ab∘goK∘hk _ _) ?_;refine ao [7,40,41,42,43,44] fun k kp hk hp=>?_;refine go ?_;obtain ⟨y5,hc9,hm⟩:=bd hm;refine (RP (fun _=>jI fuel (y4.1) _ hc9)∘ab∘goK∘hk _ _) ?_;refine dj [5,8,9,10,45,46,47,48,49,50,51,52,53,54,55,56,57] fun k kp hk hp=>?_;refine (ak 4∘goK) ?_;refine cb hm (fun _ h10b hm=>?_) fun _ h10b hm=>?_;refine (ak 5∘aI h10b) ?_;refine cb hm (fun _ h11b hm=>?_) fun _ h11b hm=>?_;refine (ab∘aI (a2 h10b h11b)) ?_;exact Lw1;refine (ab∘aI (a2 h10b h11b)) ?_;exact Lw1;refine (ab∘aI h10b) ?_;exact Lw1;refine aj [0,12] ?_;exact Lw4
end Pam
