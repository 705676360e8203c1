/- the walk of law_renderBegun, printed by a program of ours -/
import Derived.Test.YtmlkpniimpahoaaGreatDoorRBase2
import Derived.Test.YtmlkpniimpahoaaGreatDoorRBase3
import Derived.Test.YtmlkpniimpahoaaGreatDoorRaData1
import Derived.Test.YtmlkpniimpahoaaGreatDoorRaFun1
import Derived.Test.YtmlkpniimpahoaaGreatDoorRaWsyn1
import Derived.Test.YtmlkpniimpahoaaGreatDoorRaWren1
import Derived.Test.YtmlkpniimpahoaaGreatDoorRaWref1
set_option linter.all false
set_option maxRecDepth 100000
set_option maxHeartbeats 8000000
namespace Pam
open Go Go.Proofs
theorem tT(fuel:Nat)(r:Bool)(hm:mU fuel  = some r):bg Tryz.prog 5 [] (.c (.bool r)):=by
 refine sf 26 [.tmp 0] Tryz.func5 ?_;unfold mU at hm;refine ai [0] ?_;refine aq [5,6,7,8] fun k kp hk hp=>?_;refine go ?_;obtain ⟨y1,hc1,hm⟩:=bd hm;refine (RP (fun _=>vE fuel ([110,111,100,101,32,97,40,41,32,45,62,32,40,121,58,32,105,110,116,94,50,41,32,123,32,121,32,61,32,102,105,108,108,40,45,40,49,32,43,32,50,41,44,32,50,41,59,32,125]:Ω) _ hc1)∘aa∘goK∘hk _ _) ?_;refine aq [1,9,10,11,12,13] fun k kp hk hp=>?_;refine go ?_;obtain ⟨y2,hc2,hm⟩:=bd hm;refine (RP (fun _=>vF fuel (y1.1) _ hc2)∘aa∘goK∘hk _ _) ?_;refine bC [2,3,4,14,15,16,17,18,19,20,21,22,23,24,25] fun k kp hk hp=>?_;refine (ak 4∘goK) ?_;refine cb hm (fun _ h3b hm=>?_) fun _ h3b hm=>?_;refine (ak 5∘aF h3b) ?_;refine cb hm (fun _ h4b hm=>?_) fun _ h4b hm=>?_;refine (aa∘aF (a2 h3b h4b)∘hk _ _) ?_;exact Lw2;refine (aa∘aF (a2 h3b h4b)∘hk _ _) ?_;exact Lw2;refine (aa∘aF h3b∘hk _ _) ?_;exact Lw2
theorem tg(fuel:Nat)(p1:aD)(r:Bool)(hm:mA fuel p1=some r):bg Tryz.prog 3 [.a [(ct4 p1.nodes)]] (.c (.bool r)):=by
 refine sf 13 [.tmp 2] Tryz.func3 ?_;unfold mA at hm;refine ai [0,2] ?_;refine an fun k1 hk1=>?_;refine aq [3] fun k kp hk hp=>?_;refine go ?_;obtain ⟨y1,hc1,hm⟩:=bd hm;refine (RP (fun _=>tT fuel  _ hc1)∘aa∘goK∘hk _ _) ?_;refine cn hm rfl (fun _ hm=>?_) fun _ hm=>?_;refine aj ?_;refine am (hk1 _ _ ?_);refine an fun k2 hk2=>?_;refine aq [4,5] fun k kp hk hp=>?_;refine go ?_;obtain ⟨y2,hc3,hm⟩:=bd hm;refine (RP (fun _=>yk fuel p1 _ hc3)∘aa∘goK∘hk _ _) ?_;refine cd hm rfl (fun _ hm=>?_) fun _ hm=>?_;refine ai [1,6] ?_;exact Lw3;refine aj ?_;refine am (hk2 _ _ ?_);refine wv [1,6,7,8,9,10,11,12] 7 112 fun k hk=>?_;refine ga ?_;obtain ⟨y3,hc5,hm⟩:=bd hm;refine (AP (fun _=>tV fuel p1 _ hc5)∘gaK) ?_;obtain ⟨y4,hc6,hm⟩:=bd hm;refine (AP (fun _=>rP fuel (y3) _ hc6)∘gaK) ?_;obtain ⟨y5,hc7,hm⟩:=bd hm;refine (AP (fun _=>tX fuel p1 _ hc7)∘gaK∘hk _ _) ?_;exact Lw2;refine ai [1,4] ?_;exact Lw3
end Pam
