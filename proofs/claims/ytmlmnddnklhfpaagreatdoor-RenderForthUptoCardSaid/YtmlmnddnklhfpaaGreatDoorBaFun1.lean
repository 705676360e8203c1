/- what law_RenderForth computes, read off the program by a program of ours -/
import Derived.Test.YtmlmnddnklhfpaaGreatDoorBabcData1
import Derived.Test.YtmlmnddnklhfpaaGreatDoorBabcFun1
set_option linter.all false
namespace Pam
open Go
noncomputable def kV(fuel:Nat)(p1:Ω):Option Bool :=
  (jG fuel ).bind fun y1=>if y1=true then (if (p1.length:Int)>12000 then (some true) else ((fE fuel p1).bind fun y2=>if ¬ ((y2.2).code)=0 then (some true) else ((ij fuel (y2.1)).bind fun y3=>if ¬ ((y3.2).code)=0 then (some ((((y3.2).code) == 7) && (((y3.2).at_) == (-1)))) else ((fE fuel y3.1).bind fun y4=>(ij fuel (y4.1)).bind fun y5=>if ((y4.2).code)=0 then (if ((y5.2).code)=0 then (some (y5.1 == y3.1)) else (some false)) else (some false))))) else (some false)
end Pam
