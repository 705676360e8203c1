/- what law_RenderBack computes, read off the program by a program of ours -/
import Derived.Test.YtmlmnddnklhfpaaGreatDoorBabcData1
import Derived.Test.YtmlmnddnklhfpaaGreatDoorBabcFun1
set_option linter.all false
namespace Pam
open Go
noncomputable def lH(fuel:Nat)(p1:az):Option Bool :=
  (jG fuel ).bind fun y1=>if y1=true then ((nK fuel p1).bind fun y2=>if y2=true then (some true) else ((ij fuel p1).bind fun y3=>if ¬ ((y3.2).code)=0 then ((lO fuel p1).bind fun y4=>some ((((y4).code) == ((y3.2).code)) && (((y4).at_) == ((y3.2).at_)))) else ((fE fuel y3.1).bind fun y5=>if ((y5.2).code)=0 then ((mO fuel p1 (y5.1)).bind fun y6=>if y6=true then (some (decide ((y3.1.length:Int)≤12000))) else (some false)) else (some false)))) else (some false)
end Pam
