/- what law_RenderApart computes, read off the program by a program of ours -/
import Derived.Test.YtmlmnddnklhfpaaGreatDoorBabcData1
import Derived.Test.YtmlmnddnklhfpaaGreatDoorBabcFun1
set_option linter.all false
namespace Pam
open Go
noncomputable def lc(fuel:Nat)(p1 p2:az):Option Bool :=
  (jG fuel ).bind fun y1=>if y1=true then ((nK fuel p1).bind fun y2=>if y2=true then (some true) else ((nK fuel p2).bind fun y3=>if y3=true then (some true) else ((ij fuel p1).bind fun y4=>(ij fuel p2).bind fun y5=>if ¬ ((y4.2).code)=0 then (some true) else (if ¬ ((y5.2).code)=0 then (some true) else ((mO fuel p1 p2).bind fun y6=>some ((y4.1 == y5.1) == y6)))))) else (some false)
end Pam
