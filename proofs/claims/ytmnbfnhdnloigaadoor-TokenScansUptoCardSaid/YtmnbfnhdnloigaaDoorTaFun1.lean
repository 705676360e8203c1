/- what law_TokenScans computes, read off the program by a program of ours -/
import Derived.Test.YtmnbfnhdnloigaaDoorTabcData1
import Derived.Test.YtmnbfnhdnloigaaDoorTabcFun1
set_option linter.all false
namespace Pam
open Go
noncomputable def dQ (p1 : List UInt8) : Option Bool :=
  (ck ).bind fun y1 => if y1 = true then (if (p1.length : Int) > 20000 then (some true) else ((cD p1).bind fun y2 => (fZ p1).bind fun y3 => if ((y2.2).code) = ((y3.2).code) ∧ ((y2.2).at_) = ((y3.2).at_) then ((dh y2.1 y3.1).bind fun y4 => if y4 = true then ((cS p1).bind fun y5 => (dz p1).bind fun y6 => if y5 = y6 then ((de p1).bind fun y7 => (eI p1).bind fun y8 => some (y7 == y8)) else (some false)) else (some false)) else (some false))) else (some false)
end Pam
