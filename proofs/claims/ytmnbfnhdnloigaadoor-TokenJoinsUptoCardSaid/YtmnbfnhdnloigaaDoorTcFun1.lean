/- what law_TokenJoins computes, read off the program by a program of ours -/
import Derived.Test.YtmnbfnhdnloigaaDoorTabcData1
import Derived.Test.YtmnbfnhdnloigaaDoorTabcFun1
set_option linter.all false
namespace Pam
open Go
noncomputable def cA : Option Bool :=
  some true
noncomputable def b9 (y4 : ((List aa) × aA)) (x7 : Int) (x8 : Int) (x9 : Int) (s10 : List UInt8) (x11 : Int) : Option (Int ⊕ (Unit ⊕ Bool)) :=
  if (0 ≤ x7 ∧ x7 < (y4.1.length : Int)) then (if ((y4.1.getD x7.toNat default).kind) = x8 ∧ ((y4.1.getD x7.toNat default).at_) = x9 ∧ ((y4.1.getD x7.toNat default).text) = s10 ∧ ((y4.1.getD x7.toNat default).n) = x11 then (some (.inl (IntKind.wrap .i64 (x7 + 1)))) else (some (.inr (.inr false)))) else none
noncomputable def aU (p1 : List UInt8) (y2 : ((List aa) × aA)) (y3 : ((List aa) × aA)) (y4 : ((List aa) × aA)) (x7 : Int) : Option (Int ⊕ (Unit ⊕ Bool)) :=
  if x7 < (y4.1.length : Int) then (if x7 < (y2.1.length : Int) then (if (0 ≤ x7 ∧ x7 < (y2.1.length : Int)) then (b9 y4 x7 ((y2.1.getD x7.toNat default).kind) ((y2.1.getD x7.toNat default).at_) ((y2.1.getD x7.toNat default).text) ((y2.1.getD x7.toNat default).n)) else none) else (if (0 ≤ (IntKind.wrap .i64 (x7 - (y2.1.length : Int))) ∧ (IntKind.wrap .i64 (x7 - (y2.1.length : Int))) < (y3.1.length : Int)) then (b9 y4 x7 ((y3.1.getD ((IntKind.wrap .i64 (x7 - (y2.1.length : Int))).toNat) default).kind) (IntKind.wrap .i64 (((y3.1.getD ((IntKind.wrap .i64 (x7 - (y2.1.length : Int))).toNat) default).at_) + (IntKind.wrap .i64 ((p1.length : Int) + 1)))) ((y3.1.getD ((IntKind.wrap .i64 (x7 - (y2.1.length : Int))).toNat) default).text) ((y3.1.getD ((IntKind.wrap .i64 (x7 - (y2.1.length : Int))).toNat) default).n)) else none)) else (some (.inr (.inl ())))
noncomputable def dW (p1 : List UInt8) (p2 : List UInt8) : Option Bool :=
  (ck ).bind fun y1 => if y1 = true then (if (p1.length : Int) > 5900 then (some true) else (if (p2.length : Int) > 5900 then (some true) else ((cD p1).bind fun y2 => (cD p2).bind fun y3 => if p1.length + 1 ≤ maxLen ∧ p1.length + 1 + p2.length ≤ maxLen then ((cD ((p1 ++ ([10] : List UInt8)) ++ p2)).bind fun y4 => if ¬ ((y2.2).code) = 0 then (some ((((y4.2).code) == ((y2.2).code)) && (((y4.2).at_) == ((y2.2).at_)))) else (if ¬ ((y3.2).code) = 0 then (if ((y4.2).code) = ((y3.2).code) then (some (((y4.2).at_) == (IntKind.wrap .i64 ((IntKind.wrap .i64 (((y3.2).at_) + (p1.length : Int))) + 1)))) else (some false)) else (if ¬ ((y4.2).code) = 0 then (some false) else (if ¬ (y4.1.length : Int) = (IntKind.wrap .i64 ((y2.1.length : Int) + (y3.1.length : Int))) then (some false) else ((cm (fun x7 => aU p1 y2 y3 y4 x7) 0).bind (Sum.elim (fun _ => cA) (fun z12 => some z12))))))) else none))) else (some false)
end Pam
