/- what ref_Cells computes, read off the program by a program of ours -/
import Derived.Test.YtpfekllhlfodiaaOabcdData1
import Derived.Test.YtpfekllhlfodiaaOBase2
set_option linter.all false
namespace Pam
open Go
noncomputable def jU (p1 : Int) : Option Int :=
  if p1 < 1 then (some 1) else (some p1)
end Pam

namespace Pam
open Go
noncomputable def d8 (p2 : Int) (x2 : Int) : Option Bool :=
  some (decide (x2 > (IntKind.wrap .i64 (100 * p2))))
noncomputable def d9 (p1 : af) (x7 : Int) (x8 : Int) : Option ((Int × Int) ⊕ (Int ⊕ Bool)) :=
  some (.inl ((IntKind.wrap .i64 (x7 + (IntKind.wrap .i64 ((((p1.rules.getD x8.toNat default).a).length : Int) + (((p1.rules.getD x8.toNat default).e).length : Int))))), (IntKind.wrap .i64 (x8 + 1))))
noncomputable def cy (p1 : af) (x7 : Int) (x8 : Int) : Option ((Int × Int) ⊕ (Int ⊕ Bool)) :=
  if x8 < (p1.rules.length : Int) then (if (0 ≤ x8 ∧ x8 < (p1.rules.length : Int)) then (if (((p1.rules.getD x8.toNat default).a).length : Int) > 100 then (some (.inr (.inr true))) else (if (((p1.rules.getD x8.toNat default).e).length : Int) > 1000 then (some (.inr (.inr true))) else (if ((p1.rules.getD x8.toNat default).op) = 15 then (if ((p1.rules.getD x8.toNat default).n) > 1000 then (some (.inr (.inr true))) else (d9 p1 x7 x8)) else (d9 p1 x7 x8)))) else none) else (some (.inr (.inl x7)))
noncomputable def dp (p1 : af) (p2 : Int) (x1 : Int) : Option Bool :=
  (aT (fun (x7, x8) => cy p1 x7 x8) (x1, 0)).bind (Sum.elim (fun z9 => d8 p2 z9) (fun z10 => some z10))
noncomputable def cz (p1 : af) (x15 : Int) (x16 : Int) : Option ((Int × Int) ⊕ (Int ⊕ Bool)) :=
  if x16 < (p1.vars.length : Int) then (if (0 ≤ x16 ∧ x16 < (p1.vars.length : Int)) then (if ((p1.vars.getD x16.toNat default).n) > 1000 then (some (.inr (.inr true))) else ((jU ((p1.vars.getD x16.toNat default).n)).bind fun y17 => some (.inl ((IntKind.wrap .i64 (x15 + y17)), (IntKind.wrap .i64 (x16 + 1)))))) else none) else (some (.inr (.inl x15)))
noncomputable def dZ (p1 : af) (p2 : Int) : Option Bool :=
  if (p1.vars.length : Int) > p2 then (some true) else (if (p1.rules.length : Int) > p2 then (some true) else (if (p1.in_.length : Int) > p2 then (some true) else (if (p1.out_.length : Int) > p2 then (some true) else ((aT (fun (x15, x16) => cz p1 x15 x16) (0, 0)).bind (Sum.elim (fun z18 => dp p1 p2 z18) (fun z19 => some z19))))))
end Pam

namespace Pam
open Go
noncomputable def iK (p1 : ae) : Option ae :=
  if dy p1.a.length 8 then (if dy p1.e.length 32 then (some p1) else none) else none
end Pam

namespace Pam
open Go
noncomputable def eR (p1 : af) (l3 : List ae) : Option af :=
  some (af.mk p1.vars p1.in_ p1.out_ l3)
noncomputable def cI (p1 : af) (l17 : List ae) (x19 : Int) : Option (((List ae) × Int) ⊕ (List ae)) :=
  if x19 < (p1.rules.length : Int) then (if (0 ≤ x19 ∧ x19 < (p1.rules.length : Int)) then ((iK (p1.rules.getD x19.toNat default)).bind fun y20 => if dy (l17.length + 1) 80 then (some (.inl ((l17 ++ (lit ([(y20)] : List ae))), (IntKind.wrap .i64 (x19 + 1))))) else none) else none) else (some (.inr l17))
noncomputable def hU (p1 : af) : Option af :=
  if dy p1.vars.length 16 ∧ dy p1.in_.length 8 ∧ dy p1.out_.length 8 then ((aT (fun (l17, x19) => cI p1 l17 x19) ([], 0)).bind (fun z21 => eR p1 z21)) else none
end Pam

namespace Pam
open Go
noncomputable def fB (p1 : Int) (p2 : Int) : Option au :=
  some (au.mk p1 p2)
end Pam

namespace Pam
open Go
noncomputable def nU : Option Bool :=
  some false
noncomputable def nV (p1 : List Int) (p2 : Int) (x3 : Int) : Option (Int ⊕ (Unit ⊕ Bool)) :=
  if x3 < (p1.length : Int) then (if (0 ≤ x3 ∧ x3 < (p1.length : Int)) then (if (p1.getD x3.toNat default) = p2 then (some (.inr (.inr true))) else (some (.inl (IntKind.wrap .i64 (x3 + 1))))) else none) else (some (.inr (.inl ())))
noncomputable def hY (p1 : List Int) (p2 : Int) : Option Bool :=
  (aT (fun x3 => nV p1 p2 x3) 0).bind (Sum.elim (fun _ => nU) (fun z4 => some z4))
end Pam

namespace Pam
open Go
noncomputable def kd : Option au :=
  some (au.mk 0 0)
noncomputable def ke (p1 : af) (x7 : Int) : Option (Int ⊕ (Unit ⊕ au)) :=
  if x7 < (p1.out_.length : Int) then (if (0 ≤ x7 ∧ x7 < (p1.out_.length : Int)) then (if (p1.out_.getD x7.toNat default) < 0 then ((fB 16 (-1)).bind fun y8 => some (.inr (.inr (y8)))) else (if (p1.out_.getD x7.toNat default) ≥ (p1.vars.length : Int) then ((fB 16 (-1)).bind fun y9 => some (.inr (.inr (y9)))) else (some (.inl (IntKind.wrap .i64 (x7 + 1)))))) else none) else (some (.inr (.inl ())))
noncomputable def gQ (p1 : af) : Option au :=
  (aT (fun x7 => ke p1 x7) 0).bind (Sum.elim (fun _ => kd) (fun z10 => some z10))
noncomputable def kf (p1 : af) (x13 : Int) : Option (Int ⊕ (Unit ⊕ au)) :=
  if x13 < (p1.in_.length : Int) then (if (0 ≤ x13 ∧ x13 < (p1.in_.length : Int)) then (if (p1.in_.getD x13.toNat default) < 0 then ((fB 16 (-1)).bind fun y14 => some (.inr (.inr (y14)))) else (if (p1.in_.getD x13.toNat default) ≥ (p1.vars.length : Int) then ((fB 16 (-1)).bind fun y15 => some (.inr (.inr (y15)))) else (if (0 ≤ x13 ∧ x13 ≤ (p1.in_.length : Int)) then ((hY (p1.in_.take x13.toNat) (p1.in_.getD x13.toNat default)).bind fun y16 => if y16 = true then ((fB 8 (-1)).bind fun y17 => some (.inr (.inr (y17)))) else (some (.inl (IntKind.wrap .i64 (x13 + 1))))) else none))) else none) else (some (.inr (.inl ())))
noncomputable def fg (p1 : af) : Option au :=
  (aT (fun x13 => kf p1 x13) 0).bind (Sum.elim (fun _ => gQ p1) (fun z18 => some z18))
noncomputable def gR (p1 : af) (x21 : Int) : Option (Int ⊕ (Unit ⊕ au)) :=
  if (0 ≤ x21 ∧ x21 < (p1.vars.length : Int)) then (if ((p1.vars.getD x21.toNat default).n) < 0 then ((fB 13 (IntKind.wrap .i64 ((-2) - x21))).bind fun y22 => some (.inr (.inr (y22)))) else (if ((p1.vars.getD x21.toNat default).n) > 300 then ((fB 13 (IntKind.wrap .i64 ((-2) - x21))).bind fun y23 => some (.inr (.inr (y23)))) else (some (.inl (IntKind.wrap .i64 (x21 + 1)))))) else none
noncomputable def jf (p1 : af) (x21 : Int) : Option (Int ⊕ (Unit ⊕ au)) :=
  if x21 < (p1.vars.length : Int) then (if (0 ≤ x21 ∧ x21 < (p1.vars.length : Int)) then (if ¬ ((p1.vars.getD x21.toNat default).elem) = 105 then (if ¬ ((p1.vars.getD x21.toNat default).elem) = 98 then ((fB 10 (IntKind.wrap .i64 ((-2) - x21))).bind fun y24 => some (.inr (.inr (y24)))) else (gR p1 x21)) else (gR p1 x21)) else none) else (some (.inr (.inl ())))
noncomputable def mS (p1 : af) : Option au :=
  if (p1.vars.length : Int) > 400 then ((fB 7 (-1)).bind fun y1 => some (y1)) else (if (p1.in_.length : Int) > 400 then ((fB 7 (-1)).bind fun y2 => some (y2)) else (if (p1.out_.length : Int) > 400 then ((fB 7 (-1)).bind fun y3 => some (y3)) else (if (p1.rules.length : Int) > 400 then ((fB 7 (-1)).bind fun y4 => some (y4)) else ((aT (fun x21 => jf p1 x21) 0).bind (Sum.elim (fun _ => fg p1) (fun z25 => some z25))))))
end Pam

namespace Pam
open Go
noncomputable def lM (l3 : List Int) : Option (List Int) :=
  some l3
noncomputable def gq (p1 : af) (p2 : Int) (l17 : List Int) (x19 : Int) : Option (((List Int) × Int) ⊕ (List Int)) :=
  if x19 < p2 then (if (0 ≤ x19 ∧ x19 < (p1.rules.length : Int)) ∧ dy (l17.length + 1) 8 then (some (.inl ((l17 ++ (lit ([(p1.rules.getD x19.toNat default).out_] : List Int))), (IntKind.wrap .i64 (x19 + 1))))) else none) else (some (.inr l17))
noncomputable def nW (p1 : af) (p2 : Int) : Option (List Int) :=
  (aT (fun (l17, x19) => gq p1 p2 l17 x19) ([], 0)).bind (fun z20 => lM z20)
end Pam

namespace Pam
open Go
noncomputable def ky (p1 : Int) : Option Int :=
  if p1 < 0 then (some (-1)) else (if p1 ≥ (17 : Int) then (some (-1)) else (if (0 ≤ p1 ∧ p1 < (17 : Int)) then (some ((lit ([(-1), 0, 1, 1, 2, 3, 2, 2, 1, 3, 3, 1, 2, 2, 0, 1, 1] : List Int)).getD p1.toNat default)) else none))
end Pam

namespace Pam
open Go
noncomputable def gS (p2 : Int) (l3 : List Int) (b5 : Bool) : Option (List Int) :=
  if b5 = true then (some l3) else (if dy (l3.length + 1) 8 then (some (l3 ++ (lit ([p2] : List Int)))) else none)
noncomputable def et (p1 : List Int) (x23 : Int) (l26 : List Int) (b28 : Bool) : Option (((List Int) × Bool × Int) ⊕ ((List Int) × Bool)) :=
  if (0 ≤ x23 ∧ x23 < (p1.length : Int)) ∧ dy (l26.length + 1) 8 then (some (.inl ((l26 ++ (lit ([(p1.getD x23.toNat default)] : List Int))), b28, (IntKind.wrap .i64 (x23 + 1))))) else none
noncomputable def eu (p1 : List Int) (p2 : Int) (l20 : List Int) (b22 : Bool) (x23 : Int) : Option (((List Int) × Bool × Int) ⊕ ((List Int) × Bool)) :=
  if x23 < (p1.length : Int) then (if b22 = true then (et p1 x23 l20 b22) else (if (0 ≤ x23 ∧ x23 < (p1.length : Int)) then (if (p1.getD x23.toNat default) ≥ p2 then (if (p1.getD x23.toNat default) > p2 then (if dy (l20.length + 1) 8 then (et p1 x23 (l20 ++ (lit ([p2] : List Int))) true) else none) else (et p1 x23 l20 true)) else (et p1 x23 l20 b22)) else none)) else (some (.inr (l20, b22)))
noncomputable def lr (p1 : List Int) (p2 : Int) : Option (List Int) :=
  (aT (fun (l20, b22, x23) => eu p1 p2 l20 b22 x23) ([], false, 0)).bind (fun (z29, z30) => gS p2 z29 z30)
end Pam

namespace Pam
open Go
noncomputable def nX (p1 : aI) : Option Bool :=
  if p1.op = 2 then (some true) else (if p1.op = 3 then (some true) else (some (p1.op == 8)))
end Pam

namespace Pam
open Go
noncomputable def kz (l2 : List Int) : Option (List Int) :=
  some l2
noncomputable def gu (p1 : ae) (l7 : List Int) (x8 : Int) : Option (((List Int) × Int) ⊕ (List Int)) :=
  if x8 < (p1.e.length : Int) then (if (0 ≤ x8 ∧ x8 < (p1.e.length : Int)) then ((nX (p1.e.getD x8.toNat default)).bind fun y9 => if y9 = true then ((lr l7 ((p1.e.getD x8.toNat default).v)).bind fun y10 => some (.inl (y10, (IntKind.wrap .i64 (x8 + 1))))) else (some (.inl (l7, (IntKind.wrap .i64 (x8 + 1)))))) else none) else (some (.inr l7))
noncomputable def jx (p1 : ae) (l1 : List Int) : Option (List Int) :=
  (aT (fun (l7, x8) => gu p1 l7 x8) (l1, 0)).bind (fun z11 => kz z11)
noncomputable def gw (p1 : ae) (l18 : List Int) (x19 : Int) : Option (((List Int) × Int) ⊕ (List Int)) :=
  if x19 < (p1.a.length : Int) then (if (0 ≤ x19 ∧ x19 < (p1.a.length : Int)) then ((lr l18 (p1.a.getD x19.toNat default)).bind fun y20 => some (.inl (y20, (IntKind.wrap .i64 (x19 + 1))))) else none) else (some (.inr l18))
noncomputable def ph (p1 : ae) : Option (List Int) :=
  (aT (fun (l18, x19) => gw p1 l18 x19) ([], 0)).bind (fun z21 => jx p1 z21)
end Pam

namespace Pam
open Go
noncomputable def jy (p1 : ae) (l1 : List aI) : Option (List Int) :=
  (ph (ae.mk p1.op p1.k p1.out_ p1.n p1.a l1)).bind fun y2 => some y2
noncomputable def mT (p1 : ae) : Option (List Int) :=
  if p1.op < 14 then (jy p1 []) else (jy p1 p1.e)
end Pam

namespace Pam
open Go
noncomputable def lN (p1 : Int) (x1 : Int) : Option (Int × Int × Int) :=
  if (0 ≤ p1 ∧ p1 < (([63, 105, 105, 105, 105, 105, 105, 105, 105, 105, 98, 98, 98, 105, 98] : List UInt8).length : Int)) ∧ (0 ≤ p1 ∧ p1 < (([63, 105, 105, 105, 105, 105, 105, 105, 98, 98, 98, 98, 98, 105, 98] : List UInt8).length : Int)) then (some (((([63, 105, 105, 105, 105, 105, 105, 105, 105, 105, 98, 98, 98, 105, 98] : List UInt8).getD p1.toNat 0).toNat : Int), ((([63, 105, 105, 105, 105, 105, 105, 105, 98, 98, 98, 98, 98, 105, 98] : List UInt8).getD p1.toNat 0).toNat : Int), x1)) else none
noncomputable def lO (p1 : Int) : Option (Int × Int × Int) :=
  if p1 < 1 then (some (0, 0, 0)) else (if p1 > 14 then (some (0, 0, 0)) else (if p1 ≥ 13 then (lN p1 1) else (lN p1 2)))
end Pam

namespace Pam
open Go
noncomputable def kA (p1 : Int) : Option Bool :=
  (lO p1).bind fun y1 => if y1.2.2 = 2 then (some (y1.1 == y1.2.1)) else (some false)
end Pam

namespace Pam
open Go
noncomputable def mU (p1 : Int) : Option Bool :=
  if p1 ≥ (-1000000) then (some (decide (p1 ≤ 1000000))) else (some false)
end Pam

namespace Pam
open Go
noncomputable def gA (l3 : List Int) : Option Int :=
  if ¬ (l3.length : Int) = 1 then (some 0) else (if (0 ≤ 0 ∧ 0 < (l3.length : Int)) then (some (l3.getD 0 default)) else none)
noncomputable def fh (p1 : af) (p2 : List aI) (p3 : Int) (l17 : List Int) (x19 : Int) : Option (((List Int) × Int) ⊕ ((List Int) ⊕ Int)) :=
  if x19 < (p2.length : Int) then (if (0 ≤ x19 ∧ x19 < (p2.length : Int)) then (if ((p2.getD x19.toNat default).op) = 1 then (if ((p2.getD x19.toNat default).k) = 0 then (if dy (l17.length + 1) 1 then (some (.inl ((l17 ++ (lit ([105] : List Int))), (IntKind.wrap .i64 (x19 + 1))))) else none) else (if ((p2.getD x19.toNat default).k) = 1 then (if ((p2.getD x19.toNat default).n) = 0 then (if dy (l17.length + 1) 1 then (some (.inl ((l17 ++ (lit ([98] : List Int))), (IntKind.wrap .i64 (x19 + 1))))) else none) else (if ((p2.getD x19.toNat default).n) = 1 then (if dy (l17.length + 1) 1 then (some (.inl ((l17 ++ (lit ([98] : List Int))), (IntKind.wrap .i64 (x19 + 1))))) else none) else (some (.inr (.inr 0))))) else (some (.inr (.inr 0))))) else (if ((p2.getD x19.toNat default).op) = 2 then (if (0 ≤ (p2.getD x19.toNat default).v ∧ (p2.getD x19.toNat default).v < (p1.vars.length : Int)) then (if ¬ ((p1.vars.getD (((p2.getD x19.toNat default).v).toNat) default).n) = 0 then (some (.inr (.inr 0))) else (if dy (l17.length + 1) 1 then (some (.inl ((l17 ++ (lit ([(p1.vars.getD (((p2.getD x19.toNat default).v).toNat) default).elem] : List Int))), (IntKind.wrap .i64 (x19 + 1))))) else none)) else none) else (if ((p2.getD x19.toNat default).op) = 3 then (if (0 ≤ (p2.getD x19.toNat default).v ∧ (p2.getD x19.toNat default).v < (p1.vars.length : Int)) then (if ((p1.vars.getD (((p2.getD x19.toNat default).v).toNat) default).n) = 0 then (some (.inr (.inr 0))) else (if ((p2.getD x19.toNat default).n) < 0 then (some (.inr (.inr 0))) else (if ((p1.vars.getD (((p2.getD x19.toNat default).v).toNat) default).n) < p3 then (some (.inr (.inr 0))) else (if ((p2.getD x19.toNat default).n) > (IntKind.wrap .i64 (((p1.vars.getD (((p2.getD x19.toNat default).v).toNat) default).n) - p3)) then (some (.inr (.inr 0))) else (if dy (l17.length + 1) 1 then (some (.inl ((l17 ++ (lit ([(p1.vars.getD (((p2.getD x19.toNat default).v).toNat) default).elem] : List Int))), (IntKind.wrap .i64 (x19 + 1))))) else none))))) else none) else (if ((p2.getD x19.toNat default).op) = 4 then ((mU ((p2.getD x19.toNat default).n)).bind fun y20 => if y20 = true then (if dy (l17.length + 1) 1 then (some (.inl ((l17 ++ (lit ([105] : List Int))), (IntKind.wrap .i64 (x19 + 1))))) else none) else (some (.inr (.inr 0)))) else (if ((p2.getD x19.toNat default).op) = 5 then ((lO ((p2.getD x19.toNat default).k)).bind fun y21 => if ¬ y21.2.2 = 1 then (some (.inr (.inr 0))) else (if (l17.length : Int) < 1 then (some (.inr (.inr 0))) else (if (0 ≤ (IntKind.wrap .i64 ((l17.length : Int) - 1)) ∧ (IntKind.wrap .i64 ((l17.length : Int) - 1)) < (l17.length : Int)) then (if ¬ (l17.getD ((IntKind.wrap .i64 ((l17.length : Int) - 1)).toNat) default) = y21.1 then (some (.inr (.inr 0))) else (some (.inl ((l17.set ((IntKind.wrap .i64 ((l17.length : Int) - 1)).toNat) y21.2.1), (IntKind.wrap .i64 (x19 + 1)))))) else none))) else (if ((p2.getD x19.toNat default).op) = 6 then ((lO ((p2.getD x19.toNat default).k)).bind fun y22 => if ¬ y22.2.2 = 2 then (some (.inr (.inr 0))) else (if (l17.length : Int) < 2 then (some (.inr (.inr 0))) else (if (0 ≤ (IntKind.wrap .i64 ((l17.length : Int) - 1)) ∧ (IntKind.wrap .i64 ((l17.length : Int) - 1)) < (l17.length : Int)) then (if ¬ (l17.getD ((IntKind.wrap .i64 ((l17.length : Int) - 1)).toNat) default) = y22.1 then (some (.inr (.inr 0))) else (if (0 ≤ (IntKind.wrap .i64 ((l17.length : Int) - 2)) ∧ (IntKind.wrap .i64 ((l17.length : Int) - 2)) < (l17.length : Int)) then (if ¬ (l17.getD ((IntKind.wrap .i64 ((l17.length : Int) - 2)).toNat) default) = y22.1 then (some (.inr (.inr 0))) else (if (0 ≤ (IntKind.wrap .i64 ((l17.length : Int) - 2)) ∧ (IntKind.wrap .i64 ((l17.length : Int) - 2)) ≤ (l17.length : Int)) ∧ dy (((IntKind.wrap .i64 ((l17.length : Int) - 2)).toNat) + 1) 1 then (some (.inl (((l17.take ((IntKind.wrap .i64 ((l17.length : Int) - 2)).toNat)) ++ (lit ([y22.2.1] : List Int))), (IntKind.wrap .i64 (x19 + 1))))) else none)) else none)) else none))) else (if ((p2.getD x19.toNat default).op) = 7 then (if (l17.length : Int) < 3 then (some (.inr (.inr 0))) else (if (0 ≤ (IntKind.wrap .i64 ((l17.length : Int) - 3)) ∧ (IntKind.wrap .i64 ((l17.length : Int) - 3)) < (l17.length : Int)) then (if ¬ (l17.getD ((IntKind.wrap .i64 ((l17.length : Int) - 3)).toNat) default) = 98 then (some (.inr (.inr 0))) else (if (0 ≤ (IntKind.wrap .i64 ((l17.length : Int) - 2)) ∧ (IntKind.wrap .i64 ((l17.length : Int) - 2)) < (l17.length : Int)) ∧ (0 ≤ (IntKind.wrap .i64 ((l17.length : Int) - 1)) ∧ (IntKind.wrap .i64 ((l17.length : Int) - 1)) < (l17.length : Int)) then (if ¬ (l17.getD ((IntKind.wrap .i64 ((l17.length : Int) - 2)).toNat) default) = (l17.getD ((IntKind.wrap .i64 ((l17.length : Int) - 1)).toNat) default) then (some (.inr (.inr 0))) else (if (0 ≤ (IntKind.wrap .i64 ((l17.length : Int) - 3)) ∧ (IntKind.wrap .i64 ((l17.length : Int) - 3)) ≤ (l17.length : Int)) ∧ dy (((IntKind.wrap .i64 ((l17.length : Int) - 3)).toNat) + 1) 1 then (some (.inl (((l17.take ((IntKind.wrap .i64 ((l17.length : Int) - 3)).toNat)) ++ (lit ([(l17.getD ((IntKind.wrap .i64 ((l17.length : Int) - 1)).toNat) default)] : List Int))), (IntKind.wrap .i64 (x19 + 1))))) else none)) else none)) else none)) else (if ((p2.getD x19.toNat default).op) = 8 then (if (0 ≤ (p2.getD x19.toNat default).v ∧ (p2.getD x19.toNat default).v < (p1.vars.length : Int)) then (if ((p1.vars.getD (((p2.getD x19.toNat default).v).toNat) default).n) = 0 then (some (.inr (.inr 0))) else (if (l17.length : Int) < 2 then (some (.inr (.inr 0))) else (if (0 ≤ (IntKind.wrap .i64 ((l17.length : Int) - 2)) ∧ (IntKind.wrap .i64 ((l17.length : Int) - 2)) < (l17.length : Int)) then (if ¬ (l17.getD ((IntKind.wrap .i64 ((l17.length : Int) - 2)).toNat) default) = 105 then (some (.inr (.inr 0))) else (if (0 ≤ (IntKind.wrap .i64 ((l17.length : Int) - 1)) ∧ (IntKind.wrap .i64 ((l17.length : Int) - 1)) < (l17.length : Int)) then (if ¬ (l17.getD ((IntKind.wrap .i64 ((l17.length : Int) - 1)).toNat) default) = ((p1.vars.getD (((p2.getD x19.toNat default).v).toNat) default).elem) then (some (.inr (.inr 0))) else (if (0 ≤ (IntKind.wrap .i64 ((l17.length : Int) - 2)) ∧ (IntKind.wrap .i64 ((l17.length : Int) - 2)) ≤ (l17.length : Int)) ∧ dy (((IntKind.wrap .i64 ((l17.length : Int) - 2)).toNat) + 1) 1 then (some (.inl (((l17.take ((IntKind.wrap .i64 ((l17.length : Int) - 2)).toNat)) ++ (lit ([(p1.vars.getD (((p2.getD x19.toNat default).v).toNat) default).elem] : List Int))), (IntKind.wrap .i64 (x19 + 1))))) else none)) else none)) else none))) else none) else (some (.inr (.inr 0))))))))))) else none) else (some (.inr (.inl l17)))
noncomputable def lP (p1 : af) (p2 : List aI) (p3 : Int) : Option Int :=
  (aT (fun (l17, x19) => fh p1 p2 p3 l17 x19) ([], 0)).bind (Sum.elim (fun z23 => gA z23) (fun z24 => some z24))
end Pam

namespace Pam
open Go
noncomputable def aV (p1 : af) (p2 : ae) (l2 : List ak) : Option Bool :=
  (lO p2.k).bind fun y3 => if p2.op = 1 then (if ((p1.vars.getD p2.out_.toNat default).elem) = 105 ∧ ((p1.vars.getD p2.out_.toNat default).n) = 0 then (some true) else (if ((p1.vars.getD p2.out_.toNat default).elem) = 98 ∧ ((p1.vars.getD p2.out_.toNat default).n) = 0 then (if p2.n = 0 then (some true) else (some (p2.n == 1))) else (some false))) else (if p2.op = 2 then (if (0 ≤ 0 ∧ 0 < (3 : Int)) ∧ 0 < l2.length then (some ((((l2.getD 0 default).elem) == ((p1.vars.getD p2.out_.toNat default).elem)) && (((l2.getD 0 default).n) == ((p1.vars.getD p2.out_.toNat default).n)))) else none) else (if p2.op = 3 then (if y3.2.2 = 1 then (if (0 ≤ 0 ∧ 0 < (3 : Int)) ∧ 0 < l2.length then (if ((l2.getD 0 default).elem) = y3.1 then (some ((((p1.vars.getD p2.out_.toNat default).elem) == y3.2.1) && (((p1.vars.getD p2.out_.toNat default).n) == ((l2.getD 0 default).n)))) else (some false)) else none) else (some false)) else (if p2.op = 4 then (if y3.2.2 = 2 then (if (0 ≤ 0 ∧ 0 < (3 : Int)) ∧ 0 < l2.length then (if ((l2.getD 0 default).elem) = y3.1 then (if (0 ≤ 1 ∧ 1 < (3 : Int)) ∧ 1 < l2.length then (if ((l2.getD 1 default).elem) = ((l2.getD 0 default).elem) ∧ ((l2.getD 1 default).n) = ((l2.getD 0 default).n) then (some ((((p1.vars.getD p2.out_.toNat default).elem) == y3.2.1) && (((p1.vars.getD p2.out_.toNat default).n) == ((l2.getD 0 default).n)))) else (some false)) else none) else (some false)) else none) else (some false)) else (if p2.op = 5 then (if (0 ≤ 0 ∧ 0 < (3 : Int)) ∧ 0 < l2.length then (if ((l2.getD 0 default).elem) = 98 ∧ ((l2.getD 0 default).n) = 0 then (if (0 ≤ 1 ∧ 1 < (3 : Int)) ∧ 1 < l2.length then (if ((l2.getD 1 default).elem) = ((p1.vars.getD p2.out_.toNat default).elem) ∧ ((l2.getD 1 default).n) = ((p1.vars.getD p2.out_.toNat default).n) then (if (0 ≤ 2 ∧ 2 < (3 : Int)) ∧ 2 < l2.length then (some ((((l2.getD 2 default).elem) == ((p1.vars.getD p2.out_.toNat default).elem)) && (((l2.getD 2 default).n) == ((p1.vars.getD p2.out_.toNat default).n)))) else none) else (some false)) else none) else (some false)) else none) else (if p2.op = 6 then ((kA p2.k).bind fun y4 => if y4 = true then (if (0 ≤ 0 ∧ 0 < (3 : Int)) ∧ 0 < l2.length then (if ((l2.getD 0 default).elem) = y3.1 ∧ ((l2.getD 0 default).n) = 0 then (if (0 ≤ 1 ∧ 1 < (3 : Int)) ∧ 1 < l2.length then (if ((l2.getD 1 default).n) > 0 then (if ((l2.getD 1 default).elem) = y3.1 then (some ((((p1.vars.getD p2.out_.toNat default).elem) == ((l2.getD 0 default).elem)) && (((p1.vars.getD p2.out_.toNat default).n) == ((l2.getD 0 default).n)))) else (some false)) else (some false)) else none) else (some false)) else none) else (some false)) else (if p2.op = 7 then ((kA p2.k).bind fun y5 => if y5 = true then (if (0 ≤ 0 ∧ 0 < (3 : Int)) ∧ 0 < l2.length then (if ((l2.getD 0 default).elem) = y3.1 ∧ ((l2.getD 0 default).n) = 0 then (if (0 ≤ 1 ∧ 1 < (3 : Int)) ∧ 1 < l2.length then (if ((l2.getD 1 default).n) > 0 then (if ((l2.getD 1 default).elem) = y3.1 then (some ((((p1.vars.getD p2.out_.toNat default).elem) == ((l2.getD 1 default).elem)) && (((p1.vars.getD p2.out_.toNat default).n) == ((l2.getD 1 default).n)))) else (some false)) else (some false)) else none) else (some false)) else none) else (some false)) else (if p2.op = 8 then (if (0 ≤ 0 ∧ 0 < (3 : Int)) ∧ 0 < l2.length then (if ((l2.getD 0 default).n) = 0 then (if ((p1.vars.getD p2.out_.toNat default).n) > 0 then (some (((p1.vars.getD p2.out_.toNat default).elem) == ((l2.getD 0 default).elem))) else (some false)) else (some false)) else none) else (if p2.op = 9 then (if (0 ≤ 0 ∧ 0 < (3 : Int)) ∧ 0 < l2.length then (if ((l2.getD 0 default).n) > 0 then (if (0 ≤ 1 ∧ 1 < (3 : Int)) ∧ 1 < l2.length then (if ((l2.getD 1 default).elem) = 105 ∧ ((l2.getD 1 default).n) = 0 then (if (0 ≤ 2 ∧ 2 < (3 : Int)) ∧ 2 < l2.length then (if ((l2.getD 2 default).elem) = ((l2.getD 0 default).elem) ∧ ((l2.getD 2 default).n) = 0 then (some ((((p1.vars.getD p2.out_.toNat default).elem) == ((l2.getD 2 default).elem)) && (((p1.vars.getD p2.out_.toNat default).n) == ((l2.getD 2 default).n)))) else (some false)) else none) else (some false)) else none) else (some false)) else none) else (if p2.op = 10 then (if (0 ≤ 0 ∧ 0 < (3 : Int)) ∧ 0 < l2.length then (if ((l2.getD 0 default).n) > 0 then (if (0 ≤ 1 ∧ 1 < (3 : Int)) ∧ 1 < l2.length then (if ((l2.getD 1 default).elem) = 105 ∧ ((l2.getD 1 default).n) = 0 then (if (0 ≤ 2 ∧ 2 < (3 : Int)) ∧ 2 < l2.length then (if ((l2.getD 2 default).elem) = ((l2.getD 0 default).elem) ∧ ((l2.getD 2 default).n) = 0 then (some ((((p1.vars.getD p2.out_.toNat default).elem) == ((l2.getD 0 default).elem)) && (((p1.vars.getD p2.out_.toNat default).n) == ((l2.getD 0 default).n)))) else (some false)) else none) else (some false)) else none) else (some false)) else none) else (if p2.op = 11 then (if ((p1.vars.getD p2.out_.toNat default).n) > 0 then (if (0 ≤ 0 ∧ 0 < (3 : Int)) ∧ 0 < l2.length then (if ((l2.getD 0 default).n) > 0 then (if ((p1.vars.getD p2.out_.toNat default).elem) = ((l2.getD 0 default).elem) then (if p2.n ≥ 0 then (if ((p1.vars.getD p2.out_.toNat default).n) ≤ ((l2.getD 0 default).n) then (some (decide (p2.n ≤ (IntKind.wrap .i64 (((l2.getD 0 default).n) - ((p1.vars.getD p2.out_.toNat default).n)))))) else (some false)) else (some false)) else (some false)) else (some false)) else none) else (some false)) else (if p2.op = 12 then (if (0 ≤ 0 ∧ 0 < (3 : Int)) ∧ 0 < l2.length then (if ((l2.getD 0 default).n) > 0 then (if (0 ≤ 1 ∧ 1 < (3 : Int)) ∧ 1 < l2.length then (if ((l2.getD 1 default).n) > 0 then (if ((l2.getD 0 default).elem) = ((l2.getD 1 default).elem) then (some ((((p1.vars.getD p2.out_.toNat default).elem) == ((l2.getD 0 default).elem)) && (((p1.vars.getD p2.out_.toNat default).n) == (IntKind.wrap .i64 (((l2.getD 0 default).n) + ((l2.getD 1 default).n)))))) else (some false)) else (some false)) else none) else (some false)) else none) else (if p2.op = 13 then (if (0 ≤ 0 ∧ 0 < (3 : Int)) ∧ 0 < l2.length then (if ((l2.getD 0 default).elem) = ((p1.vars.getD p2.out_.toNat default).elem) ∧ ((l2.getD 0 default).n) = ((p1.vars.getD p2.out_.toNat default).n) then (if (0 ≤ 1 ∧ 1 < (3 : Int)) ∧ 1 < l2.length then (some ((((l2.getD 1 default).elem) == ((p1.vars.getD p2.out_.toNat default).elem)) && (((l2.getD 1 default).n) == ((p1.vars.getD p2.out_.toNat default).n)))) else none) else (some false)) else none) else (if p2.op = 14 then ((jU ((p1.vars.getD p2.out_.toNat default).n)).bind fun y6 => (lP p1 p2.e y6).bind fun y7 => some (y7 == ((p1.vars.getD p2.out_.toNat default).elem))) else (if p2.op = 15 then ((kA p2.k).bind fun y8 => if y8 = true then (if ((p1.vars.getD p2.out_.toNat default).elem) = y3.1 ∧ ((p1.vars.getD p2.out_.toNat default).n) = 0 then (if (0 ≤ 0 ∧ 0 < (3 : Int)) ∧ 0 < l2.length then (if ((l2.getD 0 default).elem) = ((p1.vars.getD p2.out_.toNat default).elem) ∧ ((l2.getD 0 default).n) = ((p1.vars.getD p2.out_.toNat default).n) then (if p2.n ≥ 1 then (if p2.n ≤ 300 then ((lP p1 p2.e p2.n).bind fun y9 => some (y9 == y3.1)) else (some false)) else (some false)) else (some false)) else none) else (some false)) else (some false)) else ((kA p2.k).bind fun y10 => if y10 = true then (if ((p1.vars.getD p2.out_.toNat default).n) > 0 then (if ((p1.vars.getD p2.out_.toNat default).elem) = y3.1 then (if (0 ≤ 0 ∧ 0 < (3 : Int)) ∧ 0 < l2.length then (if ((l2.getD 0 default).elem) = y3.1 ∧ ((l2.getD 0 default).n) = 0 then ((lP p1 p2.e ((p1.vars.getD p2.out_.toNat default).n)).bind fun y11 => some (y11 == y3.1)) else (some false)) else none) else (some false)) else (some false)) else (some false))))))))))))))))
noncomputable def ci (p1 : af) (p2 : ae) (l19 : List ak) (x20 : Int) : Option (((List ak) × Int) ⊕ (List ak)) :=
  if x20 < (p2.a.length : Int) then (if (0 ≤ x20 ∧ x20 < (p2.a.length : Int)) ∧ (0 ≤ (p2.a.getD x20.toNat default) ∧ (p2.a.getD x20.toNat default) < (p1.vars.length : Int)) ∧ (0 ≤ x20 ∧ x20 < (3 : Int)) ∧ x20.toNat < l19.length then (some (.inl ((l19.set x20.toNat (p1.vars.getD ((p2.a.getD x20.toNat default).toNat) default)), (IntKind.wrap .i64 (x20 + 1))))) else none) else (some (.inr l19))
noncomputable def aE (p1 : af) (p2 : ae) : Option Bool :=
  if (0 ≤ p2.out_ ∧ p2.out_ < (p1.vars.length : Int)) then ((aT (fun (l19, x20) => ci p1 p2 l19 x20) ((List.replicate 3 (ak.mk 0 0)), 0)).bind (fun z21 => aV p1 p2 z21)) else none
end Pam

namespace Pam
open Go
noncomputable def i2 : Option au :=
  some (au.mk 0 0)
noncomputable def fV (p1 : af) (y2 : (List Int)) (x5 : Int) : Option (Int ⊕ (Unit ⊕ au)) :=
  if x5 < (p1.out_.length : Int) then (if (0 ≤ x5 ∧ x5 < (p1.out_.length : Int)) then ((hY p1.in_ (p1.out_.getD x5.toNat default)).bind fun y6 => if y6 = true then (some (.inl (IntKind.wrap .i64 (x5 + 1)))) else ((hY y2 (p1.out_.getD x5.toNat default)).bind fun y7 => if y7 = true then (some (.inl (IntKind.wrap .i64 (x5 + 1)))) else ((fB 9 (-1)).bind fun y8 => some (.inr (.inr (y8)))))) else none) else (some (.inr (.inl ())))
noncomputable def fW (p1 : af) (y2 : (List Int)) : Option au :=
  (aT (fun x5 => fV p1 y2 x5) 0).bind (Sum.elim (fun _ => i2) (fun z9 => some z9))
noncomputable def fX (x12 : Int) : Option (Int ⊕ (Unit ⊕ au)) :=
  some (.inl (IntKind.wrap .i64 (x12 + 1)))
noncomputable def i4 (p1 : af) (y2 : (List Int)) (x12 : Int) (y13 : (List Int)) (x16 : Int) : Option (Int ⊕ (Unit ⊕ au)) :=
  if x16 < (y13.length : Int) then (if (0 ≤ x16 ∧ x16 < (y13.length : Int)) then ((hY p1.in_ (y13.getD x16.toNat default)).bind fun y17 => if y17 = true then (some (.inl (IntKind.wrap .i64 (x16 + 1)))) else ((hY y2 (y13.getD x16.toNat default)).bind fun y18 => if y18 = true then (some (.inl (IntKind.wrap .i64 (x16 + 1)))) else ((fB 9 x12).bind fun y19 => some (.inr (.inr (y19)))))) else none) else (some (.inr (.inl ())))
noncomputable def fY (p1 : af) (y2 : (List Int)) (x12 : Int) : Option (Int ⊕ (Unit ⊕ au)) :=
  if x12 < (p1.rules.length : Int) then (if (0 ≤ x12 ∧ x12 < (p1.rules.length : Int)) then ((mT (p1.rules.getD x12.toNat default)).bind fun y13 => (aT (fun x16 => i4 p1 y2 x12 y13 x16) 0).bind (Sum.elim (fun _ => fX x12) (fun z20 => some (.inr (.inr z20))))) else none) else (some (.inr (.inl ())))
noncomputable def fZ (p1 : af) : Option au :=
  (nW p1 (p1.rules.length : Int)).bind fun y2 => (aT (fun x12 => fY p1 y2 x12) 0).bind (Sum.elim (fun _ => fW p1 y2) (fun z21 => some z21))
noncomputable def i5 (x24 : Int) : Option (Int ⊕ (Unit ⊕ au)) :=
  some (.inl (IntKind.wrap .i64 (x24 + 1)))
noncomputable def f8 (p1 : af) (x24 : Int) : Option (Int ⊕ (Unit ⊕ au)) :=
  (aE p1 (p1.rules.getD x24.toNat default)).bind fun y38 => if y38 = true then (i5 x24) else ((fB 10 x24).bind fun y39 => some (.inr (.inr (y39))))
noncomputable def i6 (p1 : af) (x24 : Int) (y37 : (List Int)) (x42 : Int) : Option (Int ⊕ (Unit ⊕ au)) :=
  if x42 < (y37.length : Int) then (if (0 ≤ x42 ∧ x42 < (y37.length : Int)) then (if (y37.getD x42.toNat default) < 0 then ((fB 16 x24).bind fun y43 => some (.inr (.inr (y43)))) else (if (y37.getD x42.toNat default) ≥ (p1.vars.length : Int) then ((fB 16 x24).bind fun y44 => some (.inr (.inr (y44)))) else (some (.inl (IntKind.wrap .i64 (x42 + 1)))))) else none) else (some (.inr (.inl ())))
noncomputable def f9 (p1 : af) (x24 : Int) : Option (Int ⊕ (Unit ⊕ au)) :=
  if x24 < (p1.rules.length : Int) then (if (0 ≤ x24 ∧ x24 < (p1.rules.length : Int)) then (if ((p1.rules.getD x24.toNat default).out_) < 0 then ((fB 16 x24).bind fun y25 => some (.inr (.inr (y25)))) else (if ((p1.rules.getD x24.toNat default).out_) ≥ (p1.vars.length : Int) then ((fB 16 x24).bind fun y26 => some (.inr (.inr (y26)))) else ((hY p1.in_ ((p1.rules.getD x24.toNat default).out_)).bind fun y27 => if y27 = true then ((fB 8 x24).bind fun y28 => some (.inr (.inr (y28)))) else ((nW p1 x24).bind fun y29 => (hY y29 ((p1.rules.getD x24.toNat default).out_)).bind fun y30 => if y30 = true then ((fB 8 x24).bind fun y31 => some (.inr (.inr (y31)))) else ((ky ((p1.rules.getD x24.toNat default).op)).bind fun y32 => if y32 < 0 then ((fB 4 x24).bind fun y33 => some (.inr (.inr (y33)))) else ((ky ((p1.rules.getD x24.toNat default).op)).bind fun y34 => if ¬ y34 = (((p1.rules.getD x24.toNat default).a).length : Int) then ((fB 4 x24).bind fun y35 => some (.inr (.inr (y35)))) else (if (((p1.rules.getD x24.toNat default).e).length : Int) > 24 then ((fB 7 x24).bind fun y36 => some (.inr (.inr (y36)))) else ((mT (p1.rules.getD x24.toNat default)).bind fun y37 => (aT (fun x42 => i6 p1 x24 y37 x42) 0).bind (Sum.elim (fun _ => f8 p1 x24) (fun z45 => some (.inr (.inr z45)))))))))))) else none) else (some (.inr (.inl ())))
noncomputable def gB (p1 : af) : Option au :=
  (mS p1).bind fun y1 => if ¬ ((y1).code) = 0 then (some (y1)) else ((aT (fun x24 => f9 p1 x24) 0).bind (Sum.elim (fun _ => fZ p1) (fun z46 => some z46)))
end Pam

namespace Pam
open Go
noncomputable def bQ (p1 : List Int) : Option (List Int) :=
  if p1 = [] then (some []) else (if dy p1.length 8 then (some p1) else none)
end Pam

namespace Pam
open Go
noncomputable def eZ (p1 : List Int) : Option (List Int) :=
  if p1.length ≤ 140737488355328 then some (oR p1) else none
end Pam

namespace Pam
open Go
noncomputable def dL (p0 : Nat) (p1 : List Int) : Option (List Int) :=
  if p0 = p1.length ∧ p1.length ≤ 140737488355328 then some (Go.Lib.compact p1) else none
end Pam

namespace Pam
open Go
noncomputable def kB (l4 : List Int) : Option (List Int) :=
  (eZ l4).bind fun y6 => (dL l4.length y6).bind fun y7 => some y7
noncomputable def iB (p1 : ae) (l20 : List Int) (x22 : Int) (b25 : Bool) : Option (((List Int) × Int) ⊕ (List Int)) :=
  if b25 = true then (if dy (l20.length + 1) 8 then (some (.inl ((l20 ++ (lit ([(p1.e.getD x22.toNat default).v] : List Int))), (IntKind.wrap .i64 (x22 + 1))))) else none) else (some (.inl (l20, (IntKind.wrap .i64 (x22 + 1)))))
noncomputable def gC (p1 : ae) (l20 : List Int) (x22 : Int) : Option (((List Int) × Int) ⊕ (List Int)) :=
  if x22 < (p1.e.length : Int) then (if (0 ≤ x22 ∧ x22 < (p1.e.length : Int)) then (if ((p1.e.getD x22.toNat default).op) = 2 then (iB p1 l20 x22 (((p1.e.getD x22.toNat default).op) == 2)) else (if ((p1.e.getD x22.toNat default).op) = 3 then (iB p1 l20 x22 (((p1.e.getD x22.toNat default).op) == 3)) else (iB p1 l20 x22 (((p1.e.getD x22.toNat default).op) == 8)))) else none) else (some (.inr l20))
noncomputable def mV (p1 : ae) : Option (List Int) :=
  (bQ p1.a).bind fun y1 => (aT (fun (l20, x22) => gC p1 l20 x22) (y1, 0)).bind (fun z26 => kB z26)
end Pam

namespace Pam
open Go
noncomputable def gD (p1 : Int) (p2 : aH) : Option Bool :=
  if p1 ≥ 0 then (some (decide (p1 < (p2.system.vars.length : Int)))) else (some false)
end Pam

namespace Pam
open Go
noncomputable def dt : Option Int :=
  some (-1)
noncomputable def du (p1 : List Int) (p2 : Int) (x3 : Int) : Option (Int ⊕ (Unit ⊕ Int)) :=
  if x3 < (p1.length : Int) then (if (0 ≤ x3 ∧ x3 < (p1.length : Int)) then (if p2 = (p1.getD x3.toNat default) then (some (.inr (.inr x3))) else (some (.inl (IntKind.wrap .i64 (x3 + 1))))) else none) else (some (.inr (.inl ())))
noncomputable def eO (p1 : List Int) (p2 : Int) : Option Int :=
  (aT (fun x3 => du p1 p2 x3) 0).bind (Sum.elim (fun _ => dt) (fun z4 => some z4))
end Pam

namespace Pam
open Go
noncomputable def dv (p1 : List Int) (p2 : Int) : Option Bool :=
  (eO p1 p2).bind fun y1 => some (decide (y1 ≥ 0))
end Pam

namespace Pam
open Go
noncomputable def gE : Option au :=
  some (au.mk 0 0)
noncomputable def gF (p1 : aH) (x3 : Int) : Option (Int ⊕ (Unit ⊕ au)) :=
  if x3 < (p1.system.out_.length : Int) then (if (0 ≤ x3 ∧ x3 < (p1.system.out_.length : Int)) then ((gD (p1.system.out_.getD x3.toNat default) p1).bind fun y4 => if y4 = true then (some (.inl (IntKind.wrap .i64 (x3 + 1)))) else (some (.inr (.inr (au.mk 16 (-1)))))) else none) else (some (.inr (.inl ())))
noncomputable def dM (p1 : aH) : Option au :=
  (aT (fun x3 => gF p1 x3) 0).bind (Sum.elim (fun _ => gE) (fun z5 => some z5))
noncomputable def gG (p1 : aH) (x8 : Int) : Option (Int ⊕ (Unit ⊕ au)) :=
  if x8 < (p1.system.in_.length : Int) then (if (0 ≤ x8 ∧ x8 < (p1.system.in_.length : Int)) then ((gD (p1.system.in_.getD x8.toNat default) p1).bind fun y9 => if y9 = true then (if (0 ≤ x8 ∧ x8 ≤ (p1.system.in_.length : Int)) then ((dv (p1.system.in_.take x8.toNat) (p1.system.in_.getD x8.toNat default)).bind fun y10 => if y10 = true then (some (.inr (.inr (au.mk 8 (-1))))) else (some (.inl (IntKind.wrap .i64 (x8 + 1))))) else none) else (some (.inr (.inr (au.mk 16 (-1)))))) else none) else (some (.inr (.inl ())))
noncomputable def cW (p1 : aH) : Option au :=
  (aT (fun x8 => gG p1 x8) 0).bind (Sum.elim (fun _ => dM p1) (fun z11 => some z11))
noncomputable def dN (p1 : aH) (x14 : Int) : Option (Int ⊕ (Unit ⊕ au)) :=
  if ((p1.system.vars.getD x14.toNat default).n) < 0 then (some (.inr (.inr (au.mk 13 (IntKind.wrap .i64 ((-2) - x14)))))) else (if ((p1.system.vars.getD x14.toNat default).n) > 300 then (some (.inr (.inr (au.mk 13 (IntKind.wrap .i64 ((-2) - x14)))))) else (some (.inl (IntKind.wrap .i64 (x14 + 1)))))
noncomputable def eT (p1 : aH) (x14 : Int) : Option (Int ⊕ (Unit ⊕ au)) :=
  if x14 < (p1.system.vars.length : Int) then (if (0 ≤ x14 ∧ x14 < (p1.system.vars.length : Int)) then (if ¬ ((p1.system.vars.getD x14.toNat default).elem) = 105 then (if ¬ ((p1.system.vars.getD x14.toNat default).elem) = 98 then (some (.inr (.inr (au.mk 10 (IntKind.wrap .i64 ((-2) - x14)))))) else (dN p1 x14)) else (dN p1 x14)) else none) else (some (.inr (.inl ())))
noncomputable def jz (p1 : aH) : Option au :=
  if (p1.system.vars.length : Int) > 400 then (some (au.mk 7 (-1))) else (if (p1.system.rules.length : Int) > 400 then (some (au.mk 7 (-1))) else (if (p1.system.in_.length : Int) > 400 then (some (au.mk 7 (-1))) else (if (p1.system.out_.length : Int) > 400 then (some (au.mk 7 (-1))) else ((aT (fun x14 => eT p1 x14) 0).bind (Sum.elim (fun _ => cW p1) (fun z15 => some z15))))))
end Pam

namespace Pam
open Go
noncomputable def bK (p1 : Bool) (p2 : Int) (p3 : aH) : Option Int :=
  if p1 = true then (if p3.code = 0 then (some p2) else (some p3.code)) else (some p3.code)
end Pam

namespace Pam
open Go
noncomputable def mA (p1 : Int) : Option Int :=
  if p1 < 1 then (some (-1)) else (if p1 > 16 then (some (-1)) else (if (0 ≤ p1 ∧ p1 < (17 : Int)) then (some ((lit ([0, 0, 1, 1, 2, 3, 2, 2, 1, 3, 3, 1, 2, 2, 0, 1, 1] : List Int)).getD p1.toNat 0)) else none))
end Pam

namespace Pam
open Go
noncomputable def lQ (p1 : Int) : Option (Int × Int × Int) :=
  if p1 ≥ 1 then (if p1 ≤ 7 then (some (105, 105, 2)) else (if p1 = 8 then (some (105, 98, 2)) else (if p1 = 9 then (some (105, 98, 2)) else (if p1 ≥ 10 then (if p1 ≤ 12 then (some (98, 98, 2)) else (if p1 = 13 then (some (105, 105, 1)) else (if p1 = 14 then (some (98, 98, 1)) else (some (0, 0, 0))))) else (if p1 = 13 then (some (105, 105, 1)) else (if p1 = 14 then (some (98, 98, 1)) else (some (0, 0, 0)))))))) else (if p1 = 8 then (some (105, 98, 2)) else (if p1 = 9 then (some (105, 98, 2)) else (if p1 ≥ 10 then (if p1 ≤ 12 then (some (98, 98, 2)) else (if p1 = 13 then (some (105, 105, 1)) else (if p1 = 14 then (some (98, 98, 1)) else (some (0, 0, 0))))) else (if p1 = 13 then (some (105, 105, 1)) else (if p1 = 14 then (some (98, 98, 1)) else (some (0, 0, 0)))))))
end Pam

namespace Pam
open Go
noncomputable def gH : Option Bool :=
  some true
noncomputable def gI (p1 : List Int) (p2 : aH) (x3 : Int) : Option (Int ⊕ (Unit ⊕ Bool)) :=
  if x3 < (p1.length : Int) then (if (0 ≤ x3 ∧ x3 < (p1.length : Int)) then (if (0 ≤ (p1.getD x3.toNat default) ∧ (p1.getD x3.toNat default) < (p2.system.vars.length : Int)) ∧ (0 ≤ 0 ∧ 0 < (p1.length : Int)) ∧ (0 ≤ (p1.getD 0 default) ∧ (p1.getD 0 default) < (p2.system.vars.length : Int)) then (if ((p2.system.vars.getD ((p1.getD x3.toNat default).toNat) default).elem) = ((p2.system.vars.getD ((p1.getD 0 default).toNat) default).elem) ∧ ((p2.system.vars.getD ((p1.getD x3.toNat default).toNat) default).n) = ((p2.system.vars.getD ((p1.getD 0 default).toNat) default).n) then (some (.inl (IntKind.wrap .i64 (x3 + 1)))) else (some (.inr (.inr false)))) else none) else none) else (some (.inr (.inl ())))
noncomputable def jA (p1 : List Int) (p2 : aH) : Option Bool :=
  (aT (fun x3 => gI p1 p2 x3) 0).bind (Sum.elim (fun _ => gH) (fun z4 => some z4))
end Pam

namespace Pam
open Go
noncomputable def iL (p1 : Int) : Option ak :=
  some (ak.mk p1 0)
end Pam

namespace Pam
open Go
noncomputable def e7 : Option Bool :=
  some true
noncomputable def e8 (p1 : aH) (p2 : List Int) (x3 : Int) : Option (Int ⊕ (Unit ⊕ Bool)) :=
  if x3 < (p2.length : Int) then (if (0 ≤ x3 ∧ x3 < (p2.length : Int)) then (if (0 ≤ (p2.getD x3.toNat default) ∧ (p2.getD x3.toNat default) < (p1.system.vars.length : Int)) ∧ (0 ≤ 0 ∧ 0 < (p2.length : Int)) ∧ (0 ≤ (p2.getD 0 default) ∧ (p2.getD 0 default) < (p1.system.vars.length : Int)) then (if ((p1.system.vars.getD ((p2.getD x3.toNat default).toNat) default).elem) = ((p1.system.vars.getD ((p2.getD 0 default).toNat) default).elem) ∧ ((p1.system.vars.getD ((p2.getD x3.toNat default).toNat) default).n) = ((p1.system.vars.getD ((p2.getD 0 default).toNat) default).n) then (some (.inl (IntKind.wrap .i64 (x3 + 1)))) else (some (.inr (.inr false)))) else none) else none) else (some (.inr (.inl ())))
noncomputable def fo (p1 : aH) (p2 : List Int) : Option Bool :=
  (aT (fun x3 => e8 p1 p2 x3) 0).bind (Sum.elim (fun _ => e7) (fun z4 => some z4))
end Pam

namespace Pam
open Go
noncomputable def jB (p1 : Int) : Option Bool :=
  (lQ p1).bind fun y1 => if y1.2.2 = 2 then (some (y1.1 == y1.2.1)) else (some false)
end Pam

namespace Pam
open Go
noncomputable def jC (p1 : Int) (p2 : aH) : Option (ak × Bool) :=
  if (0 ≤ p1 ∧ p1 < (p2.system.vars.length : Int)) then ((iL ((p2.system.vars.getD p1.toNat default).elem)).bind fun y1 => some ((y1), decide (((p2.system.vars.getD p1.toNat default).n) > 0))) else none
end Pam

namespace Pam
open Go
noncomputable def bC (p1 : Int) (p2 : List Int) : Option Int :=
  if p1 > (p2.length : Int) then (some 0) else (if (0 ≤ (IntKind.wrap .i64 ((p2.length : Int) - p1)) ∧ (IntKind.wrap .i64 ((p2.length : Int) - p1)) < (p2.length : Int)) then (some (p2.getD ((IntKind.wrap .i64 ((p2.length : Int) - p1)).toNat) default)) else none)
end Pam

namespace Pam
open Go
noncomputable def bY (p1 : aI) (p3 : aH) (p4 : List Int) (b1 : Bool) : Option (Int × Int × Bool) :=
  if b1 = true then ((lQ p1.k).bind fun y2 => if y2.2.2 = (IntKind.wrap .i64 ((IntKind.wrap .i64 (p1.op - 5)) + 1)) then ((bC 1 p4).bind fun y3 => if y3 = y2.1 then (if y2.2.2 = 1 then (some (y2.2.2, y2.2.1, true)) else ((bC 2 p4).bind fun y4 => some (y2.2.2, y2.2.1, (y4 == y2.1)))) else (some (y2.2.2, y2.2.1, false))) else (some (y2.2.2, y2.2.1, false))) else (if p1.op = 7 then ((bC 1 p4).bind fun y5 => (bC 3 p4).bind fun y6 => if y6 = 98 then ((bC 1 p4).bind fun y7 => (bC 2 p4).bind fun y8 => if y7 = y8 then ((bC 1 p4).bind fun y9 => some (3, y5, (y9 != 0))) else (some (3, y5, false))) else (some (3, y5, false))) else (if p1.op = 8 then (if (0 ≤ p1.v ∧ p1.v < (p3.system.vars.length : Int)) then (if ((p3.system.vars.getD p1.v.toNat default).n) > 0 then ((bC 1 p4).bind fun y10 => if y10 = ((p3.system.vars.getD p1.v.toNat default).elem) then ((bC 2 p4).bind fun y11 => some (2, (p3.system.vars.getD p1.v.toNat default).elem, (y11 == 105))) else (some (2, (p3.system.vars.getD p1.v.toNat default).elem, false))) else (some (2, (p3.system.vars.getD p1.v.toNat default).elem, false))) else none) else (some (0, 0, false))))
noncomputable def aW (p1 : aI) (p2 : Int) (p3 : aH) (p4 : List Int) : Option (Int × Int × Bool) :=
  if p1.op = 1 then (if p1.k = 1 then (if p1.n = 0 then (some (0, 98, true)) else (some (0, 98, (p1.n == 1)))) else (some (0, 105, (p1.k == 0)))) else (if p1.op = 2 then (if (0 ≤ p1.v ∧ p1.v < (p3.system.vars.length : Int)) then (some (0, (p3.system.vars.getD p1.v.toNat default).elem, (((p3.system.vars.getD p1.v.toNat default).n) == 0))) else none) else (if p1.op = 3 then (if (0 ≤ p1.v ∧ p1.v < (p3.system.vars.length : Int)) then (if ((p3.system.vars.getD p1.v.toNat default).n) > 0 then (if p1.n ≥ 0 then (some (0, (p3.system.vars.getD p1.v.toNat default).elem, decide (p1.n ≤ (IntKind.wrap .i64 (((p3.system.vars.getD p1.v.toNat default).n) - p2))))) else (some (0, (p3.system.vars.getD p1.v.toNat default).elem, false))) else (some (0, (p3.system.vars.getD p1.v.toNat default).elem, false))) else none) else (if p1.op = 4 then (if p1.n ≥ (-1000000) then (some (0, 105, decide (p1.n ≤ 1000000))) else (some (0, 105, false))) else (if p1.op = 5 then (bY p1 p3 p4 (p1.op == 5)) else (bY p1 p3 p4 (p1.op == 6))))))
end Pam

namespace Pam
open Go
noncomputable def cJ (l3 : List Int) : Option (Int × Bool) :=
  if ¬ (l3.length : Int) = 1 then (some (0, false)) else (if (0 ≤ 0 ∧ 0 < (l3.length : Int)) then (some ((l3.getD 0 default), true)) else none)
noncomputable def bp (p1 : List aI) (p2 : Int) (p3 : aH) (l17 : List Int) (x19 : Int) : Option (((List Int) × Int) ⊕ ((List Int) ⊕ (Int × Bool))) :=
  if x19 < (p1.length : Int) then (if (0 ≤ x19 ∧ x19 < (p1.length : Int)) then ((aW (p1.getD x19.toNat default) p2 p3 l17).bind fun y20 => if y20.2.2 = true then (if (l17.length : Int) < y20.1 then (some (.inr (.inr (0, false)))) else (if (0 ≤ (IntKind.wrap .i64 ((l17.length : Int) - y20.1)) ∧ (IntKind.wrap .i64 ((l17.length : Int) - y20.1)) ≤ (l17.length : Int)) ∧ dy (((IntKind.wrap .i64 ((l17.length : Int) - y20.1)).toNat) + 1) 1 then (some (.inl (((l17.take ((IntKind.wrap .i64 ((l17.length : Int) - y20.1)).toNat)) ++ (lit ([y20.2.1] : List Int))), (IntKind.wrap .i64 (x19 + 1))))) else none)) else (some (.inr (.inr (0, false))))) else none) else (some (.inr (.inl l17)))
noncomputable def jD (p1 : List aI) (p2 : Int) (p3 : aH) : Option (Int × Bool) :=
  (aT (fun (l17, x19) => bp p1 p2 p3 l17 x19) ([], 0)).bind (Sum.elim (fun z21 => cJ z21) (fun z22 => some z22))
end Pam

namespace Pam
open Go
noncomputable def dO (p1 : ae) (p2 : ak) (p4 : aH) (x1 : Int) : Option Bool :=
  (jD p1.e x1 p4).bind fun y3 => if y3.2 = true then (some (y3.1 == p2.elem)) else (some false)
noncomputable def cK (p1 : ae) (p2 : ak) (p4 : aH) (x1 : Int) : Option Bool :=
  (lQ p1.k).bind fun y2 => if ¬ p1.op = 14 then (if ¬ y2.1 = p2.elem then (some false) else (dO p1 p2 p4 x1)) else (dO p1 p2 p4 x1)
noncomputable def hZ (p1 : ae) (p2 : ak) (p3 : ak) (p4 : aH) : Option Bool :=
  if p1.op = 15 then (if p1.n < 1 then (some false) else (if p1.n > 300 then (some false) else ((jB p1.k).bind fun y4 => if y4 = true then (if p3.elem = p2.elem ∧ p3.n = p2.n then (if p2.n > 0 then (some false) else (cK p1 p2 p4 p1.n)) else (some false)) else (some false)))) else (if p1.op = 16 then ((jB p1.k).bind fun y5 => if y5 = true then (if p2.n = 0 then (some false) else ((iL p2.elem).bind fun y6 => if p3.elem = ((y6).elem) ∧ p3.n = ((y6).n) then (cK p1 p2 p4 (if 1 > p2.n then 1 else p2.n)) else (some false))) else (some false)) else (cK p1 p2 p4 (if 1 > p2.n then 1 else p2.n)))
end Pam

namespace Pam
open Go
noncomputable def bb (p1 : ae) (p2 : aH) (x1 : Int) (x2 : Int) (b10 : Bool) : Option Bool :=
  if b10 = true then (if (0 ≤ 0 ∧ 0 < (p1.a.length : Int)) then ((jC (p1.a.getD 0 default) p2).bind fun y11 => if y11.2 = true then (if (0 ≤ 1 ∧ 1 < (p1.a.length : Int)) ∧ (0 ≤ (p1.a.getD 1 default) ∧ (p1.a.getD 1 default) < (p2.system.vars.length : Int)) then ((iL 105).bind fun y12 => if ((p2.system.vars.getD ((p1.a.getD 1 default).toNat) default).elem) = ((y12).elem) ∧ ((p2.system.vars.getD ((p1.a.getD 1 default).toNat) default).n) = ((y12).n) then (if (0 ≤ 2 ∧ 2 < (p1.a.length : Int)) ∧ (0 ≤ (p1.a.getD 2 default) ∧ (p1.a.getD 2 default) < (p2.system.vars.length : Int)) then (if ((p2.system.vars.getD ((p1.a.getD 2 default).toNat) default).elem) = ((y11.1).elem) ∧ ((p2.system.vars.getD ((p1.a.getD 2 default).toNat) default).n) = ((y11.1).n) then (if p1.op = 9 then (if ((p2.system.vars.getD p1.out_.toNat default).elem) = ((y11.1).elem) ∧ ((p2.system.vars.getD p1.out_.toNat default).n) = ((y11.1).n) then (some true) else (if p1.op = 10 then (some ((((p2.system.vars.getD p1.out_.toNat default).elem) == x1) && (((p2.system.vars.getD p1.out_.toNat default).n) == x2))) else (some false))) else (if p1.op = 10 then (some ((((p2.system.vars.getD p1.out_.toNat default).elem) == x1) && (((p2.system.vars.getD p1.out_.toNat default).n) == x2))) else (some false))) else (some false)) else none) else (some false)) else none) else (some false)) else none) else (if p1.op = 11 then (if x2 > 0 then (if ((p2.system.vars.getD p1.out_.toNat default).n) > 0 then (if x1 = ((p2.system.vars.getD p1.out_.toNat default).elem) then (if p1.n ≥ 0 then (some (decide (p1.n ≤ (IntKind.wrap .i64 (x2 - ((p2.system.vars.getD p1.out_.toNat default).n)))))) else (some false)) else (some false)) else (some false)) else (some false)) else (if p1.op = 12 then (if (0 ≤ 1 ∧ 1 < (p1.a.length : Int)) ∧ (0 ≤ (p1.a.getD 1 default) ∧ (p1.a.getD 1 default) < (p2.system.vars.length : Int)) then (if x2 > 0 then (if ((p2.system.vars.getD ((p1.a.getD 1 default).toNat) default).n) > 0 then (if x1 = ((p2.system.vars.getD ((p1.a.getD 1 default).toNat) default).elem) then (some ((((p2.system.vars.getD p1.out_.toNat default).elem) == x1) && (((p2.system.vars.getD p1.out_.toNat default).n) == (IntKind.wrap .i64 (x2 + ((p2.system.vars.getD ((p1.a.getD 1 default).toNat) default).n)))))) else (some false)) else (some false)) else (some false)) else none) else (if p1.op = 13 then (if (0 ≤ 0 ∧ 0 < (p1.a.length : Int)) ∧ (0 ≤ 1 ∧ 1 < (p1.a.length : Int)) then ((fo p2 (lit ([(p1.a.getD 0 default), (p1.a.getD 1 default), p1.out_] : List Int))).bind fun y13 => some y13) else none) else ((hZ p1 (p2.system.vars.getD p1.out_.toNat default) (ak.mk x1 x2) p2).bind fun y14 => some y14))))
noncomputable def be (p1 : ae) (p2 : aH) (x1 : Int) (x2 : Int) (y3 : (Int × Int × Int)) (b7 : Bool) : Option Bool :=
  if b7 = true then (if (0 ≤ 1 ∧ 1 < (p1.a.length : Int)) ∧ (0 ≤ (p1.a.getD 1 default) ∧ (p1.a.getD 1 default) < (p2.system.vars.length : Int)) then ((jB p1.k).bind fun y8 => if y8 = true then ((iL y3.1).bind fun y9 => if x1 = ((y9).elem) ∧ x2 = ((y9).n) then (if ((p2.system.vars.getD ((p1.a.getD 1 default).toNat) default).n) > 0 then (if ((p2.system.vars.getD ((p1.a.getD 1 default).toNat) default).elem) = y3.1 then (if p1.op = 6 then (if ((p2.system.vars.getD p1.out_.toNat default).elem) = x1 ∧ ((p2.system.vars.getD p1.out_.toNat default).n) = x2 then (some true) else (if p1.op = 7 then (some ((((p2.system.vars.getD p1.out_.toNat default).elem) == ((p2.system.vars.getD ((p1.a.getD 1 default).toNat) default).elem)) && (((p2.system.vars.getD p1.out_.toNat default).n) == ((p2.system.vars.getD ((p1.a.getD 1 default).toNat) default).n)))) else (some false))) else (if p1.op = 7 then (some ((((p2.system.vars.getD p1.out_.toNat default).elem) == ((p2.system.vars.getD ((p1.a.getD 1 default).toNat) default).elem)) && (((p2.system.vars.getD p1.out_.toNat default).n) == ((p2.system.vars.getD ((p1.a.getD 1 default).toNat) default).n)))) else (some false))) else (some false)) else (some false)) else (some false)) else (some false)) else none) else (if p1.op = 8 then (if x2 = 0 then (if ((p2.system.vars.getD p1.out_.toNat default).n) > 0 then (some (((p2.system.vars.getD p1.out_.toNat default).elem) == x1)) else (some false)) else (some false)) else (if p1.op = 9 then (bb p1 p2 x1 x2 (p1.op == 9)) else (bb p1 p2 x1 x2 (p1.op == 10))))
noncomputable def bf (p1 : ae) (p2 : aH) (x1 : Int) (x2 : Int) : Option Bool :=
  (lQ p1.k).bind fun y3 => if p1.op = 1 then (if ((p2.system.vars.getD p1.out_.toNat default).n) = 0 then (if ((p2.system.vars.getD p1.out_.toNat default).elem) = 105 then (some true) else (if p1.n = 0 then (some true) else (some (p1.n == 1)))) else (some false)) else (if p1.op = 2 then (some ((x1 == ((p2.system.vars.getD p1.out_.toNat default).elem)) && (x2 == ((p2.system.vars.getD p1.out_.toNat default).n)))) else (if p1.op = 3 then (if y3.2.2 = 1 then (if x1 = y3.1 then (if ((p2.system.vars.getD p1.out_.toNat default).elem) = y3.2.1 then (some (((p2.system.vars.getD p1.out_.toNat default).n) == x2)) else (some false)) else (some false)) else (some false)) else (if p1.op = 4 then (if y3.2.2 = 2 then (if x1 = y3.1 then (if ((p2.system.vars.getD p1.out_.toNat default).elem) = y3.2.1 then (if ((p2.system.vars.getD p1.out_.toNat default).n) = x2 then ((jA p1.a p2).bind fun y4 => some y4) else (some false)) else (some false)) else (some false)) else (some false)) else (if p1.op = 5 then ((iL 98).bind fun y5 => if x1 = ((y5).elem) ∧ x2 = ((y5).n) then (if (0 ≤ 1 ∧ 1 < (p1.a.length : Int)) ∧ (0 ≤ 2 ∧ 2 < (p1.a.length : Int)) then ((fo p2 (lit ([(p1.a.getD 1 default), (p1.a.getD 2 default), p1.out_] : List Int))).bind fun y6 => some y6) else none) else (some false)) else (if p1.op = 6 then (be p1 p2 x1 x2 y3 (p1.op == 6)) else (be p1 p2 x1 x2 y3 (p1.op == 7)))))))
noncomputable def aO (p1 : ae) (p2 : aH) : Option Bool :=
  if (0 ≤ p1.out_ ∧ p1.out_ < (p2.system.vars.length : Int)) then (if (p1.a.length : Int) > 0 then (if (0 ≤ 0 ∧ 0 < (p1.a.length : Int)) ∧ (0 ≤ (p1.a.getD 0 default) ∧ (p1.a.getD 0 default) < (p2.system.vars.length : Int)) then (bf p1 p2 ((p2.system.vars.getD ((p1.a.getD 0 default).toNat) default).elem) ((p2.system.vars.getD ((p1.a.getD 0 default).toNat) default).n)) else none) else (bf p1 p2 0 0)) else none
end Pam

namespace Pam
open Go
noncomputable def eU (p1 : ae) (p2 : aH) (x7 : Int) : Option (Int × Int) :=
  if x7 = 0 then ((aO p1 (aH.mk p2.system x7)).bind fun y8 => (bK (!y8) 10 (aH.mk p2.system x7)).bind fun y9 => some (y9, y9)) else (some (x7, x7))
noncomputable def cl (p2 : aH) (l6 : List Int) (x14 : Int) (x15 : Int) : Option ((Int × Int) ⊕ Int) :=
  if x15 < (l6.length : Int) then (if (0 ≤ x15 ∧ x15 < (l6.length : Int)) then ((gD (l6.getD x15.toNat default) (aH.mk p2.system x14)).bind fun y16 => (bK (!y16) 16 (aH.mk p2.system x14)).bind fun y17 => some (.inl (y17, (IntKind.wrap .i64 (x15 + 1))))) else none) else (some (.inr x14))
noncomputable def dP (p1 : ae) (p2 : aH) (y5 : Int) (l6 : List Int) : Option (Int × Int) :=
  (aT (fun (x14, x15) => cl p2 l6 x14 x15) (y5, 0)).bind (fun z18 => eU p1 p2 z18)
noncomputable def cX (p1 : ae) (p2 : aH) (x4 : Int) : Option (Int × Int) :=
  (bK (decide ((p1.e.length : Int) > 24)) 7 (aH.mk p2.system x4)).bind fun y5 => if ¬ y5 = 0 then (some (y5, y5)) else (if p1.op ≥ 14 then ((mV p1).bind fun y19 => dP p1 p2 y5 y19) else (dP p1 p2 y5 p1.a))
noncomputable def cY (p1 : ae) (p2 : aH) (x3 : Int) : Option (Int × Int) :=
  (mA p1.op).bind fun y20 => if y20 < 0 then ((bK true 4 (aH.mk p2.system x3)).bind fun y21 => cX p1 p2 y21) else ((mA p1.op).bind fun y22 => (bK ((p1.a.length : Int) != y22) 4 (aH.mk p2.system x3)).bind fun y23 => cX p1 p2 y23)
noncomputable def jE (p1 : ae) (p2 : aH) (p3 : List Bool) : Option (Int × Int) :=
  (gD p1.out_ (aH.mk p2.system 0)).bind fun y1 => (bK (!y1) 16 (aH.mk p2.system 0)).bind fun y2 => if y2 = 0 then (if (0 ≤ p1.out_ ∧ p1.out_ < (p3.length : Int)) then ((bK (p3.getD p1.out_.toNat default) 8 (aH.mk p2.system y2)).bind fun y24 => cY p1 p2 y24) else none) else ((bK false 8 (aH.mk p2.system y2)).bind fun y25 => cY p1 p2 y25)
end Pam

namespace Pam
open Go
noncomputable def kN : Option au :=
  some (au.mk 0 0)
noncomputable def jV (p1 : af) (l6 : List Bool) (x9 : Int) : Option (Int ⊕ (Unit ⊕ au)) :=
  if x9 < (p1.out_.length : Int) then (if (0 ≤ x9 ∧ x9 < (p1.out_.length : Int)) then (if (0 ≤ (p1.out_.getD x9.toNat default) ∧ (p1.out_.getD x9.toNat default) < (l6.length : Int)) then (if (l6.getD ((p1.out_.getD x9.toNat default).toNat) default) = true then (some (.inl (IntKind.wrap .i64 (x9 + 1)))) else (some (.inr (.inr (au.mk 9 (-1)))))) else none) else none) else (some (.inr (.inl ())))
noncomputable def jW (p1 : af) (l6 : List Bool) : Option au :=
  (aT (fun x9 => jV p1 l6 x9) 0).bind (Sum.elim (fun _ => kN) (fun z10 => some z10))
noncomputable def jX (x13 : Int) : Option (Int ⊕ (Unit ⊕ au)) :=
  some (.inl (IntKind.wrap .i64 (x13 + 1)))
noncomputable def kO (l6 : List Bool) (x13 : Int) (l14 : List Int) (x17 : Int) : Option (Int ⊕ (Unit ⊕ au)) :=
  if x17 < (l14.length : Int) then (if (0 ≤ x17 ∧ x17 < (l14.length : Int)) then (if (0 ≤ (l14.getD x17.toNat default) ∧ (l14.getD x17.toNat default) < (l6.length : Int)) then (if (l6.getD ((l14.getD x17.toNat default).toNat) default) = true then (some (.inl (IntKind.wrap .i64 (x17 + 1)))) else (some (.inr (.inr (au.mk 9 x13))))) else none) else none) else (some (.inr (.inl ())))
noncomputable def iM (l6 : List Bool) (x13 : Int) (l14 : List Int) : Option (Int ⊕ (Unit ⊕ au)) :=
  (aT (fun x17 => kO l6 x13 l14 x17) 0).bind (Sum.elim (fun _ => jX x13) (fun z18 => some (.inr (.inr z18))))
noncomputable def jY (p1 : af) (l6 : List Bool) (x13 : Int) : Option (Int ⊕ (Unit ⊕ au)) :=
  if x13 < (p1.rules.length : Int) then (if (0 ≤ x13 ∧ x13 < (p1.rules.length : Int)) then (if ((p1.rules.getD x13.toNat default).op) ≥ 14 then ((mV (p1.rules.getD x13.toNat default)).bind fun y19 => iM l6 x13 y19) else (iM l6 x13 ((p1.rules.getD x13.toNat default).a))) else none) else (some (.inr (.inl ())))
noncomputable def iN (p1 : af) (x5 : Int) (l6 : List Bool) : Option au :=
  (aT (fun x13 => jY p1 l6 x13) 0).bind (Sum.elim (fun _ => jW p1 l6) (fun z20 => some z20))
noncomputable def ew (p1 : af) (x30 : Int) (l31 : List Bool) (x32 : Int) : Option ((Int × (List Bool) × Int) ⊕ ((Int × (List Bool)) ⊕ au)) :=
  if x32 < (p1.rules.length : Int) then (if (0 ≤ x32 ∧ x32 < (p1.rules.length : Int)) then ((jE (p1.rules.getD x32.toNat default) (aH.mk p1 x30) l31).bind fun y33 => if ¬ y33.1 = 0 then (some (.inr (.inr (au.mk y33.1 x32)))) else (if (0 ≤ (p1.rules.getD x32.toNat default).out_ ∧ (p1.rules.getD x32.toNat default).out_ < (l31.length : Int)) then (some (.inl (y33.2, (l31.set (((p1.rules.getD x32.toNat default).out_).toNat) true), (IntKind.wrap .i64 (x32 + 1))))) else none)) else none) else (some (.inr (.inl (x30, l31))))
noncomputable def iO (p1 : af) (l3 : List Bool) : Option au :=
  (aT (fun (x30, l31, x32) => ew p1 x30 l31 x32) (0, l3, 0)).bind (Sum.elim (fun (z34, z35) => iN p1 z34 z35) (fun z36 => some z36))
noncomputable def ex (p1 : af) (l44 : List Bool) (x45 : Int) : Option (((List Bool) × Int) ⊕ (List Bool)) :=
  if x45 < (p1.in_.length : Int) then (if (0 ≤ x45 ∧ x45 < (p1.in_.length : Int)) then (if (0 ≤ (p1.in_.getD x45.toNat default) ∧ (p1.in_.getD x45.toNat default) < (l44.length : Int)) then (some (.inl ((l44.set ((p1.in_.getD x45.toNat default).toNat) true), (IntKind.wrap .i64 (x45 + 1))))) else none) else none) else (some (.inr l44))
noncomputable def lu (p1 : af) : Option au :=
  (jz (aH.mk p1 0)).bind fun y1 => if ¬ ((y1).code) = 0 then (some (y1)) else (if (0 ≤ (p1.vars.length : Int) ∧ (p1.vars.length : Int) ≤ (p1.vars.length : Int)) ∧ dy p1.vars.length 1 then ((aT (fun (l44, x45) => ex p1 l44 x45) ((List.replicate p1.vars.length false), 0)).bind (fun z46 => iO p1 z46)) else none)
end Pam

namespace Pam
open Go
noncomputable def fC (p1 : ae) (l1 : List aI) : Option (List Int) :=
  (mV (ae.mk p1.op p1.k p1.out_ p1.n p1.a l1)).bind fun y2 => some y2
noncomputable def fD (p1 : ae) : Option (List Int) :=
  if p1.op < 14 then (fC p1 []) else (fC p1 p1.e)
noncomputable def gJ (p1 : ae) : Option (List Int) :=
  if p1.op = 13 then (if (p1.a.length : Int) = 2 then (if (0 ≤ 0 ∧ 0 < (p1.a.length : Int)) then (some (lit ([(p1.a.getD 0 default)] : List Int))) else none) else (fD p1)) else (fD p1)
end Pam

namespace Pam
open Go
noncomputable def ia (p1 : af) (l2 : List Bool) : Option ((List ak) × (List Int) × (List Int) × (List ae) × (List Bool)) :=
  some (p1.vars, p1.in_, p1.out_, p1.rules, l2)
noncomputable def dQ (p1 : af) (l10 : List Bool) (x11 : Int) : Option (((List Bool) × Int) ⊕ (List Bool)) :=
  if x11 < (p1.in_.length : Int) then (if (0 ≤ x11 ∧ x11 < (p1.in_.length : Int)) then (if (0 ≤ (p1.in_.getD x11.toNat default) ∧ (p1.in_.getD x11.toNat default) < (l10.length : Int)) then (some (.inl ((l10.set ((p1.in_.getD x11.toNat default).toNat) true), (IntKind.wrap .i64 (x11 + 1))))) else none) else none) else (some (.inr l10))
noncomputable def jF (p1 : af) : Option ((List ak) × (List Int) × (List Int) × (List ae) × (List Bool)) :=
  if (0 ≤ (p1.vars.length : Int) ∧ (p1.vars.length : Int) ≤ (p1.vars.length : Int)) ∧ dy p1.vars.length 1 then ((aT (fun (l10, x11) => dQ p1 l10 x11) ((List.replicate p1.vars.length false), 0)).bind (fun z12 => ia p1 z12)) else none
end Pam

namespace Pam
open Go
noncomputable def gK (p1 : Int) (p2 : List ak) (p3 : List Int) (p4 : List Int) (p5 : List ae) (p6 : List Bool) : Option Bool :=
  if (0 ≤ p1 ∧ p1 < (p6.length : Int)) then (some (!(p6.getD p1.toNat default))) else none
end Pam

namespace Pam
open Go
noncomputable def cL : Option Int :=
  some (-1)
noncomputable def cM (p1 : List Int) (p2 : List ak) (p3 : List Int) (p4 : List Int) (p5 : List ae) (p6 : List Bool) (x3 : Int) : Option (Int ⊕ (Unit ⊕ Int)) :=
  if x3 < (p1.length : Int) then (if (0 ≤ x3 ∧ x3 < (p1.length : Int)) then ((gK (p1.getD x3.toNat default) p2 p3 p4 p5 p6).bind fun y4 => if y4 = true then (some (.inr (.inr x3))) else (some (.inl (IntKind.wrap .i64 (x3 + 1))))) else none) else (some (.inr (.inl ())))
noncomputable def ey (p1 : List Int) (p2 : List ak) (p3 : List Int) (p4 : List Int) (p5 : List ae) (p6 : List Bool) : Option Int :=
  (aT (fun x3 => cM p1 p2 p3 p4 p5 p6 x3) 0).bind (Sum.elim (fun _ => cL) (fun z5 => some z5))
end Pam

namespace Pam
open Go
noncomputable def dx (p1 : List Int) (p2 : List ak) (p3 : List Int) (p4 : List Int) (p5 : List ae) (p6 : List Bool) : Option Bool :=
  (ey p1 p2 p3 p4 p5 p6).bind fun y1 => some (decide (y1 ≥ 0))
end Pam

namespace Pam
open Go
noncomputable def dq (p1 : ae) (p2 : List ak) (p3 : List Int) (p4 : List Int) (p5 : List ae) (p6 : List Bool) : Option Bool :=
  (gJ p1).bind fun y1 => (dx y1 p2 p3 p4 p5 p6).bind fun y2 => some (!y2)
end Pam

namespace Pam
open Go
noncomputable def gc (l3 : List Bool) : Option Bool :=
  some true
noncomputable def di (p1 : af) (y1 : ((List ak) × (List Int) × (List Int) × (List ae) × (List Bool))) (l11 : List Bool) (x12 : Int) : Option (((List Bool) × Int) ⊕ ((List Bool) ⊕ Bool)) :=
  if x12 < (p1.rules.length : Int) then (if (0 ≤ x12 ∧ x12 < (p1.rules.length : Int)) then ((dq (p1.rules.getD x12.toNat default) y1.1 y1.2.1 y1.2.2.1 y1.2.2.2.1 l11).bind fun y13 => if y13 = true then (if (0 ≤ (p1.rules.getD x12.toNat default).out_ ∧ (p1.rules.getD x12.toNat default).out_ < (l11.length : Int)) then (some (.inl ((l11.set (((p1.rules.getD x12.toNat default).out_).toNat) true), (IntKind.wrap .i64 (x12 + 1))))) else none) else (some (.inr (.inr false)))) else none) else (some (.inr (.inl l11)))
noncomputable def iP (p1 : af) : Option Bool :=
  (jF p1).bind fun y1 => (aT (fun (l11, x12) => di p1 y1 l11 x12) (y1.2.2.2.2, 0)).bind (Sum.elim (fun z14 => gc z14) (fun z15 => some z15))
end Pam

namespace Pam
open Go
noncomputable def iS (p1 : ae) : Option (List Int) :=
  (mT p1).bind fun y1 => some y1
noncomputable def ji (p1 : ae) : Option (List Int) :=
  if p1.op = 13 then (if (p1.a.length : Int) = 2 then (if (0 ≤ 0 ∧ 0 < (p1.a.length : Int)) then (some (lit ([(p1.a.getD 0 default)] : List Int))) else none) else (iS p1)) else (iS p1)
end Pam

namespace Pam
open Go
noncomputable def kR : Option Bool :=
  some true
noncomputable def j0 (x4 : Int) : Option (Int ⊕ (Unit ⊕ Bool)) :=
  some (.inl (IntKind.wrap .i64 (x4 + 1)))
noncomputable def fa (x4 : Int) (b6 : Bool) : Option (Int ⊕ (Unit ⊕ Bool)) :=
  if b6 = true then (j0 x4) else (some (.inr (.inr false)))
noncomputable def cb (p1 : af) (p3 : List Int) (y1 : (List Int)) (x4 : Int) (b11 : Bool) (x12 : Int) : Option ((Bool × Int) ⊕ Bool) :=
  if x12 < (p3.length : Int) then (if b11 = true then (some (.inl (true, (IntKind.wrap .i64 (x12 + 1))))) else (if (0 ≤ x12 ∧ x12 < (p3.length : Int)) ∧ (0 ≤ (p3.getD x12.toNat default) ∧ (p3.getD x12.toNat default) < (p1.rules.length : Int)) then (some (.inl ((((p1.rules.getD ((p3.getD x12.toNat default).toNat) default).out_) == (y1.getD x4.toNat default)), (IntKind.wrap .i64 (x12 + 1))))) else none)) else (some (.inr b11))
noncomputable def iT (p1 : af) (p3 : List Int) (y1 : (List Int)) (x4 : Int) : Option (Int ⊕ (Unit ⊕ Bool)) :=
  if x4 < (y1.length : Int) then (if (0 ≤ x4 ∧ x4 < (y1.length : Int)) then ((hY p1.in_ (y1.getD x4.toNat default)).bind fun y5 => (aT (fun (b11, x12) => cb p1 p3 y1 x4 b11 x12) (y5, 0)).bind (fun z13 => fa x4 z13)) else none) else (some (.inr (.inl ())))
noncomputable def kC (p1 : af) (p2 : ae) (p3 : List Int) : Option Bool :=
  (ji p2).bind fun y1 => (aT (fun x4 => iT p1 p3 y1 x4) 0).bind (Sum.elim (fun _ => kR) (fun z14 => some z14))
end Pam

namespace Pam
open Go
noncomputable def gf : Option Bool :=
  some true
noncomputable def dj (p1 : af) (l13 : List Int) (x15 : Int) : Option (((List Int) × Int) ⊕ (Unit ⊕ Bool)) :=
  if x15 < (p1.rules.length : Int) then (if (0 ≤ x15 ∧ x15 < (p1.rules.length : Int)) then ((kC p1 (p1.rules.getD x15.toNat default) l13).bind fun y16 => if y16 = true then (if dy (l13.length + 1) 8 then (some (.inl ((l13 ++ (lit ([x15] : List Int))), (IntKind.wrap .i64 (x15 + 1))))) else none) else (some (.inr (.inr false)))) else none) else (some (.inr (.inl ())))
noncomputable def j4 (p1 : af) : Option Bool :=
  (aT (fun (l13, x15) => dj p1 l13 x15) ([], 0)).bind (Sum.elim (fun _ => gf) (fun z17 => some z17))
end Pam

namespace Pam
open Go
noncomputable def i7 : Option Bool :=
  some true
noncomputable def i8 (p1 : List Int) (p2 : List Int) (x3 : Int) : Option (Int ⊕ (Unit ⊕ Bool)) :=
  if x3 < (p1.length : Int) then (if (0 ≤ x3 ∧ x3 < (p1.length : Int)) ∧ (0 ≤ x3 ∧ x3 < (p2.length : Int)) then (if ¬ (p1.getD x3.toNat default) = (p2.getD x3.toNat default) then (some (.inr (.inr false))) else (some (.inl (IntKind.wrap .i64 (x3 + 1))))) else none) else (some (.inr (.inl ())))
noncomputable def eC (p1 : List Int) (p2 : List Int) : Option Bool :=
  if ¬ (p1.length : Int) = (p2.length : Int) then (some false) else ((aT (fun x3 => i8 p1 p2 x3) 0).bind (Sum.elim (fun _ => i7) (fun z4 => some z4)))
end Pam

namespace Pam
open Go
noncomputable def i9 : Option Bool :=
  some true
noncomputable def ja (p1 : List aI) (p2 : List aI) (x3 : Int) : Option (Int ⊕ (Unit ⊕ Bool)) :=
  if x3 < (p1.length : Int) then (if (0 ≤ x3 ∧ x3 < (p1.length : Int)) ∧ (0 ≤ x3 ∧ x3 < (p2.length : Int)) then (if ((p1.getD x3.toNat default).op) = ((p2.getD x3.toNat default).op) ∧ ((p1.getD x3.toNat default).k) = ((p2.getD x3.toNat default).k) ∧ ((p1.getD x3.toNat default).v) = ((p2.getD x3.toNat default).v) ∧ ((p1.getD x3.toNat default).n) = ((p2.getD x3.toNat default).n) then (some (.inl (IntKind.wrap .i64 (x3 + 1)))) else (some (.inr (.inr false)))) else none) else (some (.inr (.inl ())))
noncomputable def kS (p1 : List aI) (p2 : List aI) : Option Bool :=
  if ¬ (p1.length : Int) = (p2.length : Int) then (some false) else ((aT (fun x3 => ja p1 p2 x3) 0).bind (Sum.elim (fun _ => i9) (fun z4 => some z4)))
end Pam

namespace Pam
open Go
noncomputable def fb (p1 : ae) (p2 : ae) : Option Bool :=
  if p1.op = p2.op then (if p1.k = p2.k then (if p1.out_ = p2.out_ then (if p1.n = p2.n then ((eC p1.a p2.a).bind fun y1 => if y1 = true then ((kS p1.e p2.e).bind fun y2 => some y2) else (some false)) else (some false)) else (some false)) else (some false)) else (some false)
end Pam

namespace Pam
open Go
noncomputable def gL : Option Bool :=
  some true
noncomputable def gM (p1 : af) (p2 : af) (x5 : Int) : Option (Int ⊕ (Unit ⊕ Bool)) :=
  if x5 < (p1.rules.length : Int) then (if (0 ≤ x5 ∧ x5 < (p1.rules.length : Int)) ∧ (0 ≤ x5 ∧ x5 < (p2.rules.length : Int)) then ((fb (p1.rules.getD x5.toNat default) (p2.rules.getD x5.toNat default)).bind fun y6 => if y6 = true then (some (.inl (IntKind.wrap .i64 (x5 + 1)))) else (some (.inr (.inr false)))) else none) else (some (.inr (.inl ())))
noncomputable def eV (p1 : af) (p2 : af) : Option Bool :=
  (aT (fun x5 => gM p1 p2 x5) 0).bind (Sum.elim (fun _ => gL) (fun z7 => some z7))
noncomputable def gN (p1 : af) (p2 : af) (x10 : Int) : Option (Int ⊕ (Unit ⊕ Bool)) :=
  if x10 < (p1.vars.length : Int) then (if (0 ≤ x10 ∧ x10 < (p1.vars.length : Int)) ∧ (0 ≤ x10 ∧ x10 < (p2.vars.length : Int)) then (if ((p1.vars.getD x10.toNat default).elem) = ((p2.vars.getD x10.toNat default).elem) ∧ ((p1.vars.getD x10.toNat default).n) = ((p2.vars.getD x10.toNat default).n) then (some (.inl (IntKind.wrap .i64 (x10 + 1)))) else (some (.inr (.inr false)))) else none) else (some (.inr (.inl ())))
noncomputable def c9 (p1 : af) (p2 : af) : Option Bool :=
  if ¬ (p1.vars.length : Int) = (p2.vars.length : Int) then (some false) else (if ¬ (p1.rules.length : Int) = (p2.rules.length : Int) then (some false) else ((eC p1.in_ p2.in_).bind fun y1 => if y1 = true then ((eC p1.out_ p2.out_).bind fun y2 => if y2 = true then ((aT (fun x10 => gN p1 p2 x10) 0).bind (Sum.elim (fun _ => eV p1 p2) (fun z11 => some z11))) else (some false)) else (some false)))
end Pam
