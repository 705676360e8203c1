/- what slices_Clone_int_int computes, read off the program by a program of ours -/
import Derived.Test.YthafkijdkbmdgaaMabData1
import Derived.Test.YthafkijdkbmdgaaMBase3
set_option linter.all false
namespace Pam
open Go
noncomputable def bJ (p1 : List Int) : Option (List Int) :=
  if p1 = [] then (some []) else (if dt p1.length 8 then (some p1) else none)
noncomputable def fP (p1 : Int) (p2 : ax) : Option Bool :=
  if p1 ≥ 0 then (some (decide (p1 < (p2.system.vars.length : Int)))) else (some false)
noncomputable def dC : Option Int :=
  some (-1)
noncomputable def dD (p1 : List Int) (p2 : Int) (x3 : Int) : Option (Int ⊕ (Unit ⊕ Int)) :=
  if x3 < (p1.length : Int) then (if (0 ≤ x3 ∧ x3 < (p1.length : Int)) then (if p2 = (p1.getD x3.toNat default) then (some (.inr (.inr x3))) else (some (.inl (IntKind.wrap .i64 (x3 + 1))))) else none) else (some (.inr (.inl ())))
noncomputable def eA (p1 : List Int) (p2 : Int) : Option Int :=
  (bb (fun x3 => dD p1 p2 x3) 0).bind (Sum.elim (fun _ => dC) (fun z4 => some z4))
noncomputable def dE (p1 : List Int) (p2 : Int) : Option Bool :=
  (eA p1 p2).bind fun y1 => some (decide (y1 ≥ 0))
noncomputable def fQ : Option av :=
  some (av.mk 0 0)
noncomputable def fR (p1 : ax) (x3 : Int) : Option (Int ⊕ (Unit ⊕ av)) :=
  if x3 < (p1.system.out_.length : Int) then (if (0 ≤ x3 ∧ x3 < (p1.system.out_.length : Int)) then ((fP (p1.system.out_.getD x3.toNat default) p1).bind fun y4 => if y4 = true then (some (.inl (IntKind.wrap .i64 (x3 + 1)))) else (some (.inr (.inr (av.mk 16 (-1)))))) else none) else (some (.inr (.inl ())))
noncomputable def dN (p1 : ax) : Option av :=
  (bb (fun x3 => fR p1 x3) 0).bind (Sum.elim (fun _ => fQ) (fun z5 => some z5))
noncomputable def fS (p1 : ax) (x8 : Int) : Option (Int ⊕ (Unit ⊕ av)) :=
  if x8 < (p1.system.in_.length : Int) then (if (0 ≤ x8 ∧ x8 < (p1.system.in_.length : Int)) then ((fP (p1.system.in_.getD x8.toNat default) p1).bind fun y9 => if y9 = true then (if (0 ≤ x8 ∧ x8 ≤ (p1.system.in_.length : Int)) then ((dE (p1.system.in_.take x8.toNat) (p1.system.in_.getD x8.toNat default)).bind fun y10 => if y10 = true then (some (.inr (.inr (av.mk 8 (-1))))) else (some (.inl (IntKind.wrap .i64 (x8 + 1))))) else none) else (some (.inr (.inr (av.mk 16 (-1)))))) else none) else (some (.inr (.inl ())))
noncomputable def dg (p1 : ax) : Option av :=
  (bb (fun x8 => fS p1 x8) 0).bind (Sum.elim (fun _ => dN p1) (fun z11 => some z11))
noncomputable def dO (p1 : ax) (x14 : Int) : Option (Int ⊕ (Unit ⊕ av)) :=
  if ((p1.system.vars.getD x14.toNat default).n) < 0 then (some (.inr (.inr (av.mk 13 (IntKind.wrap .i64 ((-2) - x14)))))) else (if ((p1.system.vars.getD x14.toNat default).n) > 300 then (some (.inr (.inr (av.mk 13 (IntKind.wrap .i64 ((-2) - x14)))))) else (some (.inl (IntKind.wrap .i64 (x14 + 1)))))
noncomputable def eH (p1 : ax) (x14 : Int) : Option (Int ⊕ (Unit ⊕ av)) :=
  if x14 < (p1.system.vars.length : Int) then (if (0 ≤ x14 ∧ x14 < (p1.system.vars.length : Int)) then (if ¬ ((p1.system.vars.getD x14.toNat default).elem) = 105 then (if ¬ ((p1.system.vars.getD x14.toNat default).elem) = 98 then (some (.inr (.inr (av.mk 10 (IntKind.wrap .i64 ((-2) - x14)))))) else (dO p1 x14)) else (dO p1 x14)) else none) else (some (.inr (.inl ())))
noncomputable def iD (p1 : ax) : Option av :=
  if (p1.system.vars.length : Int) > 400 then (some (av.mk 7 (-1))) else (if (p1.system.rules.length : Int) > 400 then (some (av.mk 7 (-1))) else (if (p1.system.in_.length : Int) > 400 then (some (av.mk 7 (-1))) else (if (p1.system.out_.length : Int) > 400 then (some (av.mk 7 (-1))) else ((bb (fun x14 => eH p1 x14) 0).bind (Sum.elim (fun _ => dg p1) (fun z15 => some z15))))))
noncomputable def eZ (p1 : List Int) : Option (List Int) :=
  if p1.length ≤ 140737488355328 then some (nc p1) else none
noncomputable def dP (p0 : Nat) (p1 : List Int) : Option (List Int) :=
  if p0 = p1.length ∧ p1.length ≤ 140737488355328 then some (Go.Lib.compact p1) else none
noncomputable def jv (l4 : List Int) : Option (List Int) :=
  (eZ l4).bind fun y6 => (dP l4.length y6).bind fun y7 => some y7
noncomputable def gV (p1 : ab) (l20 : List Int) (x22 : Int) (b25 : Bool) : Option (((List Int) × Int) ⊕ (List Int)) :=
  if b25 = true then (if dt (l20.length + 1) 8 then (some (.inl ((l20 ++ (lit ([(p1.e.getD x22.toNat default).v] : List Int))), (IntKind.wrap .i64 (x22 + 1))))) else none) else (some (.inl (l20, (IntKind.wrap .i64 (x22 + 1)))))
noncomputable def fT (p1 : ab) (l20 : List Int) (x22 : Int) : Option (((List Int) × Int) ⊕ (List Int)) :=
  if x22 < (p1.e.length : Int) then (if (0 ≤ x22 ∧ x22 < (p1.e.length : Int)) then (if ((p1.e.getD x22.toNat default).op) = 2 then (gV p1 l20 x22 (((p1.e.getD x22.toNat default).op) == 2)) else (if ((p1.e.getD x22.toNat default).op) = 3 then (gV p1 l20 x22 (((p1.e.getD x22.toNat default).op) == 3)) else (gV p1 l20 x22 (((p1.e.getD x22.toNat default).op) == 8)))) else none) else (some (.inr l20))
noncomputable def lh (p1 : ab) : Option (List Int) :=
  (bJ p1.a).bind fun y1 => (bb (fun (l20, x22) => fT p1 l20 x22) (y1, 0)).bind (fun z26 => jv z26)
noncomputable def bD (p1 : Bool) (p2 : Int) (p3 : ax) : Option Int :=
  if p1 = true then (if p3.code = 0 then (some p2) else (some p3.code)) else (some p3.code)
noncomputable def kM (p1 : Int) : Option Int :=
  if p1 < 1 then (some (-1)) else (if p1 > 16 then (some (-1)) else (if (0 ≤ p1 ∧ p1 < (17 : Int)) then (some ((lit ([0, 0, 1, 1, 2, 3, 2, 2, 1, 3, 3, 1, 2, 2, 0, 1, 1] : List Int)).getD p1.toNat 0)) else none))
noncomputable def kf (p1 : Int) : Option (Int × Int × Int) :=
  if p1 ≥ 1 then (if p1 ≤ 7 then (some (105, 105, 2)) else (if p1 = 8 then (some (105, 98, 2)) else (if p1 = 9 then (some (105, 98, 2)) else (if p1 ≥ 10 then (if p1 ≤ 12 then (some (98, 98, 2)) else (if p1 = 13 then (some (105, 105, 1)) else (if p1 = 14 then (some (98, 98, 1)) else (some (0, 0, 0))))) else (if p1 = 13 then (some (105, 105, 1)) else (if p1 = 14 then (some (98, 98, 1)) else (some (0, 0, 0)))))))) else (if p1 = 8 then (some (105, 98, 2)) else (if p1 = 9 then (some (105, 98, 2)) else (if p1 ≥ 10 then (if p1 ≤ 12 then (some (98, 98, 2)) else (if p1 = 13 then (some (105, 105, 1)) else (if p1 = 14 then (some (98, 98, 1)) else (some (0, 0, 0))))) else (if p1 = 13 then (some (105, 105, 1)) else (if p1 = 14 then (some (98, 98, 1)) else (some (0, 0, 0)))))))
noncomputable def fU : Option Bool :=
  some true
noncomputable def fV (p1 : List Int) (p2 : ax) (x3 : Int) : Option (Int ⊕ (Unit ⊕ Bool)) :=
  if x3 < (p1.length : Int) then (if (0 ≤ x3 ∧ x3 < (p1.length : Int)) then (if (0 ≤ (p1.getD x3.toNat default) ∧ (p1.getD x3.toNat default) < (p2.system.vars.length : Int)) ∧ (0 ≤ 0 ∧ 0 < (p1.length : Int)) ∧ (0 ≤ (p1.getD 0 default) ∧ (p1.getD 0 default) < (p2.system.vars.length : Int)) then (if ((p2.system.vars.getD ((p1.getD x3.toNat default).toNat) default).elem) = ((p2.system.vars.getD ((p1.getD 0 default).toNat) default).elem) ∧ ((p2.system.vars.getD ((p1.getD x3.toNat default).toNat) default).n) = ((p2.system.vars.getD ((p1.getD 0 default).toNat) default).n) then (some (.inl (IntKind.wrap .i64 (x3 + 1)))) else (some (.inr (.inr false)))) else none) else none) else (some (.inr (.inl ())))
noncomputable def iE (p1 : List Int) (p2 : ax) : Option Bool :=
  (bb (fun x3 => fV p1 p2 x3) 0).bind (Sum.elim (fun _ => fU) (fun z4 => some z4))
noncomputable def hN (p1 : Int) : Option ah :=
  some (ah.mk p1 0)
noncomputable def e7 : Option Bool :=
  some true
noncomputable def e8 (p1 : ax) (p2 : List Int) (x3 : Int) : Option (Int ⊕ (Unit ⊕ Bool)) :=
  if x3 < (p2.length : Int) then (if (0 ≤ x3 ∧ x3 < (p2.length : Int)) then (if (0 ≤ (p2.getD x3.toNat default) ∧ (p2.getD x3.toNat default) < (p1.system.vars.length : Int)) ∧ (0 ≤ 0 ∧ 0 < (p2.length : Int)) ∧ (0 ≤ (p2.getD 0 default) ∧ (p2.getD 0 default) < (p1.system.vars.length : Int)) then (if ((p1.system.vars.getD ((p2.getD x3.toNat default).toNat) default).elem) = ((p1.system.vars.getD ((p2.getD 0 default).toNat) default).elem) ∧ ((p1.system.vars.getD ((p2.getD x3.toNat default).toNat) default).n) = ((p1.system.vars.getD ((p2.getD 0 default).toNat) default).n) then (some (.inl (IntKind.wrap .i64 (x3 + 1)))) else (some (.inr (.inr false)))) else none) else none) else (some (.inr (.inl ())))
noncomputable def fh (p1 : ax) (p2 : List Int) : Option Bool :=
  (bb (fun x3 => e8 p1 p2 x3) 0).bind (Sum.elim (fun _ => e7) (fun z4 => some z4))
noncomputable def iF (p1 : Int) : Option Bool :=
  (kf p1).bind fun y1 => if y1.2.2 = 2 then (some (y1.1 == y1.2.1)) else (some false)
noncomputable def iG (p1 : Int) (p2 : ax) : Option (ah × Bool) :=
  if (0 ≤ p1 ∧ p1 < (p2.system.vars.length : Int)) then ((hN ((p2.system.vars.getD p1.toNat default).elem)).bind fun y1 => some ((y1), decide (((p2.system.vars.getD p1.toNat default).n) > 0))) else none
noncomputable def bt (p1 : Int) (p2 : List Int) : Option Int :=
  if p1 > (p2.length : Int) then (some 0) else (if (0 ≤ (IntKind.wrap .i64 ((p2.length : Int) - p1)) ∧ (IntKind.wrap .i64 ((p2.length : Int) - p1)) < (p2.length : Int)) then (some (p2.getD ((IntKind.wrap .i64 ((p2.length : Int) - p1)).toNat) default)) else none)
noncomputable def bQ (p1 : aq) (p3 : ax) (p4 : List Int) (b1 : Bool) : Option (Int × Int × Bool) :=
  if b1 = true then ((kf p1.k).bind fun y2 => if y2.2.2 = (IntKind.wrap .i64 ((IntKind.wrap .i64 (p1.op - 5)) + 1)) then ((bt 1 p4).bind fun y3 => if y3 = y2.1 then (if y2.2.2 = 1 then (some (y2.2.2, y2.2.1, true)) else ((bt 2 p4).bind fun y4 => some (y2.2.2, y2.2.1, (y4 == y2.1)))) else (some (y2.2.2, y2.2.1, false))) else (some (y2.2.2, y2.2.1, false))) else (if p1.op = 7 then ((bt 1 p4).bind fun y5 => (bt 3 p4).bind fun y6 => if y6 = 98 then ((bt 1 p4).bind fun y7 => (bt 2 p4).bind fun y8 => if y7 = y8 then ((bt 1 p4).bind fun y9 => some (3, y5, (y9 != 0))) else (some (3, y5, false))) else (some (3, y5, false))) else (if p1.op = 8 then (if (0 ≤ p1.v ∧ p1.v < (p3.system.vars.length : Int)) then (if ((p3.system.vars.getD p1.v.toNat default).n) > 0 then ((bt 1 p4).bind fun y10 => if y10 = ((p3.system.vars.getD p1.v.toNat default).elem) then ((bt 2 p4).bind fun y11 => some (2, (p3.system.vars.getD p1.v.toNat default).elem, (y11 == 105))) else (some (2, (p3.system.vars.getD p1.v.toNat default).elem, false))) else (some (2, (p3.system.vars.getD p1.v.toNat default).elem, false))) else none) else (some (0, 0, false))))
noncomputable def aI (p1 : aq) (p2 : Int) (p3 : ax) (p4 : List Int) : Option (Int × Int × Bool) :=
  if p1.op = 1 then (if p1.k = 1 then (if p1.n = 0 then (some (0, 98, true)) else (some (0, 98, (p1.n == 1)))) else (some (0, 105, (p1.k == 0)))) else (if p1.op = 2 then (if (0 ≤ p1.v ∧ p1.v < (p3.system.vars.length : Int)) then (some (0, (p3.system.vars.getD p1.v.toNat default).elem, (((p3.system.vars.getD p1.v.toNat default).n) == 0))) else none) else (if p1.op = 3 then (if (0 ≤ p1.v ∧ p1.v < (p3.system.vars.length : Int)) then (if ((p3.system.vars.getD p1.v.toNat default).n) > 0 then (if p1.n ≥ 0 then (some (0, (p3.system.vars.getD p1.v.toNat default).elem, decide (p1.n ≤ (IntKind.wrap .i64 (((p3.system.vars.getD p1.v.toNat default).n) - p2))))) else (some (0, (p3.system.vars.getD p1.v.toNat default).elem, false))) else (some (0, (p3.system.vars.getD p1.v.toNat default).elem, false))) else none) else (if p1.op = 4 then (if p1.n ≥ (-1000000) then (some (0, 105, decide (p1.n ≤ 1000000))) else (some (0, 105, false))) else (if p1.op = 5 then (bQ p1 p3 p4 (p1.op == 5)) else (bQ p1 p3 p4 (p1.op == 6))))))
noncomputable def cF (l3 : List Int) : Option (Int × Bool) :=
  if ¬ (l3.length : Int) = 1 then (some (0, false)) else (if (0 ≤ 0 ∧ 0 < (l3.length : Int)) then (some ((l3.getD 0 default), true)) else none)
noncomputable def bk (p1 : List aq) (p2 : Int) (p3 : ax) (l17 : List Int) (x19 : Int) : Option (((List Int) × Int) ⊕ ((List Int) ⊕ (Int × Bool))) :=
  if x19 < (p1.length : Int) then (if (0 ≤ x19 ∧ x19 < (p1.length : Int)) then ((aI (p1.getD x19.toNat default) p2 p3 l17).bind fun y20 => if y20.2.2 = true then (if (l17.length : Int) < y20.1 then (some (.inr (.inr (0, false)))) else (if (0 ≤ (IntKind.wrap .i64 ((l17.length : Int) - y20.1)) ∧ (IntKind.wrap .i64 ((l17.length : Int) - y20.1)) ≤ (l17.length : Int)) ∧ dt (((IntKind.wrap .i64 ((l17.length : Int) - y20.1)).toNat) + 1) 1 then (some (.inl (((l17.take ((IntKind.wrap .i64 ((l17.length : Int) - y20.1)).toNat)) ++ (lit ([y20.2.1] : List Int))), (IntKind.wrap .i64 (x19 + 1))))) else none)) else (some (.inr (.inr (0, false))))) else none) else (some (.inr (.inl l17)))
noncomputable def iH (p1 : List aq) (p2 : Int) (p3 : ax) : Option (Int × Bool) :=
  (bb (fun (l17, x19) => bk p1 p2 p3 l17 x19) ([], 0)).bind (Sum.elim (fun z21 => cF z21) (fun z22 => some z22))
noncomputable def dQ (p1 : ab) (p2 : ah) (p4 : ax) (x1 : Int) : Option Bool :=
  (iH p1.e x1 p4).bind fun y3 => if y3.2 = true then (some (y3.1 == p2.elem)) else (some false)
noncomputable def cG (p1 : ab) (p2 : ah) (p4 : ax) (x1 : Int) : Option Bool :=
  (kf p1.k).bind fun y2 => if ¬ p1.op = 14 then (if ¬ y2.1 = p2.elem then (some false) else (dQ p1 p2 p4 x1)) else (dQ p1 p2 p4 x1)
noncomputable def gG (p1 : ab) (p2 : ah) (p3 : ah) (p4 : ax) : Option Bool :=
  if p1.op = 15 then (if p1.n < 1 then (some false) else (if p1.n > 300 then (some false) else ((iF p1.k).bind fun y4 => if y4 = true then (if p3.elem = p2.elem ∧ p3.n = p2.n then (if p2.n > 0 then (some false) else (cG p1 p2 p4 p1.n)) else (some false)) else (some false)))) else (if p1.op = 16 then ((iF p1.k).bind fun y5 => if y5 = true then (if p2.n = 0 then (some false) else ((hN p2.elem).bind fun y6 => if p3.elem = ((y6).elem) ∧ p3.n = ((y6).n) then (cG p1 p2 p4 (if 1 > p2.n then 1 else p2.n)) else (some false))) else (some false)) else (cG p1 p2 p4 (if 1 > p2.n then 1 else p2.n)))
noncomputable def aR (p1 : ab) (p2 : ax) (x1 : Int) (x2 : Int) (b10 : Bool) : Option Bool :=
  if b10 = true then (if (0 ≤ 0 ∧ 0 < (p1.a.length : Int)) then ((iG (p1.a.getD 0 default) p2).bind fun y11 => if y11.2 = true then (if (0 ≤ 1 ∧ 1 < (p1.a.length : Int)) ∧ (0 ≤ (p1.a.getD 1 default) ∧ (p1.a.getD 1 default) < (p2.system.vars.length : Int)) then ((hN 105).bind fun y12 => if ((p2.system.vars.getD ((p1.a.getD 1 default).toNat) default).elem) = ((y12).elem) ∧ ((p2.system.vars.getD ((p1.a.getD 1 default).toNat) default).n) = ((y12).n) then (if (0 ≤ 2 ∧ 2 < (p1.a.length : Int)) ∧ (0 ≤ (p1.a.getD 2 default) ∧ (p1.a.getD 2 default) < (p2.system.vars.length : Int)) then (if ((p2.system.vars.getD ((p1.a.getD 2 default).toNat) default).elem) = ((y11.1).elem) ∧ ((p2.system.vars.getD ((p1.a.getD 2 default).toNat) default).n) = ((y11.1).n) then (if p1.op = 9 then (if ((p2.system.vars.getD p1.out_.toNat default).elem) = ((y11.1).elem) ∧ ((p2.system.vars.getD p1.out_.toNat default).n) = ((y11.1).n) then (some true) else (if p1.op = 10 then (some ((((p2.system.vars.getD p1.out_.toNat default).elem) == x1) && (((p2.system.vars.getD p1.out_.toNat default).n) == x2))) else (some false))) else (if p1.op = 10 then (some ((((p2.system.vars.getD p1.out_.toNat default).elem) == x1) && (((p2.system.vars.getD p1.out_.toNat default).n) == x2))) else (some false))) else (some false)) else none) else (some false)) else none) else (some false)) else none) else (if p1.op = 11 then (if x2 > 0 then (if ((p2.system.vars.getD p1.out_.toNat default).n) > 0 then (if x1 = ((p2.system.vars.getD p1.out_.toNat default).elem) then (if p1.n ≥ 0 then (some (decide (p1.n ≤ (IntKind.wrap .i64 (x2 - ((p2.system.vars.getD p1.out_.toNat default).n)))))) else (some false)) else (some false)) else (some false)) else (some false)) else (if p1.op = 12 then (if (0 ≤ 1 ∧ 1 < (p1.a.length : Int)) ∧ (0 ≤ (p1.a.getD 1 default) ∧ (p1.a.getD 1 default) < (p2.system.vars.length : Int)) then (if x2 > 0 then (if ((p2.system.vars.getD ((p1.a.getD 1 default).toNat) default).n) > 0 then (if x1 = ((p2.system.vars.getD ((p1.a.getD 1 default).toNat) default).elem) then (some ((((p2.system.vars.getD p1.out_.toNat default).elem) == x1) && (((p2.system.vars.getD p1.out_.toNat default).n) == (IntKind.wrap .i64 (x2 + ((p2.system.vars.getD ((p1.a.getD 1 default).toNat) default).n)))))) else (some false)) else (some false)) else (some false)) else none) else (if p1.op = 13 then (if (0 ≤ 0 ∧ 0 < (p1.a.length : Int)) ∧ (0 ≤ 1 ∧ 1 < (p1.a.length : Int)) then ((fh p2 (lit ([(p1.a.getD 0 default), (p1.a.getD 1 default), p1.out_] : List Int))).bind fun y13 => some y13) else none) else ((gG p1 (p2.system.vars.getD p1.out_.toNat default) (ah.mk x1 x2) p2).bind fun y14 => some y14))))
noncomputable def aS (p1 : ab) (p2 : ax) (x1 : Int) (x2 : Int) (y3 : (Int × Int × Int)) (b7 : Bool) : Option Bool :=
  if b7 = true then (if (0 ≤ 1 ∧ 1 < (p1.a.length : Int)) ∧ (0 ≤ (p1.a.getD 1 default) ∧ (p1.a.getD 1 default) < (p2.system.vars.length : Int)) then ((iF p1.k).bind fun y8 => if y8 = true then ((hN y3.1).bind fun y9 => if x1 = ((y9).elem) ∧ x2 = ((y9).n) then (if ((p2.system.vars.getD ((p1.a.getD 1 default).toNat) default).n) > 0 then (if ((p2.system.vars.getD ((p1.a.getD 1 default).toNat) default).elem) = y3.1 then (if p1.op = 6 then (if ((p2.system.vars.getD p1.out_.toNat default).elem) = x1 ∧ ((p2.system.vars.getD p1.out_.toNat default).n) = x2 then (some true) else (if p1.op = 7 then (some ((((p2.system.vars.getD p1.out_.toNat default).elem) == ((p2.system.vars.getD ((p1.a.getD 1 default).toNat) default).elem)) && (((p2.system.vars.getD p1.out_.toNat default).n) == ((p2.system.vars.getD ((p1.a.getD 1 default).toNat) default).n)))) else (some false))) else (if p1.op = 7 then (some ((((p2.system.vars.getD p1.out_.toNat default).elem) == ((p2.system.vars.getD ((p1.a.getD 1 default).toNat) default).elem)) && (((p2.system.vars.getD p1.out_.toNat default).n) == ((p2.system.vars.getD ((p1.a.getD 1 default).toNat) default).n)))) else (some false))) else (some false)) else (some false)) else (some false)) else (some false)) else none) else (if p1.op = 8 then (if x2 = 0 then (if ((p2.system.vars.getD p1.out_.toNat default).n) > 0 then (some (((p2.system.vars.getD p1.out_.toNat default).elem) == x1)) else (some false)) else (some false)) else (if p1.op = 9 then (aR p1 p2 x1 x2 (p1.op == 9)) else (aR p1 p2 x1 x2 (p1.op == 10))))
noncomputable def aT (p1 : ab) (p2 : ax) (x1 : Int) (x2 : Int) : Option Bool :=
  (kf p1.k).bind fun y3 => if p1.op = 1 then (if ((p2.system.vars.getD p1.out_.toNat default).n) = 0 then (if ((p2.system.vars.getD p1.out_.toNat default).elem) = 105 then (some true) else (if p1.n = 0 then (some true) else (some (p1.n == 1)))) else (some false)) else (if p1.op = 2 then (some ((x1 == ((p2.system.vars.getD p1.out_.toNat default).elem)) && (x2 == ((p2.system.vars.getD p1.out_.toNat default).n)))) else (if p1.op = 3 then (if y3.2.2 = 1 then (if x1 = y3.1 then (if ((p2.system.vars.getD p1.out_.toNat default).elem) = y3.2.1 then (some (((p2.system.vars.getD p1.out_.toNat default).n) == x2)) else (some false)) else (some false)) else (some false)) else (if p1.op = 4 then (if y3.2.2 = 2 then (if x1 = y3.1 then (if ((p2.system.vars.getD p1.out_.toNat default).elem) = y3.2.1 then (if ((p2.system.vars.getD p1.out_.toNat default).n) = x2 then ((iE p1.a p2).bind fun y4 => some y4) else (some false)) else (some false)) else (some false)) else (some false)) else (if p1.op = 5 then ((hN 98).bind fun y5 => if x1 = ((y5).elem) ∧ x2 = ((y5).n) then (if (0 ≤ 1 ∧ 1 < (p1.a.length : Int)) ∧ (0 ≤ 2 ∧ 2 < (p1.a.length : Int)) then ((fh p2 (lit ([(p1.a.getD 1 default), (p1.a.getD 2 default), p1.out_] : List Int))).bind fun y6 => some y6) else none) else (some false)) else (if p1.op = 6 then (aS p1 p2 x1 x2 y3 (p1.op == 6)) else (aS p1 p2 x1 x2 y3 (p1.op == 7)))))))
noncomputable def aD (p1 : ab) (p2 : ax) : Option Bool :=
  if (0 ≤ p1.out_ ∧ p1.out_ < (p2.system.vars.length : Int)) then (if (p1.a.length : Int) > 0 then (if (0 ≤ 0 ∧ 0 < (p1.a.length : Int)) ∧ (0 ≤ (p1.a.getD 0 default) ∧ (p1.a.getD 0 default) < (p2.system.vars.length : Int)) then (aT p1 p2 ((p2.system.vars.getD ((p1.a.getD 0 default).toNat) default).elem) ((p2.system.vars.getD ((p1.a.getD 0 default).toNat) default).n)) else none) else (aT p1 p2 0 0)) else none
noncomputable def eI (p1 : ab) (p2 : ax) (x7 : Int) : Option (Int × Int) :=
  if x7 = 0 then ((aD p1 (ax.mk p2.system x7)).bind fun y8 => (bD (!y8) 10 (ax.mk p2.system x7)).bind fun y9 => some (y9, y9)) else (some (x7, x7))
noncomputable def ce (p2 : ax) (l6 : List Int) (x14 : Int) (x15 : Int) : Option ((Int × Int) ⊕ Int) :=
  if x15 < (l6.length : Int) then (if (0 ≤ x15 ∧ x15 < (l6.length : Int)) then ((fP (l6.getD x15.toNat default) (ax.mk p2.system x14)).bind fun y16 => (bD (!y16) 16 (ax.mk p2.system x14)).bind fun y17 => some (.inl (y17, (IntKind.wrap .i64 (x15 + 1))))) else none) else (some (.inr x14))
noncomputable def dR (p1 : ab) (p2 : ax) (y5 : Int) (l6 : List Int) : Option (Int × Int) :=
  (bb (fun (x14, x15) => ce p2 l6 x14 x15) (y5, 0)).bind (fun z18 => eI p1 p2 z18)
noncomputable def dh (p1 : ab) (p2 : ax) (x4 : Int) : Option (Int × Int) :=
  (bD (decide ((p1.e.length : Int) > 24)) 7 (ax.mk p2.system x4)).bind fun y5 => if ¬ y5 = 0 then (some (y5, y5)) else (if p1.op ≥ 14 then ((lh p1).bind fun y19 => dR p1 p2 y5 y19) else (dR p1 p2 y5 p1.a))
noncomputable def di (p1 : ab) (p2 : ax) (x3 : Int) : Option (Int × Int) :=
  (kM p1.op).bind fun y20 => if y20 < 0 then ((bD true 4 (ax.mk p2.system x3)).bind fun y21 => dh p1 p2 y21) else ((kM p1.op).bind fun y22 => (bD ((p1.a.length : Int) != y22) 4 (ax.mk p2.system x3)).bind fun y23 => dh p1 p2 y23)
noncomputable def iI (p1 : ab) (p2 : ax) (p3 : List Bool) : Option (Int × Int) :=
  (fP p1.out_ (ax.mk p2.system 0)).bind fun y1 => (bD (!y1) 16 (ax.mk p2.system 0)).bind fun y2 => if y2 = 0 then (if (0 ≤ p1.out_ ∧ p1.out_ < (p3.length : Int)) then ((bD (p3.getD p1.out_.toNat default) 8 (ax.mk p2.system y2)).bind fun y24 => di p1 p2 y24) else none) else ((bD false 8 (ax.mk p2.system y2)).bind fun y25 => di p1 p2 y25)
noncomputable def jL : Option av :=
  some (av.mk 0 0)
noncomputable def i1 (p1 : ae) (l6 : List Bool) (x9 : Int) : Option (Int ⊕ (Unit ⊕ av)) :=
  if x9 < (p1.out_.length : Int) then (if (0 ≤ x9 ∧ x9 < (p1.out_.length : Int)) then (if (0 ≤ (p1.out_.getD x9.toNat default) ∧ (p1.out_.getD x9.toNat default) < (l6.length : Int)) then (if (l6.getD ((p1.out_.getD x9.toNat default).toNat) default) = true then (some (.inl (IntKind.wrap .i64 (x9 + 1)))) else (some (.inr (.inr (av.mk 9 (-1)))))) else none) else none) else (some (.inr (.inl ())))
noncomputable def i2 (p1 : ae) (l6 : List Bool) : Option av :=
  (bb (fun x9 => i1 p1 l6 x9) 0).bind (Sum.elim (fun _ => jL) (fun z10 => some z10))
noncomputable def i4 (x13 : Int) : Option (Int ⊕ (Unit ⊕ av)) :=
  some (.inl (IntKind.wrap .i64 (x13 + 1)))
noncomputable def jM (l6 : List Bool) (x13 : Int) (l14 : List Int) (x17 : Int) : Option (Int ⊕ (Unit ⊕ av)) :=
  if x17 < (l14.length : Int) then (if (0 ≤ x17 ∧ x17 < (l14.length : Int)) then (if (0 ≤ (l14.getD x17.toNat default) ∧ (l14.getD x17.toNat default) < (l6.length : Int)) then (if (l6.getD ((l14.getD x17.toNat default).toNat) default) = true then (some (.inl (IntKind.wrap .i64 (x17 + 1)))) else (some (.inr (.inr (av.mk 9 x13))))) else none) else none) else (some (.inr (.inl ())))
noncomputable def hQ (l6 : List Bool) (x13 : Int) (l14 : List Int) : Option (Int ⊕ (Unit ⊕ av)) :=
  (bb (fun x17 => jM l6 x13 l14 x17) 0).bind (Sum.elim (fun _ => i4 x13) (fun z18 => some (.inr (.inr z18))))
noncomputable def i5 (p1 : ae) (l6 : List Bool) (x13 : Int) : Option (Int ⊕ (Unit ⊕ av)) :=
  if x13 < (p1.rules.length : Int) then (if (0 ≤ x13 ∧ x13 < (p1.rules.length : Int)) then (if ((p1.rules.getD x13.toNat default).op) ≥ 14 then ((lh (p1.rules.getD x13.toNat default)).bind fun y19 => hQ l6 x13 y19) else (hQ l6 x13 ((p1.rules.getD x13.toNat default).a))) else none) else (some (.inr (.inl ())))
noncomputable def hU (p1 : ae) (x5 : Int) (l6 : List Bool) : Option av :=
  (bb (fun x13 => i5 p1 l6 x13) 0).bind (Sum.elim (fun _ => i2 p1 l6) (fun z20 => some z20))
noncomputable def eu (p1 : ae) (x30 : Int) (l31 : List Bool) (x32 : Int) : Option ((Int × (List Bool) × Int) ⊕ ((Int × (List Bool)) ⊕ av)) :=
  if x32 < (p1.rules.length : Int) then (if (0 ≤ x32 ∧ x32 < (p1.rules.length : Int)) then ((iI (p1.rules.getD x32.toNat default) (ax.mk p1 x30) l31).bind fun y33 => if ¬ y33.1 = 0 then (some (.inr (.inr (av.mk y33.1 x32)))) else (if (0 ≤ (p1.rules.getD x32.toNat default).out_ ∧ (p1.rules.getD x32.toNat default).out_ < (l31.length : Int)) then (some (.inl (y33.2, (l31.set (((p1.rules.getD x32.toNat default).out_).toNat) true), (IntKind.wrap .i64 (x32 + 1))))) else none)) else none) else (some (.inr (.inl (x30, l31))))
noncomputable def hY (p1 : ae) (l3 : List Bool) : Option av :=
  (bb (fun (x30, l31, x32) => eu p1 x30 l31 x32) (0, l3, 0)).bind (Sum.elim (fun (z34, z35) => hU p1 z34 z35) (fun z36 => some z36))
noncomputable def ew (p1 : ae) (l44 : List Bool) (x45 : Int) : Option (((List Bool) × Int) ⊕ (List Bool)) :=
  if x45 < (p1.in_.length : Int) then (if (0 ≤ x45 ∧ x45 < (p1.in_.length : Int)) then (if (0 ≤ (p1.in_.getD x45.toNat default) ∧ (p1.in_.getD x45.toNat default) < (l44.length : Int)) then (some (.inl ((l44.set ((p1.in_.getD x45.toNat default).toNat) true), (IntKind.wrap .i64 (x45 + 1))))) else none) else none) else (some (.inr l44))
noncomputable def mb (p1 : ae) : Option av :=
  (iD (ax.mk p1 0)).bind fun y1 => if ¬ ((y1).code) = 0 then (some (y1)) else (if (0 ≤ (p1.vars.length : Int) ∧ (p1.vars.length : Int) ≤ (p1.vars.length : Int)) ∧ dt p1.vars.length 1 then ((bb (fun (l44, x45) => ew p1 l44 x45) ((List.replicate p1.vars.length false), 0)).bind (fun z46 => hY p1 z46)) else none)
noncomputable def gH (p1 : ae) (l2 : List Bool) : Option ((List ah) × (List Int) × (List Int) × (List ab) × (List Bool)) :=
  some (p1.vars, p1.in_, p1.out_, p1.rules, l2)
noncomputable def dS (p1 : ae) (l10 : List Bool) (x11 : Int) : Option (((List Bool) × Int) ⊕ (List Bool)) :=
  if x11 < (p1.in_.length : Int) then (if (0 ≤ x11 ∧ x11 < (p1.in_.length : Int)) then (if (0 ≤ (p1.in_.getD x11.toNat default) ∧ (p1.in_.getD x11.toNat default) < (l10.length : Int)) then (some (.inl ((l10.set ((p1.in_.getD x11.toNat default).toNat) true), (IntKind.wrap .i64 (x11 + 1))))) else none) else none) else (some (.inr l10))
noncomputable def kg (p1 : ae) : Option ((List ah) × (List Int) × (List Int) × (List ab) × (List Bool)) :=
  if (0 ≤ (p1.vars.length : Int) ∧ (p1.vars.length : Int) ≤ (p1.vars.length : Int)) ∧ dt p1.vars.length 1 then ((bb (fun (l10, x11) => dS p1 l10 x11) ((List.replicate p1.vars.length false), 0)).bind (fun z12 => gH p1 z12)) else none
noncomputable def fp (p1 : ab) (l1 : List aq) : Option (List Int) :=
  (lh (ab.mk p1.op p1.k p1.out_ p1.n p1.a l1)).bind fun y2 => some y2
noncomputable def fq (p1 : ab) : Option (List Int) :=
  if p1.op < 14 then (fp p1 []) else (fp p1 p1.e)
noncomputable def kh (p1 : ab) : Option (List Int) :=
  if p1.op = 13 then (if (p1.a.length : Int) = 2 then (if (0 ≤ 0 ∧ 0 < (p1.a.length : Int)) then (some (lit ([(p1.a.getD 0 default)] : List Int))) else none) else (fq p1)) else (fq p1)
noncomputable def fW (p1 : Int) (p2 : List ah) (p3 : List Int) (p4 : List Int) (p5 : List ab) (p6 : List Bool) : Option Bool :=
  if (0 ≤ p1 ∧ p1 < (p6.length : Int)) then (some (!(p6.getD p1.toNat default))) else none
noncomputable def ci : Option Int :=
  some (-1)
noncomputable def cj (p1 : List Int) (p2 : List ah) (p3 : List Int) (p4 : List Int) (p5 : List ab) (p6 : List Bool) (x3 : Int) : Option (Int ⊕ (Unit ⊕ Int)) :=
  if x3 < (p1.length : Int) then (if (0 ≤ x3 ∧ x3 < (p1.length : Int)) then ((fW (p1.getD x3.toNat default) p2 p3 p4 p5 p6).bind fun y4 => if y4 = true then (some (.inr (.inr x3))) else (some (.inl (IntKind.wrap .i64 (x3 + 1))))) else none) else (some (.inr (.inl ())))
noncomputable def dU (p1 : List Int) (p2 : List ah) (p3 : List Int) (p4 : List Int) (p5 : List ab) (p6 : List Bool) : Option Int :=
  (bb (fun x3 => cj p1 p2 p3 p4 p5 p6 x3) 0).bind (Sum.elim (fun _ => ci) (fun z5 => some z5))
noncomputable def dJ (p1 : List Int) (p2 : List ah) (p3 : List Int) (p4 : List Int) (p5 : List ab) (p6 : List Bool) : Option Bool :=
  (dU p1 p2 p3 p4 p5 p6).bind fun y1 => some (decide (y1 ≥ 0))
noncomputable def ft (p1 : ab) (p2 : List ah) (p3 : List Int) (p4 : List Int) (p5 : List ab) (p6 : List Bool) : Option Bool :=
  (kh p1).bind fun y1 => (dJ y1 p2 p3 p4 p5 p6).bind fun y2 => some (!y2)
noncomputable def kG (p1 : Int) (p2 : ae) (p3 : List ah) (p4 : List Int) (p5 : List Int) (p6 : List ab) (p7 : List Bool) : Option Bool :=
  if (0 ≤ p1 ∧ p1 < (p2.rules.length : Int)) then ((ft (p2.rules.getD p1.toNat default) p3 p4 p5 p6 p7).bind fun y1 => some y1) else none
noncomputable def cH : Option Int :=
  some (-1)
noncomputable def cI (p1 : List Int) (p2 : ae) (p3 : List ah) (p4 : List Int) (p5 : List Int) (p6 : List ab) (p7 : List Bool) (x3 : Int) : Option (Int ⊕ (Unit ⊕ Int)) :=
  if x3 < (p1.length : Int) then (if (0 ≤ x3 ∧ x3 < (p1.length : Int)) then ((kG (p1.getD x3.toNat default) p2 p3 p4 p5 p6 p7).bind fun y4 => if y4 = true then (some (.inr (.inr x3))) else (some (.inl (IntKind.wrap .i64 (x3 + 1))))) else none) else (some (.inr (.inl ())))
noncomputable def cC (p1 : List Int) (p2 : ae) (p3 : List ah) (p4 : List Int) (p5 : List Int) (p6 : List ab) (p7 : List Bool) : Option Int :=
  (bb (fun x3 => cI p1 p2 p3 p4 p5 p6 p7 x3) 0).bind (Sum.elim (fun _ => cH) (fun z5 => some z5))
noncomputable def cV (p1 : List aq) : Option (List aq) :=
  if p1 = [] then (some []) else (if dt p1.length 32 then (some p1) else none)
noncomputable def mc (p1 : ab) : Option ab :=
  (bJ p1.a).bind fun y1 => (cV p1.e).bind fun y2 => some (ab.mk p1.op p1.k p1.out_ p1.n y1 y2)
noncomputable def fH (pi : Int) (pj : Int) (p1 : List Int) : Option (List Int) :=
  if (0 ≤ pi ∧ pi ≤ pj ∧ pj ≤ (p1.length : Int)) ∧ p1 ≠ [] then some (uf p1 pi.toNat pj.toNat) else none
noncomputable def du (p1 : List ah) : Option (List ah) :=
  if p1 = [] then (some []) else (if dt p1.length 16 then (some p1) else none)
noncomputable def gg (p1 : ae) (l9 : List Bool) (l10 : List Int) (l11 : List ab) : Option (ae × av) :=
  (du p1.vars).bind fun y13 => (bJ p1.in_).bind fun y14 => (bJ p1.out_).bind fun y15 => some ((ae.mk y13 y14 y15 l11), (av.mk 0 0))
noncomputable def cQ (p1 : ae) (y2 : ((List ah) × (List Int) × (List Int) × (List ab) × (List Bool))) (l36 : List Bool) (l37 : List Int) (l38 : List ab) : Option (((List Bool) × (List Int) × (List ab)) ⊕ (((List Bool) × (List Int) × (List ab)) ⊕ (ae × av))) :=
  if (l37.length : Int) > 0 then ((cC l37 p1 y2.1 y2.2.1 y2.2.2.1 y2.2.2.2.1 l36).bind fun y40 => if y40 < 0 then (if (0 ≤ 0 ∧ 0 < (l37.length : Int)) then (some (.inr (.inr ((ae.mk [] [] [] []), (av.mk 15 (l37.getD 0 default)))))) else none) else (if (0 ≤ y40 ∧ y40 < (l37.length : Int)) ∧ (0 ≤ (l37.getD y40.toNat default) ∧ (l37.getD y40.toNat default) < (p1.rules.length : Int)) then ((mc (p1.rules.getD ((l37.getD y40.toNat default).toNat) default)).bind fun y41 => if dt (l38.length + 1) 80 then (if (0 ≤ (p1.rules.getD ((l37.getD y40.toNat default).toNat) default).out_ ∧ (p1.rules.getD ((l37.getD y40.toNat default).toNat) default).out_ < (l36.length : Int)) then ((fH y40 (IntKind.wrap .i64 (y40 + 1)) l37).bind fun y42 => some (.inl ((l36.set (((p1.rules.getD ((l37.getD y40.toNat default).toNat) default).out_).toNat) true), y42, (l38 ++ (lit ([(y41)] : List ab)))))) else none) else none) else none)) else (some (.inr (.inl (l36, l37, l38))))
noncomputable def gh (p1 : ae) (y2 : ((List ah) × (List Int) × (List Int) × (List ab) × (List Bool))) (l4 : List Int) : Option (ae × av) :=
  (bb (fun (l36, l37, l38) => cQ p1 y2 l36 l37 l38) (y2.2.2.2.2, l4, [])).bind (Sum.elim (fun (z43, z44, z45) => gg p1 z43 z44 z45) (fun z46 => some z46))
noncomputable def dK (p1 : ae) (l54 : List Int) (x55 : Int) : Option (((List Int) × Int) ⊕ (List Int)) :=
  if x55 < (p1.rules.length : Int) then (if (0 ≤ x55 ∧ x55 < (l54.length : Int)) then (some (.inl ((l54.set x55.toNat x55), (IntKind.wrap .i64 (x55 + 1))))) else none) else (some (.inr l54))
noncomputable def li (p1 : ae) : Option (ae × av) :=
  (mb p1).bind fun y1 => if ¬ ((y1).code) = 0 then (some ((ae.mk [] [] [] []), (y1))) else ((kg p1).bind fun y2 => if (0 ≤ (p1.rules.length : Int) ∧ (p1.rules.length : Int) ≤ (p1.rules.length : Int)) ∧ dt p1.rules.length 8 then ((bb (fun (l54, x55) => dK p1 l54 x55) ((List.replicate p1.rules.length 0), 0)).bind (fun z56 => gh p1 y2 z56)) else none)
noncomputable def d7 (p1 : ae) : Option (av ⊕ (av × (List (Int × List Int)) × Int × Int × (List ah) × (List Int) × (List Int) × (List ab))) :=
  (li p1).bind fun y1 => if ¬ ((y1.2).code) = 0 then (some (.inl (y1.2))) else (some (.inr ((av.mk 0 0), ([] : List (Int × List Int)), 0, 0, (y1.1).vars, (y1.1).in_, (y1.1).out_, (y1.1).rules)))
noncomputable def iq (p1 : List Int) : Option Unit :=
  none
noncomputable def bm (p1 : List Int) : Option (List Int) :=
  if p1 = [] then (some []) else (if dt p1.length 8 then (some p1) else none)
noncomputable def jZ (p1 : Int) : Option Int :=
  some (if 1 > p1 then 1 else p1)
noncomputable def jf (x1 : Int) : Option Int :=
  some x1
noncomputable def ez (p1 : ae) (p2 : List Int) (x6 : Int) (x7 : Int) : Option ((Int × Int) ⊕ Int) :=
  if x7 < (p2.length : Int) then (if (0 ≤ x7 ∧ x7 < (p2.length : Int)) then (if (0 ≤ (p2.getD x7.toNat default) ∧ (p2.getD x7.toNat default) < (p1.vars.length : Int)) then ((jZ ((p1.vars.getD ((p2.getD x7.toNat default).toNat) default).n)).bind fun y8 => some (.inl ((IntKind.wrap .i64 (x6 + y8)), (IntKind.wrap .i64 (x7 + 1))))) else none) else none) else (some (.inr x6))
noncomputable def hZ (p1 : ae) (p2 : List Int) : Option Int :=
  (bb (fun (x6, x7) => ez p1 p2 x6 x7) (0, 0)).bind (fun z9 => jf z9)
noncomputable def fX (l3 : List (List Int)) : Option (av × (List (List Int))) :=
  some ((av.mk 0 0), l3)
noncomputable def fY (x15 : Int) (l17 : List (List Int)) (x18 : Int) : Option (((List (List Int)) × Int × Int) ⊕ ((List (List Int)) ⊕ (av × (List (List Int))))) :=
  some (.inl (l17, x18, (IntKind.wrap .i64 (x15 + 1))))
noncomputable def eJ (p1 : List Int) (p3 : List Int) (l13 : List (List Int)) (x14 : Int) (x15 : Int) (y19 : Int) : Option (((List (List Int)) × Int × Int) ⊕ ((List (List Int)) ⊕ (av × (List (List Int))))) :=
  if (0 ≤ x14 ∧ x14 ≤ (IntKind.wrap .i64 (x14 + y19)) ∧ (IntKind.wrap .i64 (x14 + y19)) ≤ (p1.length : Int)) then ((bm ((p1.take ((IntKind.wrap .i64 (x14 + y19)).toNat)).drop x14.toNat)).bind fun y20 => if (0 ≤ (p3.getD x15.toNat default) ∧ (p3.getD x15.toNat default) < (l13.length : Int)) then (fY x15 (l13.set ((p3.getD x15.toNat default).toNat) y20) (IntKind.wrap .i64 (x14 + y19))) else none) else none
noncomputable def eM (p1 : List Int) (p2 : List ah) (p3 : List Int) (l13 : List (List Int)) (x14 : Int) (x15 : Int) (y19 : Int) (x23 : Int) : Option (Int ⊕ (Unit ⊕ (av × (List (List Int))))) :=
  if x23 < y19 then (if (0 ≤ (IntKind.wrap .i64 (x14 + x23)) ∧ (IntKind.wrap .i64 (x14 + x23)) < (p1.length : Int)) then (if ((p2.getD ((p3.getD x15.toNat default).toNat) default).elem) = 98 then (if ¬ (p1.getD ((IntKind.wrap .i64 (x14 + x23)).toNat) default) = 0 then (if ¬ (p1.getD ((IntKind.wrap .i64 (x14 + x23)).toNat) default) = 1 then (some (.inr (.inr ((av.mk 17 (IntKind.wrap .i64 (x14 + x23))), l13)))) else (some (.inl (IntKind.wrap .i64 (x23 + 1))))) else (some (.inl (IntKind.wrap .i64 (x23 + 1))))) else (some (.inl (IntKind.wrap .i64 (x23 + 1))))) else none) else (some (.inr (.inl ())))
noncomputable def cg (p1 : List Int) (p2 : List ah) (p3 : List Int) (l13 : List (List Int)) (x14 : Int) (x15 : Int) : Option (((List (List Int)) × Int × Int) ⊕ ((List (List Int)) ⊕ (av × (List (List Int))))) :=
  if x15 < (p3.length : Int) then (if (0 ≤ x15 ∧ x15 < (p3.length : Int)) then (if (0 ≤ (p3.getD x15.toNat default) ∧ (p3.getD x15.toNat default) < (p2.length : Int)) then ((jZ ((p2.getD ((p3.getD x15.toNat default).toNat) default).n)).bind fun y19 => (bb (fun x23 => eM p1 p2 p3 l13 x14 x15 y19 x23) 0).bind (Sum.elim (fun _ => eJ p1 p3 l13 x14 x15 y19) (fun z24 => some (.inr (.inr z24))))) else none) else none) else (some (.inr (.inl l13)))
noncomputable def iJ (p1 : List Int) (p2 : List ah) (p3 : List Int) (p4 : List Int) (p5 : List ab) (p6 : List (List Int)) (p7 : List (Int × List Int)) : Option (av × (List (List Int))) :=
  (hZ (ae.mk p2 p3 p4 p5) p3).bind fun y1 => if ¬ (p1.length : Int) = y1 then (some ((av.mk 17 (-1)), p6)) else ((bb (fun (l13, x14, x15) => cg p1 p2 p3 l13 x14 x15) (p6, 0, 0)).bind (Sum.elim (fun z25 => fX z25) (fun z26 => some z26)))
noncomputable def aK (p1 : Int) (p2 : ab) (p3 : List ah) (p4 : List Int) (p5 : List Int) (p6 : List ab) (p7 : List (List Int)) (p8 : List (Int × List Int)) : Option (List Int) :=
  if (0 ≤ p1 ∧ p1 < (p2.a.length : Int)) ∧ (0 ≤ (p2.a.getD p1.toNat default) ∧ (p2.a.getD p1.toNat default) < (p7.length : Int)) then (some (p7.getD ((p2.a.getD p1.toNat default).toNat) default)) else none
noncomputable def ia (p1 : Int) (p2 : Int) (p3 : Int) : Option Int :=
  if p3 = 0 then (some 0) else (if p1 = 4 then (if p3 ≠ 0 then (some (IntKind.wrap .i64 (p2.tdiv p3))) else none) else (if p3 ≠ 0 then (some (p2.tmod p3)) else none))
noncomputable def bO (p1 : Bool) : Option Int :=
  if p1 = true then (some 1) else (some 0)
noncomputable def aV (p1 : Int) (p2 : Int) (p3 : Int) (b1 : Bool) : Option Int :=
  if b1 = true then ((ia p1 p2 p3).bind fun y2 => some y2) else (if p1 = 6 then (some (if p3 < p2 then p3 else p2)) else (if p1 = 7 then (some (if p3 > p2 then p3 else p2)) else (if p1 = 8 then ((bO (decide (p2 < p3))).bind fun y3 => some y3) else (if p1 = 9 then ((bO (p2 == p3)).bind fun y4 => some y4) else (if p1 = 10 then (if ¬ p2 = 0 then ((bO (p3 != 0)).bind fun y5 => some y5) else ((bO false).bind fun y6 => some y6)) else (if p1 = 11 then (if ¬ p2 = 0 then ((bO true).bind fun y7 => some y7) else ((bO (p3 != 0)).bind fun y8 => some y8)) else (if p1 = 12 then ((bO (!((p2 != 0) == (p3 != 0)))).bind fun y9 => some y9) else (if p1 = 13 then (some (IntKind.wrap .i64 (0 - p2))) else (if p1 = 14 then ((bO (p2 == 0)).bind fun y10 => some y10) else (some 0))))))))))
noncomputable def aX (p1 : Int) (p2 : Int) (p3 : Int) : Option Int :=
  if p1 = 1 then (some (IntKind.wrap .i64 (p2 + p3))) else (if p1 = 2 then (some (IntKind.wrap .i64 (p2 - p3))) else (if p1 = 3 then (some (IntKind.wrap .i64 (p2 * p3))) else (if p1 = 4 then (aV p1 p2 p3 (p1 == 4)) else (aV p1 p2 p3 (p1 == 5)))))
noncomputable def jg (p1 : Int) (p2 : ab) (p3 : List ah) (p4 : List Int) (p5 : List Int) (p6 : List ab) (p7 : List (List Int)) (p8 : List (Int × List Int)) : Option Int :=
  (aK 0 p2 p3 p4 p5 p6 p7 p8).bind fun y1 => if (0 ≤ p1 ∧ p1 < (y1.length : Int)) then ((aX p2.k (y1.getD p1.toNat default) 0).bind fun y2 => some y2) else none
noncomputable def gI (l2 : List Int) : Option (List Int) :=
  some l2
noncomputable def cW (p1 : ab) (p2 : List Int) (p3 : List ah) (p4 : List Int) (p5 : List Int) (p6 : List ab) (p7 : List (List Int)) (p8 : List (Int × List Int)) (l10 : List Int) (x11 : Int) : Option (((List Int) × Int) ⊕ (List Int)) :=
  if x11 < (p2.length : Int) then ((jg x11 p1 p3 p4 p5 p6 p7 p8).bind fun y12 => if (0 ≤ x11 ∧ x11 < (l10.length : Int)) then (some (.inl ((l10.set x11.toNat y12), (IntKind.wrap .i64 (x11 + 1))))) else none) else (some (.inr l10))
noncomputable def jh (p1 : ab) (p2 : List Int) (p3 : List ah) (p4 : List Int) (p5 : List Int) (p6 : List ab) (p7 : List (List Int)) (p8 : List (Int × List Int)) : Option (List Int) :=
  (bb (fun (l10, x11) => cW p1 p2 p3 p4 p5 p6 p7 p8 l10 x11) (p2, 0)).bind (fun z13 => gI z13)
noncomputable def ji (p1 : Int) (p2 : ab) (p3 : List ah) (p4 : List Int) (p5 : List Int) (p6 : List ab) (p7 : List (List Int)) (p8 : List (Int × List Int)) : Option Int :=
  (aK 0 p2 p3 p4 p5 p6 p7 p8).bind fun y1 => if (0 ≤ p1 ∧ p1 < (y1.length : Int)) then ((aK 1 p2 p3 p4 p5 p6 p7 p8).bind fun y2 => if (0 ≤ p1 ∧ p1 < (y2.length : Int)) then ((aX p2.k (y1.getD p1.toNat default) (y2.getD p1.toNat default)).bind fun y3 => some y3) else none) else none
noncomputable def fv (l2 : List Int) : Option (List Int) :=
  some l2
noncomputable def cm (p1 : ab) (p2 : List Int) (p3 : List ah) (p4 : List Int) (p5 : List Int) (p6 : List ab) (p7 : List (List Int)) (p8 : List (Int × List Int)) (l10 : List Int) (x11 : Int) : Option (((List Int) × Int) ⊕ (List Int)) :=
  if x11 < (p2.length : Int) then ((ji x11 p1 p3 p4 p5 p6 p7 p8).bind fun y12 => if (0 ≤ x11 ∧ x11 < (l10.length : Int)) then (some (.inl ((l10.set x11.toNat y12), (IntKind.wrap .i64 (x11 + 1))))) else none) else (some (.inr l10))
noncomputable def ii (p1 : ab) (p2 : List Int) (p3 : List ah) (p4 : List Int) (p5 : List Int) (p6 : List ab) (p7 : List (List Int)) (p8 : List (Int × List Int)) : Option (List Int) :=
  (bb (fun (l10, x11) => cm p1 p2 p3 p4 p5 p6 p7 p8 l10 x11) (p2, 0)).bind (fun z13 => fv z13)
noncomputable def jj (p1 : Int) (p2 : ab) (p3 : List ah) (p4 : List Int) (p5 : List Int) (p6 : List ab) (p7 : List (List Int)) (p8 : List (Int × List Int)) : Option Int :=
  (aK 1 p2 p3 p4 p5 p6 p7 p8).bind fun y1 => if (0 ≤ p1 ∧ p1 < (y1.length : Int)) then (some (y1.getD p1.toNat default)) else none
noncomputable def jN (l3 : List Int) : Option (List Int) :=
  some l3
noncomputable def fc (p1 : Int) (p3 : Int) (p4 : ab) (p5 : List ah) (p6 : List Int) (p7 : List Int) (p8 : List ab) (p9 : List (List Int)) (p10 : List (Int × List Int)) (l19 : List Int) (x21 : Int) (x22 : Int) : Option (((List Int) × Int × Int) ⊕ (List Int)) :=
  if x22 < p3 then ((jj x22 p4 p5 p6 p7 p8 p9 p10).bind fun y23 => (aX p1 x21 y23).bind fun y24 => if dt (l19.length + 1) 8 then (some (.inl ((l19 ++ (lit ([y24] : List Int))), y24, (IntKind.wrap .i64 (x22 + 1))))) else none) else (some (.inr l19))
noncomputable def md (p1 : Int) (p2 : Int) (p3 : Int) (p4 : ab) (p5 : List ah) (p6 : List Int) (p7 : List Int) (p8 : List ab) (p9 : List (List Int)) (p10 : List (Int × List Int)) : Option (List Int) :=
  (bb (fun (l19, x21, x22) => fc p1 p3 p4 p5 p6 p7 p8 p9 p10 l19 x21 x22) ([], p2, 0)).bind (fun z25 => jN z25)
noncomputable def jk (p1 : Int) (p2 : ab) (p3 : List ah) (p4 : List Int) (p5 : List Int) (p6 : List ab) (p7 : List (List Int)) (p8 : List (Int × List Int)) : Option Int :=
  (aK 1 p2 p3 p4 p5 p6 p7 p8).bind fun y1 => if (0 ≤ p1 ∧ p1 < (y1.length : Int)) then (some (y1.getD p1.toNat default)) else none
noncomputable def iK (l3 : List Int) : Option (List Int) :=
  some l3
noncomputable def dV (p1 : Int) (p3 : Int) (p4 : ab) (p5 : List ah) (p6 : List Int) (p7 : List Int) (p8 : List ab) (p9 : List (List Int)) (p10 : List (Int × List Int)) (l19 : List Int) (x21 : Int) (x22 : Int) : Option (((List Int) × Int × Int) ⊕ (List Int)) :=
  if x22 < p3 then ((jk x22 p4 p5 p6 p7 p8 p9 p10).bind fun y23 => (aX p1 x21 y23).bind fun y24 => if dt (l19.length + 1) 8 then (some (.inl ((l19 ++ (lit ([y24] : List Int))), y24, (IntKind.wrap .i64 (x22 + 1))))) else none) else (some (.inr l19))
noncomputable def ki (p1 : Int) (p2 : Int) (p3 : Int) (p4 : ab) (p5 : List ah) (p6 : List Int) (p7 : List Int) (p8 : List ab) (p9 : List (List Int)) (p10 : List (Int × List Int)) : Option (List Int) :=
  (bb (fun (l19, x21, x22) => dV p1 p3 p4 p5 p6 p7 p8 p9 p10 l19 x21 x22) ([], p2, 0)).bind (fun z25 => iK z25)
noncomputable def jl (p1 : Int) (p2 : ab) (p3 : List ah) (p4 : List Int) (p5 : List Int) (p6 : List ab) (p7 : List (List Int)) (p8 : List (Int × List Int)) : Option Int :=
  (aK 0 p2 p3 p4 p5 p6 p7 p8).bind fun y1 => if (0 ≤ 0 ∧ 0 < (y1.length : Int)) then (some (y1.getD 0 default)) else none
noncomputable def fw (l2 : List Int) : Option (List Int) :=
  some l2
noncomputable def cn (p1 : ab) (p2 : List Int) (p3 : List ah) (p4 : List Int) (p5 : List Int) (p6 : List ab) (p7 : List (List Int)) (p8 : List (Int × List Int)) (l10 : List Int) (x11 : Int) : Option (((List Int) × Int) ⊕ (List Int)) :=
  if x11 < (p2.length : Int) then ((jl x11 p1 p3 p4 p5 p6 p7 p8).bind fun y12 => if (0 ≤ x11 ∧ x11 < (l10.length : Int)) then (some (.inl ((l10.set x11.toNat y12), (IntKind.wrap .i64 (x11 + 1))))) else none) else (some (.inr l10))
noncomputable def ij (p1 : ab) (p2 : List Int) (p3 : List ah) (p4 : List Int) (p5 : List Int) (p6 : List ab) (p7 : List (List Int)) (p8 : List (Int × List Int)) : Option (List Int) :=
  (bb (fun (l10, x11) => cn p1 p2 p3 p4 p5 p6 p7 p8 l10 x11) (p2, 0)).bind (fun z13 => fw z13)
noncomputable def kN (p1 : List Int) (p2 : Int) (p3 : Int) : Option Int :=
  if p2 < 0 then (some p3) else (if p2 ≥ (p1.length : Int) then (some p3) else (if (0 ≤ p2 ∧ p2 < (p1.length : Int)) then (some (p1.getD p2.toNat default)) else none))
noncomputable def jm (p1 : Int) (p2 : ab) (p3 : List ah) (p4 : List Int) (p5 : List Int) (p6 : List ab) (p7 : List (List Int)) (p8 : List (Int × List Int)) : Option Int :=
  (aK 1 p2 p3 p4 p5 p6 p7 p8).bind fun y1 => if (0 ≤ 0 ∧ 0 < (y1.length : Int)) then (if p1 = (y1.getD 0 default) then ((aK 2 p2 p3 p4 p5 p6 p7 p8).bind fun y2 => if (0 ≤ 0 ∧ 0 < (y2.length : Int)) then (some (y2.getD 0 default)) else none) else ((aK 0 p2 p3 p4 p5 p6 p7 p8).bind fun y3 => if (0 ≤ p1 ∧ p1 < (y3.length : Int)) then (some (y3.getD p1.toNat default)) else none)) else none
noncomputable def fA (l2 : List Int) : Option (List Int) :=
  some l2
noncomputable def co (p1 : ab) (p2 : List Int) (p3 : List ah) (p4 : List Int) (p5 : List Int) (p6 : List ab) (p7 : List (List Int)) (p8 : List (Int × List Int)) (l10 : List Int) (x11 : Int) : Option (((List Int) × Int) ⊕ (List Int)) :=
  if x11 < (p2.length : Int) then ((jm x11 p1 p3 p4 p5 p6 p7 p8).bind fun y12 => if (0 ≤ x11 ∧ x11 < (l10.length : Int)) then (some (.inl ((l10.set x11.toNat y12), (IntKind.wrap .i64 (x11 + 1))))) else none) else (some (.inr l10))
noncomputable def ik (p1 : ab) (p2 : List Int) (p3 : List ah) (p4 : List Int) (p5 : List Int) (p6 : List ab) (p7 : List (List Int)) (p8 : List (Int × List Int)) : Option (List Int) :=
  (bb (fun (l10, x11) => co p1 p2 p3 p4 p5 p6 p7 p8 l10 x11) (p2, 0)).bind (fun z13 => fA z13)
noncomputable def jn (p1 : Int) (p2 : ab) (p3 : List ah) (p4 : List Int) (p5 : List Int) (p6 : List ab) (p7 : List (List Int)) (p8 : List (Int × List Int)) : Option Int :=
  (aK 0 p2 p3 p4 p5 p6 p7 p8).bind fun y1 => if (0 ≤ (IntKind.wrap .i64 (p1 + p2.n)) ∧ (IntKind.wrap .i64 (p1 + p2.n)) < (y1.length : Int)) then (some (y1.getD ((IntKind.wrap .i64 (p1 + p2.n)).toNat) default)) else none
noncomputable def fC (l2 : List Int) : Option (List Int) :=
  some l2
noncomputable def cp (p1 : ab) (p2 : List Int) (p3 : List ah) (p4 : List Int) (p5 : List Int) (p6 : List ab) (p7 : List (List Int)) (p8 : List (Int × List Int)) (l10 : List Int) (x11 : Int) : Option (((List Int) × Int) ⊕ (List Int)) :=
  if x11 < (p2.length : Int) then ((jn x11 p1 p3 p4 p5 p6 p7 p8).bind fun y12 => if (0 ≤ x11 ∧ x11 < (l10.length : Int)) then (some (.inl ((l10.set x11.toNat y12), (IntKind.wrap .i64 (x11 + 1))))) else none) else (some (.inr l10))
noncomputable def il (p1 : ab) (p2 : List Int) (p3 : List ah) (p4 : List Int) (p5 : List Int) (p6 : List ab) (p7 : List (List Int)) (p8 : List (Int × List Int)) : Option (List Int) :=
  (bb (fun (l10, x11) => cp p1 p2 p3 p4 p5 p6 p7 p8 l10 x11) (p2, 0)).bind (fun z13 => fC z13)
noncomputable def dG (p1 : Int) : Option (List Int) :=
  if p1 < 0 then none else (if (IntKind.wrap .i64 (p1 - (IntKind.wrap .i64 (0 - 0)))) > 0 then (if 0 ≤ (IntKind.wrap .i64 (p1 - (IntKind.wrap .i64 (0 - 0)))) ∧ dt ((IntKind.wrap .i64 (p1 - (IntKind.wrap .i64 (0 - 0)))).toNat) 8 then (if (0 ≤ 0 ∧ 0 ≤ ((IntKind.wrap .i64 (p1 - (IntKind.wrap .i64 (0 - 0)))).toNat : Int)) then (some ((List.replicate ((IntKind.wrap .i64 (p1 - (IntKind.wrap .i64 (0 - 0)))).toNat) 0).take 0)) else none) else none) else (some []))
noncomputable def cz (l5 : List Int) : Option (List Int) :=
  some l5
noncomputable def bh (p1 : List (List Int)) (l19 : List Int) (x21 : Int) : Option (((List Int) × Int) ⊕ (List Int)) :=
  if x21 < (p1.length : Int) then (if (0 ≤ x21 ∧ x21 < (p1.length : Int)) then (if dt (l19.length + ((p1.getD x21.toNat default).length)) 8 then (some (.inl ((l19 ++ (p1.getD x21.toNat default)), (IntKind.wrap .i64 (x21 + 1))))) else none) else none) else (some (.inr l19))
noncomputable def bW (p1 : List (List Int)) (x1 : Int) : Option (List Int) :=
  (dG x1).bind fun y2 => (bb (fun (l19, x21) => bh p1 l19 x21) (y2, 0)).bind (fun z22 => cz z22)
noncomputable def bi (p1 : List (List Int)) (x27 : Int) (x28 : Int) : Option ((Int × Int) ⊕ Int) :=
  if x28 < (p1.length : Int) then (if (0 ≤ x28 ∧ x28 < (p1.length : Int)) then (if (IntKind.wrap .i64 (x27 + ((p1.getD x28.toNat default).length : Int))) < 0 then none else (some (.inl ((IntKind.wrap .i64 (x27 + ((p1.getD x28.toNat default).length : Int))), (IntKind.wrap .i64 (x28 + 1)))))) else none) else (some (.inr x27))
noncomputable def db (p1 : List (List Int)) : Option (List Int) :=
  (bb (fun (x27, x28) => bi p1 x27 x28) (0, 0)).bind (fun z29 => bW p1 z29)
noncomputable def fj (l3 : List Int) : Option Int :=
  if (0 ≤ 0 ∧ 0 < (l3.length : Int)) then (some (l3.getD 0 default)) else none
noncomputable def d9 (l17 : List Int) (x19 : Int) (x24 : Int) : Option (((List Int) × Int) ⊕ (List Int)) :=
  if (0 ≤ (IntKind.wrap .i64 ((l17.length : Int) - 3)) ∧ (IntKind.wrap .i64 ((l17.length : Int) - 3)) ≤ (l17.length : Int)) ∧ dt (((IntKind.wrap .i64 ((l17.length : Int) - 3)).toNat) + 1) 8 then (some (.inl (((l17.take ((IntKind.wrap .i64 ((l17.length : Int) - 3)).toNat)) ++ (lit ([x24] : List Int))), (IntKind.wrap .i64 (x19 + 1))))) else none
noncomputable def cD (p1 : List aq) (p2 : Int) (p7 : List (List Int)) (l17 : List Int) (x19 : Int) : Option (((List Int) × Int) ⊕ (List Int)) :=
  if x19 < (p1.length : Int) then (if (0 ≤ x19 ∧ x19 < (p1.length : Int)) then (if ((p1.getD x19.toNat default).op) = 1 then (if dt (l17.length + 1) 8 then (some (.inl ((l17 ++ (lit ([(p1.getD x19.toNat default).n] : List Int))), (IntKind.wrap .i64 (x19 + 1))))) else none) else (if ((p1.getD x19.toNat default).op) = 2 then (if (0 ≤ (p1.getD x19.toNat default).v ∧ (p1.getD x19.toNat default).v < (p7.length : Int)) ∧ (0 ≤ 0 ∧ 0 < ((p7.getD (((p1.getD x19.toNat default).v).toNat) default).length : Int)) ∧ dt (l17.length + 1) 8 then (some (.inl ((l17 ++ (lit ([((p7.getD (((p1.getD x19.toNat default).v).toNat) default).getD 0 default)] : List Int))), (IntKind.wrap .i64 (x19 + 1))))) else none) else (if ((p1.getD x19.toNat default).op) = 3 then (if (0 ≤ (p1.getD x19.toNat default).v ∧ (p1.getD x19.toNat default).v < (p7.length : Int)) ∧ (0 ≤ (IntKind.wrap .i64 (p2 + ((p1.getD x19.toNat default).n))) ∧ (IntKind.wrap .i64 (p2 + ((p1.getD x19.toNat default).n))) < ((p7.getD (((p1.getD x19.toNat default).v).toNat) default).length : Int)) ∧ dt (l17.length + 1) 8 then (some (.inl ((l17 ++ (lit ([((p7.getD (((p1.getD x19.toNat default).v).toNat) default).getD ((IntKind.wrap .i64 (p2 + ((p1.getD x19.toNat default).n))).toNat) default)] : List Int))), (IntKind.wrap .i64 (x19 + 1))))) else none) else (if ((p1.getD x19.toNat default).op) = 4 then (if dt (l17.length + 1) 8 then (some (.inl ((l17 ++ (lit ([(IntKind.wrap .i64 (p2 + ((p1.getD x19.toNat default).n)))] : List Int))), (IntKind.wrap .i64 (x19 + 1))))) else none) else (if ((p1.getD x19.toNat default).op) = 5 then (if (0 ≤ (IntKind.wrap .i64 ((l17.length : Int) - 1)) ∧ (IntKind.wrap .i64 ((l17.length : Int) - 1)) < (l17.length : Int)) then ((aX ((p1.getD x19.toNat default).k) (l17.getD ((IntKind.wrap .i64 ((l17.length : Int) - 1)).toNat) default) 0).bind fun y20 => some (.inl ((l17.set ((IntKind.wrap .i64 ((l17.length : Int) - 1)).toNat) y20), (IntKind.wrap .i64 (x19 + 1))))) else none) else (if ((p1.getD x19.toNat default).op) = 6 then (if (0 ≤ (IntKind.wrap .i64 ((l17.length : Int) - 2)) ∧ (IntKind.wrap .i64 ((l17.length : Int) - 2)) ≤ (l17.length : Int)) ∧ (0 ≤ (IntKind.wrap .i64 ((l17.length : Int) - 2)) ∧ (IntKind.wrap .i64 ((l17.length : Int) - 2)) < (l17.length : Int)) ∧ (0 ≤ (IntKind.wrap .i64 ((l17.length : Int) - 1)) ∧ (IntKind.wrap .i64 ((l17.length : Int) - 1)) < (l17.length : Int)) then ((aX ((p1.getD x19.toNat default).k) (l17.getD ((IntKind.wrap .i64 ((l17.length : Int) - 2)).toNat) default) (l17.getD ((IntKind.wrap .i64 ((l17.length : Int) - 1)).toNat) default)).bind fun y21 => if dt (((IntKind.wrap .i64 ((l17.length : Int) - 2)).toNat) + 1) 8 then (some (.inl (((l17.take ((IntKind.wrap .i64 ((l17.length : Int) - 2)).toNat)) ++ (lit ([y21] : List Int))), (IntKind.wrap .i64 (x19 + 1))))) else none) else none) else (if ((p1.getD x19.toNat default).op) = 7 then (if (0 ≤ (IntKind.wrap .i64 ((l17.length : Int) - 1)) ∧ (IntKind.wrap .i64 ((l17.length : Int) - 1)) < (l17.length : Int)) then (if (0 ≤ (IntKind.wrap .i64 ((l17.length : Int) - 3)) ∧ (IntKind.wrap .i64 ((l17.length : Int) - 3)) < (l17.length : Int)) then (if ¬ (l17.getD ((IntKind.wrap .i64 ((l17.length : Int) - 3)).toNat) default) = 0 then (if (0 ≤ (IntKind.wrap .i64 ((l17.length : Int) - 2)) ∧ (IntKind.wrap .i64 ((l17.length : Int) - 2)) < (l17.length : Int)) then (d9 l17 x19 (l17.getD ((IntKind.wrap .i64 ((l17.length : Int) - 2)).toNat) default)) else none) else (d9 l17 x19 (l17.getD ((IntKind.wrap .i64 ((l17.length : Int) - 1)).toNat) default))) else none) else none) else (if ((p1.getD x19.toNat default).op) = 8 then (if (0 ≤ (IntKind.wrap .i64 ((l17.length : Int) - 2)) ∧ (IntKind.wrap .i64 ((l17.length : Int) - 2)) ≤ (l17.length : Int)) ∧ (0 ≤ (p1.getD x19.toNat default).v ∧ (p1.getD x19.toNat default).v < (p7.length : Int)) ∧ (0 ≤ (IntKind.wrap .i64 ((l17.length : Int) - 2)) ∧ (IntKind.wrap .i64 ((l17.length : Int) - 2)) < (l17.length : Int)) ∧ (0 ≤ (IntKind.wrap .i64 ((l17.length : Int) - 1)) ∧ (IntKind.wrap .i64 ((l17.length : Int) - 1)) < (l17.length : Int)) then ((kN (p7.getD (((p1.getD x19.toNat default).v).toNat) default) (l17.getD ((IntKind.wrap .i64 ((l17.length : Int) - 2)).toNat) default) (l17.getD ((IntKind.wrap .i64 ((l17.length : Int) - 1)).toNat) default)).bind fun y25 => if dt (((IntKind.wrap .i64 ((l17.length : Int) - 2)).toNat) + 1) 8 then (some (.inl (((l17.take ((IntKind.wrap .i64 ((l17.length : Int) - 2)).toNat)) ++ (lit ([y25] : List Int))), (IntKind.wrap .i64 (x19 + 1))))) else none) else none) else (some (.inl (l17, (IntKind.wrap .i64 (x19 + 1))))))))))))) else none) else (some (.inr l17))
noncomputable def fe (p1 : List aq) (p2 : Int) (p3 : List ah) (p4 : List Int) (p5 : List Int) (p6 : List ab) (p7 : List (List Int)) (p8 : List (Int × List Int)) : Option Int :=
  (bb (fun (l17, x19) => cD p1 p2 p7 l17 x19) ([], 0)).bind (fun z26 => fj z26)
noncomputable def iL (p1 : Int) (p2 : ab) (p3 : List ah) (p4 : List Int) (p5 : List Int) (p6 : List ab) (p7 : List (List Int)) (p8 : List (Int × List Int)) : Option Int :=
  (fe p2.e p1 p3 p4 p5 p6 p7 p8).bind fun y1 => some y1
noncomputable def fD (l2 : List Int) : Option (List Int) :=
  some l2
noncomputable def cq (p1 : ab) (p2 : List Int) (p3 : List ah) (p4 : List Int) (p5 : List Int) (p6 : List ab) (p7 : List (List Int)) (p8 : List (Int × List Int)) (l10 : List Int) (x11 : Int) : Option (((List Int) × Int) ⊕ (List Int)) :=
  if x11 < (p2.length : Int) then ((iL x11 p1 p3 p4 p5 p6 p7 p8).bind fun y12 => if (0 ≤ x11 ∧ x11 < (l10.length : Int)) then (some (.inl ((l10.set x11.toNat y12), (IntKind.wrap .i64 (x11 + 1))))) else none) else (some (.inr l10))
noncomputable def im (p1 : ab) (p2 : List Int) (p3 : List ah) (p4 : List Int) (p5 : List Int) (p6 : List ab) (p7 : List (List Int)) (p8 : List (Int × List Int)) : Option (List Int) :=
  (bb (fun (l10, x11) => cq p1 p2 p3 p4 p5 p6 p7 p8 l10 x11) (p2, 0)).bind (fun z13 => fD z13)
noncomputable def iM (p1 : Int) (p2 : ab) (p3 : List ah) (p4 : List Int) (p5 : List Int) (p6 : List ab) (p7 : List (List Int)) (p8 : List (Int × List Int)) : Option Int :=
  (fe p2.e p1 p3 p4 p5 p6 p7 p8).bind fun y1 => some y1
noncomputable def iO (l3 : List Int) : Option (List Int) :=
  some l3
noncomputable def dW (p1 : Int) (p3 : Int) (p4 : ab) (p5 : List ah) (p6 : List Int) (p7 : List Int) (p8 : List ab) (p9 : List (List Int)) (p10 : List (Int × List Int)) (l19 : List Int) (x21 : Int) (x22 : Int) : Option (((List Int) × Int × Int) ⊕ (List Int)) :=
  if x22 < p3 then ((iM x22 p4 p5 p6 p7 p8 p9 p10).bind fun y23 => (aX p1 x21 y23).bind fun y24 => if dt (l19.length + 1) 8 then (some (.inl ((l19 ++ (lit ([y24] : List Int))), y24, (IntKind.wrap .i64 (x22 + 1))))) else none) else (some (.inr l19))
noncomputable def kj (p1 : Int) (p2 : Int) (p3 : Int) (p4 : ab) (p5 : List ah) (p6 : List Int) (p7 : List Int) (p8 : List ab) (p9 : List (List Int)) (p10 : List (Int × List Int)) : Option (List Int) :=
  (bb (fun (l19, x21, x22) => dW p1 p3 p4 p5 p6 p7 p8 p9 p10 l19 x21 x22) ([], p2, 0)).bind (fun z25 => iO z25)
noncomputable def iQ (p1 : Int) (p2 : ab) (p3 : List ah) (p4 : List Int) (p5 : List Int) (p6 : List ab) (p7 : List (List Int)) (p8 : List (Int × List Int)) : Option Int :=
  (fe p2.e p1 p3 p4 p5 p6 p7 p8).bind fun y1 => some y1
noncomputable def iR (l3 : List Int) : Option (List Int) :=
  some l3
noncomputable def dX (p1 : Int) (p3 : Int) (p4 : ab) (p5 : List ah) (p6 : List Int) (p7 : List Int) (p8 : List ab) (p9 : List (List Int)) (p10 : List (Int × List Int)) (l19 : List Int) (x21 : Int) (x22 : Int) : Option (((List Int) × Int × Int) ⊕ (List Int)) :=
  if x22 < p3 then ((iQ x22 p4 p5 p6 p7 p8 p9 p10).bind fun y23 => (aX p1 x21 y23).bind fun y24 => if dt (l19.length + 1) 8 then (some (.inl ((l19 ++ (lit ([y24] : List Int))), y24, (IntKind.wrap .i64 (x22 + 1))))) else none) else (some (.inr l19))
noncomputable def km (p1 : Int) (p2 : Int) (p3 : Int) (p4 : ab) (p5 : List ah) (p6 : List Int) (p7 : List Int) (p8 : List ab) (p9 : List (List Int)) (p10 : List (Int × List Int)) : Option (List Int) :=
  (bb (fun (l19, x21, x22) => dX p1 p3 p4 p5 p6 p7 p8 p9 p10 l19 x21 x22) ([], p2, 0)).bind (fun z25 => iR z25)
noncomputable def ko (p1 : Int) (p2 : ab) (p3 : List ah) (p4 : List Int) (p5 : List Int) (p6 : List ab) (p7 : List (List Int)) (p8 : List (Int × List Int)) : Option (List Int) :=
  if (0 ≤ p2.out_ ∧ p2.out_ < (p3.length : Int)) then ((jZ ((p3.getD p2.out_.toNat default).n)).bind fun y1 => if (0 ≤ y1 ∧ y1 ≤ y1) ∧ dt y1.toNat 8 then (if p2.op = 1 then (some (lit ([p2.n] : List Int))) else (if p2.op = 2 then ((aK 0 p2 p3 p4 p5 p6 p7 p8).bind fun y2 => (bm y2).bind fun y3 => some y3) else (if p2.op = 3 then ((jh p2 (List.replicate y1.toNat 0) p3 p4 p5 p6 p7 p8).bind fun y4 => some y4) else (if p2.op = 4 then ((ii p2 (List.replicate y1.toNat 0) p3 p4 p5 p6 p7 p8).bind fun y5 => some y5) else (if p2.op = 5 then ((aK 0 p2 p3 p4 p5 p6 p7 p8).bind fun y6 => if (0 ≤ 0 ∧ 0 < (y6.length : Int)) then (if ¬ (y6.getD 0 default) = 0 then ((aK 1 p2 p3 p4 p5 p6 p7 p8).bind fun y7 => (bm y7).bind fun y8 => some y8) else ((aK 2 p2 p3 p4 p5 p6 p7 p8).bind fun y9 => (bm y9).bind fun y10 => some y10)) else none) else (if p2.op = 6 then ((aK 0 p2 p3 p4 p5 p6 p7 p8).bind fun y11 => if (0 ≤ 0 ∧ 0 < (y11.length : Int)) then ((aK 1 p2 p3 p4 p5 p6 p7 p8).bind fun y12 => (md p2.k (y11.getD 0 default) (y12.length : Int) p2 p3 p4 p5 p6 p7 p8).bind fun y13 => if (0 ≤ (IntKind.wrap .i64 ((y13.length : Int) - 1)) ∧ (IntKind.wrap .i64 ((y13.length : Int) - 1)) ≤ (y13.length : Int)) then (some (y13.drop ((IntKind.wrap .i64 ((y13.length : Int) - 1)).toNat))) else none) else none) else (if p2.op = 7 then ((aK 0 p2 p3 p4 p5 p6 p7 p8).bind fun y14 => if (0 ≤ 0 ∧ 0 < (y14.length : Int)) then ((aK 1 p2 p3 p4 p5 p6 p7 p8).bind fun y15 => (ki p2.k (y14.getD 0 default) (y15.length : Int) p2 p3 p4 p5 p6 p7 p8).bind fun y16 => some y16) else none) else (if p2.op = 8 then ((ij p2 (List.replicate y1.toNat 0) p3 p4 p5 p6 p7 p8).bind fun y17 => some y17) else (if p2.op = 9 then ((aK 0 p2 p3 p4 p5 p6 p7 p8).bind fun y18 => (aK 1 p2 p3 p4 p5 p6 p7 p8).bind fun y19 => if (0 ≤ 0 ∧ 0 < (y19.length : Int)) then ((aK 2 p2 p3 p4 p5 p6 p7 p8).bind fun y20 => if (0 ≤ 0 ∧ 0 < (y20.length : Int)) then ((kN y18 (y19.getD 0 default) (y20.getD 0 default)).bind fun y21 => some (lit ([y21] : List Int))) else none) else none) else (if p2.op = 10 then ((ik p2 (List.replicate y1.toNat 0) p3 p4 p5 p6 p7 p8).bind fun y22 => some y22) else (if p2.op = 11 then ((il p2 (List.replicate y1.toNat 0) p3 p4 p5 p6 p7 p8).bind fun y23 => some y23) else (if p2.op = 12 then ((aK 0 p2 p3 p4 p5 p6 p7 p8).bind fun y24 => (aK 1 p2 p3 p4 p5 p6 p7 p8).bind fun y25 => (db (lit ([y24, y25] : List (List Int)))).bind fun y26 => some y26) else (if p2.op = 14 then ((im p2 (List.replicate y1.toNat 0) p3 p4 p5 p6 p7 p8).bind fun y27 => some y27) else (if p2.op = 15 then ((aK 0 p2 p3 p4 p5 p6 p7 p8).bind fun y28 => if (0 ≤ 0 ∧ 0 < (y28.length : Int)) then ((kj p2.k (y28.getD 0 default) p2.n p2 p3 p4 p5 p6 p7 p8).bind fun y29 => if (0 ≤ (IntKind.wrap .i64 ((y29.length : Int) - 1)) ∧ (IntKind.wrap .i64 ((y29.length : Int) - 1)) ≤ (y29.length : Int)) then (some (y29.drop ((IntKind.wrap .i64 ((y29.length : Int) - 1)).toNat))) else none) else none) else (if p2.op = 16 then ((aK 0 p2 p3 p4 p5 p6 p7 p8).bind fun y30 => if (0 ≤ 0 ∧ 0 < (y30.length : Int)) then ((km p2.k (y30.getD 0 default) (y1.toNat : Int) p2 p3 p4 p5 p6 p7 p8).bind fun y31 => some y31) else none) else (if (-9223372036854775808 ≤ p1 ∧ p1 ≤ 9223372036854775807) then (if ((mgL p8 p1).getD []) = [] then ((aK 0 p2 p3 p4 p5 p6 p7 p8).bind fun y32 => (bm y32).bind fun y33 => some y33) else (some ((mgL p8 p1).getD []))) else none)))))))))))))))) else none) else none
noncomputable def ed (l5 : List (Int × List Int)) (l8 : List Int) : Option ((List Int) × av × (List (Int × List Int))) :=
  some (l8, (av.mk 0 0), l5)
noncomputable def cr (p4 : List Int) (l3 : List (List Int)) (l22 : List Int) (x24 : Int) : Option (((List Int) × Int) ⊕ (List Int)) :=
  if x24 < (p4.length : Int) then (if (0 ≤ x24 ∧ x24 < (p4.length : Int)) then (if (0 ≤ (p4.getD x24.toNat default) ∧ (p4.getD x24.toNat default) < (l3.length : Int)) ∧ dt (l22.length + ((l3.getD ((p4.getD x24.toNat default).toNat) default).length)) 8 then (some (.inl ((l22 ++ (l3.getD ((p4.getD x24.toNat default).toNat) default)), (IntKind.wrap .i64 (x24 + 1))))) else none) else none) else (some (.inr l22))
noncomputable def ee (p4 : List Int) (l3 : List (List Int)) (l5 : List (Int × List Int)) : Option ((List Int) × av × (List (Int × List Int))) :=
  (bb (fun (l22, x24) => cr p4 l3 l22 x24) ([], 0)).bind (fun z25 => ed l5 z25)
noncomputable def bK (p5 : List ab) (l3 : List (List Int)) (l33 : List (Int × List Int)) (x34 : Int) : Option (((List (Int × List Int)) × Int) ⊕ (List (Int × List Int))) :=
  if x34 < (p5.length : Int) then (if (0 ≤ x34 ∧ x34 < (p5.length : Int)) then (if ((p5.getD x34.toNat default).op) = 13 then (if (0 ≤ 1 ∧ 1 < (((p5.getD x34.toNat default).a).length : Int)) ∧ (0 ≤ (((p5.getD x34.toNat default).a).getD 1 default) ∧ (((p5.getD x34.toNat default).a).getD 1 default) < (l3.length : Int)) then ((bm (l3.getD ((((p5.getD x34.toNat default).a).getD 1 default).toNat) default)).bind fun y35 => if (-9223372036854775808 ≤ x34 ∧ x34 ≤ 9223372036854775807) ∧ l33.length < 1000000 ∧ y35 ≠ [] then (some (.inl ((((x34, y35) : Int × List Int) :: l33), (IntKind.wrap .i64 (x34 + 1))))) else none) else none) else (some (.inl (l33, (IntKind.wrap .i64 (x34 + 1)))))) else none) else (some (.inr l33))
noncomputable def ef (p4 : List Int) (p5 : List ab) (p6 : List (Int × List Int)) (l3 : List (List Int)) : Option ((List Int) × av × (List (Int × List Int))) :=
  (bb (fun (l33, x34) => bK p5 l3 l33 x34) (p6, 0)).bind (fun z36 => ee p4 l3 z36)
noncomputable def cw (p2 : List ah) (p3 : List Int) (p4 : List Int) (p5 : List ab) (p6 : List (Int × List Int)) (l44 : List (List Int)) (x45 : Int) : Option (((List (List Int)) × Int) ⊕ (List (List Int))) :=
  if x45 < (p5.length : Int) then (if (0 ≤ x45 ∧ x45 < (p5.length : Int)) then ((ko x45 (p5.getD x45.toNat default) p2 p3 p4 p5 l44 p6).bind fun y46 => if (0 ≤ (p5.getD x45.toNat default).out_ ∧ (p5.getD x45.toNat default).out_ < (l44.length : Int)) then (some (.inl ((l44.set (((p5.getD x45.toNat default).out_).toNat) y46), (IntKind.wrap .i64 (x45 + 1))))) else none) else none) else (some (.inr l44))
noncomputable def bp (p1 : List Int) (p2 : List ah) (p3 : List Int) (p4 : List Int) (p5 : List ab) (p6 : List (Int × List Int)) : Option ((List Int) × av × (List (Int × List Int))) :=
  if (0 ≤ (p2.length : Int) ∧ (p2.length : Int) ≤ (p2.length : Int)) ∧ dt p2.length 24 then ((iJ p1 p2 p3 p4 p5 (List.replicate p2.length []) p6).bind fun y1 => if ¬ ((y1.1).code) = 0 then (some ([], (y1.1), p6)) else ((bb (fun (l44, x45) => cw p2 p3 p4 p5 p6 l44 x45) (y1.2, 0)).bind (fun z47 => ef p4 p5 p6 z47))) else none
noncomputable def gJ : Option Bool :=
  some true
noncomputable def gK (p1 : List Int) (p2 : List Int) (x3 : Int) : Option (Int ⊕ (Unit ⊕ Bool)) :=
  if x3 < (p1.length : Int) then (if (0 ≤ x3 ∧ x3 < (p1.length : Int)) ∧ (0 ≤ x3 ∧ x3 < (p2.length : Int)) then (if ¬ (p1.getD x3.toNat default) = (p2.getD x3.toNat default) then (some (.inr (.inr false))) else (some (.inl (IntKind.wrap .i64 (x3 + 1))))) else none) else (some (.inr (.inl ())))
noncomputable def dL (p1 : List Int) (p2 : List Int) : Option Bool :=
  if ¬ (p1.length : Int) = (p2.length : Int) then (some false) else ((bb (fun x3 => gK p1 p2 x3) 0).bind (Sum.elim (fun _ => gJ) (fun z4 => some z4)))
noncomputable def ir : Option Bool :=
  (d7 (ae.mk (lit ([(ah.mk 105 0), (ah.mk 105 0), (ah.mk 105 0)] : List ah)) (lit ([0] : List Int)) (lit ([2] : List Int)) (lit ([(ab.mk 1 0 1 5 [] []), (ab.mk 13 0 2 0 (lit ([1, 0] : List Int)) [])] : List ab)))).bind fun y1 => Sum.elim (fun y2 => if ¬ ((y2).code) = 0 then (some false) else ((iq (lit ([1] : List Int))).bind fun y4 => none)) (fun y3 => if ¬ ((y3.1).code) = 0 then (some false) else ((bp (lit ([1] : List Int)) y3.2.2.2.2.1 y3.2.2.2.2.2.1 y3.2.2.2.2.2.2.1 y3.2.2.2.2.2.2.2 y3.2.1).bind fun y5 => (bp (lit ([2] : List Int)) y3.2.2.2.2.1 y3.2.2.2.2.2.1 y3.2.2.2.2.2.2.1 y3.2.2.2.2.2.2.2 y5.2.2).bind fun y6 => if ((y5.2.1).code) = 0 then (if ((y6.2.1).code) = 0 then ((dL y5.1 (lit ([5] : List Int))).bind fun y7 => if y7 = true then ((dL y6.1 (lit ([1] : List Int))).bind fun y8 => if y8 = true then ((hZ (ae.mk (lit ([(ah.mk 105 0), (ah.mk 105 0), (ah.mk 105 0)] : List ah)) (lit ([0] : List Int)) (lit ([2] : List Int)) (lit ([(ab.mk 1 0 1 5 [] []), (ab.mk 13 0 2 0 (lit ([1, 0] : List Int)) [])] : List ab))) (lit ([0, 1] : List Int))).bind fun y9 => some (y9 == 2)) else (some false)) else (some false)) else (some false)) else (some false))) y1
noncomputable def kO (p1 : Int) : Option Int :=
  if p1 < 1 then (some 1) else (some p1)
noncomputable def eg (p2 : Int) (x2 : Int) : Option Bool :=
  some (decide (x2 > (IntKind.wrap .i64 (100 * p2))))
noncomputable def eh (p1 : ae) (x7 : Int) (x8 : Int) : Option ((Int × Int) ⊕ (Int ⊕ Bool)) :=
  some (.inl ((IntKind.wrap .i64 (x7 + (IntKind.wrap .i64 ((((p1.rules.getD x8.toNat default).a).length : Int) + (((p1.rules.getD x8.toNat default).e).length : Int))))), (IntKind.wrap .i64 (x8 + 1))))
noncomputable def cx (p1 : ae) (x7 : Int) (x8 : Int) : Option ((Int × Int) ⊕ (Int ⊕ Bool)) :=
  if x8 < (p1.rules.length : Int) then (if (0 ≤ x8 ∧ x8 < (p1.rules.length : Int)) then (if (((p1.rules.getD x8.toNat default).a).length : Int) > 100 then (some (.inr (.inr true))) else (if (((p1.rules.getD x8.toNat default).e).length : Int) > 1000 then (some (.inr (.inr true))) else (if ((p1.rules.getD x8.toNat default).op) = 15 then (if ((p1.rules.getD x8.toNat default).n) > 1000 then (some (.inr (.inr true))) else (eh p1 x7 x8)) else (eh p1 x7 x8)))) else none) else (some (.inr (.inl x7)))
noncomputable def dy (p1 : ae) (p2 : Int) (x1 : Int) : Option Bool :=
  (bb (fun (x7, x8) => cx p1 x7 x8) (x1, 0)).bind (Sum.elim (fun z9 => eg p2 z9) (fun z10 => some z10))
noncomputable def cy (p1 : ae) (x15 : Int) (x16 : Int) : Option ((Int × Int) ⊕ (Int ⊕ Bool)) :=
  if x16 < (p1.vars.length : Int) then (if (0 ≤ x16 ∧ x16 < (p1.vars.length : Int)) then (if ((p1.vars.getD x16.toNat default).n) > 1000 then (some (.inr (.inr true))) else ((kO ((p1.vars.getD x16.toNat default).n)).bind fun y17 => some (.inl ((IntKind.wrap .i64 (x15 + y17)), (IntKind.wrap .i64 (x16 + 1)))))) else none) else (some (.inr (.inl x15)))
noncomputable def fK (p1 : ae) (p2 : Int) : Option Bool :=
  if (p1.vars.length : Int) > p2 then (some true) else (if (p1.rules.length : Int) > p2 then (some true) else (if (p1.in_.length : Int) > p2 then (some true) else (if (p1.out_.length : Int) > p2 then (some true) else ((bb (fun (x15, x16) => cy p1 x15 x16) (0, 0)).bind (Sum.elim (fun z18 => dy p1 p2 z18) (fun z19 => some z19))))))
noncomputable def gL : Option Bool :=
  some false
noncomputable def gM (p1 : List (List Int)) (x3 : Int) : Option (Int ⊕ (Unit ⊕ Bool)) :=
  if x3 < (p1.length : Int) then (if (0 ≤ x3 ∧ x3 < (p1.length : Int)) then (if ((p1.getD x3.toNat default).length : Int) > 10000 then (some (.inr (.inr true))) else (some (.inl (IntKind.wrap .i64 (x3 + 1))))) else none) else (some (.inr (.inl ())))
noncomputable def gj (p1 : List (List Int)) : Option Bool :=
  if (p1.length : Int) > 60 then (some true) else ((bb (fun x3 => gM p1 x3) 0).bind (Sum.elim (fun _ => gL) (fun z4 => some z4)))
noncomputable def jO (p1 : ab) : Option ab :=
  if dt p1.a.length 8 then (if dt p1.e.length 32 then (some p1) else none) else none
noncomputable def eO (p1 : ae) (l3 : List ab) : Option ae :=
  some (ae.mk p1.vars p1.in_ p1.out_ l3)
noncomputable def cJ (p1 : ae) (l17 : List ab) (x19 : Int) : Option (((List ab) × Int) ⊕ (List ab)) :=
  if x19 < (p1.rules.length : Int) then (if (0 ≤ x19 ∧ x19 < (p1.rules.length : Int)) then ((jO (p1.rules.getD x19.toNat default)).bind fun y20 => if dt (l17.length + 1) 80 then (some (.inl ((l17 ++ (lit ([(y20)] : List ab))), (IntKind.wrap .i64 (x19 + 1))))) else none) else none) else (some (.inr l17))
noncomputable def iS (p1 : ae) : Option ae :=
  if dt p1.vars.length 16 ∧ dt p1.in_.length 8 ∧ dt p1.out_.length 8 then ((bb (fun (l17, x19) => cJ p1 l17 x19) ([], 0)).bind (fun z21 => eO p1 z21)) else none
noncomputable def gN : Option Bool :=
  some true
noncomputable def j0 (p2 : List (List Int)) : Option (Unit ⊕ Unit) :=
  if 0 < (p2.length : Int) then (if (0 ≤ 0 ∧ 0 < (p2.length : Int)) then ((iq (p2.getD 0 default)).bind fun y11 => none) else none) else (some (.inr ()))
noncomputable def gO : Option Bool :=
  some true
noncomputable def j3 (p2 : List (List Int)) : Option (Unit ⊕ Unit) :=
  if 0 < (p2.length : Int) then (if (0 ≤ 0 ∧ 0 < (p2.length : Int)) then ((iq (p2.getD 0 default)).bind fun y12 => none) else none) else (some (.inr ()))
noncomputable def gP : Option Bool :=
  some true
noncomputable def j4 (p2 : List (List Int)) (y7 : (av × (List (Int × List Int)) × Int × Int × (List ah) × (List Int) × (List Int) × (List ab))) : Option (Unit ⊕ Unit) :=
  if 0 < (p2.length : Int) then (if (0 ≤ 0 ∧ 0 < (p2.length : Int)) then ((bp (p2.getD 0 default) y7.2.2.2.2.1 y7.2.2.2.2.2.1 y7.2.2.2.2.2.2.1 y7.2.2.2.2.2.2.2 y7.2.1).bind fun y16 => (iq (p2.getD 0 default)).bind fun y17 => none) else none) else (some (.inr ()))
noncomputable def gQ (l20 : List (Int × List Int)) (l21 : List (Int × List Int)) : Option Bool :=
  some true
noncomputable def cX (p2 : List (List Int)) (y7 : (av × (List (Int × List Int)) × Int × Int × (List ah) × (List Int) × (List Int) × (List ab))) (y15 : (av × (List (Int × List Int)) × Int × Int × (List ah) × (List Int) × (List Int) × (List ab))) (l34 : List (Int × List Int)) (l35 : List (Int × List Int)) (x36 : Int) : Option (((List (Int × List Int)) × (List (Int × List Int)) × Int) ⊕ (((List (Int × List Int)) × (List (Int × List Int))) ⊕ Bool)) :=
  if x36 < (p2.length : Int) then (if (0 ≤ x36 ∧ x36 < (p2.length : Int)) then ((bp (p2.getD x36.toNat default) y7.2.2.2.2.1 y7.2.2.2.2.2.1 y7.2.2.2.2.2.2.1 y7.2.2.2.2.2.2.2 l34).bind fun y37 => (bp (p2.getD x36.toNat default) y15.2.2.2.2.1 y15.2.2.2.2.2.1 y15.2.2.2.2.2.2.1 y15.2.2.2.2.2.2.2 l35).bind fun y38 => if ((y37.2.1).code) = ((y38.2.1).code) ∧ ((y37.2.1).at_) = ((y38.2.1).at_) then ((dL y37.1 y38.1).bind fun y39 => if y39 = true then (some (.inl (y37.2.2, y38.2.2, (IntKind.wrap .i64 (x36 + 1))))) else (some (.inr (.inr false)))) else (some (.inr (.inr false)))) else none) else (some (.inr (.inl (l34, l35))))
noncomputable def kb (p1 : ae) (p2 : List (List Int)) (p3 : Int) : Option Bool :=
  (ir ).bind fun y1 => if y1 = true then ((fK p1 150).bind fun y2 => if y2 = true then (some true) else ((gj p2).bind fun y3 => if y3 = true then (some true) else ((iS p1).bind fun y4 => if (IntKind.wrap .u64 (IntKind.wrap .i64 ((p1.rules.length : Int) + 1))) ≠ 0 then (if (0 ≤ (IntKind.wrap .i64 ((IntKind.wrap .u64 p3).tmod (IntKind.wrap .u64 (IntKind.wrap .i64 ((p1.rules.length : Int) + 1))))) ∧ (IntKind.wrap .i64 ((IntKind.wrap .u64 p3).tmod (IntKind.wrap .u64 (IntKind.wrap .i64 ((p1.rules.length : Int) + 1))))) ≤ (p1.rules.length : Int)) ∧ dt ((p1.rules.drop ((IntKind.wrap .i64 ((IntKind.wrap .u64 p3).tmod (IntKind.wrap .u64 (IntKind.wrap .i64 ((p1.rules.length : Int) + 1))))).toNat)).length) 80 then (if dt (((p1.rules.drop ((IntKind.wrap .i64 ((IntKind.wrap .u64 p3).tmod (IntKind.wrap .u64 (IntKind.wrap .i64 ((p1.rules.length : Int) + 1))))).toNat)).length) + ((p1.rules.take ((IntKind.wrap .i64 ((IntKind.wrap .u64 p3).tmod (IntKind.wrap .u64 (IntKind.wrap .i64 ((p1.rules.length : Int) + 1))))).toNat)).length)) 80 then ((d7 p1).bind fun y5 => Sum.elim (fun y6 => (d7 (ae.mk ((y4).vars) ((y4).in_) ((y4).out_) ((p1.rules.drop ((IntKind.wrap .i64 ((IntKind.wrap .u64 p3).tmod (IntKind.wrap .u64 (IntKind.wrap .i64 ((p1.rules.length : Int) + 1))))).toNat)) ++ (p1.rules.take ((IntKind.wrap .i64 ((IntKind.wrap .u64 p3).tmod (IntKind.wrap .u64 (IntKind.wrap .i64 ((p1.rules.length : Int) + 1))))).toNat))))).bind fun y8 => Sum.elim (fun y9 => if ¬ ((y6).code) = 0 then (some ((((y6).code) != 0) == (((y9).code) != 0))) else (if ¬ ((y9).code) = 0 then (some ((((y6).code) != 0) == (((y9).code) != 0))) else ((bb (fun _ => j0 p2) ()).bind (fun _ => gN)))) (fun y10 => if ¬ ((y6).code) = 0 then (some ((((y6).code) != 0) == (((y10.1).code) != 0))) else (if ¬ ((y10.1).code) = 0 then (some ((((y6).code) != 0) == (((y10.1).code) != 0))) else ((bb (fun _ => j3 p2) ()).bind (fun _ => gO)))) y8) (fun y7 => (d7 (ae.mk ((y4).vars) ((y4).in_) ((y4).out_) ((p1.rules.drop ((IntKind.wrap .i64 ((IntKind.wrap .u64 p3).tmod (IntKind.wrap .u64 (IntKind.wrap .i64 ((p1.rules.length : Int) + 1))))).toNat)) ++ (p1.rules.take ((IntKind.wrap .i64 ((IntKind.wrap .u64 p3).tmod (IntKind.wrap .u64 (IntKind.wrap .i64 ((p1.rules.length : Int) + 1))))).toNat))))).bind fun y13 => Sum.elim (fun y14 => if ¬ ((y7.1).code) = 0 then (some ((((y7.1).code) != 0) == (((y14).code) != 0))) else (if ¬ ((y14).code) = 0 then (some ((((y7.1).code) != 0) == (((y14).code) != 0))) else ((bb (fun _ => j4 p2 y7) ()).bind (fun _ => gP)))) (fun y15 => if ¬ ((y7.1).code) = 0 then (some ((((y7.1).code) != 0) == (((y15.1).code) != 0))) else (if ¬ ((y15.1).code) = 0 then (some ((((y7.1).code) != 0) == (((y15.1).code) != 0))) else ((bb (fun (l34, l35, x36) => cX p2 y7 y15 l34 l35 x36) (y7.2.1, y15.2.1, 0)).bind (Sum.elim (fun (z40, z41) => gQ z40 z41) (fun z42 => some z42))))) y13) y5) else none) else none) else none))) else (some false)
end Pam
namespace Pam
open Go
end Pam
namespace Pam
open Go
end Pam
namespace Pam
open Go
end Pam
namespace Pam
open Go
end Pam
namespace Pam
open Go
noncomputable def qQ (p1 : Int) (x1 : Int) : Option (Int × Int × Int) :=
  if (0 ≤ p1 ∧ p1 < (([63, 105, 105, 105, 105, 105, 105, 105, 105, 105, 98, 98, 98, 105, 98] : List UInt8).length : Int)) ∧ (0 ≤ p1 ∧ p1 < (([63, 105, 105, 105, 105, 105, 105, 105, 98, 98, 98, 98, 98, 105, 98] : List UInt8).length : Int)) then (some (((([63, 105, 105, 105, 105, 105, 105, 105, 105, 105, 98, 98, 98, 105, 98] : List UInt8).getD p1.toNat 0).toNat : Int), ((([63, 105, 105, 105, 105, 105, 105, 105, 98, 98, 98, 98, 98, 105, 98] : List UInt8).getD p1.toNat 0).toNat : Int), x1)) else none
noncomputable def mi (p1 : Int) : Option (Int × Int × Int) :=
  if p1 < 1 then (some (0, 0, 0)) else (if p1 > 14 then (some (0, 0, 0)) else (if p1 ≥ 13 then (qQ p1 1) else (qQ p1 2)))
noncomputable def kP (p1 : Int) : Option Bool :=
  (mi p1).bind fun y1 => if y1.2.2 = 2 then (some (y1.1 == y1.2.1)) else (some false)
noncomputable def oT (p1 : Int) : Option Bool :=
  if p1 ≥ (-1000000) then (some (decide (p1 ≤ 1000000))) else (some false)
noncomputable def kt (l3 : List Int) : Option Int :=
  if ¬ (l3.length : Int) = 1 then (some 0) else (if (0 ≤ 0 ∧ 0 < (l3.length : Int)) then (some (l3.getD 0 default)) else none)
noncomputable def gW (p1 : ae) (p2 : List aq) (p3 : Int) (l17 : List Int) (x19 : Int) : Option (((List Int) × Int) ⊕ ((List Int) ⊕ Int)) :=
  if x19 < (p2.length : Int) then (if (0 ≤ x19 ∧ x19 < (p2.length : Int)) then (if ((p2.getD x19.toNat default).op) = 1 then (if ((p2.getD x19.toNat default).k) = 0 then (if dt (l17.length + 1) 1 then (some (.inl ((l17 ++ (lit ([105] : List Int))), (IntKind.wrap .i64 (x19 + 1))))) else none) else (if ((p2.getD x19.toNat default).k) = 1 then (if ((p2.getD x19.toNat default).n) = 0 then (if dt (l17.length + 1) 1 then (some (.inl ((l17 ++ (lit ([98] : List Int))), (IntKind.wrap .i64 (x19 + 1))))) else none) else (if ((p2.getD x19.toNat default).n) = 1 then (if dt (l17.length + 1) 1 then (some (.inl ((l17 ++ (lit ([98] : List Int))), (IntKind.wrap .i64 (x19 + 1))))) else none) else (some (.inr (.inr 0))))) else (some (.inr (.inr 0))))) else (if ((p2.getD x19.toNat default).op) = 2 then (if (0 ≤ (p2.getD x19.toNat default).v ∧ (p2.getD x19.toNat default).v < (p1.vars.length : Int)) then (if ¬ ((p1.vars.getD (((p2.getD x19.toNat default).v).toNat) default).n) = 0 then (some (.inr (.inr 0))) else (if dt (l17.length + 1) 1 then (some (.inl ((l17 ++ (lit ([(p1.vars.getD (((p2.getD x19.toNat default).v).toNat) default).elem] : List Int))), (IntKind.wrap .i64 (x19 + 1))))) else none)) else none) else (if ((p2.getD x19.toNat default).op) = 3 then (if (0 ≤ (p2.getD x19.toNat default).v ∧ (p2.getD x19.toNat default).v < (p1.vars.length : Int)) then (if ((p1.vars.getD (((p2.getD x19.toNat default).v).toNat) default).n) = 0 then (some (.inr (.inr 0))) else (if ((p2.getD x19.toNat default).n) < 0 then (some (.inr (.inr 0))) else (if ((p1.vars.getD (((p2.getD x19.toNat default).v).toNat) default).n) < p3 then (some (.inr (.inr 0))) else (if ((p2.getD x19.toNat default).n) > (IntKind.wrap .i64 (((p1.vars.getD (((p2.getD x19.toNat default).v).toNat) default).n) - p3)) then (some (.inr (.inr 0))) else (if dt (l17.length + 1) 1 then (some (.inl ((l17 ++ (lit ([(p1.vars.getD (((p2.getD x19.toNat default).v).toNat) default).elem] : List Int))), (IntKind.wrap .i64 (x19 + 1))))) else none))))) else none) else (if ((p2.getD x19.toNat default).op) = 4 then ((oT ((p2.getD x19.toNat default).n)).bind fun y20 => if y20 = true then (if dt (l17.length + 1) 1 then (some (.inl ((l17 ++ (lit ([105] : List Int))), (IntKind.wrap .i64 (x19 + 1))))) else none) else (some (.inr (.inr 0)))) else (if ((p2.getD x19.toNat default).op) = 5 then ((mi ((p2.getD x19.toNat default).k)).bind fun y21 => if ¬ y21.2.2 = 1 then (some (.inr (.inr 0))) else (if (l17.length : Int) < 1 then (some (.inr (.inr 0))) else (if (0 ≤ (IntKind.wrap .i64 ((l17.length : Int) - 1)) ∧ (IntKind.wrap .i64 ((l17.length : Int) - 1)) < (l17.length : Int)) then (if ¬ (l17.getD ((IntKind.wrap .i64 ((l17.length : Int) - 1)).toNat) default) = y21.1 then (some (.inr (.inr 0))) else (some (.inl ((l17.set ((IntKind.wrap .i64 ((l17.length : Int) - 1)).toNat) y21.2.1), (IntKind.wrap .i64 (x19 + 1)))))) else none))) else (if ((p2.getD x19.toNat default).op) = 6 then ((mi ((p2.getD x19.toNat default).k)).bind fun y22 => if ¬ y22.2.2 = 2 then (some (.inr (.inr 0))) else (if (l17.length : Int) < 2 then (some (.inr (.inr 0))) else (if (0 ≤ (IntKind.wrap .i64 ((l17.length : Int) - 1)) ∧ (IntKind.wrap .i64 ((l17.length : Int) - 1)) < (l17.length : Int)) then (if ¬ (l17.getD ((IntKind.wrap .i64 ((l17.length : Int) - 1)).toNat) default) = y22.1 then (some (.inr (.inr 0))) else (if (0 ≤ (IntKind.wrap .i64 ((l17.length : Int) - 2)) ∧ (IntKind.wrap .i64 ((l17.length : Int) - 2)) < (l17.length : Int)) then (if ¬ (l17.getD ((IntKind.wrap .i64 ((l17.length : Int) - 2)).toNat) default) = y22.1 then (some (.inr (.inr 0))) else (if (0 ≤ (IntKind.wrap .i64 ((l17.length : Int) - 2)) ∧ (IntKind.wrap .i64 ((l17.length : Int) - 2)) ≤ (l17.length : Int)) ∧ dt (((IntKind.wrap .i64 ((l17.length : Int) - 2)).toNat) + 1) 1 then (some (.inl (((l17.take ((IntKind.wrap .i64 ((l17.length : Int) - 2)).toNat)) ++ (lit ([y22.2.1] : List Int))), (IntKind.wrap .i64 (x19 + 1))))) else none)) else none)) else none))) else (if ((p2.getD x19.toNat default).op) = 7 then (if (l17.length : Int) < 3 then (some (.inr (.inr 0))) else (if (0 ≤ (IntKind.wrap .i64 ((l17.length : Int) - 3)) ∧ (IntKind.wrap .i64 ((l17.length : Int) - 3)) < (l17.length : Int)) then (if ¬ (l17.getD ((IntKind.wrap .i64 ((l17.length : Int) - 3)).toNat) default) = 98 then (some (.inr (.inr 0))) else (if (0 ≤ (IntKind.wrap .i64 ((l17.length : Int) - 2)) ∧ (IntKind.wrap .i64 ((l17.length : Int) - 2)) < (l17.length : Int)) ∧ (0 ≤ (IntKind.wrap .i64 ((l17.length : Int) - 1)) ∧ (IntKind.wrap .i64 ((l17.length : Int) - 1)) < (l17.length : Int)) then (if ¬ (l17.getD ((IntKind.wrap .i64 ((l17.length : Int) - 2)).toNat) default) = (l17.getD ((IntKind.wrap .i64 ((l17.length : Int) - 1)).toNat) default) then (some (.inr (.inr 0))) else (if (0 ≤ (IntKind.wrap .i64 ((l17.length : Int) - 3)) ∧ (IntKind.wrap .i64 ((l17.length : Int) - 3)) ≤ (l17.length : Int)) ∧ dt (((IntKind.wrap .i64 ((l17.length : Int) - 3)).toNat) + 1) 1 then (some (.inl (((l17.take ((IntKind.wrap .i64 ((l17.length : Int) - 3)).toNat)) ++ (lit ([(l17.getD ((IntKind.wrap .i64 ((l17.length : Int) - 1)).toNat) default)] : List Int))), (IntKind.wrap .i64 (x19 + 1))))) else none)) else none)) else none)) else (if ((p2.getD x19.toNat default).op) = 8 then (if (0 ≤ (p2.getD x19.toNat default).v ∧ (p2.getD x19.toNat default).v < (p1.vars.length : Int)) then (if ((p1.vars.getD (((p2.getD x19.toNat default).v).toNat) default).n) = 0 then (some (.inr (.inr 0))) else (if (l17.length : Int) < 2 then (some (.inr (.inr 0))) else (if (0 ≤ (IntKind.wrap .i64 ((l17.length : Int) - 2)) ∧ (IntKind.wrap .i64 ((l17.length : Int) - 2)) < (l17.length : Int)) then (if ¬ (l17.getD ((IntKind.wrap .i64 ((l17.length : Int) - 2)).toNat) default) = 105 then (some (.inr (.inr 0))) else (if (0 ≤ (IntKind.wrap .i64 ((l17.length : Int) - 1)) ∧ (IntKind.wrap .i64 ((l17.length : Int) - 1)) < (l17.length : Int)) then (if ¬ (l17.getD ((IntKind.wrap .i64 ((l17.length : Int) - 1)).toNat) default) = ((p1.vars.getD (((p2.getD x19.toNat default).v).toNat) default).elem) then (some (.inr (.inr 0))) else (if (0 ≤ (IntKind.wrap .i64 ((l17.length : Int) - 2)) ∧ (IntKind.wrap .i64 ((l17.length : Int) - 2)) ≤ (l17.length : Int)) ∧ dt (((IntKind.wrap .i64 ((l17.length : Int) - 2)).toNat) + 1) 1 then (some (.inl (((l17.take ((IntKind.wrap .i64 ((l17.length : Int) - 2)).toNat)) ++ (lit ([(p1.vars.getD (((p2.getD x19.toNat default).v).toNat) default).elem] : List Int))), (IntKind.wrap .i64 (x19 + 1))))) else none)) else none)) else none))) else none) else (some (.inr (.inr 0))))))))))) else none) else (some (.inr (.inl l17)))
noncomputable def lp (p1 : ae) (p2 : List aq) (p3 : Int) : Option Int :=
  (bb (fun (l17, x19) => gW p1 p2 p3 l17 x19) ([], 0)).bind (Sum.elim (fun z23 => kt z23) (fun z24 => some z24))
noncomputable def aA (p1 : ae) (p2 : ab) (l2 : List ah) : Option Bool :=
  (mi p2.k).bind fun y3 => if p2.op = 1 then (if ((p1.vars.getD p2.out_.toNat default).elem) = 105 ∧ ((p1.vars.getD p2.out_.toNat default).n) = 0 then (some true) else (if ((p1.vars.getD p2.out_.toNat default).elem) = 98 ∧ ((p1.vars.getD p2.out_.toNat default).n) = 0 then (if p2.n = 0 then (some true) else (some (p2.n == 1))) else (some false))) else (if p2.op = 2 then (if (0 ≤ 0 ∧ 0 < (3 : Int)) ∧ 0 < l2.length then (some ((((l2.getD 0 default).elem) == ((p1.vars.getD p2.out_.toNat default).elem)) && (((l2.getD 0 default).n) == ((p1.vars.getD p2.out_.toNat default).n)))) else none) else (if p2.op = 3 then (if y3.2.2 = 1 then (if (0 ≤ 0 ∧ 0 < (3 : Int)) ∧ 0 < l2.length then (if ((l2.getD 0 default).elem) = y3.1 then (some ((((p1.vars.getD p2.out_.toNat default).elem) == y3.2.1) && (((p1.vars.getD p2.out_.toNat default).n) == ((l2.getD 0 default).n)))) else (some false)) else none) else (some false)) else (if p2.op = 4 then (if y3.2.2 = 2 then (if (0 ≤ 0 ∧ 0 < (3 : Int)) ∧ 0 < l2.length then (if ((l2.getD 0 default).elem) = y3.1 then (if (0 ≤ 1 ∧ 1 < (3 : Int)) ∧ 1 < l2.length then (if ((l2.getD 1 default).elem) = ((l2.getD 0 default).elem) ∧ ((l2.getD 1 default).n) = ((l2.getD 0 default).n) then (some ((((p1.vars.getD p2.out_.toNat default).elem) == y3.2.1) && (((p1.vars.getD p2.out_.toNat default).n) == ((l2.getD 0 default).n)))) else (some false)) else none) else (some false)) else none) else (some false)) else (if p2.op = 5 then (if (0 ≤ 0 ∧ 0 < (3 : Int)) ∧ 0 < l2.length then (if ((l2.getD 0 default).elem) = 98 ∧ ((l2.getD 0 default).n) = 0 then (if (0 ≤ 1 ∧ 1 < (3 : Int)) ∧ 1 < l2.length then (if ((l2.getD 1 default).elem) = ((p1.vars.getD p2.out_.toNat default).elem) ∧ ((l2.getD 1 default).n) = ((p1.vars.getD p2.out_.toNat default).n) then (if (0 ≤ 2 ∧ 2 < (3 : Int)) ∧ 2 < l2.length then (some ((((l2.getD 2 default).elem) == ((p1.vars.getD p2.out_.toNat default).elem)) && (((l2.getD 2 default).n) == ((p1.vars.getD p2.out_.toNat default).n)))) else none) else (some false)) else none) else (some false)) else none) else (if p2.op = 6 then ((kP p2.k).bind fun y4 => if y4 = true then (if (0 ≤ 0 ∧ 0 < (3 : Int)) ∧ 0 < l2.length then (if ((l2.getD 0 default).elem) = y3.1 ∧ ((l2.getD 0 default).n) = 0 then (if (0 ≤ 1 ∧ 1 < (3 : Int)) ∧ 1 < l2.length then (if ((l2.getD 1 default).n) > 0 then (if ((l2.getD 1 default).elem) = y3.1 then (some ((((p1.vars.getD p2.out_.toNat default).elem) == ((l2.getD 0 default).elem)) && (((p1.vars.getD p2.out_.toNat default).n) == ((l2.getD 0 default).n)))) else (some false)) else (some false)) else none) else (some false)) else none) else (some false)) else (if p2.op = 7 then ((kP p2.k).bind fun y5 => if y5 = true then (if (0 ≤ 0 ∧ 0 < (3 : Int)) ∧ 0 < l2.length then (if ((l2.getD 0 default).elem) = y3.1 ∧ ((l2.getD 0 default).n) = 0 then (if (0 ≤ 1 ∧ 1 < (3 : Int)) ∧ 1 < l2.length then (if ((l2.getD 1 default).n) > 0 then (if ((l2.getD 1 default).elem) = y3.1 then (some ((((p1.vars.getD p2.out_.toNat default).elem) == ((l2.getD 1 default).elem)) && (((p1.vars.getD p2.out_.toNat default).n) == ((l2.getD 1 default).n)))) else (some false)) else (some false)) else none) else (some false)) else none) else (some false)) else (if p2.op = 8 then (if (0 ≤ 0 ∧ 0 < (3 : Int)) ∧ 0 < l2.length then (if ((l2.getD 0 default).n) = 0 then (if ((p1.vars.getD p2.out_.toNat default).n) > 0 then (some (((p1.vars.getD p2.out_.toNat default).elem) == ((l2.getD 0 default).elem))) else (some false)) else (some false)) else none) else (if p2.op = 9 then (if (0 ≤ 0 ∧ 0 < (3 : Int)) ∧ 0 < l2.length then (if ((l2.getD 0 default).n) > 0 then (if (0 ≤ 1 ∧ 1 < (3 : Int)) ∧ 1 < l2.length then (if ((l2.getD 1 default).elem) = 105 ∧ ((l2.getD 1 default).n) = 0 then (if (0 ≤ 2 ∧ 2 < (3 : Int)) ∧ 2 < l2.length then (if ((l2.getD 2 default).elem) = ((l2.getD 0 default).elem) ∧ ((l2.getD 2 default).n) = 0 then (some ((((p1.vars.getD p2.out_.toNat default).elem) == ((l2.getD 2 default).elem)) && (((p1.vars.getD p2.out_.toNat default).n) == ((l2.getD 2 default).n)))) else (some false)) else none) else (some false)) else none) else (some false)) else none) else (if p2.op = 10 then (if (0 ≤ 0 ∧ 0 < (3 : Int)) ∧ 0 < l2.length then (if ((l2.getD 0 default).n) > 0 then (if (0 ≤ 1 ∧ 1 < (3 : Int)) ∧ 1 < l2.length then (if ((l2.getD 1 default).elem) = 105 ∧ ((l2.getD 1 default).n) = 0 then (if (0 ≤ 2 ∧ 2 < (3 : Int)) ∧ 2 < l2.length then (if ((l2.getD 2 default).elem) = ((l2.getD 0 default).elem) ∧ ((l2.getD 2 default).n) = 0 then (some ((((p1.vars.getD p2.out_.toNat default).elem) == ((l2.getD 0 default).elem)) && (((p1.vars.getD p2.out_.toNat default).n) == ((l2.getD 0 default).n)))) else (some false)) else none) else (some false)) else none) else (some false)) else none) else (if p2.op = 11 then (if ((p1.vars.getD p2.out_.toNat default).n) > 0 then (if (0 ≤ 0 ∧ 0 < (3 : Int)) ∧ 0 < l2.length then (if ((l2.getD 0 default).n) > 0 then (if ((p1.vars.getD p2.out_.toNat default).elem) = ((l2.getD 0 default).elem) then (if p2.n ≥ 0 then (if ((p1.vars.getD p2.out_.toNat default).n) ≤ ((l2.getD 0 default).n) then (some (decide (p2.n ≤ (IntKind.wrap .i64 (((l2.getD 0 default).n) - ((p1.vars.getD p2.out_.toNat default).n)))))) else (some false)) else (some false)) else (some false)) else (some false)) else none) else (some false)) else (if p2.op = 12 then (if (0 ≤ 0 ∧ 0 < (3 : Int)) ∧ 0 < l2.length then (if ((l2.getD 0 default).n) > 0 then (if (0 ≤ 1 ∧ 1 < (3 : Int)) ∧ 1 < l2.length then (if ((l2.getD 1 default).n) > 0 then (if ((l2.getD 0 default).elem) = ((l2.getD 1 default).elem) then (some ((((p1.vars.getD p2.out_.toNat default).elem) == ((l2.getD 0 default).elem)) && (((p1.vars.getD p2.out_.toNat default).n) == (IntKind.wrap .i64 (((l2.getD 0 default).n) + ((l2.getD 1 default).n)))))) else (some false)) else (some false)) else none) else (some false)) else none) else (if p2.op = 13 then (if (0 ≤ 0 ∧ 0 < (3 : Int)) ∧ 0 < l2.length then (if ((l2.getD 0 default).elem) = ((p1.vars.getD p2.out_.toNat default).elem) ∧ ((l2.getD 0 default).n) = ((p1.vars.getD p2.out_.toNat default).n) then (if (0 ≤ 1 ∧ 1 < (3 : Int)) ∧ 1 < l2.length then (some ((((l2.getD 1 default).elem) == ((p1.vars.getD p2.out_.toNat default).elem)) && (((l2.getD 1 default).n) == ((p1.vars.getD p2.out_.toNat default).n)))) else none) else (some false)) else none) else (if p2.op = 14 then ((kO ((p1.vars.getD p2.out_.toNat default).n)).bind fun y6 => (lp p1 p2.e y6).bind fun y7 => some (y7 == ((p1.vars.getD p2.out_.toNat default).elem))) else (if p2.op = 15 then ((kP p2.k).bind fun y8 => if y8 = true then (if ((p1.vars.getD p2.out_.toNat default).elem) = y3.1 ∧ ((p1.vars.getD p2.out_.toNat default).n) = 0 then (if (0 ≤ 0 ∧ 0 < (3 : Int)) ∧ 0 < l2.length then (if ((l2.getD 0 default).elem) = ((p1.vars.getD p2.out_.toNat default).elem) ∧ ((l2.getD 0 default).n) = ((p1.vars.getD p2.out_.toNat default).n) then (if p2.n ≥ 1 then (if p2.n ≤ 300 then ((lp p1 p2.e p2.n).bind fun y9 => some (y9 == y3.1)) else (some false)) else (some false)) else (some false)) else none) else (some false)) else (some false)) else ((kP p2.k).bind fun y10 => if y10 = true then (if ((p1.vars.getD p2.out_.toNat default).n) > 0 then (if ((p1.vars.getD p2.out_.toNat default).elem) = y3.1 then (if (0 ≤ 0 ∧ 0 < (3 : Int)) ∧ 0 < l2.length then (if ((l2.getD 0 default).elem) = y3.1 ∧ ((l2.getD 0 default).n) = 0 then ((lp p1 p2.e ((p1.vars.getD p2.out_.toNat default).n)).bind fun y11 => some (y11 == y3.1)) else (some false)) else none) else (some false)) else (some false)) else (some false))))))))))))))))
noncomputable def cR (p1 : ae) (p2 : ab) (l19 : List ah) (x20 : Int) : Option (((List ah) × Int) ⊕ (List ah)) :=
  if x20 < (p2.a.length : Int) then (if (0 ≤ x20 ∧ x20 < (p2.a.length : Int)) ∧ (0 ≤ (p2.a.getD x20.toNat default) ∧ (p2.a.getD x20.toNat default) < (p1.vars.length : Int)) ∧ (0 ≤ x20 ∧ x20 < (3 : Int)) ∧ x20.toNat < l19.length then (some (.inl ((l19.set x20.toNat (p1.vars.getD ((p2.a.getD x20.toNat default).toNat) default)), (IntKind.wrap .i64 (x20 + 1))))) else none) else (some (.inr l19))
noncomputable def az (p1 : ae) (p2 : ab) : Option Bool :=
  if (0 ≤ p2.out_ ∧ p2.out_ < (p1.vars.length : Int)) then ((bb (fun (l19, x20) => cR p1 p2 l19 x20) ((List.replicate 3 (ah.mk 0 0)), 0)).bind (fun z21 => aA p1 p2 z21)) else none
end Pam
namespace Pam
open Go
end Pam
namespace Pam
open Go
end Pam
namespace Pam
open Go
end Pam
namespace Pam
open Go
end Pam
namespace Pam
open Go
end Pam
namespace Pam
open Go
end Pam
namespace Pam
open Go
end Pam
namespace Pam
open Go
end Pam
namespace Pam
open Go
noncomputable def be (b1 : Bool) : Option Int :=
  if b1 = true then (some 1) else (some 0)
noncomputable def br (p1 : Int) (p2 : Int) (p3 : Int) : Option Int :=
  if p1 = 1 then (some (IntKind.wrap .i64 (p2 + p3))) else (if p1 = 2 then (some (IntKind.wrap .i64 (p2 - p3))) else (if p1 = 3 then (some (IntKind.wrap .i64 (p2 * p3))) else (if p1 = 13 then (some (IntKind.wrap .i64 (0 - p2))) else (if p1 = 4 then (if p3 = 0 then (some 0) else (if p3 = (-1) then (some (IntKind.wrap .i64 (0 - p2))) else (if p3 ≠ 0 then (some (IntKind.wrap .i64 (p2.tdiv p3))) else none))) else (if p1 = 5 then (if p3 = 0 then (some 0) else (if p3 = (-1) then (some 0) else (if p3 ≠ 0 then (some (IntKind.wrap .i64 (p2 - (IntKind.wrap .i64 ((IntKind.wrap .i64 (p2.tdiv p3)) * p3))))) else none))) else (if p1 = 6 then (if p3 < p2 then (some p3) else (some p2)) else (if p1 = 7 then (if p3 > p2 then (some p3) else (some p2)) else (if p1 = 8 then (be (decide (p2 < p3))) else (if p1 = 9 then (be (p2 == p3)) else (if p1 = 10 then (if ¬ p2 = 0 then (be (p3 != 0)) else (be false)) else (if p1 = 11 then (if ¬ p2 = 0 then (be true) else (be (p3 != 0))) else (if p1 = 12 then (be (!((p2 == 0) == (p3 == 0)))) else (if p1 = 14 then (be (p2 == 0)) else (be false))))))))))))))
end Pam
namespace Pam
open Go
end Pam
namespace Pam
open Go
end Pam
namespace Pam
open Go
end Pam
namespace Pam
open Go
end Pam
