/- what slices_Clone_int_int computes, read off the program by a program of ours -/
import Derived.Test.YtbkohebnociapaaAaData1
import Derived.Test.YtbkohebnociapaaABase3
set_option linter.all false
namespace Pam
open Go
noncomputable def bw (p1 : List Int) : Option (List Int) :=
  if p1 = [] then (some []) else (if d3 p1.length 8 then (some p1) else none)
end Pam

namespace Pam
open Go
noncomputable def dY (p1 : List Int) : Option (List Int) :=
  if p1.length ≤ 140737488355328 then some (li p1) else none
end Pam

namespace Pam
open Go
noncomputable def dd (p0 : Nat) (p1 : List Int) : Option (List Int) :=
  if p0 = p1.length ∧ p1.length ≤ 140737488355328 then some (Go.Lib.compact p1) else none
end Pam

namespace Pam
open Go
noncomputable def hP (l4 : List Int) : Option (List Int) :=
  (dY l4).bind fun y6 => (dd l4.length y6).bind fun y7 => some y7
noncomputable def ft (p1 : ae) (l20 : List Int) (x22 : Int) (b25 : Bool) : Option (((List Int) × Int) ⊕ (List Int)) :=
  if b25 = true then (if d3 (l20.length + 1) 8 then (some (.inl ((l20 ++ (lit ([(p1.e.getD x22.toNat default).v] : List Int))), (IntKind.wrap .i64 (x22 + 1))))) else none) else (some (.inl (l20, (IntKind.wrap .i64 (x22 + 1)))))
noncomputable def eH (p1 : ae) (l20 : List Int) (x22 : Int) : Option (((List Int) × Int) ⊕ (List Int)) :=
  if x22 < (p1.e.length : Int) then (if (0 ≤ x22 ∧ x22 < (p1.e.length : Int)) then (if ((p1.e.getD x22.toNat default).op) = 2 then (ft p1 l20 x22 (((p1.e.getD x22.toNat default).op) == 2)) else (if ((p1.e.getD x22.toNat default).op) = 3 then (ft p1 l20 x22 (((p1.e.getD x22.toNat default).op) == 3)) else (ft p1 l20 x22 (((p1.e.getD x22.toNat default).op) == 8)))) else none) else (some (.inr l20))
noncomputable def jI (p1 : ae) : Option (List Int) :=
  (bw p1.a).bind fun y1 => (bb (fun (l20, x22) => eH p1 l20 x22) (y1, 0)).bind (fun z26 => hP z26)
end Pam

namespace Pam
open Go
noncomputable def ee (p1 : ae) (l1 : List aD) : Option (List Int) :=
  (jI (ae.mk p1.op p1.k p1.out_ p1.n p1.a l1)).bind fun y2 => some y2
noncomputable def ef (p1 : ae) : Option (List Int) :=
  if p1.op < 14 then (ee p1 []) else (ee p1 p1.e)
noncomputable def gg (p1 : ae) : Option (List Int) :=
  if p1.op = 13 then (if (p1.a.length : Int) = 2 then (if (0 ≤ 0 ∧ 0 < (p1.a.length : Int)) then (some (lit ([(p1.a.getD 0 default)] : List Int))) else none) else (ef p1)) else (ef p1)
end Pam

namespace Pam
open Go
noncomputable def eI (p1 : Int) (p2 : aw) : Option Bool :=
  if p1 ≥ 0 then (some (decide (p1 < (p2.system.vars.length : Int)))) else (some false)
end Pam

namespace Pam
open Go
noncomputable def cX : Option Int :=
  some (-1)
noncomputable def cY (p1 : List Int) (p2 : Int) (x3 : Int) : Option (Int ⊕ (Unit ⊕ Int)) :=
  if x3 < (p1.length : Int) then (if (0 ≤ x3 ∧ x3 < (p1.length : Int)) then (if p2 = (p1.getD x3.toNat default) then (some (.inr (.inr x3))) else (some (.inl (IntKind.wrap .i64 (x3 + 1))))) else none) else (some (.inr (.inl ())))
noncomputable def dL (p1 : List Int) (p2 : Int) : Option Int :=
  (bb (fun x3 => cY p1 p2 x3) 0).bind (Sum.elim (fun _ => cX) (fun z4 => some z4))
end Pam

namespace Pam
open Go
noncomputable def cZ (p1 : List Int) (p2 : Int) : Option Bool :=
  (dL p1 p2).bind fun y1 => some (decide (y1 ≥ 0))
end Pam

namespace Pam
open Go
noncomputable def eJ : Option ar :=
  some (ar.mk 0 0)
noncomputable def eM (p1 : aw) (x3 : Int) : Option (Int ⊕ (Unit ⊕ ar)) :=
  if x3 < (p1.system.out_.length : Int) then (if (0 ≤ x3 ∧ x3 < (p1.system.out_.length : Int)) then ((eI (p1.system.out_.getD x3.toNat default) p1).bind fun y4 => if y4 = true then (some (.inl (IntKind.wrap .i64 (x3 + 1)))) else (some (.inr (.inr (ar.mk 16 (-1)))))) else none) else (some (.inr (.inl ())))
noncomputable def de (p1 : aw) : Option ar :=
  (bb (fun x3 => eM p1 x3) 0).bind (Sum.elim (fun _ => eJ) (fun z5 => some z5))
noncomputable def eN (p1 : aw) (x8 : Int) : Option (Int ⊕ (Unit ⊕ ar)) :=
  if x8 < (p1.system.in_.length : Int) then (if (0 ≤ x8 ∧ x8 < (p1.system.in_.length : Int)) then ((eI (p1.system.in_.getD x8.toNat default) p1).bind fun y9 => if y9 = true then (if (0 ≤ x8 ∧ x8 ≤ (p1.system.in_.length : Int)) then ((cZ (p1.system.in_.take x8.toNat) (p1.system.in_.getD x8.toNat default)).bind fun y10 => if y10 = true then (some (.inr (.inr (ar.mk 8 (-1))))) else (some (.inl (IntKind.wrap .i64 (x8 + 1))))) else none) else (some (.inr (.inr (ar.mk 16 (-1)))))) else none) else (some (.inr (.inl ())))
noncomputable def cJ (p1 : aw) : Option ar :=
  (bb (fun x8 => eN p1 x8) 0).bind (Sum.elim (fun _ => de p1) (fun z11 => some z11))
noncomputable def df (p1 : aw) (x14 : Int) : Option (Int ⊕ (Unit ⊕ ar)) :=
  if ((p1.system.vars.getD x14.toNat default).n) < 0 then (some (.inr (.inr (ar.mk 13 (IntKind.wrap .i64 ((-2) - x14)))))) else (if ((p1.system.vars.getD x14.toNat default).n) > 300 then (some (.inr (.inr (ar.mk 13 (IntKind.wrap .i64 ((-2) - x14)))))) else (some (.inl (IntKind.wrap .i64 (x14 + 1)))))
noncomputable def dO (p1 : aw) (x14 : Int) : Option (Int ⊕ (Unit ⊕ ar)) :=
  if x14 < (p1.system.vars.length : Int) then (if (0 ≤ x14 ∧ x14 < (p1.system.vars.length : Int)) then (if ¬ ((p1.system.vars.getD x14.toNat default).elem) = 105 then (if ¬ ((p1.system.vars.getD x14.toNat default).elem) = 98 then (some (.inr (.inr (ar.mk 10 (IntKind.wrap .i64 ((-2) - x14)))))) else (df p1 x14)) else (df p1 x14)) else none) else (some (.inr (.inl ())))
noncomputable def gh (p1 : aw) : Option ar :=
  if (p1.system.vars.length : Int) > 400 then (some (ar.mk 7 (-1))) else (if (p1.system.rules.length : Int) > 400 then (some (ar.mk 7 (-1))) else (if (p1.system.in_.length : Int) > 400 then (some (ar.mk 7 (-1))) else (if (p1.system.out_.length : Int) > 400 then (some (ar.mk 7 (-1))) else ((bb (fun x14 => dO p1 x14) 0).bind (Sum.elim (fun _ => cJ p1) (fun z15 => some z15))))))
end Pam

namespace Pam
open Go
noncomputable def br (p1 : Bool) (p2 : Int) (p3 : aw) : Option Int :=
  if p1 = true then (if p3.code = 0 then (some p2) else (some p3.code)) else (some p3.code)
end Pam

namespace Pam
open Go
noncomputable def jr (p1 : Int) : Option Int :=
  if p1 < 1 then (some (-1)) else (if p1 > 16 then (some (-1)) else (if (0 ≤ p1 ∧ p1 < (17 : Int)) then (some ((lit ([0, 0, 1, 1, 2, 3, 2, 2, 1, 3, 3, 1, 2, 2, 0, 1, 1] : List Int)).getD p1.toNat 0)) else none))
end Pam

namespace Pam
open Go
noncomputable def i4 (p1 : Int) : Option (Int × Int × Int) :=
  if p1 ≥ 1 then (if p1 ≤ 7 then (some (105, 105, 2)) else (if p1 = 8 then (some (105, 98, 2)) else (if p1 = 9 then (some (105, 98, 2)) else (if p1 ≥ 10 then (if p1 ≤ 12 then (some (98, 98, 2)) else (if p1 = 13 then (some (105, 105, 1)) else (if p1 = 14 then (some (98, 98, 1)) else (some (0, 0, 0))))) else (if p1 = 13 then (some (105, 105, 1)) else (if p1 = 14 then (some (98, 98, 1)) else (some (0, 0, 0)))))))) else (if p1 = 8 then (some (105, 98, 2)) else (if p1 = 9 then (some (105, 98, 2)) else (if p1 ≥ 10 then (if p1 ≤ 12 then (some (98, 98, 2)) else (if p1 = 13 then (some (105, 105, 1)) else (if p1 = 14 then (some (98, 98, 1)) else (some (0, 0, 0))))) else (if p1 = 13 then (some (105, 105, 1)) else (if p1 = 14 then (some (98, 98, 1)) else (some (0, 0, 0)))))))
end Pam

namespace Pam
open Go
noncomputable def eO : Option Bool :=
  some true
noncomputable def eP (p1 : List Int) (p2 : aw) (x3 : Int) : Option (Int ⊕ (Unit ⊕ Bool)) :=
  if x3 < (p1.length : Int) then (if (0 ≤ x3 ∧ x3 < (p1.length : Int)) then (if (0 ≤ (p1.getD x3.toNat default) ∧ (p1.getD x3.toNat default) < (p2.system.vars.length : Int)) ∧ (0 ≤ 0 ∧ 0 < (p1.length : Int)) ∧ (0 ≤ (p1.getD 0 default) ∧ (p1.getD 0 default) < (p2.system.vars.length : Int)) then (if ((p2.system.vars.getD ((p1.getD x3.toNat default).toNat) default).elem) = ((p2.system.vars.getD ((p1.getD 0 default).toNat) default).elem) ∧ ((p2.system.vars.getD ((p1.getD x3.toNat default).toNat) default).n) = ((p2.system.vars.getD ((p1.getD 0 default).toNat) default).n) then (some (.inl (IntKind.wrap .i64 (x3 + 1)))) else (some (.inr (.inr false)))) else none) else none) else (some (.inr (.inl ())))
noncomputable def gj (p1 : List Int) (p2 : aw) : Option Bool :=
  (bb (fun x3 => eP p1 p2 x3) 0).bind (Sum.elim (fun _ => eO) (fun z4 => some z4))
end Pam

namespace Pam
open Go
noncomputable def fD (p1 : Int) : Option ai :=
  some (ai.mk p1 0)
end Pam

namespace Pam
open Go
noncomputable def dZ : Option Bool :=
  some true
noncomputable def d2 (p1 : aw) (p2 : List Int) (x3 : Int) : Option (Int ⊕ (Unit ⊕ Bool)) :=
  if x3 < (p2.length : Int) then (if (0 ≤ x3 ∧ x3 < (p2.length : Int)) then (if (0 ≤ (p2.getD x3.toNat default) ∧ (p2.getD x3.toNat default) < (p1.system.vars.length : Int)) ∧ (0 ≤ 0 ∧ 0 < (p2.length : Int)) ∧ (0 ≤ (p2.getD 0 default) ∧ (p2.getD 0 default) < (p1.system.vars.length : Int)) then (if ((p1.system.vars.getD ((p2.getD x3.toNat default).toNat) default).elem) = ((p1.system.vars.getD ((p2.getD 0 default).toNat) default).elem) ∧ ((p1.system.vars.getD ((p2.getD x3.toNat default).toNat) default).n) = ((p1.system.vars.getD ((p2.getD 0 default).toNat) default).n) then (some (.inl (IntKind.wrap .i64 (x3 + 1)))) else (some (.inr (.inr false)))) else none) else none) else (some (.inr (.inl ())))
noncomputable def d8 (p1 : aw) (p2 : List Int) : Option Bool :=
  (bb (fun x3 => d2 p1 p2 x3) 0).bind (Sum.elim (fun _ => dZ) (fun z4 => some z4))
end Pam

namespace Pam
open Go
noncomputable def gl (p1 : Int) : Option Bool :=
  (i4 p1).bind fun y1 => if y1.2.2 = 2 then (some (y1.1 == y1.2.1)) else (some false)
end Pam

namespace Pam
open Go
noncomputable def gm (p1 : Int) (p2 : aw) : Option (ai × Bool) :=
  if (0 ≤ p1 ∧ p1 < (p2.system.vars.length : Int)) then ((fD ((p2.system.vars.getD p1.toNat default).elem)).bind fun y1 => some ((y1), decide (((p2.system.vars.getD p1.toNat default).n) > 0))) else none
end Pam

namespace Pam
open Go
noncomputable def bl (p1 : Int) (p2 : List Int) : Option Int :=
  if p1 > (p2.length : Int) then (some 0) else (if (0 ≤ (IntKind.wrap .i64 ((p2.length : Int) - p1)) ∧ (IntKind.wrap .i64 ((p2.length : Int) - p1)) < (p2.length : Int)) then (some (p2.getD ((IntKind.wrap .i64 ((p2.length : Int) - p1)).toNat) default)) else none)
end Pam

namespace Pam
open Go
noncomputable def bC (p1 : aD) (p3 : aw) (p4 : List Int) (b1 : Bool) : Option (Int × Int × Bool) :=
  if b1 = true then ((i4 p1.k).bind fun y2 => if y2.2.2 = (IntKind.wrap .i64 ((IntKind.wrap .i64 (p1.op - 5)) + 1)) then ((bl 1 p4).bind fun y3 => if y3 = y2.1 then (if y2.2.2 = 1 then (some (y2.2.2, y2.2.1, true)) else ((bl 2 p4).bind fun y4 => some (y2.2.2, y2.2.1, (y4 == y2.1)))) else (some (y2.2.2, y2.2.1, false))) else (some (y2.2.2, y2.2.1, false))) else (if p1.op = 7 then ((bl 1 p4).bind fun y5 => (bl 3 p4).bind fun y6 => if y6 = 98 then ((bl 1 p4).bind fun y7 => (bl 2 p4).bind fun y8 => if y7 = y8 then ((bl 1 p4).bind fun y9 => some (3, y5, (y9 != 0))) else (some (3, y5, false))) else (some (3, y5, false))) else (if p1.op = 8 then (if (0 ≤ p1.v ∧ p1.v < (p3.system.vars.length : Int)) then (if ((p3.system.vars.getD p1.v.toNat default).n) > 0 then ((bl 1 p4).bind fun y10 => if y10 = ((p3.system.vars.getD p1.v.toNat default).elem) then ((bl 2 p4).bind fun y11 => some (2, (p3.system.vars.getD p1.v.toNat default).elem, (y11 == 105))) else (some (2, (p3.system.vars.getD p1.v.toNat default).elem, false))) else (some (2, (p3.system.vars.getD p1.v.toNat default).elem, false))) else none) else (some (0, 0, false))))
noncomputable def aK (p1 : aD) (p2 : Int) (p3 : aw) (p4 : List Int) : Option (Int × Int × Bool) :=
  if p1.op = 1 then (if p1.k = 1 then (if p1.n = 0 then (some (0, 98, true)) else (some (0, 98, (p1.n == 1)))) else (some (0, 105, (p1.k == 0)))) else (if p1.op = 2 then (if (0 ≤ p1.v ∧ p1.v < (p3.system.vars.length : Int)) then (some (0, (p3.system.vars.getD p1.v.toNat default).elem, (((p3.system.vars.getD p1.v.toNat default).n) == 0))) else none) else (if p1.op = 3 then (if (0 ≤ p1.v ∧ p1.v < (p3.system.vars.length : Int)) then (if ((p3.system.vars.getD p1.v.toNat default).n) > 0 then (if p1.n ≥ 0 then (some (0, (p3.system.vars.getD p1.v.toNat default).elem, decide (p1.n ≤ (IntKind.wrap .i64 (((p3.system.vars.getD p1.v.toNat default).n) - p2))))) else (some (0, (p3.system.vars.getD p1.v.toNat default).elem, false))) else (some (0, (p3.system.vars.getD p1.v.toNat default).elem, false))) else none) else (if p1.op = 4 then (if p1.n ≥ (-1000000) then (some (0, 105, decide (p1.n ≤ 1000000))) else (some (0, 105, false))) else (if p1.op = 5 then (bC p1 p3 p4 (p1.op == 5)) else (bC p1 p3 p4 (p1.op == 6))))))
end Pam

namespace Pam
open Go
noncomputable def cm (l3 : List Int) : Option (Int × Bool) :=
  if ¬ (l3.length : Int) = 1 then (some (0, false)) else (if (0 ≤ 0 ∧ 0 < (l3.length : Int)) then (some ((l3.getD 0 default), true)) else none)
noncomputable def a8 (p1 : List aD) (p2 : Int) (p3 : aw) (l17 : List Int) (x19 : Int) : Option (((List Int) × Int) ⊕ ((List Int) ⊕ (Int × Bool))) :=
  if x19 < (p1.length : Int) then (if (0 ≤ x19 ∧ x19 < (p1.length : Int)) then ((aK (p1.getD x19.toNat default) p2 p3 l17).bind fun y20 => if y20.2.2 = true then (if (l17.length : Int) < y20.1 then (some (.inr (.inr (0, false)))) else (if (0 ≤ (IntKind.wrap .i64 ((l17.length : Int) - y20.1)) ∧ (IntKind.wrap .i64 ((l17.length : Int) - y20.1)) ≤ (l17.length : Int)) ∧ d3 (((IntKind.wrap .i64 ((l17.length : Int) - y20.1)).toNat) + 1) 1 then (some (.inl (((l17.take ((IntKind.wrap .i64 ((l17.length : Int) - y20.1)).toNat)) ++ (lit ([y20.2.1] : List Int))), (IntKind.wrap .i64 (x19 + 1))))) else none)) else (some (.inr (.inr (0, false))))) else none) else (some (.inr (.inl l17)))
noncomputable def gn (p1 : List aD) (p2 : Int) (p3 : aw) : Option (Int × Bool) :=
  (bb (fun (l17, x19) => a8 p1 p2 p3 l17 x19) ([], 0)).bind (Sum.elim (fun z21 => cm z21) (fun z22 => some z22))
end Pam

namespace Pam
open Go
noncomputable def dg (p1 : ae) (p2 : ai) (p4 : aw) (x1 : Int) : Option Bool :=
  (gn p1.e x1 p4).bind fun y3 => if y3.2 = true then (some (y3.1 == p2.elem)) else (some false)
noncomputable def cn (p1 : ae) (p2 : ai) (p4 : aw) (x1 : Int) : Option Bool :=
  (i4 p1.k).bind fun y2 => if ¬ p1.op = 14 then (if ¬ y2.1 = p2.elem then (some false) else (dg p1 p2 p4 x1)) else (dg p1 p2 p4 x1)
noncomputable def fh (p1 : ae) (p2 : ai) (p3 : ai) (p4 : aw) : Option Bool :=
  if p1.op = 15 then (if p1.n < 1 then (some false) else (if p1.n > 300 then (some false) else ((gl p1.k).bind fun y4 => if y4 = true then (if p3.elem = p2.elem ∧ p3.n = p2.n then (if p2.n > 0 then (some false) else (cn p1 p2 p4 p1.n)) else (some false)) else (some false)))) else (if p1.op = 16 then ((gl p1.k).bind fun y5 => if y5 = true then (if p2.n = 0 then (some false) else ((fD p2.elem).bind fun y6 => if p3.elem = ((y6).elem) ∧ p3.n = ((y6).n) then (cn p1 p2 p4 (if 1 > p2.n then 1 else p2.n)) else (some false))) else (some false)) else (cn p1 p2 p4 (if 1 > p2.n then 1 else p2.n)))
end Pam

namespace Pam
open Go
noncomputable def aR (p1 : ae) (p2 : aw) (x1 : Int) (x2 : Int) (b10 : Bool) : Option Bool :=
  if b10 = true then (if (0 ≤ 0 ∧ 0 < (p1.a.length : Int)) then ((gm (p1.a.getD 0 default) p2).bind fun y11 => if y11.2 = true then (if (0 ≤ 1 ∧ 1 < (p1.a.length : Int)) ∧ (0 ≤ (p1.a.getD 1 default) ∧ (p1.a.getD 1 default) < (p2.system.vars.length : Int)) then ((fD 105).bind fun y12 => if ((p2.system.vars.getD ((p1.a.getD 1 default).toNat) default).elem) = ((y12).elem) ∧ ((p2.system.vars.getD ((p1.a.getD 1 default).toNat) default).n) = ((y12).n) then (if (0 ≤ 2 ∧ 2 < (p1.a.length : Int)) ∧ (0 ≤ (p1.a.getD 2 default) ∧ (p1.a.getD 2 default) < (p2.system.vars.length : Int)) then (if ((p2.system.vars.getD ((p1.a.getD 2 default).toNat) default).elem) = ((y11.1).elem) ∧ ((p2.system.vars.getD ((p1.a.getD 2 default).toNat) default).n) = ((y11.1).n) then (if p1.op = 9 then (if ((p2.system.vars.getD p1.out_.toNat default).elem) = ((y11.1).elem) ∧ ((p2.system.vars.getD p1.out_.toNat default).n) = ((y11.1).n) then (some true) else (if p1.op = 10 then (some ((((p2.system.vars.getD p1.out_.toNat default).elem) == x1) && (((p2.system.vars.getD p1.out_.toNat default).n) == x2))) else (some false))) else (if p1.op = 10 then (some ((((p2.system.vars.getD p1.out_.toNat default).elem) == x1) && (((p2.system.vars.getD p1.out_.toNat default).n) == x2))) else (some false))) else (some false)) else none) else (some false)) else none) else (some false)) else none) else (if p1.op = 11 then (if x2 > 0 then (if ((p2.system.vars.getD p1.out_.toNat default).n) > 0 then (if x1 = ((p2.system.vars.getD p1.out_.toNat default).elem) then (if p1.n ≥ 0 then (some (decide (p1.n ≤ (IntKind.wrap .i64 (x2 - ((p2.system.vars.getD p1.out_.toNat default).n)))))) else (some false)) else (some false)) else (some false)) else (some false)) else (if p1.op = 12 then (if (0 ≤ 1 ∧ 1 < (p1.a.length : Int)) ∧ (0 ≤ (p1.a.getD 1 default) ∧ (p1.a.getD 1 default) < (p2.system.vars.length : Int)) then (if x2 > 0 then (if ((p2.system.vars.getD ((p1.a.getD 1 default).toNat) default).n) > 0 then (if x1 = ((p2.system.vars.getD ((p1.a.getD 1 default).toNat) default).elem) then (some ((((p2.system.vars.getD p1.out_.toNat default).elem) == x1) && (((p2.system.vars.getD p1.out_.toNat default).n) == (IntKind.wrap .i64 (x2 + ((p2.system.vars.getD ((p1.a.getD 1 default).toNat) default).n)))))) else (some false)) else (some false)) else (some false)) else none) else (if p1.op = 13 then (if (0 ≤ 0 ∧ 0 < (p1.a.length : Int)) ∧ (0 ≤ 1 ∧ 1 < (p1.a.length : Int)) then ((d8 p2 (lit ([(p1.a.getD 0 default), (p1.a.getD 1 default), p1.out_] : List Int))).bind fun y13 => some y13) else none) else ((fh p1 (p2.system.vars.getD p1.out_.toNat default) (ai.mk x1 x2) p2).bind fun y14 => some y14))))
noncomputable def aS (p1 : ae) (p2 : aw) (x1 : Int) (x2 : Int) (y3 : (Int × Int × Int)) (b7 : Bool) : Option Bool :=
  if b7 = true then (if (0 ≤ 1 ∧ 1 < (p1.a.length : Int)) ∧ (0 ≤ (p1.a.getD 1 default) ∧ (p1.a.getD 1 default) < (p2.system.vars.length : Int)) then ((gl p1.k).bind fun y8 => if y8 = true then ((fD y3.1).bind fun y9 => if x1 = ((y9).elem) ∧ x2 = ((y9).n) then (if ((p2.system.vars.getD ((p1.a.getD 1 default).toNat) default).n) > 0 then (if ((p2.system.vars.getD ((p1.a.getD 1 default).toNat) default).elem) = y3.1 then (if p1.op = 6 then (if ((p2.system.vars.getD p1.out_.toNat default).elem) = x1 ∧ ((p2.system.vars.getD p1.out_.toNat default).n) = x2 then (some true) else (if p1.op = 7 then (some ((((p2.system.vars.getD p1.out_.toNat default).elem) == ((p2.system.vars.getD ((p1.a.getD 1 default).toNat) default).elem)) && (((p2.system.vars.getD p1.out_.toNat default).n) == ((p2.system.vars.getD ((p1.a.getD 1 default).toNat) default).n)))) else (some false))) else (if p1.op = 7 then (some ((((p2.system.vars.getD p1.out_.toNat default).elem) == ((p2.system.vars.getD ((p1.a.getD 1 default).toNat) default).elem)) && (((p2.system.vars.getD p1.out_.toNat default).n) == ((p2.system.vars.getD ((p1.a.getD 1 default).toNat) default).n)))) else (some false))) else (some false)) else (some false)) else (some false)) else (some false)) else none) else (if p1.op = 8 then (if x2 = 0 then (if ((p2.system.vars.getD p1.out_.toNat default).n) > 0 then (some (((p2.system.vars.getD p1.out_.toNat default).elem) == x1)) else (some false)) else (some false)) else (if p1.op = 9 then (aR p1 p2 x1 x2 (p1.op == 9)) else (aR p1 p2 x1 x2 (p1.op == 10))))
noncomputable def aT (p1 : ae) (p2 : aw) (x1 : Int) (x2 : Int) : Option Bool :=
  (i4 p1.k).bind fun y3 => if p1.op = 1 then (if ((p2.system.vars.getD p1.out_.toNat default).n) = 0 then (if ((p2.system.vars.getD p1.out_.toNat default).elem) = 105 then (some true) else (if p1.n = 0 then (some true) else (some (p1.n == 1)))) else (some false)) else (if p1.op = 2 then (some ((x1 == ((p2.system.vars.getD p1.out_.toNat default).elem)) && (x2 == ((p2.system.vars.getD p1.out_.toNat default).n)))) else (if p1.op = 3 then (if y3.2.2 = 1 then (if x1 = y3.1 then (if ((p2.system.vars.getD p1.out_.toNat default).elem) = y3.2.1 then (some (((p2.system.vars.getD p1.out_.toNat default).n) == x2)) else (some false)) else (some false)) else (some false)) else (if p1.op = 4 then (if y3.2.2 = 2 then (if x1 = y3.1 then (if ((p2.system.vars.getD p1.out_.toNat default).elem) = y3.2.1 then (if ((p2.system.vars.getD p1.out_.toNat default).n) = x2 then ((gj p1.a p2).bind fun y4 => some y4) else (some false)) else (some false)) else (some false)) else (some false)) else (if p1.op = 5 then ((fD 98).bind fun y5 => if x1 = ((y5).elem) ∧ x2 = ((y5).n) then (if (0 ≤ 1 ∧ 1 < (p1.a.length : Int)) ∧ (0 ≤ 2 ∧ 2 < (p1.a.length : Int)) then ((d8 p2 (lit ([(p1.a.getD 1 default), (p1.a.getD 2 default), p1.out_] : List Int))).bind fun y6 => some y6) else none) else (some false)) else (if p1.op = 6 then (aS p1 p2 x1 x2 y3 (p1.op == 6)) else (aS p1 p2 x1 x2 y3 (p1.op == 7)))))))
noncomputable def aF (p1 : ae) (p2 : aw) : Option Bool :=
  if (0 ≤ p1.out_ ∧ p1.out_ < (p2.system.vars.length : Int)) then (if (p1.a.length : Int) > 0 then (if (0 ≤ 0 ∧ 0 < (p1.a.length : Int)) ∧ (0 ≤ (p1.a.getD 0 default) ∧ (p1.a.getD 0 default) < (p2.system.vars.length : Int)) then (aT p1 p2 ((p2.system.vars.getD ((p1.a.getD 0 default).toNat) default).elem) ((p2.system.vars.getD ((p1.a.getD 0 default).toNat) default).n)) else none) else (aT p1 p2 0 0)) else none
end Pam

namespace Pam
open Go
noncomputable def dP (p1 : ae) (p2 : aw) (x7 : Int) : Option (Int × Int) :=
  if x7 = 0 then ((aF p1 (aw.mk p2.system x7)).bind fun y8 => (br (!y8) 10 (aw.mk p2.system x7)).bind fun y9 => some (y9, y9)) else (some (x7, x7))
noncomputable def bV (p2 : aw) (l6 : List Int) (x14 : Int) (x15 : Int) : Option ((Int × Int) ⊕ Int) :=
  if x15 < (l6.length : Int) then (if (0 ≤ x15 ∧ x15 < (l6.length : Int)) then ((eI (l6.getD x15.toNat default) (aw.mk p2.system x14)).bind fun y16 => (br (!y16) 16 (aw.mk p2.system x14)).bind fun y17 => some (.inl (y17, (IntKind.wrap .i64 (x15 + 1))))) else none) else (some (.inr x14))
noncomputable def dh (p1 : ae) (p2 : aw) (y5 : Int) (l6 : List Int) : Option (Int × Int) :=
  (bb (fun (x14, x15) => bV p2 l6 x14 x15) (y5, 0)).bind (fun z18 => dP p1 p2 z18)
noncomputable def cK (p1 : ae) (p2 : aw) (x4 : Int) : Option (Int × Int) :=
  (br (decide ((p1.e.length : Int) > 24)) 7 (aw.mk p2.system x4)).bind fun y5 => if ¬ y5 = 0 then (some (y5, y5)) else (if p1.op ≥ 14 then ((jI p1).bind fun y19 => dh p1 p2 y5 y19) else (dh p1 p2 y5 p1.a))
noncomputable def cL (p1 : ae) (p2 : aw) (x3 : Int) : Option (Int × Int) :=
  (jr p1.op).bind fun y20 => if y20 < 0 then ((br true 4 (aw.mk p2.system x3)).bind fun y21 => cK p1 p2 y21) else ((jr p1.op).bind fun y22 => (br ((p1.a.length : Int) != y22) 4 (aw.mk p2.system x3)).bind fun y23 => cK p1 p2 y23)
noncomputable def gp (p1 : ae) (p2 : aw) (p3 : List Bool) : Option (Int × Int) :=
  (eI p1.out_ (aw.mk p2.system 0)).bind fun y1 => (br (!y1) 16 (aw.mk p2.system 0)).bind fun y2 => if y2 = 0 then (if (0 ≤ p1.out_ ∧ p1.out_ < (p3.length : Int)) then ((br (p3.getD p1.out_.toNat default) 8 (aw.mk p2.system y2)).bind fun y24 => cL p1 p2 y24) else none) else ((br false 8 (aw.mk p2.system y2)).bind fun y25 => cL p1 p2 y25)
end Pam

namespace Pam
open Go
noncomputable def iq : Option ar :=
  some (ar.mk 0 0)
noncomputable def gH (p1 : ag) (l6 : List Bool) (x9 : Int) : Option (Int ⊕ (Unit ⊕ ar)) :=
  if x9 < (p1.out_.length : Int) then (if (0 ≤ x9 ∧ x9 < (p1.out_.length : Int)) then (if (0 ≤ (p1.out_.getD x9.toNat default) ∧ (p1.out_.getD x9.toNat default) < (l6.length : Int)) then (if (l6.getD ((p1.out_.getD x9.toNat default).toNat) default) = true then (some (.inl (IntKind.wrap .i64 (x9 + 1)))) else (some (.inr (.inr (ar.mk 9 (-1)))))) else none) else none) else (some (.inr (.inl ())))
noncomputable def gI (p1 : ag) (l6 : List Bool) : Option ar :=
  (bb (fun x9 => gH p1 l6 x9) 0).bind (Sum.elim (fun _ => iq) (fun z10 => some z10))
noncomputable def gJ (x13 : Int) : Option (Int ⊕ (Unit ⊕ ar)) :=
  some (.inl (IntKind.wrap .i64 (x13 + 1)))
noncomputable def ir (l6 : List Bool) (x13 : Int) (l14 : List Int) (x17 : Int) : Option (Int ⊕ (Unit ⊕ ar)) :=
  if x17 < (l14.length : Int) then (if (0 ≤ x17 ∧ x17 < (l14.length : Int)) then (if (0 ≤ (l14.getD x17.toNat default) ∧ (l14.getD x17.toNat default) < (l6.length : Int)) then (if (l6.getD ((l14.getD x17.toNat default).toNat) default) = true then (some (.inl (IntKind.wrap .i64 (x17 + 1)))) else (some (.inr (.inr (ar.mk 9 x13))))) else none) else none) else (some (.inr (.inl ())))
noncomputable def fE (l6 : List Bool) (x13 : Int) (l14 : List Int) : Option (Int ⊕ (Unit ⊕ ar)) :=
  (bb (fun x17 => ir l6 x13 l14 x17) 0).bind (Sum.elim (fun _ => gJ x13) (fun z18 => some (.inr (.inr z18))))
noncomputable def gK (p1 : ag) (l6 : List Bool) (x13 : Int) : Option (Int ⊕ (Unit ⊕ ar)) :=
  if x13 < (p1.rules.length : Int) then (if (0 ≤ x13 ∧ x13 < (p1.rules.length : Int)) then (if ((p1.rules.getD x13.toNat default).op) ≥ 14 then ((jI (p1.rules.getD x13.toNat default)).bind fun y19 => fE l6 x13 y19) else (fE l6 x13 ((p1.rules.getD x13.toNat default).a))) else none) else (some (.inr (.inl ())))
noncomputable def fF (p1 : ag) (x5 : Int) (l6 : List Bool) : Option ar :=
  (bb (fun x13 => gK p1 l6 x13) 0).bind (Sum.elim (fun _ => gI p1 l6) (fun z20 => some z20))
noncomputable def dB (p1 : ag) (x30 : Int) (l31 : List Bool) (x32 : Int) : Option ((Int × (List Bool) × Int) ⊕ ((Int × (List Bool)) ⊕ ar)) :=
  if x32 < (p1.rules.length : Int) then (if (0 ≤ x32 ∧ x32 < (p1.rules.length : Int)) then ((gp (p1.rules.getD x32.toNat default) (aw.mk p1 x30) l31).bind fun y33 => if ¬ y33.1 = 0 then (some (.inr (.inr (ar.mk y33.1 x32)))) else (if (0 ≤ (p1.rules.getD x32.toNat default).out_ ∧ (p1.rules.getD x32.toNat default).out_ < (l31.length : Int)) then (some (.inl (y33.2, (l31.set (((p1.rules.getD x32.toNat default).out_).toNat) true), (IntKind.wrap .i64 (x32 + 1))))) else none)) else none) else (some (.inr (.inl (x30, l31))))
noncomputable def fG (p1 : ag) (l3 : List Bool) : Option ar :=
  (bb (fun (x30, l31, x32) => dB p1 x30 l31 x32) (0, l3, 0)).bind (Sum.elim (fun (z34, z35) => fF p1 z34 z35) (fun z36 => some z36))
noncomputable def dC (p1 : ag) (l44 : List Bool) (x45 : Int) : Option (((List Bool) × Int) ⊕ (List Bool)) :=
  if x45 < (p1.in_.length : Int) then (if (0 ≤ x45 ∧ x45 < (p1.in_.length : Int)) then (if (0 ≤ (p1.in_.getD x45.toNat default) ∧ (p1.in_.getD x45.toNat default) < (l44.length : Int)) then (some (.inl ((l44.set ((p1.in_.getD x45.toNat default).toNat) true), (IntKind.wrap .i64 (x45 + 1))))) else none) else none) else (some (.inr l44))
noncomputable def js (p1 : ag) : Option ar :=
  (gh (aw.mk p1 0)).bind fun y1 => if ¬ ((y1).code) = 0 then (some (y1)) else (if (0 ≤ (p1.vars.length : Int) ∧ (p1.vars.length : Int) ≤ (p1.vars.length : Int)) ∧ d3 p1.vars.length 1 then ((bb (fun (l44, x45) => dC p1 l44 x45) ((List.replicate p1.vars.length false), 0)).bind (fun z46 => fG p1 z46)) else none)
end Pam

namespace Pam
open Go
noncomputable def fj (p1 : ag) (l2 : List Bool) : Option ((List ai) × (List Int) × (List Int) × (List ae) × (List Bool)) :=
  some (p1.vars, p1.in_, p1.out_, p1.rules, l2)
noncomputable def di (p1 : ag) (l10 : List Bool) (x11 : Int) : Option (((List Bool) × Int) ⊕ (List Bool)) :=
  if x11 < (p1.in_.length : Int) then (if (0 ≤ x11 ∧ x11 < (p1.in_.length : Int)) then (if (0 ≤ (p1.in_.getD x11.toNat default) ∧ (p1.in_.getD x11.toNat default) < (l10.length : Int)) then (some (.inl ((l10.set ((p1.in_.getD x11.toNat default).toNat) true), (IntKind.wrap .i64 (x11 + 1))))) else none) else none) else (some (.inr l10))
noncomputable def hQ (p1 : ag) : Option ((List ai) × (List Int) × (List Int) × (List ae) × (List Bool)) :=
  if (0 ≤ (p1.vars.length : Int) ∧ (p1.vars.length : Int) ≤ (p1.vars.length : Int)) ∧ d3 p1.vars.length 1 then ((bb (fun (l10, x11) => di p1 l10 x11) ((List.replicate p1.vars.length false), 0)).bind (fun z12 => fj p1 z12)) else none
end Pam

namespace Pam
open Go
noncomputable def eQ (p1 : Int) (p2 : List ai) (p3 : List Int) (p4 : List Int) (p5 : List ae) (p6 : List Bool) : Option Bool :=
  if (0 ≤ p1 ∧ p1 < (p6.length : Int)) then (some (!(p6.getD p1.toNat default))) else none
end Pam

namespace Pam
open Go
noncomputable def b8 : Option Int :=
  some (-1)
noncomputable def b9 (p1 : List Int) (p2 : List ai) (p3 : List Int) (p4 : List Int) (p5 : List ae) (p6 : List Bool) (x3 : Int) : Option (Int ⊕ (Unit ⊕ Int)) :=
  if x3 < (p1.length : Int) then (if (0 ≤ x3 ∧ x3 < (p1.length : Int)) then ((eQ (p1.getD x3.toNat default) p2 p3 p4 p5 p6).bind fun y4 => if y4 = true then (some (.inr (.inr x3))) else (some (.inl (IntKind.wrap .i64 (x3 + 1))))) else none) else (some (.inr (.inl ())))
noncomputable def dj (p1 : List Int) (p2 : List ai) (p3 : List Int) (p4 : List Int) (p5 : List ae) (p6 : List Bool) : Option Int :=
  (bb (fun x3 => b9 p1 p2 p3 p4 p5 p6 x3) 0).bind (Sum.elim (fun _ => b8) (fun z5 => some z5))
end Pam

namespace Pam
open Go
noncomputable def c8 (p1 : List Int) (p2 : List ai) (p3 : List Int) (p4 : List Int) (p5 : List ae) (p6 : List Bool) : Option Bool :=
  (dj p1 p2 p3 p4 p5 p6).bind fun y1 => some (decide (y1 ≥ 0))
end Pam

namespace Pam
open Go
noncomputable def du (p1 : ae) (p2 : List ai) (p3 : List Int) (p4 : List Int) (p5 : List ae) (p6 : List Bool) : Option Bool :=
  (gg p1).bind fun y1 => (c8 y1 p2 p3 p4 p5 p6).bind fun y2 => some (!y2)
end Pam

namespace Pam
open Go
noncomputable def jm (p1 : Int) (p2 : ag) (p3 : List ai) (p4 : List Int) (p5 : List Int) (p6 : List ae) (p7 : List Bool) : Option Bool :=
  if (0 ≤ p1 ∧ p1 < (p2.rules.length : Int)) then ((du (p2.rules.getD p1.toNat default) p3 p4 p5 p6 p7).bind fun y1 => some y1) else none
end Pam

namespace Pam
open Go
noncomputable def co : Option Int :=
  some (-1)
noncomputable def cp (p1 : List Int) (p2 : ag) (p3 : List ai) (p4 : List Int) (p5 : List Int) (p6 : List ae) (p7 : List Bool) (x3 : Int) : Option (Int ⊕ (Unit ⊕ Int)) :=
  if x3 < (p1.length : Int) then (if (0 ≤ x3 ∧ x3 < (p1.length : Int)) then ((jm (p1.getD x3.toNat default) p2 p3 p4 p5 p6 p7).bind fun y4 => if y4 = true then (some (.inr (.inr x3))) else (some (.inl (IntKind.wrap .i64 (x3 + 1))))) else none) else (some (.inr (.inl ())))
noncomputable def cj (p1 : List Int) (p2 : ag) (p3 : List ai) (p4 : List Int) (p5 : List Int) (p6 : List ae) (p7 : List Bool) : Option Int :=
  (bb (fun x3 => cp p1 p2 p3 p4 p5 p6 p7 x3) 0).bind (Sum.elim (fun _ => co) (fun z5 => some z5))
end Pam

namespace Pam
open Go
noncomputable def cF (p1 : List aD) : Option (List aD) :=
  if p1 = [] then (some []) else (if d3 p1.length 32 then (some p1) else none)
end Pam

namespace Pam
open Go
noncomputable def kn (p1 : ae) : Option ae :=
  (bw p1.a).bind fun y1 => (cF p1.e).bind fun y2 => some (ae.mk p1.op p1.k p1.out_ p1.n y1 y2)
end Pam

namespace Pam
open Go
noncomputable def eg (pi : Int) (pj : Int) (p1 : List Int) : Option (List Int) :=
  if (0 ≤ pi ∧ pi ≤ pj ∧ pj ≤ (p1.length : Int)) ∧ p1 ≠ [] then some (rn p1 pi.toNat pj.toNat) else none
end Pam

namespace Pam
open Go
noncomputable def cU (p1 : List ai) : Option (List ai) :=
  if p1 = [] then (some []) else (if d3 p1.length 16 then (some p1) else none)
end Pam

namespace Pam
open Go
noncomputable def e8 (p1 : ag) (l9 : List Bool) (l10 : List Int) (l11 : List ae) : Option (ag × ar) :=
  (cU p1.vars).bind fun y13 => (bw p1.in_).bind fun y14 => (bw p1.out_).bind fun y15 => some ((ag.mk y13 y14 y15 l11), (ar.mk 0 0))
noncomputable def cC (p1 : ag) (y2 : ((List ai) × (List Int) × (List Int) × (List ae) × (List Bool))) (l36 : List Bool) (l37 : List Int) (l38 : List ae) : Option (((List Bool) × (List Int) × (List ae)) ⊕ (((List Bool) × (List Int) × (List ae)) ⊕ (ag × ar))) :=
  if (l37.length : Int) > 0 then ((cj l37 p1 y2.1 y2.2.1 y2.2.2.1 y2.2.2.2.1 l36).bind fun y40 => if y40 < 0 then (if (0 ≤ 0 ∧ 0 < (l37.length : Int)) then (some (.inr (.inr ((ag.mk [] [] [] []), (ar.mk 15 (l37.getD 0 default)))))) else none) else (if (0 ≤ y40 ∧ y40 < (l37.length : Int)) ∧ (0 ≤ (l37.getD y40.toNat default) ∧ (l37.getD y40.toNat default) < (p1.rules.length : Int)) then ((kn (p1.rules.getD ((l37.getD y40.toNat default).toNat) default)).bind fun y41 => if d3 (l38.length + 1) 80 then (if (0 ≤ (p1.rules.getD ((l37.getD y40.toNat default).toNat) default).out_ ∧ (p1.rules.getD ((l37.getD y40.toNat default).toNat) default).out_ < (l36.length : Int)) then ((eg y40 (IntKind.wrap .i64 (y40 + 1)) l37).bind fun y42 => some (.inl ((l36.set (((p1.rules.getD ((l37.getD y40.toNat default).toNat) default).out_).toNat) true), y42, (l38 ++ (lit ([(y41)] : List ae)))))) else none) else none) else none)) else (some (.inr (.inl (l36, l37, l38))))
noncomputable def e9 (p1 : ag) (y2 : ((List ai) × (List Int) × (List Int) × (List ae) × (List Bool))) (l4 : List Int) : Option (ag × ar) :=
  (bb (fun (l36, l37, l38) => cC p1 y2 l36 l37 l38) (y2.2.2.2.2, l4, [])).bind (Sum.elim (fun (z43, z44, z45) => e8 p1 z43 z44 z45) (fun z46 => some z46))
noncomputable def c9 (p1 : ag) (l54 : List Int) (x55 : Int) : Option (((List Int) × Int) ⊕ (List Int)) :=
  if x55 < (p1.rules.length : Int) then (if (0 ≤ x55 ∧ x55 < (l54.length : Int)) then (some (.inl ((l54.set x55.toNat x55), (IntKind.wrap .i64 (x55 + 1))))) else none) else (some (.inr l54))
noncomputable def gq (p1 : ag) : Option (ag × ar) :=
  (js p1).bind fun y1 => if ¬ ((y1).code) = 0 then (some ((ag.mk [] [] [] []), (y1))) else ((hQ p1).bind fun y2 => if (0 ≤ (p1.rules.length : Int) ∧ (p1.rules.length : Int) ≤ (p1.rules.length : Int)) ∧ d3 p1.rules.length 8 then ((bb (fun (l54, x55) => c9 p1 l54 x55) ((List.replicate p1.rules.length 0), 0)).bind (fun z56 => e9 p1 y2 z56)) else none)
end Pam

namespace Pam
open Go
noncomputable def l8 (p1 : Int) : Option ag :=
  if p1 = 13 then (if (0 ≤ 1 ∧ 1 < (2 : Int)) then (some (ag.mk ((lit ([(ai.mk 105 0), (ai.mk 105 0)] : List ai)) ++ (lit ([(ai.mk 105 0)] : List ai))) (lit ([2] : List Int)) (lit ([0] : List Int)) ((lit ([(ae.mk 2 0 0 0 (lit ([1] : List Int)) []), (ae.mk p1 13 1 0 (lit ([0] : List Int)) [])] : List ae)).set 1 (ae.mk (((lit ([(ae.mk 2 0 0 0 (lit ([1] : List Int)) []), (ae.mk p1 13 1 0 (lit ([0] : List Int)) [])] : List ae)).getD 1 default).op) (((lit ([(ae.mk 2 0 0 0 (lit ([1] : List Int)) []), (ae.mk p1 13 1 0 (lit ([0] : List Int)) [])] : List ae)).getD 1 default).k) (((lit ([(ae.mk 2 0 0 0 (lit ([1] : List Int)) []), (ae.mk p1 13 1 0 (lit ([0] : List Int)) [])] : List ae)).getD 1 default).out_) (((lit ([(ae.mk 2 0 0 0 (lit ([1] : List Int)) []), (ae.mk p1 13 1 0 (lit ([0] : List Int)) [])] : List ae)).getD 1 default).n) (lit ([2, 0] : List Int)) (((lit ([(ae.mk 2 0 0 0 (lit ([1] : List Int)) []), (ae.mk p1 13 1 0 (lit ([0] : List Int)) [])] : List ae)).getD 1 default).e))))) else none) else (some (ag.mk (lit ([(ai.mk 105 0), (ai.mk 105 0)] : List ai)) [] (lit ([0] : List Int)) (lit ([(ae.mk 2 0 0 0 (lit ([1] : List Int)) []), (ae.mk p1 13 1 0 (lit ([0] : List Int)) [])] : List ae))))
end Pam

namespace Pam
open Go
noncomputable def iU (p1 : Int) (p2 : List ai) (p3 : List Int) (p4 : List Int) (p5 : List ae) (p6 : List Bool) : Option Bool :=
  if (0 ≤ p1 ∧ p1 < (p6.length : Int)) then (some (!(p6.getD p1.toNat default))) else none
end Pam

namespace Pam
open Go
noncomputable def ca : Option Int :=
  some (-1)
noncomputable def cb (p1 : List Int) (p2 : List ai) (p3 : List Int) (p4 : List Int) (p5 : List ae) (p6 : List Bool) (x3 : Int) : Option (Int ⊕ (Unit ⊕ Int)) :=
  if x3 < (p1.length : Int) then (if (0 ≤ x3 ∧ x3 < (p1.length : Int)) then ((iU (p1.getD x3.toNat default) p2 p3 p4 p5 p6).bind fun y4 => if y4 = true then (some (.inr (.inr x3))) else (some (.inl (IntKind.wrap .i64 (x3 + 1))))) else none) else (some (.inr (.inl ())))
noncomputable def cA (p1 : List Int) (p2 : List ai) (p3 : List Int) (p4 : List Int) (p5 : List ae) (p6 : List Bool) : Option Int :=
  (bb (fun x3 => cb p1 p2 p3 p4 p5 p6 x3) 0).bind (Sum.elim (fun _ => ca) (fun z5 => some z5))
end Pam

namespace Pam
open Go
noncomputable def cG : Option Int :=
  some (-1)
noncomputable def bp (p1 : Int) (p2 : List Int) (x3 : Int) : Option (Int ⊕ (Unit ⊕ Int)) :=
  if x3 < (p2.length : Int) then (if (0 ≤ x3 ∧ x3 < (p2.length : Int)) then (if p1 = (p2.getD x3.toNat default) then (some (.inr (.inr x3))) else (some (.inl (IntKind.wrap .i64 (x3 + 1))))) else none) else (some (.inr (.inl ())))
noncomputable def dk (p1 : Int) (p2 : List Int) : Option Int :=
  (bb (fun x3 => bp p1 p2 x3) 0).bind (Sum.elim (fun _ => cG) (fun z4 => some z4))
end Pam

namespace Pam
open Go
noncomputable def cQ (p1 : ag) (y5 : ((List ai) × (List Int) × (List Int) × (List ae) × (List Bool))) (l7 : List Bool) (l9 : List Int) (l22 : List Int) (x24 : Int) : Option (((List Int) × Int) ⊕ ((List Int) × ar)) :=
  (dk x24 l22).bind fun y25 => if y25 ≥ 0 then (if (0 ≤ y25 ∧ y25 ≤ (l22.length : Int)) then (some (.inr (((l22.drop y25.toNat).take (l22.length - y25.toNat)), (ar.mk 0 0)))) else none) else (if d3 (l22.length + 1) 8 then (if (0 ≤ x24 ∧ x24 < (p1.rules.length : Int)) then ((gg (p1.rules.getD x24.toNat default)).bind fun y26 => (cA y26 y5.1 y5.2.1 y5.2.2.1 y5.2.2.2.1 l7).bind fun y27 => if (0 ≤ y27 ∧ y27 < (y26.length : Int)) ∧ (0 ≤ (y26.getD y27.toNat default) ∧ (y26.getD y27.toNat default) < (l9.length : Int)) then (some (.inl ((l22 ++ (lit ([x24] : List Int))), (l9.getD ((y26.getD y27.toNat default).toNat) default)))) else none) else none) else none)
noncomputable def fl (p1 : ag) (y2 : (ag × ar)) (y5 : ((List ai) × (List Int) × (List Int) × (List ae) × (List Bool))) (l7 : List Bool) (l9 : List Int) : Option ((List Int) × ar) :=
  (bb (fun (l22, x24) => cQ p1 y5 l7 l9 l22 x24) ([], (y2.2).at_)).bind (fun z28 => some z28)
noncomputable def cR (p1 : ag) (l36 : List Int) (x37 : Int) : Option (((List Int) × Int) ⊕ (List Int)) :=
  if x37 < (p1.rules.length : Int) then (if (0 ≤ x37 ∧ x37 < (p1.rules.length : Int)) then (if (0 ≤ (p1.rules.getD x37.toNat default).out_ ∧ (p1.rules.getD x37.toNat default).out_ < (l36.length : Int)) then (some (.inl ((l36.set (((p1.rules.getD x37.toNat default).out_).toNat) x37), (IntKind.wrap .i64 (x37 + 1))))) else none) else none) else (some (.inr l36))
noncomputable def fm (p1 : ag) (y2 : (ag × ar)) (l4 : List Int) (y5 : ((List ai) × (List Int) × (List Int) × (List ae) × (List Bool))) (l7 : List Bool) : Option ((List Int) × ar) :=
  (bb (fun (l36, x37) => cR p1 l36 x37) (l4, 0)).bind (fun z38 => fl p1 y2 y5 l7 z38)
noncomputable def bn (p1 : ag) (y5 : ((List ai) × (List Int) × (List Int) × (List ae) × (List Bool))) (l57 : List Bool) (b58 : Bool) (x59 : Int) : Option (((List Bool) × Bool × Int) ⊕ ((List Bool) × Bool)) :=
  if x59 < (p1.rules.length : Int) then (if (0 ≤ x59 ∧ x59 < (p1.rules.length : Int)) then (if (0 ≤ (p1.rules.getD x59.toNat default).out_ ∧ (p1.rules.getD x59.toNat default).out_ < (l57.length : Int)) then (if (l57.getD (((p1.rules.getD x59.toNat default).out_).toNat) default) = true then (some (.inl (l57, b58, (IntKind.wrap .i64 (x59 + 1))))) else ((du (p1.rules.getD x59.toNat default) y5.1 y5.2.1 y5.2.2.1 y5.2.2.2.1 l57).bind fun y60 => if y60 = true then (some (.inl ((l57.set (((p1.rules.getD x59.toNat default).out_).toNat) true), true, (IntKind.wrap .i64 (x59 + 1))))) else (some (.inl (l57, b58, (IntKind.wrap .i64 (x59 + 1))))))) else none) else none) else (some (.inr (l57, b58)))
noncomputable def bt (p1 : ag) (y5 : ((List ai) × (List Int) × (List Int) × (List ae) × (List Bool))) (l46 : List Bool) (b47 : Bool) : Option (((List Bool) × Bool) ⊕ (List Bool)) :=
  if b47 = true then ((bb (fun (l57, b58, x59) => bn p1 y5 l57 b58 x59) (l46, false, 0)).bind (fun (z61, z62) => some (.inl (z61, z62)))) else (some (.inr l46))
noncomputable def fo (p1 : ag) (y2 : (ag × ar)) (l4 : List Int) : Option ((List Int) × ar) :=
  (hQ p1).bind fun y5 => (bb (fun (l46, b47) => bt p1 y5 l46 b47) (y5.2.2.2.2, true)).bind (fun z63 => fm p1 y2 l4 y5 z63)
noncomputable def cS (p1 : ag) (l71 : List Int) (x72 : Int) : Option (((List Int) × Int) ⊕ (List Int)) :=
  if x72 < (p1.vars.length : Int) then (if (0 ≤ x72 ∧ x72 < (l71.length : Int)) then (some (.inl ((l71.set x72.toNat (-1)), (IntKind.wrap .i64 (x72 + 1))))) else none) else (some (.inr l71))
noncomputable def i5 (p1 : ag) : Option ((List Int) × ar) :=
  (js p1).bind fun y1 => if ¬ ((y1).code) = 0 then (some ([], (y1))) else ((gq p1).bind fun y2 => if ((y2.2).code) = 0 then (some ([], (y2.2))) else (if (0 ≤ (p1.vars.length : Int) ∧ (p1.vars.length : Int) ≤ (p1.vars.length : Int)) ∧ d3 p1.vars.length 8 then ((bb (fun (l71, x72) => cS p1 l71 x72) ((List.replicate p1.vars.length 0), 0)).bind (fun z73 => fo p1 y2 z73)) else none))
end Pam

namespace Pam
open Go
noncomputable def fI : Option Bool :=
  some true
noncomputable def fJ (p1 : List Int) (p2 : List Int) (x3 : Int) : Option (Int ⊕ (Unit ⊕ Bool)) :=
  if x3 < (p1.length : Int) then (if (0 ≤ x3 ∧ x3 < (p1.length : Int)) ∧ (0 ≤ x3 ∧ x3 < (p2.length : Int)) then (if ¬ (p1.getD x3.toNat default) = (p2.getD x3.toNat default) then (some (.inr (.inr false))) else (some (.inl (IntKind.wrap .i64 (x3 + 1))))) else none) else (some (.inr (.inl ())))
noncomputable def it (p1 : List Int) (p2 : List Int) : Option Bool :=
  if ¬ (p1.length : Int) = (p2.length : Int) then (some false) else ((bb (fun x3 => fJ p1 p2 x3) 0).bind (Sum.elim (fun _ => fI) (fun z4 => some z4)))
end Pam

namespace Pam
open Go
noncomputable def gu : Option Bool :=
  (l8 3).bind fun y1 => (i5 (y1)).bind fun y2 => (l8 13).bind fun y3 => (gq (y3)).bind fun y4 => if ((y2.2).code) = 0 then (if ((y4.2).code) = 0 then ((it y2.1 (lit ([0, 1] : List Int))).bind fun y5 => if y5 = true then (if (((y4.1).rules).length : Int) = 2 then (if (0 ≤ 0 ∧ 0 < (((y4.1).rules).length : Int)) then (some (((((y4.1).rules).getD 0 default).op) == 13)) else none) else (some false)) else (some false)) else (some false)) else (some false)
end Pam

namespace Pam
open Go
noncomputable def jt (p1 : Int) : Option Int :=
  if p1 < 1 then (some 1) else (some p1)
end Pam

namespace Pam
open Go
noncomputable def dv (p2 : Int) (x2 : Int) : Option Bool :=
  some (decide (x2 > (IntKind.wrap .i64 (100 * p2))))
noncomputable def dw (p1 : ag) (x7 : Int) (x8 : Int) : Option ((Int × Int) ⊕ (Int ⊕ Bool)) :=
  some (.inl ((IntKind.wrap .i64 (x7 + (IntKind.wrap .i64 ((((p1.rules.getD x8.toNat default).a).length : Int) + (((p1.rules.getD x8.toNat default).e).length : Int))))), (IntKind.wrap .i64 (x8 + 1))))
noncomputable def ce (p1 : ag) (x7 : Int) (x8 : Int) : Option ((Int × Int) ⊕ (Int ⊕ Bool)) :=
  if x8 < (p1.rules.length : Int) then (if (0 ≤ x8 ∧ x8 < (p1.rules.length : Int)) then (if (((p1.rules.getD x8.toNat default).a).length : Int) > 100 then (some (.inr (.inr true))) else (if (((p1.rules.getD x8.toNat default).e).length : Int) > 1000 then (some (.inr (.inr true))) else (if ((p1.rules.getD x8.toNat default).op) = 15 then (if ((p1.rules.getD x8.toNat default).n) > 1000 then (some (.inr (.inr true))) else (dw p1 x7 x8)) else (dw p1 x7 x8)))) else none) else (some (.inr (.inl x7)))
noncomputable def cV (p1 : ag) (p2 : Int) (x1 : Int) : Option Bool :=
  (bb (fun (x7, x8) => ce p1 x7 x8) (x1, 0)).bind (Sum.elim (fun z9 => dv p2 z9) (fun z10 => some z10))
noncomputable def cg (p1 : ag) (x15 : Int) (x16 : Int) : Option ((Int × Int) ⊕ (Int ⊕ Bool)) :=
  if x16 < (p1.vars.length : Int) then (if (0 ≤ x16 ∧ x16 < (p1.vars.length : Int)) then (if ((p1.vars.getD x16.toNat default).n) > 1000 then (some (.inr (.inr true))) else ((jt ((p1.vars.getD x16.toNat default).n)).bind fun y17 => some (.inl ((IntKind.wrap .i64 (x15 + y17)), (IntKind.wrap .i64 (x16 + 1)))))) else none) else (some (.inr (.inl x15)))
noncomputable def fK (p1 : ag) (p2 : Int) : Option Bool :=
  if (p1.vars.length : Int) > p2 then (some true) else (if (p1.rules.length : Int) > p2 then (some true) else (if (p1.in_.length : Int) > p2 then (some true) else (if (p1.out_.length : Int) > p2 then (some true) else ((bb (fun (x15, x16) => cg p1 x15 x16) (0, 0)).bind (Sum.elim (fun z18 => cV p1 p2 z18) (fun z19 => some z19))))))
end Pam

namespace Pam
open Go
noncomputable def eR (p1 : Int) (p2 : Int) : Option ar :=
  some (ar.mk p1 p2)
end Pam

namespace Pam
open Go
noncomputable def ko : Option Bool :=
  some false
noncomputable def kq (p1 : List Int) (p2 : Int) (x3 : Int) : Option (Int ⊕ (Unit ⊕ Bool)) :=
  if x3 < (p1.length : Int) then (if (0 ≤ x3 ∧ x3 < (p1.length : Int)) then (if (p1.getD x3.toNat default) = p2 then (some (.inr (.inr true))) else (some (.inl (IntKind.wrap .i64 (x3 + 1))))) else none) else (some (.inr (.inl ())))
noncomputable def jJ (p1 : List Int) (p2 : Int) : Option Bool :=
  (bb (fun x3 => kq p1 p2 x3) 0).bind (Sum.elim (fun _ => ko) (fun z4 => some z4))
end Pam

namespace Pam
open Go
noncomputable def gS : Option ar :=
  some (ar.mk 0 0)
noncomputable def gT (p1 : ag) (x7 : Int) : Option (Int ⊕ (Unit ⊕ ar)) :=
  if x7 < (p1.out_.length : Int) then (if (0 ≤ x7 ∧ x7 < (p1.out_.length : Int)) then (if (p1.out_.getD x7.toNat default) < 0 then ((eR 16 (-1)).bind fun y8 => some (.inr (.inr (y8)))) else (if (p1.out_.getD x7.toNat default) ≥ (p1.vars.length : Int) then ((eR 16 (-1)).bind fun y9 => some (.inr (.inr (y9)))) else (some (.inl (IntKind.wrap .i64 (x7 + 1)))))) else none) else (some (.inr (.inl ())))
noncomputable def fa (p1 : ag) : Option ar :=
  (bb (fun x7 => gT p1 x7) 0).bind (Sum.elim (fun _ => gS) (fun z10 => some z10))
noncomputable def gU (p1 : ag) (x13 : Int) : Option (Int ⊕ (Unit ⊕ ar)) :=
  if x13 < (p1.in_.length : Int) then (if (0 ≤ x13 ∧ x13 < (p1.in_.length : Int)) then (if (p1.in_.getD x13.toNat default) < 0 then ((eR 16 (-1)).bind fun y14 => some (.inr (.inr (y14)))) else (if (p1.in_.getD x13.toNat default) ≥ (p1.vars.length : Int) then ((eR 16 (-1)).bind fun y15 => some (.inr (.inr (y15)))) else (if (0 ≤ x13 ∧ x13 ≤ (p1.in_.length : Int)) then ((jJ (p1.in_.take x13.toNat) (p1.in_.getD x13.toNat default)).bind fun y16 => if y16 = true then ((eR 8 (-1)).bind fun y17 => some (.inr (.inr (y17)))) else (some (.inl (IntKind.wrap .i64 (x13 + 1))))) else none))) else none) else (some (.inr (.inl ())))
noncomputable def d5 (p1 : ag) : Option ar :=
  (bb (fun x13 => gU p1 x13) 0).bind (Sum.elim (fun _ => fa p1) (fun z18 => some z18))
noncomputable def fb (p1 : ag) (x21 : Int) : Option (Int ⊕ (Unit ⊕ ar)) :=
  if (0 ≤ x21 ∧ x21 < (p1.vars.length : Int)) then (if ((p1.vars.getD x21.toNat default).n) < 0 then ((eR 13 (IntKind.wrap .i64 ((-2) - x21))).bind fun y22 => some (.inr (.inr (y22)))) else (if ((p1.vars.getD x21.toNat default).n) > 300 then ((eR 13 (IntKind.wrap .i64 ((-2) - x21))).bind fun y23 => some (.inr (.inr (y23)))) else (some (.inl (IntKind.wrap .i64 (x21 + 1)))))) else none
noncomputable def fS (p1 : ag) (x21 : Int) : Option (Int ⊕ (Unit ⊕ ar)) :=
  if x21 < (p1.vars.length : Int) then (if (0 ≤ x21 ∧ x21 < (p1.vars.length : Int)) then (if ¬ ((p1.vars.getD x21.toNat default).elem) = 105 then (if ¬ ((p1.vars.getD x21.toNat default).elem) = 98 then ((eR 10 (IntKind.wrap .i64 ((-2) - x21))).bind fun y24 => some (.inr (.inr (y24)))) else (fb p1 x21)) else (fb p1 x21)) else none) else (some (.inr (.inl ())))
noncomputable def jK (p1 : ag) : Option ar :=
  if (p1.vars.length : Int) > 400 then ((eR 7 (-1)).bind fun y1 => some (y1)) else (if (p1.in_.length : Int) > 400 then ((eR 7 (-1)).bind fun y2 => some (y2)) else (if (p1.out_.length : Int) > 400 then ((eR 7 (-1)).bind fun y3 => some (y3)) else (if (p1.rules.length : Int) > 400 then ((eR 7 (-1)).bind fun y4 => some (y4)) else ((bb (fun x21 => fS p1 x21) 0).bind (Sum.elim (fun _ => d5 p1) (fun z25 => some z25))))))
end Pam

namespace Pam
open Go
noncomputable def i6 (l3 : List Int) : Option (List Int) :=
  some l3
noncomputable def eT (p1 : ag) (p2 : Int) (l17 : List Int) (x19 : Int) : Option (((List Int) × Int) ⊕ (List Int)) :=
  if x19 < p2 then (if (0 ≤ x19 ∧ x19 < (p1.rules.length : Int)) ∧ d3 (l17.length + 1) 8 then (some (.inl ((l17 ++ (lit ([(p1.rules.getD x19.toNat default).out_] : List Int))), (IntKind.wrap .i64 (x19 + 1))))) else none) else (some (.inr l17))
noncomputable def kr (p1 : ag) (p2 : Int) : Option (List Int) :=
  (bb (fun (l17, x19) => eT p1 p2 l17 x19) ([], 0)).bind (fun z20 => i6 z20)
end Pam

namespace Pam
open Go
noncomputable def hU (p1 : Int) : Option Int :=
  if p1 < 0 then (some (-1)) else (if p1 ≥ (17 : Int) then (some (-1)) else (if (0 ≤ p1 ∧ p1 < (17 : Int)) then (some ((lit ([(-1), 0, 1, 1, 2, 3, 2, 2, 1, 3, 3, 1, 2, 2, 0, 1, 1] : List Int)).getD p1.toNat default)) else none))
end Pam

namespace Pam
open Go
noncomputable def fc (p2 : Int) (l3 : List Int) (b5 : Bool) : Option (List Int) :=
  if b5 = true then (some l3) else (if d3 (l3.length + 1) 8 then (some (l3 ++ (lit ([p2] : List Int)))) else none)
noncomputable def dD (p1 : List Int) (x23 : Int) (l26 : List Int) (b28 : Bool) : Option (((List Int) × Bool × Int) ⊕ ((List Int) × Bool)) :=
  if (0 ≤ x23 ∧ x23 < (p1.length : Int)) ∧ d3 (l26.length + 1) 8 then (some (.inl ((l26 ++ (lit ([(p1.getD x23.toNat default)] : List Int))), b28, (IntKind.wrap .i64 (x23 + 1))))) else none
noncomputable def dE (p1 : List Int) (p2 : Int) (l20 : List Int) (b22 : Bool) (x23 : Int) : Option (((List Int) × Bool × Int) ⊕ ((List Int) × Bool)) :=
  if x23 < (p1.length : Int) then (if b22 = true then (dD p1 x23 l20 b22) else (if (0 ≤ x23 ∧ x23 < (p1.length : Int)) then (if (p1.getD x23.toNat default) ≥ p2 then (if (p1.getD x23.toNat default) > p2 then (if d3 (l20.length + 1) 8 then (dD p1 x23 (l20 ++ (lit ([p2] : List Int))) true) else none) else (dD p1 x23 l20 true)) else (dD p1 x23 l20 b22)) else none)) else (some (.inr (l20, b22)))
noncomputable def iK (p1 : List Int) (p2 : Int) : Option (List Int) :=
  (bb (fun (l20, b22, x23) => dE p1 p2 l20 b22 x23) ([], false, 0)).bind (fun (z29, z30) => fc p2 z29 z30)
end Pam

namespace Pam
open Go
noncomputable def ks (p1 : aD) : Option Bool :=
  if p1.op = 2 then (some true) else (if p1.op = 3 then (some true) else (some (p1.op == 8)))
end Pam

namespace Pam
open Go
noncomputable def hY (l2 : List Int) : Option (List Int) :=
  some l2
noncomputable def eU (p1 : ae) (l7 : List Int) (x8 : Int) : Option (((List Int) × Int) ⊕ (List Int)) :=
  if x8 < (p1.e.length : Int) then (if (0 ≤ x8 ∧ x8 < (p1.e.length : Int)) then ((ks (p1.e.getD x8.toNat default)).bind fun y9 => if y9 = true then ((iK l7 ((p1.e.getD x8.toNat default).v)).bind fun y10 => some (.inl (y10, (IntKind.wrap .i64 (x8 + 1))))) else (some (.inl (l7, (IntKind.wrap .i64 (x8 + 1)))))) else none) else (some (.inr l7))
noncomputable def gw (p1 : ae) (l1 : List Int) : Option (List Int) :=
  (bb (fun (l7, x8) => eU p1 l7 x8) (l1, 0)).bind (fun z11 => hY z11)
noncomputable def eV (p1 : ae) (l18 : List Int) (x19 : Int) : Option (((List Int) × Int) ⊕ (List Int)) :=
  if x19 < (p1.a.length : Int) then (if (0 ≤ x19 ∧ x19 < (p1.a.length : Int)) then ((iK l18 (p1.a.getD x19.toNat default)).bind fun y20 => some (.inl (y20, (IntKind.wrap .i64 (x19 + 1))))) else none) else (some (.inr l18))
noncomputable def lC (p1 : ae) : Option (List Int) :=
  (bb (fun (l18, x19) => eV p1 l18 x19) ([], 0)).bind (fun z21 => gw p1 z21)
end Pam

namespace Pam
open Go
noncomputable def gA (p1 : ae) (l1 : List aD) : Option (List Int) :=
  (lC (ae.mk p1.op p1.k p1.out_ p1.n p1.a l1)).bind fun y2 => some y2
noncomputable def kt (p1 : ae) : Option (List Int) :=
  if p1.op < 14 then (gA p1 []) else (gA p1 p1.e)
end Pam

namespace Pam
open Go
noncomputable def i7 (p1 : Int) (x1 : Int) : Option (Int × Int × Int) :=
  if (0 ≤ p1 ∧ p1 < (([63, 105, 105, 105, 105, 105, 105, 105, 105, 105, 98, 98, 98, 105, 98] : List UInt8).length : Int)) ∧ (0 ≤ p1 ∧ p1 < (([63, 105, 105, 105, 105, 105, 105, 105, 98, 98, 98, 98, 98, 105, 98] : List UInt8).length : Int)) then (some (((([63, 105, 105, 105, 105, 105, 105, 105, 105, 105, 98, 98, 98, 105, 98] : List UInt8).getD p1.toNat 0).toNat : Int), ((([63, 105, 105, 105, 105, 105, 105, 105, 98, 98, 98, 98, 98, 105, 98] : List UInt8).getD p1.toNat 0).toNat : Int), x1)) else none
noncomputable def i8 (p1 : Int) : Option (Int × Int × Int) :=
  if p1 < 1 then (some (0, 0, 0)) else (if p1 > 14 then (some (0, 0, 0)) else (if p1 ≥ 13 then (i7 p1 1) else (i7 p1 2)))
end Pam

namespace Pam
open Go
noncomputable def hZ (p1 : Int) : Option Bool :=
  (i8 p1).bind fun y1 => if y1.2.2 = 2 then (some (y1.1 == y1.2.1)) else (some false)
end Pam

namespace Pam
open Go
noncomputable def jL (p1 : Int) : Option Bool :=
  if p1 ≥ (-1000000) then (some (decide (p1 ≤ 1000000))) else (some false)
end Pam

namespace Pam
open Go
noncomputable def eW (l3 : List Int) : Option Int :=
  if ¬ (l3.length : Int) = 1 then (some 0) else (if (0 ≤ 0 ∧ 0 < (l3.length : Int)) then (some (l3.getD 0 default)) else none)
noncomputable def d6 (p1 : ag) (p2 : List aD) (p3 : Int) (l17 : List Int) (x19 : Int) : Option (((List Int) × Int) ⊕ ((List Int) ⊕ Int)) :=
  if x19 < (p2.length : Int) then (if (0 ≤ x19 ∧ x19 < (p2.length : Int)) then (if ((p2.getD x19.toNat default).op) = 1 then (if ((p2.getD x19.toNat default).k) = 0 then (if d3 (l17.length + 1) 1 then (some (.inl ((l17 ++ (lit ([105] : List Int))), (IntKind.wrap .i64 (x19 + 1))))) else none) else (if ((p2.getD x19.toNat default).k) = 1 then (if ((p2.getD x19.toNat default).n) = 0 then (if d3 (l17.length + 1) 1 then (some (.inl ((l17 ++ (lit ([98] : List Int))), (IntKind.wrap .i64 (x19 + 1))))) else none) else (if ((p2.getD x19.toNat default).n) = 1 then (if d3 (l17.length + 1) 1 then (some (.inl ((l17 ++ (lit ([98] : List Int))), (IntKind.wrap .i64 (x19 + 1))))) else none) else (some (.inr (.inr 0))))) else (some (.inr (.inr 0))))) else (if ((p2.getD x19.toNat default).op) = 2 then (if (0 ≤ (p2.getD x19.toNat default).v ∧ (p2.getD x19.toNat default).v < (p1.vars.length : Int)) then (if ¬ ((p1.vars.getD (((p2.getD x19.toNat default).v).toNat) default).n) = 0 then (some (.inr (.inr 0))) else (if d3 (l17.length + 1) 1 then (some (.inl ((l17 ++ (lit ([(p1.vars.getD (((p2.getD x19.toNat default).v).toNat) default).elem] : List Int))), (IntKind.wrap .i64 (x19 + 1))))) else none)) else none) else (if ((p2.getD x19.toNat default).op) = 3 then (if (0 ≤ (p2.getD x19.toNat default).v ∧ (p2.getD x19.toNat default).v < (p1.vars.length : Int)) then (if ((p1.vars.getD (((p2.getD x19.toNat default).v).toNat) default).n) = 0 then (some (.inr (.inr 0))) else (if ((p2.getD x19.toNat default).n) < 0 then (some (.inr (.inr 0))) else (if ((p1.vars.getD (((p2.getD x19.toNat default).v).toNat) default).n) < p3 then (some (.inr (.inr 0))) else (if ((p2.getD x19.toNat default).n) > (IntKind.wrap .i64 (((p1.vars.getD (((p2.getD x19.toNat default).v).toNat) default).n) - p3)) then (some (.inr (.inr 0))) else (if d3 (l17.length + 1) 1 then (some (.inl ((l17 ++ (lit ([(p1.vars.getD (((p2.getD x19.toNat default).v).toNat) default).elem] : List Int))), (IntKind.wrap .i64 (x19 + 1))))) else none))))) else none) else (if ((p2.getD x19.toNat default).op) = 4 then ((jL ((p2.getD x19.toNat default).n)).bind fun y20 => if y20 = true then (if d3 (l17.length + 1) 1 then (some (.inl ((l17 ++ (lit ([105] : List Int))), (IntKind.wrap .i64 (x19 + 1))))) else none) else (some (.inr (.inr 0)))) else (if ((p2.getD x19.toNat default).op) = 5 then ((i8 ((p2.getD x19.toNat default).k)).bind fun y21 => if ¬ y21.2.2 = 1 then (some (.inr (.inr 0))) else (if (l17.length : Int) < 1 then (some (.inr (.inr 0))) else (if (0 ≤ (IntKind.wrap .i64 ((l17.length : Int) - 1)) ∧ (IntKind.wrap .i64 ((l17.length : Int) - 1)) < (l17.length : Int)) then (if ¬ (l17.getD ((IntKind.wrap .i64 ((l17.length : Int) - 1)).toNat) default) = y21.1 then (some (.inr (.inr 0))) else (some (.inl ((l17.set ((IntKind.wrap .i64 ((l17.length : Int) - 1)).toNat) y21.2.1), (IntKind.wrap .i64 (x19 + 1)))))) else none))) else (if ((p2.getD x19.toNat default).op) = 6 then ((i8 ((p2.getD x19.toNat default).k)).bind fun y22 => if ¬ y22.2.2 = 2 then (some (.inr (.inr 0))) else (if (l17.length : Int) < 2 then (some (.inr (.inr 0))) else (if (0 ≤ (IntKind.wrap .i64 ((l17.length : Int) - 1)) ∧ (IntKind.wrap .i64 ((l17.length : Int) - 1)) < (l17.length : Int)) then (if ¬ (l17.getD ((IntKind.wrap .i64 ((l17.length : Int) - 1)).toNat) default) = y22.1 then (some (.inr (.inr 0))) else (if (0 ≤ (IntKind.wrap .i64 ((l17.length : Int) - 2)) ∧ (IntKind.wrap .i64 ((l17.length : Int) - 2)) < (l17.length : Int)) then (if ¬ (l17.getD ((IntKind.wrap .i64 ((l17.length : Int) - 2)).toNat) default) = y22.1 then (some (.inr (.inr 0))) else (if (0 ≤ (IntKind.wrap .i64 ((l17.length : Int) - 2)) ∧ (IntKind.wrap .i64 ((l17.length : Int) - 2)) ≤ (l17.length : Int)) ∧ d3 (((IntKind.wrap .i64 ((l17.length : Int) - 2)).toNat) + 1) 1 then (some (.inl (((l17.take ((IntKind.wrap .i64 ((l17.length : Int) - 2)).toNat)) ++ (lit ([y22.2.1] : List Int))), (IntKind.wrap .i64 (x19 + 1))))) else none)) else none)) else none))) else (if ((p2.getD x19.toNat default).op) = 7 then (if (l17.length : Int) < 3 then (some (.inr (.inr 0))) else (if (0 ≤ (IntKind.wrap .i64 ((l17.length : Int) - 3)) ∧ (IntKind.wrap .i64 ((l17.length : Int) - 3)) < (l17.length : Int)) then (if ¬ (l17.getD ((IntKind.wrap .i64 ((l17.length : Int) - 3)).toNat) default) = 98 then (some (.inr (.inr 0))) else (if (0 ≤ (IntKind.wrap .i64 ((l17.length : Int) - 2)) ∧ (IntKind.wrap .i64 ((l17.length : Int) - 2)) < (l17.length : Int)) ∧ (0 ≤ (IntKind.wrap .i64 ((l17.length : Int) - 1)) ∧ (IntKind.wrap .i64 ((l17.length : Int) - 1)) < (l17.length : Int)) then (if ¬ (l17.getD ((IntKind.wrap .i64 ((l17.length : Int) - 2)).toNat) default) = (l17.getD ((IntKind.wrap .i64 ((l17.length : Int) - 1)).toNat) default) then (some (.inr (.inr 0))) else (if (0 ≤ (IntKind.wrap .i64 ((l17.length : Int) - 3)) ∧ (IntKind.wrap .i64 ((l17.length : Int) - 3)) ≤ (l17.length : Int)) ∧ d3 (((IntKind.wrap .i64 ((l17.length : Int) - 3)).toNat) + 1) 1 then (some (.inl (((l17.take ((IntKind.wrap .i64 ((l17.length : Int) - 3)).toNat)) ++ (lit ([(l17.getD ((IntKind.wrap .i64 ((l17.length : Int) - 1)).toNat) default)] : List Int))), (IntKind.wrap .i64 (x19 + 1))))) else none)) else none)) else none)) else (if ((p2.getD x19.toNat default).op) = 8 then (if (0 ≤ (p2.getD x19.toNat default).v ∧ (p2.getD x19.toNat default).v < (p1.vars.length : Int)) then (if ((p1.vars.getD (((p2.getD x19.toNat default).v).toNat) default).n) = 0 then (some (.inr (.inr 0))) else (if (l17.length : Int) < 2 then (some (.inr (.inr 0))) else (if (0 ≤ (IntKind.wrap .i64 ((l17.length : Int) - 2)) ∧ (IntKind.wrap .i64 ((l17.length : Int) - 2)) < (l17.length : Int)) then (if ¬ (l17.getD ((IntKind.wrap .i64 ((l17.length : Int) - 2)).toNat) default) = 105 then (some (.inr (.inr 0))) else (if (0 ≤ (IntKind.wrap .i64 ((l17.length : Int) - 1)) ∧ (IntKind.wrap .i64 ((l17.length : Int) - 1)) < (l17.length : Int)) then (if ¬ (l17.getD ((IntKind.wrap .i64 ((l17.length : Int) - 1)).toNat) default) = ((p1.vars.getD (((p2.getD x19.toNat default).v).toNat) default).elem) then (some (.inr (.inr 0))) else (if (0 ≤ (IntKind.wrap .i64 ((l17.length : Int) - 2)) ∧ (IntKind.wrap .i64 ((l17.length : Int) - 2)) ≤ (l17.length : Int)) ∧ d3 (((IntKind.wrap .i64 ((l17.length : Int) - 2)).toNat) + 1) 1 then (some (.inl (((l17.take ((IntKind.wrap .i64 ((l17.length : Int) - 2)).toNat)) ++ (lit ([(p1.vars.getD (((p2.getD x19.toNat default).v).toNat) default).elem] : List Int))), (IntKind.wrap .i64 (x19 + 1))))) else none)) else none)) else none))) else none) else (some (.inr (.inr 0))))))))))) else none) else (some (.inr (.inl l17)))
noncomputable def i9 (p1 : ag) (p2 : List aD) (p3 : Int) : Option Int :=
  (bb (fun (l17, x19) => d6 p1 p2 p3 l17 x19) ([], 0)).bind (Sum.elim (fun z23 => eW z23) (fun z24 => some z24))
end Pam

namespace Pam
open Go
noncomputable def aM (p1 : ag) (p2 : ae) (l2 : List ai) : Option Bool :=
  (i8 p2.k).bind fun y3 => if p2.op = 1 then (if ((p1.vars.getD p2.out_.toNat default).elem) = 105 ∧ ((p1.vars.getD p2.out_.toNat default).n) = 0 then (some true) else (if ((p1.vars.getD p2.out_.toNat default).elem) = 98 ∧ ((p1.vars.getD p2.out_.toNat default).n) = 0 then (if p2.n = 0 then (some true) else (some (p2.n == 1))) else (some false))) else (if p2.op = 2 then (if (0 ≤ 0 ∧ 0 < (3 : Int)) ∧ 0 < l2.length then (some ((((l2.getD 0 default).elem) == ((p1.vars.getD p2.out_.toNat default).elem)) && (((l2.getD 0 default).n) == ((p1.vars.getD p2.out_.toNat default).n)))) else none) else (if p2.op = 3 then (if y3.2.2 = 1 then (if (0 ≤ 0 ∧ 0 < (3 : Int)) ∧ 0 < l2.length then (if ((l2.getD 0 default).elem) = y3.1 then (some ((((p1.vars.getD p2.out_.toNat default).elem) == y3.2.1) && (((p1.vars.getD p2.out_.toNat default).n) == ((l2.getD 0 default).n)))) else (some false)) else none) else (some false)) else (if p2.op = 4 then (if y3.2.2 = 2 then (if (0 ≤ 0 ∧ 0 < (3 : Int)) ∧ 0 < l2.length then (if ((l2.getD 0 default).elem) = y3.1 then (if (0 ≤ 1 ∧ 1 < (3 : Int)) ∧ 1 < l2.length then (if ((l2.getD 1 default).elem) = ((l2.getD 0 default).elem) ∧ ((l2.getD 1 default).n) = ((l2.getD 0 default).n) then (some ((((p1.vars.getD p2.out_.toNat default).elem) == y3.2.1) && (((p1.vars.getD p2.out_.toNat default).n) == ((l2.getD 0 default).n)))) else (some false)) else none) else (some false)) else none) else (some false)) else (if p2.op = 5 then (if (0 ≤ 0 ∧ 0 < (3 : Int)) ∧ 0 < l2.length then (if ((l2.getD 0 default).elem) = 98 ∧ ((l2.getD 0 default).n) = 0 then (if (0 ≤ 1 ∧ 1 < (3 : Int)) ∧ 1 < l2.length then (if ((l2.getD 1 default).elem) = ((p1.vars.getD p2.out_.toNat default).elem) ∧ ((l2.getD 1 default).n) = ((p1.vars.getD p2.out_.toNat default).n) then (if (0 ≤ 2 ∧ 2 < (3 : Int)) ∧ 2 < l2.length then (some ((((l2.getD 2 default).elem) == ((p1.vars.getD p2.out_.toNat default).elem)) && (((l2.getD 2 default).n) == ((p1.vars.getD p2.out_.toNat default).n)))) else none) else (some false)) else none) else (some false)) else none) else (if p2.op = 6 then ((hZ p2.k).bind fun y4 => if y4 = true then (if (0 ≤ 0 ∧ 0 < (3 : Int)) ∧ 0 < l2.length then (if ((l2.getD 0 default).elem) = y3.1 ∧ ((l2.getD 0 default).n) = 0 then (if (0 ≤ 1 ∧ 1 < (3 : Int)) ∧ 1 < l2.length then (if ((l2.getD 1 default).n) > 0 then (if ((l2.getD 1 default).elem) = y3.1 then (some ((((p1.vars.getD p2.out_.toNat default).elem) == ((l2.getD 0 default).elem)) && (((p1.vars.getD p2.out_.toNat default).n) == ((l2.getD 0 default).n)))) else (some false)) else (some false)) else none) else (some false)) else none) else (some false)) else (if p2.op = 7 then ((hZ p2.k).bind fun y5 => if y5 = true then (if (0 ≤ 0 ∧ 0 < (3 : Int)) ∧ 0 < l2.length then (if ((l2.getD 0 default).elem) = y3.1 ∧ ((l2.getD 0 default).n) = 0 then (if (0 ≤ 1 ∧ 1 < (3 : Int)) ∧ 1 < l2.length then (if ((l2.getD 1 default).n) > 0 then (if ((l2.getD 1 default).elem) = y3.1 then (some ((((p1.vars.getD p2.out_.toNat default).elem) == ((l2.getD 1 default).elem)) && (((p1.vars.getD p2.out_.toNat default).n) == ((l2.getD 1 default).n)))) else (some false)) else (some false)) else none) else (some false)) else none) else (some false)) else (if p2.op = 8 then (if (0 ≤ 0 ∧ 0 < (3 : Int)) ∧ 0 < l2.length then (if ((l2.getD 0 default).n) = 0 then (if ((p1.vars.getD p2.out_.toNat default).n) > 0 then (some (((p1.vars.getD p2.out_.toNat default).elem) == ((l2.getD 0 default).elem))) else (some false)) else (some false)) else none) else (if p2.op = 9 then (if (0 ≤ 0 ∧ 0 < (3 : Int)) ∧ 0 < l2.length then (if ((l2.getD 0 default).n) > 0 then (if (0 ≤ 1 ∧ 1 < (3 : Int)) ∧ 1 < l2.length then (if ((l2.getD 1 default).elem) = 105 ∧ ((l2.getD 1 default).n) = 0 then (if (0 ≤ 2 ∧ 2 < (3 : Int)) ∧ 2 < l2.length then (if ((l2.getD 2 default).elem) = ((l2.getD 0 default).elem) ∧ ((l2.getD 2 default).n) = 0 then (some ((((p1.vars.getD p2.out_.toNat default).elem) == ((l2.getD 2 default).elem)) && (((p1.vars.getD p2.out_.toNat default).n) == ((l2.getD 2 default).n)))) else (some false)) else none) else (some false)) else none) else (some false)) else none) else (if p2.op = 10 then (if (0 ≤ 0 ∧ 0 < (3 : Int)) ∧ 0 < l2.length then (if ((l2.getD 0 default).n) > 0 then (if (0 ≤ 1 ∧ 1 < (3 : Int)) ∧ 1 < l2.length then (if ((l2.getD 1 default).elem) = 105 ∧ ((l2.getD 1 default).n) = 0 then (if (0 ≤ 2 ∧ 2 < (3 : Int)) ∧ 2 < l2.length then (if ((l2.getD 2 default).elem) = ((l2.getD 0 default).elem) ∧ ((l2.getD 2 default).n) = 0 then (some ((((p1.vars.getD p2.out_.toNat default).elem) == ((l2.getD 0 default).elem)) && (((p1.vars.getD p2.out_.toNat default).n) == ((l2.getD 0 default).n)))) else (some false)) else none) else (some false)) else none) else (some false)) else none) else (if p2.op = 11 then (if ((p1.vars.getD p2.out_.toNat default).n) > 0 then (if (0 ≤ 0 ∧ 0 < (3 : Int)) ∧ 0 < l2.length then (if ((l2.getD 0 default).n) > 0 then (if ((p1.vars.getD p2.out_.toNat default).elem) = ((l2.getD 0 default).elem) then (if p2.n ≥ 0 then (if ((p1.vars.getD p2.out_.toNat default).n) ≤ ((l2.getD 0 default).n) then (some (decide (p2.n ≤ (IntKind.wrap .i64 (((l2.getD 0 default).n) - ((p1.vars.getD p2.out_.toNat default).n)))))) else (some false)) else (some false)) else (some false)) else (some false)) else none) else (some false)) else (if p2.op = 12 then (if (0 ≤ 0 ∧ 0 < (3 : Int)) ∧ 0 < l2.length then (if ((l2.getD 0 default).n) > 0 then (if (0 ≤ 1 ∧ 1 < (3 : Int)) ∧ 1 < l2.length then (if ((l2.getD 1 default).n) > 0 then (if ((l2.getD 0 default).elem) = ((l2.getD 1 default).elem) then (some ((((p1.vars.getD p2.out_.toNat default).elem) == ((l2.getD 0 default).elem)) && (((p1.vars.getD p2.out_.toNat default).n) == (IntKind.wrap .i64 (((l2.getD 0 default).n) + ((l2.getD 1 default).n)))))) else (some false)) else (some false)) else none) else (some false)) else none) else (if p2.op = 13 then (if (0 ≤ 0 ∧ 0 < (3 : Int)) ∧ 0 < l2.length then (if ((l2.getD 0 default).elem) = ((p1.vars.getD p2.out_.toNat default).elem) ∧ ((l2.getD 0 default).n) = ((p1.vars.getD p2.out_.toNat default).n) then (if (0 ≤ 1 ∧ 1 < (3 : Int)) ∧ 1 < l2.length then (some ((((l2.getD 1 default).elem) == ((p1.vars.getD p2.out_.toNat default).elem)) && (((l2.getD 1 default).n) == ((p1.vars.getD p2.out_.toNat default).n)))) else none) else (some false)) else none) else (if p2.op = 14 then ((jt ((p1.vars.getD p2.out_.toNat default).n)).bind fun y6 => (i9 p1 p2.e y6).bind fun y7 => some (y7 == ((p1.vars.getD p2.out_.toNat default).elem))) else (if p2.op = 15 then ((hZ p2.k).bind fun y8 => if y8 = true then (if ((p1.vars.getD p2.out_.toNat default).elem) = y3.1 ∧ ((p1.vars.getD p2.out_.toNat default).n) = 0 then (if (0 ≤ 0 ∧ 0 < (3 : Int)) ∧ 0 < l2.length then (if ((l2.getD 0 default).elem) = ((p1.vars.getD p2.out_.toNat default).elem) ∧ ((l2.getD 0 default).n) = ((p1.vars.getD p2.out_.toNat default).n) then (if p2.n ≥ 1 then (if p2.n ≤ 300 then ((i9 p1 p2.e p2.n).bind fun y9 => some (y9 == y3.1)) else (some false)) else (some false)) else (some false)) else none) else (some false)) else (some false)) else ((hZ p2.k).bind fun y10 => if y10 = true then (if ((p1.vars.getD p2.out_.toNat default).n) > 0 then (if ((p1.vars.getD p2.out_.toNat default).elem) = y3.1 then (if (0 ≤ 0 ∧ 0 < (3 : Int)) ∧ 0 < l2.length then (if ((l2.getD 0 default).elem) = y3.1 ∧ ((l2.getD 0 default).n) = 0 then ((i9 p1 p2.e ((p1.vars.getD p2.out_.toNat default).n)).bind fun y11 => some (y11 == y3.1)) else (some false)) else none) else (some false)) else (some false)) else (some false))))))))))))))))
noncomputable def bU (p1 : ag) (p2 : ae) (l19 : List ai) (x20 : Int) : Option (((List ai) × Int) ⊕ (List ai)) :=
  if x20 < (p2.a.length : Int) then (if (0 ≤ x20 ∧ x20 < (p2.a.length : Int)) ∧ (0 ≤ (p2.a.getD x20.toNat default) ∧ (p2.a.getD x20.toNat default) < (p1.vars.length : Int)) ∧ (0 ≤ x20 ∧ x20 < (3 : Int)) ∧ x20.toNat < l19.length then (some (.inl ((l19.set x20.toNat (p1.vars.getD ((p2.a.getD x20.toNat default).toNat) default)), (IntKind.wrap .i64 (x20 + 1))))) else none) else (some (.inr l19))
noncomputable def ax (p1 : ag) (p2 : ae) : Option Bool :=
  if (0 ≤ p2.out_ ∧ p2.out_ < (p1.vars.length : Int)) then ((bb (fun (l19, x20) => bU p1 p2 l19 x20) ((List.replicate 3 (ai.mk 0 0)), 0)).bind (fun z21 => aM p1 p2 z21)) else none
end Pam

namespace Pam
open Go
noncomputable def fL : Option ar :=
  some (ar.mk 0 0)
noncomputable def er (p1 : ag) (y2 : (List Int)) (x5 : Int) : Option (Int ⊕ (Unit ⊕ ar)) :=
  if x5 < (p1.out_.length : Int) then (if (0 ≤ x5 ∧ x5 < (p1.out_.length : Int)) then ((jJ p1.in_ (p1.out_.getD x5.toNat default)).bind fun y6 => if y6 = true then (some (.inl (IntKind.wrap .i64 (x5 + 1)))) else ((jJ y2 (p1.out_.getD x5.toNat default)).bind fun y7 => if y7 = true then (some (.inl (IntKind.wrap .i64 (x5 + 1)))) else ((eR 9 (-1)).bind fun y8 => some (.inr (.inr (y8)))))) else none) else (some (.inr (.inl ())))
noncomputable def et (p1 : ag) (y2 : (List Int)) : Option ar :=
  (bb (fun x5 => er p1 y2 x5) 0).bind (Sum.elim (fun _ => fL) (fun z9 => some z9))
noncomputable def eu (x12 : Int) : Option (Int ⊕ (Unit ⊕ ar)) :=
  some (.inl (IntKind.wrap .i64 (x12 + 1)))
noncomputable def fM (p1 : ag) (y2 : (List Int)) (x12 : Int) (y13 : (List Int)) (x16 : Int) : Option (Int ⊕ (Unit ⊕ ar)) :=
  if x16 < (y13.length : Int) then (if (0 ≤ x16 ∧ x16 < (y13.length : Int)) then ((jJ p1.in_ (y13.getD x16.toNat default)).bind fun y17 => if y17 = true then (some (.inl (IntKind.wrap .i64 (x16 + 1)))) else ((jJ y2 (y13.getD x16.toNat default)).bind fun y18 => if y18 = true then (some (.inl (IntKind.wrap .i64 (x16 + 1)))) else ((eR 9 x12).bind fun y19 => some (.inr (.inr (y19)))))) else none) else (some (.inr (.inl ())))
noncomputable def ew (p1 : ag) (y2 : (List Int)) (x12 : Int) : Option (Int ⊕ (Unit ⊕ ar)) :=
  if x12 < (p1.rules.length : Int) then (if (0 ≤ x12 ∧ x12 < (p1.rules.length : Int)) then ((kt (p1.rules.getD x12.toNat default)).bind fun y13 => (bb (fun x16 => fM p1 y2 x12 y13 x16) 0).bind (Sum.elim (fun _ => eu x12) (fun z20 => some (.inr (.inr z20))))) else none) else (some (.inr (.inl ())))
noncomputable def ex (p1 : ag) : Option ar :=
  (kr p1 (p1.rules.length : Int)).bind fun y2 => (bb (fun x12 => ew p1 y2 x12) 0).bind (Sum.elim (fun _ => et p1 y2) (fun z21 => some z21))
noncomputable def fN (x24 : Int) : Option (Int ⊕ (Unit ⊕ ar)) :=
  some (.inl (IntKind.wrap .i64 (x24 + 1)))
noncomputable def ey (p1 : ag) (x24 : Int) : Option (Int ⊕ (Unit ⊕ ar)) :=
  (ax p1 (p1.rules.getD x24.toNat default)).bind fun y38 => if y38 = true then (fN x24) else ((eR 10 x24).bind fun y39 => some (.inr (.inr (y39))))
noncomputable def fO (p1 : ag) (x24 : Int) (y37 : (List Int)) (x42 : Int) : Option (Int ⊕ (Unit ⊕ ar)) :=
  if x42 < (y37.length : Int) then (if (0 ≤ x42 ∧ x42 < (y37.length : Int)) then (if (y37.getD x42.toNat default) < 0 then ((eR 16 x24).bind fun y43 => some (.inr (.inr (y43)))) else (if (y37.getD x42.toNat default) ≥ (p1.vars.length : Int) then ((eR 16 x24).bind fun y44 => some (.inr (.inr (y44)))) else (some (.inl (IntKind.wrap .i64 (x42 + 1)))))) else none) else (some (.inr (.inl ())))
noncomputable def ez (p1 : ag) (x24 : Int) : Option (Int ⊕ (Unit ⊕ ar)) :=
  if x24 < (p1.rules.length : Int) then (if (0 ≤ x24 ∧ x24 < (p1.rules.length : Int)) then (if ((p1.rules.getD x24.toNat default).out_) < 0 then ((eR 16 x24).bind fun y25 => some (.inr (.inr (y25)))) else (if ((p1.rules.getD x24.toNat default).out_) ≥ (p1.vars.length : Int) then ((eR 16 x24).bind fun y26 => some (.inr (.inr (y26)))) else ((jJ p1.in_ ((p1.rules.getD x24.toNat default).out_)).bind fun y27 => if y27 = true then ((eR 8 x24).bind fun y28 => some (.inr (.inr (y28)))) else ((kr p1 x24).bind fun y29 => (jJ y29 ((p1.rules.getD x24.toNat default).out_)).bind fun y30 => if y30 = true then ((eR 8 x24).bind fun y31 => some (.inr (.inr (y31)))) else ((hU ((p1.rules.getD x24.toNat default).op)).bind fun y32 => if y32 < 0 then ((eR 4 x24).bind fun y33 => some (.inr (.inr (y33)))) else ((hU ((p1.rules.getD x24.toNat default).op)).bind fun y34 => if ¬ y34 = (((p1.rules.getD x24.toNat default).a).length : Int) then ((eR 4 x24).bind fun y35 => some (.inr (.inr (y35)))) else (if (((p1.rules.getD x24.toNat default).e).length : Int) > 24 then ((eR 7 x24).bind fun y36 => some (.inr (.inr (y36)))) else ((kt (p1.rules.getD x24.toNat default)).bind fun y37 => (bb (fun x42 => fO p1 x24 y37 x42) 0).bind (Sum.elim (fun _ => ey p1 x24) (fun z45 => some (.inr (.inr z45)))))))))))) else none) else (some (.inr (.inl ())))
noncomputable def iu (p1 : ag) : Option ar :=
  (jK p1).bind fun y1 => if ¬ ((y1).code) = 0 then (some (y1)) else ((bb (fun x24 => ez p1 x24) 0).bind (Sum.elim (fun _ => ex p1) (fun z46 => some z46)))
end Pam

namespace Pam
open Go
noncomputable def iv (p1 : ae) : Option ae :=
  if d3 p1.a.length 8 then (if d3 p1.e.length 32 then (some p1) else none) else none
end Pam

namespace Pam
open Go
noncomputable def dQ (p1 : ag) (l3 : List ae) : Option ag :=
  some (ag.mk p1.vars p1.in_ p1.out_ l3)
noncomputable def cq (p1 : ag) (l17 : List ae) (x19 : Int) : Option (((List ae) × Int) ⊕ (List ae)) :=
  if x19 < (p1.rules.length : Int) then (if (0 ≤ x19 ∧ x19 < (p1.rules.length : Int)) then ((iv (p1.rules.getD x19.toNat default)).bind fun y20 => if d3 (l17.length + 1) 80 then (some (.inl ((l17 ++ (lit ([(y20)] : List ae))), (IntKind.wrap .i64 (x19 + 1))))) else none) else none) else (some (.inr l17))
noncomputable def gB (p1 : ag) : Option ag :=
  if d3 p1.vars.length 16 ∧ d3 p1.in_.length 8 ∧ d3 p1.out_.length 8 then ((bb (fun (l17, x19) => cq p1 l17 x19) ([], 0)).bind (fun z21 => dQ p1 z21)) else none
end Pam

namespace Pam
open Go
noncomputable def ja : Option Bool :=
  some false
noncomputable def jb (p1 : Int) (p2 : List Int) (x3 : Int) : Option (Int ⊕ (Unit ⊕ Bool)) :=
  if x3 < (p2.length : Int) then (if (0 ≤ x3 ∧ x3 < (p2.length : Int)) then (if (p2.getD x3.toNat default) = p1 then (some (.inr (.inr true))) else (some (.inl (IntKind.wrap .i64 (x3 + 1))))) else none) else (some (.inr (.inl ())))
noncomputable def lD (p1 : Int) (p2 : List Int) : Option Bool :=
  (bb (fun x3 => jb p1 p2 x3) 0).bind (Sum.elim (fun _ => ja) (fun z4 => some z4))
end Pam

namespace Pam
open Go
noncomputable def eX : Option Bool :=
  some true
noncomputable def dR (x9 : Int) : Option (Int ⊕ (Unit ⊕ Bool)) :=
  some (.inl (IntKind.wrap .i64 (x9 + 1)))
noncomputable def eY (x24 : Int) (l27 : List Int) : Option (((List Int) × Int) ⊕ (Unit ⊕ Bool)) :=
  some (.inl (l27, (IntKind.wrap .i64 (x24 + 1))))
noncomputable def dS (y5 : (ag × ar)) (y6 : (ag × ar)) (x9 : Int) (l22 : List Int) (x24 : Int) : Option (((List Int) × Int) ⊕ (Unit ⊕ Bool)) :=
  if d3 (l22.length + 1) 8 then (eY x24 (l22 ++ (lit ([((((lit ([(y5.1), (y6.1)] : List ag)).getD x9.toNat default).rules).getD x24.toNat default).out_] : List Int)))) else none
noncomputable def dT (l22 : List Int) (y29 : (List Int)) (x42 : Int) : Option (Int ⊕ (Unit ⊕ Bool)) :=
  if x42 < (y29.length : Int) then (if (0 ≤ x42 ∧ x42 < (y29.length : Int)) then ((lD (y29.getD x42.toNat default) l22).bind fun y43 => if y43 = true then (some (.inl (IntKind.wrap .i64 (x42 + 1)))) else (some (.inr (.inr false)))) else none) else (some (.inr (.inl ())))
noncomputable def bW (y5 : (ag × ar)) (y6 : (ag × ar)) (x9 : Int) (l22 : List Int) (x24 : Int) : Option (((List Int) × Int) ⊕ (Unit ⊕ Bool)) :=
  if x24 < ((((lit ([(y5.1), (y6.1)] : List ag)).getD x9.toNat default).rules).length : Int) then (if (0 ≤ x24 ∧ x24 < ((((lit ([(y5.1), (y6.1)] : List ag)).getD x9.toNat default).rules).length : Int)) then ((gg ((((lit ([(y5.1), (y6.1)] : List ag)).getD x9.toNat default).rules).getD x24.toNat default)).bind fun y29 => (bb (fun x42 => dT l22 y29 x42) 0).bind (Sum.elim (fun _ => dS y5 y6 x9 l22 x24) (fun z44 => some (.inr (.inr z44))))) else none) else (some (.inr (.inl ())))
noncomputable def dl (y5 : (ag × ar)) (y6 : (ag × ar)) (x9 : Int) : Option (Int ⊕ (Unit ⊕ Bool)) :=
  if x9 < 2 then (if (0 ≤ x9 ∧ x9 < (2 : Int)) ∧ d3 ((((lit ([(y5.1), (y6.1)] : List ag)).getD x9.toNat default).in_).length) 8 then ((bb (fun (l22, x24) => bW y5 y6 x9 l22 x24) (((lit ([(y5.1), (y6.1)] : List ag)).getD x9.toNat default).in_, 0)).bind (Sum.elim (fun _ => dR x9) (fun z45 => some (.inr (.inr z45))))) else none) else (some (.inr (.inl ())))
noncomputable def iw (p1 : ag) (p2 : Int) : Option Bool :=
  (gu ).bind fun y1 => if y1 = true then ((fK p1 150).bind fun y2 => if y2 = true then (some true) else ((iu p1).bind fun y3 => if ¬ ((y3).code) = 0 then (some true) else ((gB p1).bind fun y4 => if (IntKind.wrap .u64 (IntKind.wrap .i64 ((p1.rules.length : Int) + 1))) ≠ 0 then (if (0 ≤ (IntKind.wrap .i64 ((IntKind.wrap .u64 p2).tmod (IntKind.wrap .u64 (IntKind.wrap .i64 ((p1.rules.length : Int) + 1))))) ∧ (IntKind.wrap .i64 ((IntKind.wrap .u64 p2).tmod (IntKind.wrap .u64 (IntKind.wrap .i64 ((p1.rules.length : Int) + 1))))) ≤ (p1.rules.length : Int)) ∧ d3 ((p1.rules.drop ((IntKind.wrap .i64 ((IntKind.wrap .u64 p2).tmod (IntKind.wrap .u64 (IntKind.wrap .i64 ((p1.rules.length : Int) + 1))))).toNat)).length) 80 then (if d3 (((p1.rules.drop ((IntKind.wrap .i64 ((IntKind.wrap .u64 p2).tmod (IntKind.wrap .u64 (IntKind.wrap .i64 ((p1.rules.length : Int) + 1))))).toNat)).length) + ((p1.rules.take ((IntKind.wrap .i64 ((IntKind.wrap .u64 p2).tmod (IntKind.wrap .u64 (IntKind.wrap .i64 ((p1.rules.length : Int) + 1))))).toNat)).length)) 80 then ((gq p1).bind fun y5 => (gq (ag.mk ((y4).vars) ((y4).in_) ((y4).out_) ((p1.rules.drop ((IntKind.wrap .i64 ((IntKind.wrap .u64 p2).tmod (IntKind.wrap .u64 (IntKind.wrap .i64 ((p1.rules.length : Int) + 1))))).toNat)) ++ (p1.rules.take ((IntKind.wrap .i64 ((IntKind.wrap .u64 p2).tmod (IntKind.wrap .u64 (IntKind.wrap .i64 ((p1.rules.length : Int) + 1))))).toNat))))).bind fun y6 => if (((y5.2).code) == 0) = (((y6.2).code) == 0) then ((bb (fun x9 => dl y5 y6 x9) 0).bind (Sum.elim (fun _ => eX) (fun z46 => some z46))) else (some false)) else none) else none) else none))) else (some false)
end Pam

namespace Pam
open Go
end Pam

namespace Pam
open Go
end Pam

namespace Pam
open Go
end Pam

namespace Pam
open Go
end Pam
