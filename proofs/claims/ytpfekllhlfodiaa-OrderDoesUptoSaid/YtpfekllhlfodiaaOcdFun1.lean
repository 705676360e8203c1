/- what slices_Clone_api_Push_api_Push computes, read off the program by a program of ours -/
import Derived.Test.YtpfekllhlfodiaaOabcdData1
import Derived.Test.YtpfekllhlfodiaaOabcdFun1
import Derived.Test.YtpfekllhlfodiaaOcdBase1
import Derived.Test.YtpfekllhlfodiaaOBase2
set_option linter.all false
namespace Pam
open Go
noncomputable def cT (p1 : List aI) : Option (List aI) :=
  if p1 = [] then (some []) else (if dy p1.length 32 then (some p1) else none)
end Pam

namespace Pam
open Go
noncomputable def mD (p1 : ae) : Option ae :=
  (bQ p1.a).bind fun y1 => (cT p1.e).bind fun y2 => some (ae.mk p1.op p1.k p1.out_ p1.n y1 y2)
end Pam

namespace Pam
open Go
noncomputable def mw (p1 : Int) (p2 : af) (p3 : List ak) (p4 : List Int) (p5 : List Int) (p6 : List ae) (p7 : List Bool) : Option Bool :=
  if (0 ≤ p1 ∧ p1 < (p2.rules.length : Int)) then ((dq (p2.rules.getD p1.toNat default) p3 p4 p5 p6 p7).bind fun y1 => some y1) else none
end Pam

namespace Pam
open Go
noncomputable def cp : Option Int :=
  some (-1)
noncomputable def cq (p1 : List Int) (p2 : af) (p3 : List ak) (p4 : List Int) (p5 : List Int) (p6 : List ae) (p7 : List Bool) (x3 : Int) : Option (Int ⊕ (Unit ⊕ Int)) :=
  if x3 < (p1.length : Int) then (if (0 ≤ x3 ∧ x3 < (p1.length : Int)) then ((mw (p1.getD x3.toNat default) p2 p3 p4 p5 p6 p7).bind fun y4 => if y4 = true then (some (.inr (.inr x3))) else (some (.inl (IntKind.wrap .i64 (x3 + 1))))) else none) else (some (.inr (.inl ())))
noncomputable def cj (p1 : List Int) (p2 : af) (p3 : List ak) (p4 : List Int) (p5 : List Int) (p6 : List ae) (p7 : List Bool) : Option Int :=
  (aT (fun x3 => cq p1 p2 p3 p4 p5 p6 p7 x3) 0).bind (Sum.elim (fun _ => cp) (fun z5 => some z5))
end Pam

namespace Pam
open Go
noncomputable def fQ (pi : Int) (pj : Int) (p1 : List Int) : Option (List Int) :=
  if (0 ≤ pi ∧ pi ≤ pj ∧ pj ≤ (p1.length : Int)) ∧ p1 ≠ [] then some (vF p1 pi.toNat pj.toNat) else none
end Pam

namespace Pam
open Go
noncomputable def dm (p1 : List ak) : Option (List ak) :=
  if p1 = [] then (some []) else (if dy p1.length 16 then (some p1) else none)
end Pam

namespace Pam
open Go
noncomputable def hM (p1 : af) (l9 : List Bool) (l10 : List Int) (l11 : List ae) : Option (af × au) :=
  (dm p1.vars).bind fun y13 => (bQ p1.in_).bind fun y14 => (bQ p1.out_).bind fun y15 => some ((af.mk y13 y14 y15 l11), (au.mk 0 0))
noncomputable def cR (p1 : af) (y2 : ((List ak) × (List Int) × (List Int) × (List ae) × (List Bool))) (l36 : List Bool) (l37 : List Int) (l38 : List ae) : Option (((List Bool) × (List Int) × (List ae)) ⊕ (((List Bool) × (List Int) × (List ae)) ⊕ (af × au))) :=
  if (l37.length : Int) > 0 then ((cj l37 p1 y2.1 y2.2.1 y2.2.2.1 y2.2.2.2.1 l36).bind fun y40 => if y40 < 0 then (if (0 ≤ 0 ∧ 0 < (l37.length : Int)) then (some (.inr (.inr ((af.mk [] [] [] []), (au.mk 15 (l37.getD 0 default)))))) else none) else (if (0 ≤ y40 ∧ y40 < (l37.length : Int)) ∧ (0 ≤ (l37.getD y40.toNat default) ∧ (l37.getD y40.toNat default) < (p1.rules.length : Int)) then ((mD (p1.rules.getD ((l37.getD y40.toNat default).toNat) default)).bind fun y41 => if dy (l38.length + 1) 80 then (if (0 ≤ (p1.rules.getD ((l37.getD y40.toNat default).toNat) default).out_ ∧ (p1.rules.getD ((l37.getD y40.toNat default).toNat) default).out_ < (l36.length : Int)) then ((fQ y40 (IntKind.wrap .i64 (y40 + 1)) l37).bind fun y42 => some (.inl ((l36.set (((p1.rules.getD ((l37.getD y40.toNat default).toNat) default).out_).toNat) true), y42, (l38 ++ (lit ([(y41)] : List ae)))))) else none) else none) else none)) else (some (.inr (.inl (l36, l37, l38))))
noncomputable def hN (p1 : af) (y2 : ((List ak) × (List Int) × (List Int) × (List ae) × (List Bool))) (l4 : List Int) : Option (af × au) :=
  (aT (fun (l36, l37, l38) => cR p1 y2 l36 l37 l38) (y2.2.2.2.2, l4, [])).bind (Sum.elim (fun (z43, z44, z45) => hM p1 z43 z44 z45) (fun z46 => some z46))
noncomputable def dH (p1 : af) (l54 : List Int) (x55 : Int) : Option (((List Int) × Int) ⊕ (List Int)) :=
  if x55 < (p1.rules.length : Int) then (if (0 ≤ x55 ∧ x55 < (l54.length : Int)) then (some (.inl ((l54.set x55.toNat x55), (IntKind.wrap .i64 (x55 + 1))))) else none) else (some (.inr l54))
noncomputable def fK (p1 : af) : Option (af × au) :=
  (lu p1).bind fun y1 => if ¬ ((y1).code) = 0 then (some ((af.mk [] [] [] []), (y1))) else ((jF p1).bind fun y2 => if (0 ≤ (p1.rules.length : Int) ∧ (p1.rules.length : Int) ≤ (p1.rules.length : Int)) ∧ dy p1.rules.length 8 then ((aT (fun (l54, x55) => dH p1 l54 x55) ((List.replicate p1.rules.length 0), 0)).bind (fun z56 => hN p1 y2 z56)) else none)
end Pam

namespace Pam
open Go
noncomputable def lH (p1 : Int) (p2 : List ak) (p3 : List Int) (p4 : List Int) (p5 : List ae) (p6 : List Bool) : Option Bool :=
  if (0 ≤ p1 ∧ p1 < (p6.length : Int)) then (some (!(p6.getD p1.toNat default))) else none
end Pam

namespace Pam
open Go
noncomputable def cr : Option Int :=
  some (-1)
noncomputable def ct (p1 : List Int) (p2 : List ak) (p3 : List Int) (p4 : List Int) (p5 : List ae) (p6 : List Bool) (x3 : Int) : Option (Int ⊕ (Unit ⊕ Int)) :=
  if x3 < (p1.length : Int) then (if (0 ≤ x3 ∧ x3 < (p1.length : Int)) then ((lH (p1.getD x3.toNat default) p2 p3 p4 p5 p6).bind fun y4 => if y4 = true then (some (.inr (.inr x3))) else (some (.inl (IntKind.wrap .i64 (x3 + 1))))) else none) else (some (.inr (.inl ())))
noncomputable def cQ (p1 : List Int) (p2 : List ak) (p3 : List Int) (p4 : List Int) (p5 : List ae) (p6 : List Bool) : Option Int :=
  (aT (fun x3 => ct p1 p2 p3 p4 p5 p6 x3) 0).bind (Sum.elim (fun _ => cr) (fun z5 => some z5))
end Pam

namespace Pam
open Go
noncomputable def cU : Option Int :=
  some (-1)
noncomputable def bI (p1 : Int) (p2 : List Int) (x3 : Int) : Option (Int ⊕ (Unit ⊕ Int)) :=
  if x3 < (p2.length : Int) then (if (0 ≤ x3 ∧ x3 < (p2.length : Int)) then (if p1 = (p2.getD x3.toNat default) then (some (.inr (.inr x3))) else (some (.inl (IntKind.wrap .i64 (x3 + 1))))) else none) else (some (.inr (.inl ())))
noncomputable def dT (p1 : Int) (p2 : List Int) : Option Int :=
  (aT (fun x3 => bI p1 p2 x3) 0).bind (Sum.elim (fun _ => cU) (fun z4 => some z4))
end Pam

namespace Pam
open Go
noncomputable def dd (p1 : af) (y5 : ((List ak) × (List Int) × (List Int) × (List ae) × (List Bool))) (l7 : List Bool) (l9 : List Int) (l22 : List Int) (x24 : Int) : Option (((List Int) × Int) ⊕ ((List Int) × au)) :=
  (dT x24 l22).bind fun y25 => if y25 ≥ 0 then (if (0 ≤ y25 ∧ y25 ≤ (l22.length : Int)) then (some (.inr (((l22.drop y25.toNat).take (l22.length - y25.toNat)), (au.mk 0 0)))) else none) else (if dy (l22.length + 1) 8 then (if (0 ≤ x24 ∧ x24 < (p1.rules.length : Int)) then ((gJ (p1.rules.getD x24.toNat default)).bind fun y26 => (cQ y26 y5.1 y5.2.1 y5.2.2.1 y5.2.2.2.1 l7).bind fun y27 => if (0 ≤ y27 ∧ y27 < (y26.length : Int)) ∧ (0 ≤ (y26.getD y27.toNat default) ∧ (y26.getD y27.toNat default) < (l9.length : Int)) then (some (.inl ((l22 ++ (lit ([x24] : List Int))), (l9.getD ((y26.getD y27.toNat default).toNat) default)))) else none) else none) else none)
noncomputable def iq (p1 : af) (y2 : (af × au)) (y5 : ((List ak) × (List Int) × (List Int) × (List ae) × (List Bool))) (l7 : List Bool) (l9 : List Int) : Option ((List Int) × au) :=
  (aT (fun (l22, x24) => dd p1 y5 l7 l9 l22 x24) ([], (y2.2).at_)).bind (fun z28 => some z28)
noncomputable def de (p1 : af) (l36 : List Int) (x37 : Int) : Option (((List Int) × Int) ⊕ (List Int)) :=
  if x37 < (p1.rules.length : Int) then (if (0 ≤ x37 ∧ x37 < (p1.rules.length : Int)) then (if (0 ≤ (p1.rules.getD x37.toNat default).out_ ∧ (p1.rules.getD x37.toNat default).out_ < (l36.length : Int)) then (some (.inl ((l36.set (((p1.rules.getD x37.toNat default).out_).toNat) x37), (IntKind.wrap .i64 (x37 + 1))))) else none) else none) else (some (.inr l36))
noncomputable def ir (p1 : af) (y2 : (af × au)) (l4 : List Int) (y5 : ((List ak) × (List Int) × (List Int) × (List ae) × (List Bool))) (l7 : List Bool) : Option ((List Int) × au) :=
  (aT (fun (l36, x37) => de p1 l36 x37) (l4, 0)).bind (fun z38 => iq p1 y2 y5 l7 z38)
noncomputable def bG (p1 : af) (y5 : ((List ak) × (List Int) × (List Int) × (List ae) × (List Bool))) (l57 : List Bool) (b58 : Bool) (x59 : Int) : Option (((List Bool) × Bool × Int) ⊕ ((List Bool) × Bool)) :=
  if x59 < (p1.rules.length : Int) then (if (0 ≤ x59 ∧ x59 < (p1.rules.length : Int)) then (if (0 ≤ (p1.rules.getD x59.toNat default).out_ ∧ (p1.rules.getD x59.toNat default).out_ < (l57.length : Int)) then (if (l57.getD (((p1.rules.getD x59.toNat default).out_).toNat) default) = true then (some (.inl (l57, b58, (IntKind.wrap .i64 (x59 + 1))))) else ((dq (p1.rules.getD x59.toNat default) y5.1 y5.2.1 y5.2.2.1 y5.2.2.2.1 l57).bind fun y60 => if y60 = true then (some (.inl ((l57.set (((p1.rules.getD x59.toNat default).out_).toNat) true), true, (IntKind.wrap .i64 (x59 + 1))))) else (some (.inl (l57, b58, (IntKind.wrap .i64 (x59 + 1))))))) else none) else none) else (some (.inr (l57, b58)))
noncomputable def bN (p1 : af) (y5 : ((List ak) × (List Int) × (List Int) × (List ae) × (List Bool))) (l46 : List Bool) (b47 : Bool) : Option (((List Bool) × Bool) ⊕ (List Bool)) :=
  if b47 = true then ((aT (fun (l57, b58, x59) => bG p1 y5 l57 b58 x59) (l46, false, 0)).bind (fun (z61, z62) => some (.inl (z61, z62)))) else (some (.inr l46))
noncomputable def it (p1 : af) (y2 : (af × au)) (l4 : List Int) : Option ((List Int) × au) :=
  (jF p1).bind fun y5 => (aT (fun (l46, b47) => bN p1 y5 l46 b47) (y5.2.2.2.2, true)).bind (fun z63 => ir p1 y2 l4 y5 z63)
noncomputable def df (p1 : af) (l71 : List Int) (x72 : Int) : Option (((List Int) × Int) ⊕ (List Int)) :=
  if x72 < (p1.vars.length : Int) then (if (0 ≤ x72 ∧ x72 < (l71.length : Int)) then (some (.inl ((l71.set x72.toNat (-1)), (IntKind.wrap .i64 (x72 + 1))))) else none) else (some (.inr l71))
noncomputable def jL (p1 : af) : Option ((List Int) × au) :=
  (lu p1).bind fun y1 => if ¬ ((y1).code) = 0 then (some ([], (y1))) else ((fK p1).bind fun y2 => if ((y2.2).code) = 0 then (some ([], (y2.2))) else (if (0 ≤ (p1.vars.length : Int) ∧ (p1.vars.length : Int) ≤ (p1.vars.length : Int)) ∧ dy p1.vars.length 8 then ((aT (fun (l71, x72) => df p1 l71 x72) ((List.replicate p1.vars.length 0), 0)).bind (fun z73 => it p1 y2 z73)) else none))
end Pam

namespace Pam
open Go
noncomputable def pZ (p1 : Int) : Option af :=
  if p1 = 13 then (if (0 ≤ 1 ∧ 1 < (2 : Int)) then (some (af.mk ((lit ([(ak.mk 105 0), (ak.mk 105 0)] : List ak)) ++ (lit ([(ak.mk 105 0)] : List ak))) (lit ([2] : List Int)) (lit ([0] : List Int)) ((lit ([(ae.mk 2 0 0 0 (lit ([1] : List Int)) []), (ae.mk p1 13 1 0 (lit ([0] : List Int)) [])] : List ae)).set 1 (ae.mk (((lit ([(ae.mk 2 0 0 0 (lit ([1] : List Int)) []), (ae.mk p1 13 1 0 (lit ([0] : List Int)) [])] : List ae)).getD 1 default).op) (((lit ([(ae.mk 2 0 0 0 (lit ([1] : List Int)) []), (ae.mk p1 13 1 0 (lit ([0] : List Int)) [])] : List ae)).getD 1 default).k) (((lit ([(ae.mk 2 0 0 0 (lit ([1] : List Int)) []), (ae.mk p1 13 1 0 (lit ([0] : List Int)) [])] : List ae)).getD 1 default).out_) (((lit ([(ae.mk 2 0 0 0 (lit ([1] : List Int)) []), (ae.mk p1 13 1 0 (lit ([0] : List Int)) [])] : List ae)).getD 1 default).n) (lit ([2, 0] : List Int)) (((lit ([(ae.mk 2 0 0 0 (lit ([1] : List Int)) []), (ae.mk p1 13 1 0 (lit ([0] : List Int)) [])] : List ae)).getD 1 default).e))))) else none) else (some (af.mk (lit ([(ak.mk 105 0), (ak.mk 105 0)] : List ak)) [] (lit ([0] : List Int)) (lit ([(ae.mk 2 0 0 0 (lit ([1] : List Int)) []), (ae.mk p1 13 1 0 (lit ([0] : List Int)) [])] : List ae))))
end Pam

namespace Pam
open Go
noncomputable def iu : Option Bool :=
  (pZ 3).bind fun y1 => (jL (y1)).bind fun y2 => (pZ 13).bind fun y3 => (fK (y3)).bind fun y4 => if ((y2.2).code) = 0 then (if ((y4.2).code) = 0 then ((eC y2.1 (lit ([0, 1] : List Int))).bind fun y5 => if y5 = true then (if (((y4.1).rules).length : Int) = 2 then (if (0 ≤ 0 ∧ 0 < (((y4.1).rules).length : Int)) then (some (((((y4.1).rules).getD 0 default).op) == 13)) else none) else (some false)) else (some false)) else (some false)) else (some false)
end Pam

namespace Pam
open Go
noncomputable def lY : Option Bool :=
  some false
noncomputable def lZ (p1 : Int) (p2 : List Int) (x3 : Int) : Option (Int ⊕ (Unit ⊕ Bool)) :=
  if x3 < (p2.length : Int) then (if (0 ≤ x3 ∧ x3 < (p2.length : Int)) then (if (p2.getD x3.toNat default) = p1 then (some (.inr (.inr true))) else (some (.inl (IntKind.wrap .i64 (x3 + 1))))) else none) else (some (.inr (.inl ())))
noncomputable def n8 (p1 : Int) (p2 : List Int) : Option Bool :=
  (aT (fun x3 => lZ p1 p2 x3) 0).bind (Sum.elim (fun _ => lY) (fun z4 => some z4))
end Pam

namespace Pam
open Go
noncomputable def kY (l3 : List Int) : Option (List Int) :=
  some l3
noncomputable def eD (p1 : af) (l17 : List Int) (x30 : Int) : Option (Int ⊕ ((List Int) × Bool)) :=
  if x30 < (p1.rules.length : Int) then ((n8 x30 l17).bind fun y31 => if y31 = true then (some (.inl (IntKind.wrap .i64 (x30 + 1)))) else (if (0 ≤ x30 ∧ x30 < (p1.rules.length : Int)) then ((kC p1 (p1.rules.getD x30.toNat default) l17).bind fun y32 => if y32 = true then (if dy (l17.length + 1) 8 then (some (.inr ((l17 ++ (lit ([x30] : List Int))), true))) else none) else (some (.inl (IntKind.wrap .i64 (x30 + 1))))) else none)) else (some (.inr (l17, false)))
noncomputable def fc (p1 : af) (l17 : List Int) (b19 : Bool) : Option (((List Int) × Bool) ⊕ (List Int)) :=
  if b19 = true then ((aT (fun x30 => eD p1 l17 x30) 0).bind (fun (z33, z34) => some (.inl (z33, z34)))) else (some (.inr l17))
noncomputable def mE (p1 : af) : Option (List Int) :=
  (aT (fun (l17, b19) => fc p1 l17 b19) ([], true)).bind (fun z35 => kY z35)
end Pam

namespace Pam
open Go
noncomputable def dY (p1 : af) (l3 : List ae) : Option ((List ak) × (List Int) × (List Int) × (List ae)) :=
  some (p1.vars, p1.in_, p1.out_, l3)
noncomputable def cg (p1 : af) (l17 : List ae) (x19 : Int) : Option (((List ae) × Int) ⊕ (List ae)) :=
  if x19 < (p1.rules.length : Int) then (if (0 ≤ x19 ∧ x19 < (p1.rules.length : Int)) then ((iK (p1.rules.getD x19.toNat default)).bind fun y20 => if dy (l17.length + 1) 80 then (some (.inl ((l17 ++ (lit ([(y20)] : List ae))), (IntKind.wrap .i64 (x19 + 1))))) else none) else none) else (some (.inr l17))
noncomputable def iv (p1 : af) : Option ((List ak) × (List Int) × (List Int) × (List ae)) :=
  if dy p1.vars.length 16 ∧ dy p1.in_.length 8 ∧ dy p1.out_.length 8 then ((aT (fun (l17, x19) => cg p1 l17 x19) ([], 0)).bind (fun z21 => dY p1 z21)) else none
end Pam

namespace Pam
open Go
noncomputable def ma (y3 : ((List ak) × (List Int) × (List Int) × (List ae))) (l5 : List ae) : Option (af × au) :=
  some ((af.mk y3.1 y3.2.1 y3.2.2.1 l5), (au.mk 0 0))
noncomputable def fl (p1 : af) (y2 : (List Int)) (l13 : List ae) (x14 : Int) : Option (((List ae) × Int) ⊕ (List ae)) :=
  if x14 < (y2.length : Int) then (if (0 ≤ x14 ∧ x14 < (y2.length : Int)) ∧ (0 ≤ (y2.getD x14.toNat default) ∧ (y2.getD x14.toNat default) < (p1.rules.length : Int)) then ((iK (p1.rules.getD ((y2.getD x14.toNat default).toNat) default)).bind fun y15 => if (0 ≤ x14 ∧ x14 < (l13.length : Int)) then (some (.inl ((l13.set x14.toNat (y15)), (IntKind.wrap .i64 (x14 + 1))))) else none) else none) else (some (.inr l13))
noncomputable def mb (p1 : af) (y2 : (List Int)) : Option (af × au) :=
  (iv p1).bind fun y3 => (aT (fun (l13, x14) => fl p1 y2 l13 x14) (y3.2.2.2, 0)).bind (fun z16 => ma y3 z16)
noncomputable def iD (y2 : (List Int)) (x19 : Int) : Option (Int ⊕ (af × au)) :=
  (hY y2 x19).bind fun y20 => if y20 = true then (some (.inl (IntKind.wrap .i64 (x19 + 1)))) else ((fB 15 x19).bind fun y21 => some (.inr ((af.mk [] [] [] []), (y21))))
noncomputable def pE (p1 : af) : Option (af × au) :=
  (gB p1).bind fun y1 => if ¬ ((y1).code) = 0 then (some ((af.mk [] [] [] []), (y1))) else ((mE p1).bind fun y2 => if (y2.length : Int) < (p1.rules.length : Int) then ((aT (fun x19 => iD y2 x19) 0).bind (fun z22 => some z22)) else (mb p1 y2))
end Pam

namespace Pam
open Go
noncomputable def kZ (l8 : List Int) : Option (List Int) :=
  some l8
noncomputable def fd (x7 : Int) (l15 : List Int) : Option ((List Int) ⊕ (List Int)) :=
  if (0 ≤ 0 ∧ 0 < (l15.length : Int)) then (if ¬ (l15.getD 0 default) = x7 then (if (0 ≤ 1 ∧ 1 ≤ (l15.length : Int)) then (some (.inl (l15.drop 1))) else none) else (some (.inr l15))) else none
noncomputable def j7 (l5 : List Int) (x7 : Int) : Option (List Int) :=
  (aT (fun l15 => fd x7 l15) l5).bind (fun z16 => kZ z16)
noncomputable def iZ (l29 : List Int) (x31 : Int) (x36 : Int) : Option (((List Int) × Int) ⊕ ((List Int) × Int)) :=
  some (.inl ((l29 ++ (lit ([x31] : List Int))), x36))
noncomputable def j8 (x50 : Int) (x53 : Int) : Option ((Int × Int) ⊕ Int) :=
  some (.inl (x53, (IntKind.wrap .i64 (x50 + 1))))
noncomputable def eE (p1 : af) (y1 : (List Int)) (y33 : (List Int)) (x50 : Int) (x66 : Int) (x67 : Int) : Option ((Int × Int) ⊕ Int) :=
  if x67 < (p1.rules.length : Int) then (if (0 ≤ x67 ∧ x67 < (p1.rules.length : Int)) ∧ (0 ≤ x50 ∧ x50 < (y33.length : Int)) then (if ((p1.rules.getD x67.toNat default).out_) = (y33.getD x50.toNat default) then ((hY y1 x67).bind fun y68 => if y68 = true then (some (.inl (x66, (IntKind.wrap .i64 (x67 + 1))))) else (some (.inl (x67, (IntKind.wrap .i64 (x67 + 1)))))) else (some (.inl (x66, (IntKind.wrap .i64 (x67 + 1)))))) else none) else (some (.inr x66))
noncomputable def eF (p1 : af) (y1 : (List Int)) (y33 : (List Int)) (x49 : Int) (x50 : Int) : Option ((Int × Int) ⊕ Int) :=
  if x50 < (y33.length : Int) then (if x49 < 0 then ((aT (fun (x66, x67) => eE p1 y1 y33 x50 x66 x67) (x49, 0)).bind (fun z69 => j8 x50 z69)) else (some (.inr x49))) else (some (.inr x49))
noncomputable def eG (p1 : af) (y1 : (List Int)) (l29 : List Int) (x31 : Int) : Option (((List Int) × Int) ⊕ ((List Int) × Int)) :=
  (n8 x31 l29).bind fun y32 => if y32 = true then (some (.inr (l29, x31))) else (if dy (l29.length + 1) 8 then (if (0 ≤ x31 ∧ x31 < (p1.rules.length : Int)) then ((ji (p1.rules.getD x31.toNat default)).bind fun y33 => (aT (fun (x49, x50) => eF p1 y1 y33 x49 x50) ((-1), 0)).bind (fun z70 => iZ l29 x31 z70)) else none) else none)
noncomputable def fe (p1 : af) (y1 : (List Int)) (x2 : Int) : Option (List Int) :=
  if x2 = (p1.rules.length : Int) then (some []) else ((aT (fun (l29, x31) => eG p1 y1 l29 x31) ([], x2)).bind (fun (z71, z72) => j7 z71 z72))
noncomputable def gP (p1 : af) (y1 : (List Int)) (x75 : Int) : Option (Int ⊕ Int) :=
  if x75 < (p1.rules.length : Int) then ((hY y1 x75).bind fun y76 => if y76 = true then (some (.inl (IntKind.wrap .i64 (x75 + 1)))) else (some (.inr x75))) else (some (.inr x75))
noncomputable def n9 (p1 : af) : Option (List Int) :=
  (mE p1).bind fun y1 => (aT (fun x75 => gP p1 y1 x75) 0).bind (fun z77 => fe p1 y1 z77)
end Pam

namespace Pam
open Go
noncomputable def fv (p1 : af) (y3 : af) (y6 : ((List Int) × au)) : Option Bool :=
  (iP (y3)).bind fun y10 => (j4 p1).bind fun y11 => if y10 = y11 then ((n9 p1).bind fun y12 => (eC y6.1 y12).bind fun y13 => some y13) else (some false)
noncomputable def iw (p1 : af) (y3 : af) (x16 : Int) : Option (Int ⊕ (Unit ⊕ Bool)) :=
  if x16 < (p1.rules.length : Int) then (if (0 ≤ x16 ∧ x16 < (((y3).rules).length : Int)) then ((mD (((y3).rules).getD x16.toNat default)).bind fun y17 => (gJ (((y3).rules).getD x16.toNat default)).bind fun y18 => if (0 ≤ x16 ∧ x16 < (p1.rules.length : Int)) then ((ji (p1.rules.getD x16.toNat default)).bind fun y19 => (eC y18 y19).bind fun y20 => if y20 = true then ((fb (y17) (p1.rules.getD x16.toNat default)).bind fun y21 => if y21 = true then (some (.inl (IntKind.wrap .i64 (x16 + 1)))) else (some (.inr (.inr false)))) else (some (.inr (.inr false)))) else none) else none) else (some (.inr (.inl ())))
noncomputable def lI (p1 : af) : Option Bool :=
  (iu ).bind fun y1 => if y1 = true then ((dZ p1 150).bind fun y2 => if y2 = true then (some true) else ((hU p1).bind fun y3 => (fK (y3)).bind fun y4 => (pE p1).bind fun y5 => (jL (y3)).bind fun y6 => (gB p1).bind fun y7 => if ((y4.2).code) = ((y5.2).code) ∧ ((y4.2).at_) = ((y5.2).at_) then ((c9 (y4.1) (y5.1)).bind fun y8 => if y8 = true then (if ((y6.2).code) = ((y7).code) ∧ ((y6.2).at_) = ((y7).at_) then ((c9 (y3) p1).bind fun y9 => if y9 = true then (if ¬ ((y7).code) = 0 then (some ((y6.1.length : Int) == 0)) else ((aT (fun x16 => iw p1 y3 x16) 0).bind (Sum.elim (fun _ => fv p1 y3 y6) (fun z22 => some z22)))) else (some false)) else (some false)) else (some false)) else (some false))) else (some false)
end Pam
