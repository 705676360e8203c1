/- what live_Spans_1 computes, read off the program by a program of ours -/
import Derived.Test.YtpfekllhlfodiaaOabcdData1
import Derived.Test.YtpfekllhlfodiaaOabcdFun1
set_option linter.all false
namespace Pam
open Go
noncomputable def iQ (p1 : Int) (p2 : Int) (p3 : List aC) : Option (List aC) :=
  if (0 ≤ p1 ∧ p1 < (p3.length : Int)) then (some (p3.set p1.toNat (aC.mk ((p3.getD p1.toNat default).from_) (if p2 > (p3.getD p1.toNat default).to then p2 else (p3.getD p1.toNat default).to)))) else none
end Pam

namespace Pam
open Go
noncomputable def jg (l12 : List aC) : Option ((List aC) × au) :=
  some (l12, (au.mk 0 0))
noncomputable def dz (p1 : af) (l20 : List aC) (x21 : Int) : Option (((List aC) × Int) ⊕ (List aC)) :=
  if x21 < (p1.out_.length : Int) then (if (0 ≤ x21 ∧ x21 < (p1.out_.length : Int)) then ((iQ (p1.out_.getD x21.toNat default) (p1.rules.length : Int) l20).bind fun y22 => some (.inl (y22, (IntKind.wrap .i64 (x21 + 1))))) else none) else (some (.inr l20))
noncomputable def gT (p1 : af) (l10 : List aC) : Option ((List aC) × au) :=
  (aT (fun (l20, x21) => dz p1 l20 x21) (l10, 0)).bind (fun z23 => jg z23)
noncomputable def gU (x32 : Int) (l34 : List aC) : Option (((List aC) × Int) ⊕ (List aC)) :=
  some (.inl (l34, (IntKind.wrap .i64 (x32 + 1))))
noncomputable def gV (p1 : af) (x32 : Int) (l36 : List aC) : Option (((List aC) × Int) ⊕ (List aC)) :=
  if ((p1.rules.getD x32.toNat default).op) = 13 then (if (0 ≤ 1 ∧ 1 < (((p1.rules.getD x32.toNat default).a).length : Int)) then ((iQ (((p1.rules.getD x32.toNat default).a).getD 1 default) (p1.rules.length : Int) l36).bind fun y37 => gU x32 y37) else none) else (gU x32 l36)
noncomputable def dA (x32 : Int) (y38 : (List Int)) (l46 : List aC) (x47 : Int) : Option (((List aC) × Int) ⊕ (List aC)) :=
  if x47 < (y38.length : Int) then (if (0 ≤ x47 ∧ x47 < (y38.length : Int)) then ((iQ (y38.getD x47.toNat default) x32 l46).bind fun y48 => some (.inl (y48, (IntKind.wrap .i64 (x47 + 1))))) else none) else (some (.inr l46))
noncomputable def dB (p1 : af) (l31 : List aC) (x32 : Int) : Option (((List aC) × Int) ⊕ (List aC)) :=
  if x32 < (p1.rules.length : Int) then (if (0 ≤ x32 ∧ x32 < (p1.rules.length : Int)) then ((gJ (p1.rules.getD x32.toNat default)).bind fun y38 => (aT (fun (l46, x47) => dA x32 y38 l46 x47) (l31, 0)).bind (fun z49 => gV p1 x32 z49)) else none) else (some (.inr l31))
noncomputable def gW (p1 : af) (l8 : List aC) : Option ((List aC) × au) :=
  (aT (fun (l31, x32) => dB p1 l31 x32) (l8, 0)).bind (fun z50 => gT p1 z50)
noncomputable def dC (p1 : af) (l58 : List aC) (x59 : Int) : Option (((List aC) × Int) ⊕ (List aC)) :=
  if x59 < (p1.rules.length : Int) then (if (0 ≤ x59 ∧ x59 < (p1.rules.length : Int)) then (if (0 ≤ (p1.rules.getD x59.toNat default).out_ ∧ (p1.rules.getD x59.toNat default).out_ < (l58.length : Int)) then (some (.inl ((l58.set (((p1.rules.getD x59.toNat default).out_).toNat) (aC.mk x59 x59)), (IntKind.wrap .i64 (x59 + 1))))) else none) else none) else (some (.inr l58))
noncomputable def gX (p1 : af) (l6 : List aC) : Option ((List aC) × au) :=
  (aT (fun (l58, x59) => dC p1 l58 x59) (l6, 0)).bind (fun z60 => gW p1 z60)
noncomputable def dD (p1 : af) (l68 : List aC) (x69 : Int) : Option (((List aC) × Int) ⊕ (List aC)) :=
  if x69 < (p1.in_.length : Int) then (if (0 ≤ x69 ∧ x69 < (p1.in_.length : Int)) then (if (0 ≤ (p1.in_.getD x69.toNat default) ∧ (p1.in_.getD x69.toNat default) < (l68.length : Int)) then (some (.inl ((l68.set ((p1.in_.getD x69.toNat default).toNat) (aC.mk (-1) (-1))), (IntKind.wrap .i64 (x69 + 1))))) else none) else none) else (some (.inr l68))
noncomputable def gY (p1 : af) (l4 : List aC) : Option ((List aC) × au) :=
  (aT (fun (l68, x69) => dD p1 l68 x69) (l4, 0)).bind (fun z70 => gX p1 z70)
noncomputable def dE (p1 : af) (l78 : List aC) (x79 : Int) : Option (((List aC) × Int) ⊕ (List aC)) :=
  if x79 < (p1.vars.length : Int) then (if (0 ≤ x79 ∧ x79 < (l78.length : Int)) then (some (.inl ((l78.set x79.toNat (aC.mk 0 (-1))), (IntKind.wrap .i64 (x79 + 1))))) else none) else (some (.inr l78))
noncomputable def iR (p1 : af) : Option ((List aC) × au) :=
  (lu p1).bind fun y1 => if ¬ ((y1).code) = 0 then (some ([], (y1))) else ((iP p1).bind fun y2 => if y2 = true then (if (0 ≤ (p1.vars.length : Int) ∧ (p1.vars.length : Int) ≤ (p1.vars.length : Int)) ∧ dy p1.vars.length 16 then ((aT (fun (l78, x79) => dE p1 l78 x79) ((List.replicate p1.vars.length (aC.mk 0 0)), 0)).bind (fun z80 => gY p1 z80)) else none) else (some ([], (au.mk 15 (-1)))))
end Pam

namespace Pam
open Go
noncomputable def jh : Option Bool :=
  (iR (af.mk (lit ([(ak.mk 105 0), (ak.mk 105 0), (ak.mk 105 0)] : List ak)) (lit ([0] : List Int)) (lit ([2] : List Int)) (lit ([(ae.mk 3 13 1 0 (lit ([0] : List Int)) []), (ae.mk 2 0 2 0 (lit ([1] : List Int)) [])] : List ae)))).bind fun y1 => if ((y1.2).code) = 0 then (if (y1.1.length : Int) = 3 then (if (0 ≤ 0 ∧ 0 < (y1.1.length : Int)) then (if ((y1.1.getD 0 default).from_) = (-1) ∧ ((y1.1.getD 0 default).to) = 0 then (if (0 ≤ 2 ∧ 2 < (y1.1.length : Int)) then (some ((((y1.1.getD 2 default).from_) == 1) && (((y1.1.getD 2 default).to) == 2))) else none) else (some false)) else none) else (some false)) else (some false)
end Pam

namespace Pam
open Go
noncomputable def kP (x2 : Int) : Option (Int × au) :=
  some (x2, (au.mk 0 0))
noncomputable def kQ (x8 : Int) (x9 : Int) : Option ((Int × Int) ⊕ Int) :=
  some (.inl (x9, (IntKind.wrap .i64 (x8 + 1))))
noncomputable def jZ (x7 : Int) (x8 : Int) (x10 : Int) : Option ((Int × Int) ⊕ Int) :=
  kQ x8 (if x10 > x7 then x10 else x7)
noncomputable def ez (p1 : af) (y1 : ((List aC) × au)) (x8 : Int) (x15 : Int) (x16 : Int) : Option ((Int × Int) ⊕ Int) :=
  if x16 < (y1.1.length : Int) then (if (0 ≤ x16 ∧ x16 < (y1.1.length : Int)) then (if ((y1.1.getD x16.toNat default).from_) ≤ x8 then (if x8 ≤ ((y1.1.getD x16.toNat default).to) then (if (0 ≤ x16 ∧ x16 < (p1.vars.length : Int)) then (some (.inl ((IntKind.wrap .i64 (x15 + (if 1 > (p1.vars.getD x16.toNat default).n then 1 else (p1.vars.getD x16.toNat default).n))), (IntKind.wrap .i64 (x16 + 1))))) else none) else (some (.inl (x15, (IntKind.wrap .i64 (x16 + 1)))))) else (some (.inl (x15, (IntKind.wrap .i64 (x16 + 1)))))) else none) else (some (.inr x15))
noncomputable def eA (p1 : af) (y1 : ((List aC) × au)) (x7 : Int) (x8 : Int) : Option ((Int × Int) ⊕ Int) :=
  if x8 ≤ (p1.rules.length : Int) then ((aT (fun (x15, x16) => ez p1 y1 x8 x15 x16) (0, 0)).bind (fun z17 => jZ x7 x8 z17)) else (some (.inr x7))
noncomputable def mB (p1 : af) : Option (Int × au) :=
  (iR p1).bind fun y1 => if ¬ ((y1.2).code) = 0 then (some (0, (y1.2))) else ((aT (fun (x7, x8) => eA p1 y1 x7 x8) (0, (-1))).bind (fun z18 => kP z18))
end Pam

namespace Pam
open Go
noncomputable def ib (l3 : List aC) : Option (List aC) :=
  some l3
noncomputable def ie (x19 : Int) (l22 : List aC) : Option (((List aC) × Int) ⊕ (List aC)) :=
  some (.inl (l22, (IntKind.wrap .i64 (x19 + 1))))
noncomputable def ig (p1 : af) (l17 : List aC) (x19 : Int) (x29 : Int) (x36 : Int) : Option (((List aC) × Int) ⊕ (List aC)) :=
  (hY p1.out_ x19).bind fun y37 => if y37 = true then (if dy (l17.length + 1) 16 then (ie x19 (l17 ++ (lit ([(aC.mk x29 (p1.rules.length : Int))] : List aC)))) else none) else (if dy (l17.length + 1) 16 then (ie x19 (l17 ++ (lit ([(aC.mk x29 x36)] : List aC)))) else none)
noncomputable def da (p1 : af) (x19 : Int) (x50 : Int) (x51 : Int) : Option ((Int × Int) ⊕ Int) :=
  if x51 < (p1.rules.length : Int) then (if (0 ≤ x51 ∧ x51 < (p1.rules.length : Int)) then (if ((p1.rules.getD x51.toNat default).op) = 13 then (if (0 ≤ 1 ∧ 1 < (((p1.rules.getD x51.toNat default).a).length : Int)) then (if (((p1.rules.getD x51.toNat default).a).getD 1 default) = x19 then (some (.inl ((p1.rules.length : Int), (IntKind.wrap .i64 (x51 + 1))))) else (some (.inl (x50, (IntKind.wrap .i64 (x51 + 1)))))) else none) else (some (.inl (x50, (IntKind.wrap .i64 (x51 + 1)))))) else none) else (some (.inr x50))
noncomputable def ii (p1 : af) (l17 : List aC) (x19 : Int) (x29 : Int) (x33 : Int) : Option (((List aC) × Int) ⊕ (List aC)) :=
  (aT (fun (x50, x51) => da p1 x19 x50 x51) (x33, 0)).bind (fun z52 => ig p1 l17 x19 x29 z52)
noncomputable def db (p1 : af) (x19 : Int) (x65 : Int) (x66 : Int) : Option ((Int × Int) ⊕ Int) :=
  if x66 < (p1.rules.length : Int) then (if (0 ≤ x66 ∧ x66 < (p1.rules.length : Int)) then ((ji (p1.rules.getD x66.toNat default)).bind fun y67 => (hY y67 x19).bind fun y68 => if y68 = true then (if x65 < x66 then (some (.inl (x66, (IntKind.wrap .i64 (x66 + 1))))) else (some (.inl (x65, (IntKind.wrap .i64 (x66 + 1)))))) else (some (.inl (x65, (IntKind.wrap .i64 (x66 + 1)))))) else none) else (some (.inr x65))
noncomputable def fE (p1 : af) (l17 : List aC) (x19 : Int) (x29 : Int) (x30 : Int) : Option (((List aC) × Int) ⊕ (List aC)) :=
  (aT (fun (x65, x66) => db p1 x19 x65 x66) (x30, 0)).bind (fun z69 => ii p1 l17 x19 x29 z69)
noncomputable def dc (p1 : af) (x19 : Int) (x84 : Int) (x85 : Int) (x86 : Int) : Option ((Int × Int × Int) ⊕ (Int × Int)) :=
  if x86 < (p1.rules.length : Int) then (if (0 ≤ x86 ∧ x86 < (p1.rules.length : Int)) then (if ((p1.rules.getD x86.toNat default).out_) = x19 then (some (.inl (x86, x86, (IntKind.wrap .i64 (x86 + 1))))) else (some (.inl (x84, x85, (IntKind.wrap .i64 (x86 + 1)))))) else none) else (some (.inr (x84, x85)))
noncomputable def fF (p1 : af) (l17 : List aC) (x19 : Int) (x26 : Int) : Option (((List aC) × Int) ⊕ (List aC)) :=
  (aT (fun (x84, x85, x86) => dc p1 x19 x84 x85 x86) (x26, (-1), 0)).bind (fun (z87, z88) => fE p1 l17 x19 z87 z88)
noncomputable def dR (p1 : af) (l17 : List aC) (x19 : Int) : Option (((List aC) × Int) ⊕ (List aC)) :=
  if x19 < (p1.vars.length : Int) then ((hY p1.in_ x19).bind fun y89 => if y89 = true then (fF p1 l17 x19 (-1)) else (fF p1 l17 x19 0)) else (some (.inr l17))
noncomputable def kD (p1 : af) : Option (List aC) :=
  (aT (fun (l17, x19) => dR p1 l17 x19) ([], 0)).bind (fun z90 => ib z90)
end Pam

namespace Pam
open Go
noncomputable def ij : Option Bool :=
  some true
noncomputable def ik (p1 : List aC) (p2 : List aC) (x3 : Int) : Option (Int ⊕ (Unit ⊕ Bool)) :=
  if x3 < (p1.length : Int) then (if (0 ≤ x3 ∧ x3 < (p1.length : Int)) ∧ (0 ≤ x3 ∧ x3 < (p2.length : Int)) then (if ((p1.getD x3.toNat default).from_) = ((p2.getD x3.toNat default).from_) ∧ ((p1.getD x3.toNat default).to) = ((p2.getD x3.toNat default).to) then (some (.inl (IntKind.wrap .i64 (x3 + 1)))) else (some (.inr (.inr false)))) else none) else (some (.inr (.inl ())))
noncomputable def kg (p1 : List aC) (p2 : List aC) : Option Bool :=
  if ¬ (p1.length : Int) = (p2.length : Int) then (some false) else ((aT (fun x3 => ik p1 p2 x3) 0).bind (Sum.elim (fun _ => ij) (fun z4 => some z4)))
end Pam

namespace Pam
open Go
noncomputable def kh (x2 : Int) : Option Int :=
  some x2
noncomputable def jj (x8 : Int) (x9 : Int) : Option ((Int × Int) ⊕ Int) :=
  some (.inl (x9, (IntKind.wrap .i64 (x8 + 1))))
noncomputable def jk (x7 : Int) (x8 : Int) (x10 : Int) : Option ((Int × Int) ⊕ Int) :=
  if x10 > x7 then (jj x8 x10) else (jj x8 x7)
noncomputable def dF (p1 : af) (y1 : (List aC)) (x8 : Int) (x15 : Int) (x16 : Int) : Option ((Int × Int) ⊕ Int) :=
  if x16 < (y1.length : Int) then (if (0 ≤ x16 ∧ x16 < (y1.length : Int)) then (if ((y1.getD x16.toNat default).from_) ≤ x8 then (if ((y1.getD x16.toNat default).to) ≥ x8 then (if (0 ≤ x16 ∧ x16 < (p1.vars.length : Int)) then ((jU ((p1.vars.getD x16.toNat default).n)).bind fun y17 => some (.inl ((IntKind.wrap .i64 (x15 + y17)), (IntKind.wrap .i64 (x16 + 1))))) else none) else (some (.inl (x15, (IntKind.wrap .i64 (x16 + 1)))))) else (some (.inl (x15, (IntKind.wrap .i64 (x16 + 1)))))) else none) else (some (.inr x15))
noncomputable def dG (p1 : af) (y1 : (List aC)) (x7 : Int) (x8 : Int) : Option ((Int × Int) ⊕ Int) :=
  if x8 ≤ (p1.rules.length : Int) then ((aT (fun (x15, x16) => dF p1 y1 x8 x15 x16) (0, 0)).bind (fun z18 => jk x7 x8 z18)) else (some (.inr x7))
noncomputable def mW (p1 : af) : Option Int :=
  (kD p1).bind fun y1 => (aT (fun (x7, x8) => dG p1 y1 x7 x8) (0, (-1))).bind (fun z19 => kh z19)
end Pam

namespace Pam
open Go
noncomputable def dk (p1 : af) (y3 : af) (y4 : ((List aC) × au)) (y5 : (Int × au)) (x7 : Int) (x8 : Int) : Option Bool :=
  if ((y4.2).code) = x7 ∧ ((y4.2).at_) = x8 then (if ((y5.2).code) = x7 ∧ ((y5.2).at_) = x8 then ((c9 (y3) p1).bind fun y9 => if y9 = true then (if ¬ x7 = 0 then (if (y4.1.length : Int) = 0 then (some (y5.1 == 0)) else (some false)) else ((kD p1).bind fun y10 => (kg y4.1 y10).bind fun y11 => if y11 = true then ((mW p1).bind fun y12 => some (y5.1 == y12)) else (some false))) else (some false)) else (some false)) else (some false)
noncomputable def mr (p1 : af) : Option Bool :=
  (jh ).bind fun y1 => if y1 = true then ((dZ p1 150).bind fun y2 => if y2 = true then (some true) else ((hU p1).bind fun y3 => (iR (y3)).bind fun y4 => (mB (y3)).bind fun y5 => (gB p1).bind fun y6 => if ((y6).code) = 0 then ((j4 p1).bind fun y13 => if y13 = true then (dk p1 y3 y4 y5 ((y6).code) ((y6).at_)) else ((fB 15 (-1)).bind fun y14 => dk p1 y3 y4 y5 ((y14).code) ((y14).at_))) else (dk p1 y3 y4 y5 ((y6).code) ((y6).at_)))) else (some false)
end Pam
