/- what law_OrderOr computes, read off the program by a program of ours -/
import Derived.Test.YtpfekllhlfodiaaOabcdData1
import Derived.Test.YtpfekllhlfodiaaOabcdFun1
import Derived.Test.YtpfekllhlfodiaaOcdFun1
set_option linter.all false
namespace Pam
open Go
noncomputable def ix (y4 : (af × au)) : Option Bool :=
  (fK (y4.1)).bind fun y7 => if ((y7.2).code) = 0 then ((c9 (y7.1) (y4.1)).bind fun y8 => some y8) else (some false)
noncomputable def jO (x11 : Int) : Option (Int ⊕ (Unit ⊕ Bool)) :=
  some (.inl (IntKind.wrap .i64 (x11 + 1)))
noncomputable def iy (x11 : Int) (x12 : Int) : Option (Int ⊕ (Unit ⊕ Bool)) :=
  if ¬ x12 = 1 then (some (.inr (.inr false))) else (jO x11)
noncomputable def dg (p1 : af) (y4 : (af × au)) (x11 : Int) (x17 : Int) (x18 : Int) : Option ((Int × Int) ⊕ Int) :=
  if x18 < (((y4.1).rules).length : Int) then (if (0 ≤ x11 ∧ x11 < (p1.rules.length : Int)) ∧ (0 ≤ x18 ∧ x18 < (((y4.1).rules).length : Int)) then ((fb (p1.rules.getD x11.toNat default) (((y4.1).rules).getD x18.toNat default)).bind fun y19 => if y19 = true then (some (.inl ((IntKind.wrap .i64 (x17 + 1)), (IntKind.wrap .i64 (x18 + 1))))) else (some (.inl (x17, (IntKind.wrap .i64 (x18 + 1)))))) else none) else (some (.inr x17))
noncomputable def jP (p1 : af) (y4 : (af × au)) (x11 : Int) : Option (Int ⊕ (Unit ⊕ Bool)) :=
  if x11 < (p1.rules.length : Int) then ((aT (fun (x17, x18) => dg p1 y4 x11 x17 x18) (0, 0)).bind (fun z20 => iy x11 z20)) else (some (.inr (.inl ())))
noncomputable def fL (p1 : af) (y4 : (af × au)) : Option Bool :=
  if ¬ ((y4.2).code) = 0 then (if ((y4.2).code) = 15 then (some ((((y4.1).rules).length : Int) == 0)) else (some false)) else (if ¬ (((y4.1).rules).length : Int) = (p1.rules.length : Int) then (some false) else ((iP (y4.1)).bind fun y6 => if y6 = true then ((aT (fun x11 => jP p1 y4 x11) 0).bind (Sum.elim (fun _ => ix y4) (fun z21 => some z21))) else (some false)))
noncomputable def fM (p1 : af) (y5 : ((List Int) × au)) (x24 : Int) (x25 : Int) : Option (Int ⊕ (Unit ⊕ Bool)) :=
  if (0 ≤ x24 ∧ x24 < (y5.1.length : Int)) ∧ (0 ≤ (y5.1.getD x24.toNat default) ∧ (y5.1.getD x24.toNat default) < (p1.rules.length : Int)) then ((gJ (p1.rules.getD ((y5.1.getD x24.toNat default).toNat) default)).bind fun y26 => if (0 ≤ x25 ∧ x25 < (p1.rules.length : Int)) then ((hY y26 ((p1.rules.getD x25.toNat default).out_)).bind fun y27 => if y27 = true then (some (.inl (IntKind.wrap .i64 (x24 + 1)))) else (some (.inr (.inr false)))) else none) else none
noncomputable def fN (p1 : af) (y5 : ((List Int) × au)) (x24 : Int) : Option (Int ⊕ (Unit ⊕ Bool)) :=
  if x24 < (y5.1.length : Int) then (if (0 ≤ 0 ∧ 0 < (y5.1.length : Int)) then (if (IntKind.wrap .i64 (x24 + 1)) < (y5.1.length : Int) then (if (0 ≤ (IntKind.wrap .i64 (x24 + 1)) ∧ (IntKind.wrap .i64 (x24 + 1)) < (y5.1.length : Int)) then (fM p1 y5 x24 (y5.1.getD ((IntKind.wrap .i64 (x24 + 1)).toNat) default)) else none) else (fM p1 y5 x24 (y5.1.getD 0 default))) else none) else (some (.inr (.inl ())))
noncomputable def nt (p1 : af) : Option Bool :=
  (iu ).bind fun y1 => if y1 = true then ((dZ p1 150).bind fun y2 => if y2 = true then (some true) else ((gB p1).bind fun y3 => if ¬ ((y3).code) = 0 then (some true) else ((fK p1).bind fun y4 => (jL p1).bind fun y5 => if ¬ ((y5.2).code) = 0 then (some false) else (if (((y4.2).code) == 0) = ((y5.1.length : Int) == 0) then ((aT (fun x24 => fN p1 y5 x24) 0).bind (Sum.elim (fun _ => fL p1 y4) (fun z28 => some z28))) else (some false))))) else (some false)
end Pam
