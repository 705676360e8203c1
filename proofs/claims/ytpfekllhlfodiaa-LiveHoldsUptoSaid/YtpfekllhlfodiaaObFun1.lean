/- what law_LiveHolds computes, read off the program by a program of ours -/
import Derived.Test.YtpfekllhlfodiaaOabcdData1
import Derived.Test.YtpfekllhlfodiaaOabcdFun1
import Derived.Test.YtpfekllhlfodiaaOabFun1
set_option linter.all false
namespace Pam
open Go
noncomputable def im : Option Bool :=
  some true
noncomputable def ed (x7 : Int) (b8 : Bool) : Option (Int ⊕ (Unit ⊕ Bool)) :=
  if b8 = true then (some (.inl (IntKind.wrap .i64 (x7 + 1)))) else (some (.inr (.inr false)))
noncomputable def io (p1 : af) (y3 : ((List aC) × au)) (x7 : Int) : Option (Int ⊕ (Unit ⊕ Bool)) :=
  if x7 < (y3.1.length : Int) then (if (0 ≤ x7 ∧ x7 < (y3.1.length : Int)) then (if ((y3.1.getD x7.toNat default).to) ≤ ((y3.1.getD x7.toNat default).from_) then (some (.inl (IntKind.wrap .i64 (x7 + 1)))) else (if ((y3.1.getD x7.toNat default).to) = (p1.rules.length : Int) then (ed x7 (((y3.1.getD x7.toNat default).to) == (p1.rules.length : Int))) else (if (0 ≤ (y3.1.getD x7.toNat default).to ∧ (y3.1.getD x7.toNat default).to < (p1.rules.length : Int)) then ((ji (p1.rules.getD (((y3.1.getD x7.toNat default).to).toNat) default)).bind fun y9 => (hY y9 x7).bind fun y10 => ed x7 y10) else none))) else none) else (some (.inr (.inl ())))
noncomputable def fp (p1 : af) (y3 : ((List aC) × au)) : Option Bool :=
  (aT (fun x7 => io p1 y3 x7) 0).bind (Sum.elim (fun _ => im) (fun z11 => some z11))
noncomputable def fq (x14 : Int) : Option (Int ⊕ (Unit ⊕ Bool)) :=
  some (.inl (IntKind.wrap .i64 (x14 + 1)))
noncomputable def ft (p1 : af) (y3 : ((List aC) × au)) (y4 : (Int × au)) (x14 : Int) (x17 : Int) : Option (Int ⊕ (Unit ⊕ Bool)) :=
  if ((p1.rules.getD x14.toNat default).op) = 13 then (if (0 ≤ 1 ∧ 1 < (((p1.rules.getD x14.toNat default).a).length : Int)) ∧ (0 ≤ (((p1.rules.getD x14.toNat default).a).getD 1 default) ∧ (((p1.rules.getD x14.toNat default).a).getD 1 default) < (y3.1.length : Int)) then (if ¬ ((y3.1.getD ((((p1.rules.getD x14.toNat default).a).getD 1 default).toNat) default).to) = (p1.rules.length : Int) then (some (.inr (.inr false))) else (if y4.1 < x17 then (some (.inr (.inr false))) else (fq x14))) else none) else (if y4.1 < x17 then (some (.inr (.inr false))) else (fq x14))
noncomputable def cF (p1 : af) (y3 : ((List aC) × au)) (x14 : Int) (y15 : (List Int)) (x22 : Int) (x23 : Int) : Option ((Int × Int) ⊕ (Int ⊕ Bool)) :=
  if x23 < (y15.length : Int) then (if (0 ≤ x23 ∧ x23 < (y15.length : Int)) ∧ (0 ≤ (y15.getD x23.toNat default) ∧ (y15.getD x23.toNat default) < (y3.1.length : Int)) then (if ((y3.1.getD ((y15.getD x23.toNat default).toNat) default).from_) ≥ x14 then (some (.inr (.inr false))) else (if ((y3.1.getD ((y15.getD x23.toNat default).toNat) default).to) < x14 then (some (.inr (.inr false))) else (if (0 ≤ (y15.getD x23.toNat default) ∧ (y15.getD x23.toNat default) < (p1.vars.length : Int)) then ((jU ((p1.vars.getD ((y15.getD x23.toNat default).toNat) default).n)).bind fun y24 => some (.inl ((IntKind.wrap .i64 (x22 + y24)), (IntKind.wrap .i64 (x23 + 1))))) else none))) else none) else (some (.inr (.inl x22)))
noncomputable def ip (p1 : af) (y3 : ((List aC) × au)) (y4 : (Int × au)) (x14 : Int) : Option (Int ⊕ (Unit ⊕ Bool)) :=
  if x14 < (p1.rules.length : Int) then (if (0 ≤ x14 ∧ x14 < (p1.rules.length : Int)) then ((ji (p1.rules.getD x14.toNat default)).bind fun y15 => if (0 ≤ (p1.rules.getD x14.toNat default).out_ ∧ (p1.rules.getD x14.toNat default).out_ < (p1.vars.length : Int)) then ((jU ((p1.vars.getD (((p1.rules.getD x14.toNat default).out_).toNat) default).n)).bind fun y16 => (aT (fun (x22, x23) => cF p1 y3 x14 y15 x22 x23) (y16, 0)).bind (Sum.elim (fun z25 => ft p1 y3 y4 x14 z25) (fun z26 => some (.inr (.inr z26))))) else none) else none) else (some (.inr (.inl ())))
noncomputable def lG (p1 : af) : Option Bool :=
  (jh ).bind fun y1 => if y1 = true then ((dZ p1 150).bind fun y2 => if y2 = true then (some true) else ((iR p1).bind fun y3 => (mB p1).bind fun y4 => if ¬ ((y3.2).code) = 0 then (some ((((y3.2).code) == ((y4.2).code)) && (((y3.2).at_) == ((y4.2).at_)))) else (if ¬ ((y4.2).code) = 0 then (some ((((y3.2).code) == ((y4.2).code)) && (((y3.2).at_) == ((y4.2).at_)))) else ((aT (fun x14 => ip p1 y3 y4 x14) 0).bind (Sum.elim (fun _ => fp p1 y3) (fun z27 => some z27)))))) else (some false)
end Pam
