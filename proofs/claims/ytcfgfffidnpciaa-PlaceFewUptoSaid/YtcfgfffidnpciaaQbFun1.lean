/- what law_PlaceFew computes, read off the program by a program of ours -/
import Derived.Test.YtcfgfffidnpciaaQabData1
import Derived.Test.YtcfgfffidnpciaaQabFun1
set_option linter.all false
namespace Pam
open Go
noncomputable def eT (p1 : ab) (y3 : (dk × au)) (x4 : Int) (x6 : Int) (x7 : Int) : Option Bool :=
  if ((y3.1).cells) ≤ (IntKind.wrap .i64 (x4 + x7)) then ((j8 p1).bind fun y8 => some (decide (((y3.1).cells) ≥ (IntKind.wrap .i64 ((IntKind.wrap .i64 (x4 + y8)) - x6))))) else (some false)
noncomputable def cP (p1 : ab) (x13 : Int) (x14 : Int) : Option ((Int × Int) ⊕ Int) :=
  if x14 < (p1.in_.length : Int) then (if (0 ≤ x14 ∧ x14 < (p1.in_.length : Int)) ∧ (0 ≤ (p1.in_.getD x14.toNat default) ∧ (p1.in_.getD x14.toNat default) < (p1.vars.length : Int)) then ((d8 ((p1.vars.getD ((p1.in_.getD x14.toNat default).toNat) default).n)).bind fun y15 => some (.inl ((IntKind.wrap .i64 (x13 + y15)), (IntKind.wrap .i64 (x14 + 1))))) else none) else (some (.inr x13))
noncomputable def ef (p1 : ab) (y3 : (dk × au)) (x4 : Int) (x5 : Int) (x6 : Int) : Option Bool :=
  (aU (fun (x13, x14) => cP p1 x13 x14) (x5, 0)).bind (fun z16 => eT p1 y3 x4 x6 z16)
noncomputable def eU (x26 : Int) (x27 : Int) (x28 : Int) (y29 : Int) (x30 : Int) : Option ((Int × Int × Int × Int) ⊕ (Int × Int × Int)) :=
  some (.inl (x30, (IntKind.wrap .i64 (x26 + y29)), (if y29 > x27 then y29 else x27), (IntKind.wrap .i64 (x28 + 1))))
noncomputable def cQ (p1 : ab) (x25 : Int) (x26 : Int) (x27 : Int) (x28 : Int) : Option ((Int × Int × Int × Int) ⊕ (Int × Int × Int)) :=
  if x28 < (p1.rules.length : Int) then (if (0 ≤ x28 ∧ x28 < (p1.rules.length : Int)) ∧ (0 ≤ (p1.rules.getD x28.toNat default).out_ ∧ (p1.rules.getD x28.toNat default).out_ < (p1.vars.length : Int)) then ((d8 ((p1.vars.getD (((p1.rules.getD x28.toNat default).out_).toNat) default).n)).bind fun y29 => if ((p1.rules.getD x28.toNat default).op) = 13 then (eU x26 x27 x28 y29 (IntKind.wrap .i64 (x25 + y29))) else (eU x26 x27 x28 y29 x25)) else none) else (some (.inr (x25, x26, x27)))
noncomputable def jM (p1 : ab) : Option Bool :=
  (fW ).bind fun y1 => if y1 = true then ((dz p1 150).bind fun y2 => if y2 = true then (some true) else ((fJ p1).bind fun y3 => if ¬ ((y3.2).code) = 0 then (some true) else ((aU (fun (x25, x26, x27, x28) => cQ p1 x25 x26 x27 x28) (1, 0, 0, 0)).bind (fun (z31, z32, z33) => ef p1 y3 z31 z32 z33)))) else (some false)
end Pam
