/- what law_TokenCovers computes, read off the program by a program of ours -/
import Derived.Test.YtmnbfnhdnloigaaDoorTabcData1
import Derived.Test.YtmnbfnhdnloigaaDoorTabcFun1
set_option linter.all false
namespace Pam
open Go
noncomputable def cl : Option Bool :=
  some true
noncomputable def bn (x8 : Int) (x9 : Int) : Option ((Int × Int) ⊕ (Unit ⊕ Bool)) :=
  some (.inl (x9, (IntKind.wrap .i64 (x8 + 1))))
noncomputable def bo (p1 : List UInt8) (y2 : ((List aa) × aA)) (x8 : Int) (x11 : Int) : Option ((Int × Int) ⊕ (Unit ⊕ Bool)) :=
  if x8 < (y2.1.length : Int) then (if (0 ≤ x8 ∧ x8 < (y2.1.length : Int)) then (if (((y2.1.getD x8.toNat default).text).length : Int) = 0 then (some (.inr (.inr false))) else (if (((y2.1.getD x8.toNat default).text).length : Int) > (IntKind.wrap .i64 ((p1.length : Int) - x11)) then (some (.inr (.inr false))) else (if (0 ≤ x11 ∧ x11 ≤ (IntKind.wrap .i64 (x11 + (((y2.1.getD x8.toNat default).text).length : Int))) ∧ (IntKind.wrap .i64 (x11 + (((y2.1.getD x8.toNat default).text).length : Int))) ≤ (p1.length : Int)) then (if ((p1.take ((IntKind.wrap .i64 (x11 + (((y2.1.getD x8.toNat default).text).length : Int))).toNat)).drop x11.toNat) = ((y2.1.getD x8.toNat default).text) then (bn x8 (IntKind.wrap .i64 (x11 + (((y2.1.getD x8.toNat default).text).length : Int)))) else (some (.inr (.inr false)))) else none))) else none) else (bn x8 x11)
noncomputable def bp (p1 : List UInt8) (x16 : Int) (b19 : Bool) : Option ((Int × Bool) ⊕ (Int ⊕ Bool)) :=
  if b19 = true then (some (.inl ((IntKind.wrap .i64 (x16 + 1)), b19))) else (if (0 ≤ x16 ∧ x16 < (p1.length : Int)) then (if ¬ ((p1.getD x16.toNat 0).toNat : Int) = 32 then (if ¬ ((p1.getD x16.toNat 0).toNat : Int) = 9 then (if ¬ ((p1.getD x16.toNat 0).toNat : Int) = 10 then (if ¬ ((p1.getD x16.toNat 0).toNat : Int) = 13 then (some (.inr (.inr false))) else (some (.inl ((IntKind.wrap .i64 (x16 + 1)), b19)))) else (some (.inl ((IntKind.wrap .i64 (x16 + 1)), b19)))) else (some (.inl ((IntKind.wrap .i64 (x16 + 1)), b19)))) else (some (.inl ((IntKind.wrap .i64 (x16 + 1)), b19)))) else none)
noncomputable def bq (p1 : List UInt8) (x16 : Int) (b18 : Bool) : Option ((Int × Bool) ⊕ (Int ⊕ Bool)) :=
  if (0 ≤ x16 ∧ x16 < (p1.length : Int)) then (if ((p1.getD x16.toNat 0).toNat : Int) = 35 then (bp p1 x16 true) else (bp p1 x16 b18)) else none
noncomputable def aZ (p1 : List UInt8) (x10 : Int) (x16 : Int) (b17 : Bool) : Option ((Int × Bool) ⊕ (Int ⊕ Bool)) :=
  if x16 < x10 then (if (0 ≤ x16 ∧ x16 < (p1.length : Int)) then (if ((p1.getD x16.toNat 0).toNat : Int) = 10 then (bq p1 x16 false) else (bq p1 x16 b17)) else none) else (some (.inr (.inl x16)))
noncomputable def br (p1 : List UInt8) (y2 : ((List aa) × aA)) (x7 : Int) (x8 : Int) (x10 : Int) : Option ((Int × Int) ⊕ (Unit ⊕ Bool)) :=
  if x10 < x7 then (some (.inr (.inr false))) else ((cm (fun (x16, b17) => aZ p1 x10 x16 b17) (x7, false)).bind (Sum.elim (fun z20 => bo p1 y2 x8 z20) (fun z21 => some (.inr (.inr z21)))))
noncomputable def aL (p1 : List UInt8) (y2 : ((List aa) × aA)) (x7 : Int) (x8 : Int) : Option ((Int × Int) ⊕ (Unit ⊕ Bool)) :=
  if x8 ≤ (y2.1.length : Int) then (if x8 < (y2.1.length : Int) then (if (0 ≤ x8 ∧ x8 < (y2.1.length : Int)) then (br p1 y2 x7 x8 ((y2.1.getD x8.toNat default).at_)) else none) else (br p1 y2 x7 x8 (p1.length : Int))) else (some (.inr (.inl ())))
noncomputable def dy (p1 : List UInt8) : Option Bool :=
  (ck ).bind fun y1 => if y1 = true then (if (p1.length : Int) > 12000 then (some true) else ((cD p1).bind fun y2 => if ¬ ((y2.2).code) = 0 then (if (y2.1.length : Int) = 0 then (if ((y2.2).at_) ≥ 0 then (some (decide (((y2.2).at_) ≤ (p1.length : Int)))) else (some false)) else (some false)) else ((cm (fun (x7, x8) => aL p1 y2 x7 x8) (0, 0)).bind (Sum.elim (fun _ => cl) (fun z22 => some z22))))) else (some false)
end Pam
