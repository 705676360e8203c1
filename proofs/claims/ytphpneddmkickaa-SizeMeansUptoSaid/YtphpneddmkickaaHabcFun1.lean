/- what slices_Values_api_Size_api_Term computes, read off the program by a program of ours -/
import Derived.Test.YtphpneddmkickaaHabcData1
import Derived.Test.YtphpneddmkickaaHBase3
set_option linter.all false
namespace Pam
open Go
noncomputable def cz (p1 : List aa) : Option (List aa) :=
  some p1
noncomputable def dh (p1 : List aa) : Option Unit :=
  if p1.length ≤ 1000000 then some () else none
noncomputable def et (p1 : List UInt8) : Option Bool :=
  some (!(p1 == p1))
noncomputable def eV (p1 : List UInt8) (p2 : List UInt8) : Option Int :=
  (et p1).bind fun y1 => (et p2).bind fun y2 => if y1 = true then (if y2 = true then (some 0) else (some (-1))) else (if y2 = true then (some 1) else (if (Op.bytesLess p1 p2) = true then (some (-1)) else (if (Op.bytesLess p1 p2 || p1 == p2) = true then (some 0) else (some 1))))
noncomputable def dV (p1 : aa) (p2 : aa) : Option Int :=
  (eV p1.name p2.name).bind fun y1 => some y1
noncomputable def aT (x9 : Int) (l11 : List aa) : Option (((List aa) × Int) ⊕ (List aa)) :=
  some (.inl (l11, (IntKind.wrap .i64 (x9 + 1))))
noncomputable def ay (p1 : Nat) (p2 : Int) (l19 : List aa) (x20 : Int) : Option (((List aa) × Int) ⊕ (List aa)) :=
  if x20 > p2 then (if (0 ≤ x20 ∧ x20 < (p1 : Int)) ∧ x20.toNat < l19.length ∧ (0 ≤ (IntKind.wrap .i64 (x20 - 1)) ∧ (IntKind.wrap .i64 (x20 - 1)) < (p1 : Int)) ∧ (IntKind.wrap .i64 (x20 - 1)).toNat < l19.length then ((dV (l19.getD x20.toNat default) (l19.getD ((IntKind.wrap .i64 (x20 - 1)).toNat) default)).bind fun y21 => if y21 < 0 then (some (.inl (((l19.set x20.toNat (l19.getD ((IntKind.wrap .i64 (x20 - 1)).toNat) default)).set ((IntKind.wrap .i64 (x20 - 1)).toNat) (l19.getD x20.toNat default)), (IntKind.wrap .i64 (x20 - 1))))) else (some (.inr l19))) else none) else (some (.inr l19))
noncomputable def an (p1 : Nat) (p2 : Int) (p3 : Int) (l8 : List aa) (x9 : Int) : Option (((List aa) × Int) ⊕ (List aa)) :=
  if x9 < p3 then ((aW (fun (l19, x20) => ay p1 p2 l19 x20) (l8, x9)).bind (fun z22 => aT x9 z22)) else (some (.inr l8))
noncomputable def bj (p1 : Nat) (p2 : Int) (p3 : Int) (p4 : List aa) : Option (List aa) :=
  (aW (fun (l8, x9) => an p1 p2 p3 l8 x9) (p4, (IntKind.wrap .i64 (p2 + 1)))).bind (fun z23 => some z23)
noncomputable def aJ (p1 : Nat) (p2 : Int) (p3 : Int) (p4 : Int) (l8 : List aa) (x9 : Int) : Option (((List aa) × Int) ⊕ (List aa)) :=
  if x9 < p4 then (if (0 ≤ (IntKind.wrap .i64 (p3 + x9)) ∧ (IntKind.wrap .i64 (p3 + x9)) < (p1 : Int)) ∧ (IntKind.wrap .i64 (p3 + x9)).toNat < l8.length ∧ (0 ≤ (IntKind.wrap .i64 (p2 + x9)) ∧ (IntKind.wrap .i64 (p2 + x9)) < (p1 : Int)) ∧ (IntKind.wrap .i64 (p2 + x9)).toNat < l8.length then (some (.inl (((l8.set ((IntKind.wrap .i64 (p2 + x9)).toNat) (l8.getD ((IntKind.wrap .i64 (p3 + x9)).toNat) default)).set ((IntKind.wrap .i64 (p3 + x9)).toNat) (l8.getD ((IntKind.wrap .i64 (p2 + x9)).toNat) default)), (IntKind.wrap .i64 (x9 + 1))))) else none) else (some (.inr l8))
noncomputable def bo (p1 : Nat) (p2 : Int) (p3 : Int) (p4 : Int) (p5 : List aa) : Option (List aa) :=
  (aW (fun (l8, x9) => aJ p1 p2 p3 p4 l8 x9) (p5, 0)).bind (fun z10 => some z10)
noncomputable def bp (p1 : Nat) (p3 : Int) (l2 : List aa) (x3 : Int) : Option (List aa) :=
  (bo p1 (IntKind.wrap .i64 (p3 - x3)) p3 x3 l2).bind fun y4 => some y4
noncomputable def aD (p1 : Nat) (p3 : Int) (l14 : List aa) (x15 : Int) (x16 : Int) : Option (((List aa) × Int × Int) ⊕ ((List aa) × Int)) :=
  if ¬ x15 = x16 then (if x15 > x16 then ((bo p1 (IntKind.wrap .i64 (p3 - x15)) p3 x16 l14).bind fun y17 => some (.inl (y17, (IntKind.wrap .i64 (x15 - x16)), x16))) else ((bo p1 (IntKind.wrap .i64 (p3 - x15)) (IntKind.wrap .i64 ((IntKind.wrap .i64 (p3 + x16)) - x15)) x15 l14).bind fun y18 => some (.inl (y18, x15, (IntKind.wrap .i64 (x16 - x15)))))) else (some (.inr (l14, x15)))
noncomputable def cg (p1 : Nat) (p2 : Int) (p3 : Int) (p4 : Int) (p5 : List aa) : Option (List aa) :=
  (aW (fun (l14, x15, x16) => aD p1 p3 l14 x15 x16) (p5, (IntKind.wrap .i64 (p3 - p2)), (IntKind.wrap .i64 (p4 - p3)))).bind (fun (z19, z20) => bp p1 p3 z19 z20)
noncomputable def aZ (rcf : Nat → Int → Int → Int → (List aa) → Option (List aa)) (p1 : Nat) (p2 : Int) (p3 : Int) (p4 : Int) (x3 : Int) (l7 : List aa) : Option (List aa) :=
  if (IntKind.wrap .i64 ((IntKind.wrap .u64 (IntKind.wrap .i64 (p2 + p4))).fdiv (2 ^ (min 1 (IntKind.bits .u64))))) < (IntKind.wrap .i64 ((IntKind.wrap .i64 ((IntKind.wrap .i64 ((IntKind.wrap .u64 (IntKind.wrap .i64 (p2 + p4))).fdiv (2 ^ (min 1 (IntKind.bits .u64))))) + p3)) - x3)) then (if (IntKind.wrap .i64 ((IntKind.wrap .i64 ((IntKind.wrap .i64 ((IntKind.wrap .u64 (IntKind.wrap .i64 (p2 + p4))).fdiv (2 ^ (min 1 (IntKind.bits .u64))))) + p3)) - x3)) < p4 then ((rcf p1 (IntKind.wrap .i64 ((IntKind.wrap .u64 (IntKind.wrap .i64 (p2 + p4))).fdiv (2 ^ (min 1 (IntKind.bits .u64))))) (IntKind.wrap .i64 ((IntKind.wrap .i64 ((IntKind.wrap .i64 ((IntKind.wrap .u64 (IntKind.wrap .i64 (p2 + p4))).fdiv (2 ^ (min 1 (IntKind.bits .u64))))) + p3)) - x3)) p4 l7).bind fun y8 => some y8) else (some l7)) else (some l7)
noncomputable def aL (rcf : Nat → Int → Int → Int → (List aa) → Option (List aa)) (p1 : Nat) (p2 : Int) (p3 : Int) (p4 : Int) (x3 : Int) (l5 : List aa) : Option (List aa) :=
  if p2 < x3 then (if x3 < (IntKind.wrap .i64 ((IntKind.wrap .u64 (IntKind.wrap .i64 (p2 + p4))).fdiv (2 ^ (min 1 (IntKind.bits .u64))))) then ((rcf p1 p2 x3 (IntKind.wrap .i64 ((IntKind.wrap .u64 (IntKind.wrap .i64 (p2 + p4))).fdiv (2 ^ (min 1 (IntKind.bits .u64))))) l5).bind fun y9 => aZ rcf p1 p2 p3 p4 x3 y9) else (aZ rcf p1 p2 p3 p4 x3 l5)) else (aZ rcf p1 p2 p3 p4 x3 l5)
noncomputable def bf (rcf : Nat → Int → Int → Int → (List aa) → Option (List aa)) (p1 : Nat) (p2 : Int) (p3 : Int) (p4 : Int) (p5 : List aa) (x3 : Int) : Option (List aa) :=
  if x3 < p3 then (if p3 < (IntKind.wrap .i64 ((IntKind.wrap .i64 ((IntKind.wrap .i64 ((IntKind.wrap .u64 (IntKind.wrap .i64 (p2 + p4))).fdiv (2 ^ (min 1 (IntKind.bits .u64))))) + p3)) - x3)) then ((cg p1 x3 p3 (IntKind.wrap .i64 ((IntKind.wrap .i64 ((IntKind.wrap .i64 ((IntKind.wrap .u64 (IntKind.wrap .i64 (p2 + p4))).fdiv (2 ^ (min 1 (IntKind.bits .u64))))) + p3)) - x3)) p5).bind fun y10 => aL rcf p1 p2 p3 p4 x3 y10) else (aL rcf p1 p2 p3 p4 x3 p5)) else (aL rcf p1 p2 p3 p4 x3 p5)
noncomputable def aM (p1 : Nat) (p2 : Int) (p3 : Int) (p4 : Int) (p5 : List aa) (x15 : Int) (x16 : Int) : Option ((Int × Int) ⊕ Int) :=
  if x15 < x16 then (if (0 ≤ (IntKind.wrap .i64 ((IntKind.wrap .i64 ((IntKind.wrap .i64 ((IntKind.wrap .i64 ((IntKind.wrap .u64 (IntKind.wrap .i64 (p2 + p4))).fdiv (2 ^ (min 1 (IntKind.bits .u64))))) + p3)) - 1)) - (IntKind.wrap .i64 ((IntKind.wrap .u64 (IntKind.wrap .i64 (x15 + x16))).fdiv (2 ^ (min 1 (IntKind.bits .u64))))))) ∧ (IntKind.wrap .i64 ((IntKind.wrap .i64 ((IntKind.wrap .i64 ((IntKind.wrap .i64 ((IntKind.wrap .u64 (IntKind.wrap .i64 (p2 + p4))).fdiv (2 ^ (min 1 (IntKind.bits .u64))))) + p3)) - 1)) - (IntKind.wrap .i64 ((IntKind.wrap .u64 (IntKind.wrap .i64 (x15 + x16))).fdiv (2 ^ (min 1 (IntKind.bits .u64))))))) < (p1 : Int)) ∧ (IntKind.wrap .i64 ((IntKind.wrap .i64 ((IntKind.wrap .i64 ((IntKind.wrap .i64 ((IntKind.wrap .u64 (IntKind.wrap .i64 (p2 + p4))).fdiv (2 ^ (min 1 (IntKind.bits .u64))))) + p3)) - 1)) - (IntKind.wrap .i64 ((IntKind.wrap .u64 (IntKind.wrap .i64 (x15 + x16))).fdiv (2 ^ (min 1 (IntKind.bits .u64))))))).toNat < p5.length ∧ (0 ≤ (IntKind.wrap .i64 ((IntKind.wrap .u64 (IntKind.wrap .i64 (x15 + x16))).fdiv (2 ^ (min 1 (IntKind.bits .u64))))) ∧ (IntKind.wrap .i64 ((IntKind.wrap .u64 (IntKind.wrap .i64 (x15 + x16))).fdiv (2 ^ (min 1 (IntKind.bits .u64))))) < (p1 : Int)) ∧ (IntKind.wrap .i64 ((IntKind.wrap .u64 (IntKind.wrap .i64 (x15 + x16))).fdiv (2 ^ (min 1 (IntKind.bits .u64))))).toNat < p5.length then ((dV (p5.getD ((IntKind.wrap .i64 ((IntKind.wrap .i64 ((IntKind.wrap .i64 ((IntKind.wrap .i64 ((IntKind.wrap .u64 (IntKind.wrap .i64 (p2 + p4))).fdiv (2 ^ (min 1 (IntKind.bits .u64))))) + p3)) - 1)) - (IntKind.wrap .i64 ((IntKind.wrap .u64 (IntKind.wrap .i64 (x15 + x16))).fdiv (2 ^ (min 1 (IntKind.bits .u64))))))).toNat) default) (p5.getD ((IntKind.wrap .i64 ((IntKind.wrap .u64 (IntKind.wrap .i64 (x15 + x16))).fdiv (2 ^ (min 1 (IntKind.bits .u64))))).toNat) default)).bind fun y17 => if y17 < 0 then (some (.inl (x15, (IntKind.wrap .i64 ((IntKind.wrap .u64 (IntKind.wrap .i64 (x15 + x16))).fdiv (2 ^ (min 1 (IntKind.bits .u64)))))))) else (some (.inl ((IntKind.wrap .i64 ((IntKind.wrap .i64 ((IntKind.wrap .u64 (IntKind.wrap .i64 (x15 + x16))).fdiv (2 ^ (min 1 (IntKind.bits .u64))))) + 1)), x16)))) else none) else (some (.inr x15))
noncomputable def bg (rcf : Nat → Int → Int → Int → (List aa) → Option (List aa)) (p1 : Nat) (p2 : Int) (p3 : Int) (p4 : Int) (p5 : List aa) (x1 : Int) (x2 : Int) : Option (List aa) :=
  (aW (fun (x15, x16) => aM p1 p2 p3 p4 p5 x15 x16) (x1, x2)).bind (fun z18 => bf rcf p1 p2 p3 p4 p5 z18)
noncomputable def bI (rcf : Nat → Int → Int → Int → (List aa) → Option (List aa)) (p1 : Nat) (p2 : Int) (p3 : Int) (p4 : Int) (p5 : List aa) : Option (List aa) :=
  if p3 > (IntKind.wrap .i64 ((IntKind.wrap .u64 (IntKind.wrap .i64 (p2 + p4))).fdiv (2 ^ (min 1 (IntKind.bits .u64))))) then (bg rcf p1 p2 p3 p4 p5 (IntKind.wrap .i64 ((IntKind.wrap .i64 ((IntKind.wrap .i64 ((IntKind.wrap .u64 (IntKind.wrap .i64 (p2 + p4))).fdiv (2 ^ (min 1 (IntKind.bits .u64))))) + p3)) - p4)) (IntKind.wrap .i64 ((IntKind.wrap .u64 (IntKind.wrap .i64 (p2 + p4))).fdiv (2 ^ (min 1 (IntKind.bits .u64)))))) else (bg rcf p1 p2 p3 p4 p5 p2 p3)
noncomputable def bJ (l21 : List aa) : Option (List aa) :=
  some l21
noncomputable def aN (p1 : Nat) (x19 : Int) (l29 : List aa) (x30 : Int) : Option (((List aa) × Int) ⊕ (List aa)) :=
  if x30 > x19 then (if (0 ≤ (IntKind.wrap .i64 (x30 - 1)) ∧ (IntKind.wrap .i64 (x30 - 1)) < (p1 : Int)) ∧ (IntKind.wrap .i64 (x30 - 1)).toNat < l29.length ∧ (0 ≤ x30 ∧ x30 < (p1 : Int)) ∧ x30.toNat < l29.length then (some (.inl (((l29.set x30.toNat (l29.getD ((IntKind.wrap .i64 (x30 - 1)).toNat) default)).set ((IntKind.wrap .i64 (x30 - 1)).toNat) (l29.getD x30.toNat default)), (IntKind.wrap .i64 (x30 - 1))))) else none) else (some (.inr l29))
noncomputable def bh (p1 : Nat) (p3 : Int) (p5 : List aa) (x19 : Int) : Option (List aa) :=
  (aW (fun (l29, x30) => aN p1 x19 l29 x30) (p5, p3)).bind (fun z31 => bJ z31)
noncomputable def aO (p1 : Nat) (p3 : Int) (p5 : List aa) (x36 : Int) (x37 : Int) : Option ((Int × Int) ⊕ Int) :=
  if x36 < x37 then (if (0 ≤ p3 ∧ p3 < (p1 : Int)) ∧ p3.toNat < p5.length ∧ (0 ≤ (IntKind.wrap .i64 ((IntKind.wrap .u64 (IntKind.wrap .i64 (x36 + x37))).fdiv (2 ^ (min 1 (IntKind.bits .u64))))) ∧ (IntKind.wrap .i64 ((IntKind.wrap .u64 (IntKind.wrap .i64 (x36 + x37))).fdiv (2 ^ (min 1 (IntKind.bits .u64))))) < (p1 : Int)) ∧ (IntKind.wrap .i64 ((IntKind.wrap .u64 (IntKind.wrap .i64 (x36 + x37))).fdiv (2 ^ (min 1 (IntKind.bits .u64))))).toNat < p5.length then ((dV (p5.getD p3.toNat default) (p5.getD ((IntKind.wrap .i64 ((IntKind.wrap .u64 (IntKind.wrap .i64 (x36 + x37))).fdiv (2 ^ (min 1 (IntKind.bits .u64))))).toNat) default)).bind fun y38 => if y38 < 0 then (some (.inl (x36, (IntKind.wrap .i64 ((IntKind.wrap .u64 (IntKind.wrap .i64 (x36 + x37))).fdiv (2 ^ (min 1 (IntKind.bits .u64)))))))) else (some (.inl ((IntKind.wrap .i64 ((IntKind.wrap .i64 ((IntKind.wrap .u64 (IntKind.wrap .i64 (x36 + x37))).fdiv (2 ^ (min 1 (IntKind.bits .u64))))) + 1)), x37)))) else none) else (some (.inr x36))
noncomputable def bK (rcf : Nat → Int → Int → Int → (List aa) → Option (List aa)) (p1 : Nat) (p2 : Int) (p3 : Int) (p4 : Int) (p5 : List aa) : Option (List aa) :=
  if (IntKind.wrap .i64 (p4 - p3)) = 1 then ((aW (fun (x36, x37) => aO p1 p3 p5 x36 x37) (p2, p3)).bind (fun z39 => bh p1 p3 p5 z39)) else (bI rcf p1 p2 p3 p4 p5)
noncomputable def bG (l42 : List aa) : Option (List aa) :=
  some l42
noncomputable def aP (p1 : Nat) (x40 : Int) (l50 : List aa) (x51 : Int) : Option (((List aa) × Int) ⊕ (List aa)) :=
  if x51 < (IntKind.wrap .i64 (x40 - 1)) then (if (0 ≤ (IntKind.wrap .i64 (x51 + 1)) ∧ (IntKind.wrap .i64 (x51 + 1)) < (p1 : Int)) ∧ (IntKind.wrap .i64 (x51 + 1)).toNat < l50.length ∧ (0 ≤ x51 ∧ x51 < (p1 : Int)) ∧ x51.toNat < l50.length then (some (.inl (((l50.set x51.toNat (l50.getD ((IntKind.wrap .i64 (x51 + 1)).toNat) default)).set ((IntKind.wrap .i64 (x51 + 1)).toNat) (l50.getD x51.toNat default)), (IntKind.wrap .i64 (x51 + 1))))) else none) else (some (.inr l50))
noncomputable def bi (p1 : Nat) (p2 : Int) (p5 : List aa) (x40 : Int) : Option (List aa) :=
  (aW (fun (l50, x51) => aP p1 x40 l50 x51) (p5, p2)).bind (fun z52 => bG z52)
noncomputable def aQ (p1 : Nat) (p2 : Int) (p5 : List aa) (x57 : Int) (x58 : Int) : Option ((Int × Int) ⊕ Int) :=
  if x57 < x58 then (if (0 ≤ (IntKind.wrap .i64 ((IntKind.wrap .u64 (IntKind.wrap .i64 (x57 + x58))).fdiv (2 ^ (min 1 (IntKind.bits .u64))))) ∧ (IntKind.wrap .i64 ((IntKind.wrap .u64 (IntKind.wrap .i64 (x57 + x58))).fdiv (2 ^ (min 1 (IntKind.bits .u64))))) < (p1 : Int)) ∧ (IntKind.wrap .i64 ((IntKind.wrap .u64 (IntKind.wrap .i64 (x57 + x58))).fdiv (2 ^ (min 1 (IntKind.bits .u64))))).toNat < p5.length ∧ (0 ≤ p2 ∧ p2 < (p1 : Int)) ∧ p2.toNat < p5.length then ((dV (p5.getD ((IntKind.wrap .i64 ((IntKind.wrap .u64 (IntKind.wrap .i64 (x57 + x58))).fdiv (2 ^ (min 1 (IntKind.bits .u64))))).toNat) default) (p5.getD p2.toNat default)).bind fun y59 => if y59 < 0 then (some (.inl ((IntKind.wrap .i64 ((IntKind.wrap .i64 ((IntKind.wrap .u64 (IntKind.wrap .i64 (x57 + x58))).fdiv (2 ^ (min 1 (IntKind.bits .u64))))) + 1)), x58))) else (some (.inl (x57, (IntKind.wrap .i64 ((IntKind.wrap .u64 (IntKind.wrap .i64 (x57 + x58))).fdiv (2 ^ (min 1 (IntKind.bits .u64))))))))) else none) else (some (.inr x57))
noncomputable def bP (rcf : Nat → Int → Int → Int → (List aa) → Option (List aa)) (p1 : Nat) (p2 : Int) (p3 : Int) (p4 : Int) (p5 : List aa) : Option (List aa) :=
  if (IntKind.wrap .i64 (p3 - p2)) = 1 then ((aW (fun (x57, x58) => aQ p1 p2 p5 x57 x58) (p3, p4)).bind (fun z60 => bi p1 p2 p5 z60)) else (bK rcf p1 p2 p3 p4 p5)
noncomputable def bl : Nat → Nat → Int → Int → Int → (List aa) → Option (List aa)
  | 0 => fun _ _ _ _ _ => none
  | n + 1 => bP (bl n)
noncomputable def cA (fuel : Nat) (p1 : Nat) (p2 : Int) (p3 : Int) (p4 : Int) (p5 : List aa) : Option (List aa) := bl fuel p1 p2 p3 p4 p5
noncomputable def bz (fuel : Nat) (p1 : Int) (p2 : List aa) (x13 : Int) (l15 : List aa) (x16 : Int) : Option (((List aa) × Int) ⊕ (List aa)) :=
  if (IntKind.wrap .i64 (x16 + x13)) < p1 then ((cA fuel p2.length x16 (IntKind.wrap .i64 (x16 + x13)) p1 l15).bind fun y17 => some (.inl (y17, (IntKind.wrap .i64 (x13 * 2))))) else (some (.inl (l15, (IntKind.wrap .i64 (x13 * 2)))))
noncomputable def aE (fuel : Nat) (p1 : Int) (p2 : List aa) (x13 : Int) (l27 : List aa) (x28 : Int) (x29 : Int) : Option (((List aa) × Int × Int) ⊕ ((List aa) × Int)) :=
  if x29 ≤ p1 then ((cA fuel p2.length x28 (IntKind.wrap .i64 (x28 + x13)) x29 l27).bind fun y30 => some (.inl (y30, x29, (IntKind.wrap .i64 (x29 + (IntKind.wrap .i64 (2 * x13))))))) else (some (.inr (l27, x28)))
noncomputable def aV (fuel : Nat) (p1 : Int) (p2 : List aa) (l12 : List aa) (x13 : Int) : Option (((List aa) × Int) ⊕ (List aa)) :=
  if x13 < p1 then ((aW (fun (l27, x28, x29) => aE fuel p1 p2 x13 l27 x28 x29) (l12, 0, (IntKind.wrap .i64 (2 * x13)))).bind (fun (z31, z32) => bz fuel p1 p2 x13 z31 z32)) else (some (.inr l12))
noncomputable def bB (fuel : Nat) (p1 : Int) (p2 : List aa) (l2 : List aa) (x3 : Int) : Option (List aa) :=
  (bj p2.length x3 p1 l2).bind fun y4 => (aW (fun (l12, x13) => aV fuel p1 p2 l12 x13) (y4, 20)).bind (fun z33 => some z33)
noncomputable def aF (p1 : Int) (p2 : List aa) (l43 : List aa) (x44 : Int) (x45 : Int) : Option (((List aa) × Int × Int) ⊕ ((List aa) × Int)) :=
  if x45 ≤ p1 then ((bj p2.length x44 x45 l43).bind fun y46 => some (.inl (y46, x45, (IntKind.wrap .i64 (x45 + 20))))) else (some (.inr (l43, x44)))
noncomputable def ci (fuel : Nat) (p1 : Int) (p2 : List aa) : Option (List aa) :=
  (aW (fun (l43, x44, x45) => aF p1 p2 l43 x44 x45) (p2, 0, 20)).bind (fun (z47, z48) => bB fuel p1 p2 z47 z48)
noncomputable def bV (fuel : Nat) (p1 : List aa) : Option (List aa) :=
  (ci fuel (p1.length : Int) p1).bind fun y1 => some y1
noncomputable def bW (fuel : Nat) (p1 : List aa) : Option (List aa) :=
  (dh p1).bind fun y1 => (bV fuel p1).bind fun y2 => if p1.length ≤ y2.length then (some (y2.take p1.length)) else none
noncomputable def fP (p1 : aa) : Option Bool :=
  some (p1.n == 0)
noncomputable def bC : Option Int :=
  some (-1)
noncomputable def bD (p1 : List aa) (x3 : Int) : Option (Int ⊕ (Unit ⊕ Int)) :=
  if x3 < (p1.length : Int) then (if (0 ≤ x3 ∧ x3 < (p1.length : Int)) then ((fP (p1.getD x3.toNat default)).bind fun y4 => if y4 = true then (some (.inr (.inr x3))) else (some (.inl (IntKind.wrap .i64 (x3 + 1))))) else none) else (some (.inr (.inl ())))
noncomputable def bN (p1 : List aa) : Option Int :=
  (aW (fun x3 => bD p1 x3) 0).bind (Sum.elim (fun _ => bC) (fun z5 => some z5))
noncomputable def bk (l3 : List aa) (x4 : Int) : Option (List aa) :=
  if (0 ≤ x4 ∧ x4 ≤ (l3.length : Int)) then (some ((clr (aa.mk 0 []) l3 x4.toNat (l3.length - x4.toNat)).take x4.toNat)) else none
noncomputable def aG (l14 : List aa) (x15 : Int) (x16 : Int) : Option (((List aa) × Int × Int) ⊕ ((List aa) × Int)) :=
  if x16 < (l14.length : Int) then (if (0 ≤ x16 ∧ x16 < (l14.length : Int)) then ((fP (l14.getD x16.toNat default)).bind fun y17 => if y17 = true then (some (.inl (l14, x15, (IntKind.wrap .i64 (x16 + 1))))) else (if (0 ≤ x15 ∧ x15 < (l14.length : Int)) then (some (.inl ((l14.set x15.toNat (l14.getD x16.toNat default)), (IntKind.wrap .i64 (x15 + 1)), (IntKind.wrap .i64 (x16 + 1))))) else none)) else none) else (some (.inr (l14, x15)))
noncomputable def bH (p1 : List aa) : Option (List aa) :=
  (bN p1).bind fun y1 => if y1 = (-1) then (some p1) else ((aW (fun (l14, x15, x16) => aG l14 x15 x16) (p1, y1, (IntKind.wrap .i64 (y1 + 1)))).bind (fun (z18, z19) => bk z18 z19))
noncomputable def fQ (l5 : List aa) : Option ((List aa) × ag) :=
  (bH l5).bind fun y7 => some (y7, (ag.mk 0 0))
noncomputable def cE (y2 : (List aa)) (l20 : List aa) (x22 : Int) : Option (((List aa) × Int) ⊕ (List aa)) :=
  if x22 < (y2.length : Int) then (if (0 ≤ x22 ∧ x22 < (y2.length : Int)) then (if (l20.length : Int) > 0 then (if (0 ≤ (IntKind.wrap .i64 ((l20.length : Int) - 1)) ∧ (IntKind.wrap .i64 ((l20.length : Int) - 1)) < (l20.length : Int)) then (if ((l20.getD ((IntKind.wrap .i64 ((l20.length : Int) - 1)).toNat) default).name) = ((y2.getD x22.toNat default).name) then (some (.inl ((l20.set ((IntKind.wrap .i64 ((l20.length : Int) - 1)).toNat) (aa.mk (IntKind.wrap .i64 (((l20.getD ((IntKind.wrap .i64 ((l20.length : Int) - 1)).toNat) default).n) + ((y2.getD x22.toNat default).n))) ((l20.getD ((IntKind.wrap .i64 ((l20.length : Int) - 1)).toNat) default).name))), (IntKind.wrap .i64 (x22 + 1))))) else (if gn (l20.length + 1) 24 then (some (.inl ((l20 ++ (lit ([(y2.getD x22.toNat default)] : List aa))), (IntKind.wrap .i64 (x22 + 1))))) else none)) else none) else (if gn (l20.length + 1) 24 then (some (.inl ((l20 ++ (lit ([(y2.getD x22.toNat default)] : List aa))), (IntKind.wrap .i64 (x22 + 1))))) else none)) else none) else (some (.inr l20))
noncomputable def fR (fuel : Nat) (p1 : List aa) : Option ((List aa) × ag) :=
  (cz p1).bind fun y1 => (bW fuel y1).bind fun y2 => (aW (fun (l20, x22) => cE y2 l20 x22) ([], 0)).bind (fun z23 => fQ z23)
noncomputable def fS (p1 : List aa) (x26 : Int) : Option (Int ⊕ (Unit ⊕ ((List aa) × ag))) :=
  if x26 < (p1.length : Int) then (if (0 ≤ x26 ∧ x26 < (p1.length : Int)) then (if ((p1.getD x26.toNat default).n) < (-1000000) then (some (.inr (.inr ([], (ag.mk 16 x26))))) else (if ((p1.getD x26.toNat default).n) > 1000000 then (some (.inr (.inr ([], (ag.mk 16 x26))))) else (some (.inl (IntKind.wrap .i64 (x26 + 1)))))) else none) else (some (.inr (.inl ())))
noncomputable def eu (fuel : Nat) (p1 : List aa) : Option ((List aa) × ag) :=
  if (p1.length : Int) > 1000 then (some ([], (ag.mk 7 (-1)))) else ((aW (fun x26 => fS p1 x26) 0).bind (Sum.elim (fun _ => fR fuel p1) (fun z27 => some z27)))
noncomputable def cj : Option Int :=
  some (-1)
noncomputable def ck (p1 : List (List UInt8)) (p2 : List UInt8) (x3 : Int) : Option (Int ⊕ (Unit ⊕ Int)) :=
  if x3 < (p1.length : Int) then (if (0 ≤ x3 ∧ x3 < (p1.length : Int)) then (if p2 = (p1.getD x3.toNat default) then (some (.inr (.inr x3))) else (some (.inl (IntKind.wrap .i64 (x3 + 1))))) else none) else (some (.inr (.inl ())))
noncomputable def bO (p1 : List (List UInt8)) (p2 : List UInt8) : Option Int :=
  (aW (fun x3 => ck p1 p2 x3) 0).bind (Sum.elim (fun _ => cj) (fun z4 => some z4))
noncomputable def fj (x2 : Int) : Option (Int × ag) :=
  some (x2, (ag.mk 0 0))
noncomputable def fm (y1 : ((List aa) × ag)) (x7 : Int) (x8 : Int) (x9 : Int) : Option ((Int × Int) ⊕ (Int ⊕ (Int × ag))) :=
  if x9 < (-1000000) then (some (.inr (.inr (0, (ag.mk 16 (-1)))))) else (if x9 > 1000000 then (some (.inr (.inr (0, (ag.mk 16 (-1)))))) else (some (.inl ((IntKind.wrap .i64 (x7 + (IntKind.wrap .i64 (((y1.1.getD x8.toNat default).n) * x9)))), (IntKind.wrap .i64 (x8 + 1))))))
noncomputable def d7 (p2 : List (List UInt8)) (p3 : List Int) (y1 : ((List aa) × ag)) (x7 : Int) (x8 : Int) : Option ((Int × Int) ⊕ (Int ⊕ (Int × ag))) :=
  if x8 < (y1.1.length : Int) then (if (0 ≤ x8 ∧ x8 < (y1.1.length : Int)) then (if ((y1.1.getD x8.toNat default).name) = ([] : List UInt8) then (fm y1 x7 x8 1) else ((bO p2 ((y1.1.getD x8.toNat default).name)).bind fun y10 => if y10 < 0 then (some (.inr (.inr (0, (ag.mk 9 (-1)))))) else (if y10 ≥ (p3.length : Int) then (some (.inr (.inr (0, (ag.mk 9 (-1)))))) else (if (0 ≤ y10 ∧ y10 < (p3.length : Int)) then (fm y1 x7 x8 (p3.getD y10.toNat default)) else none)))) else none) else (some (.inr (.inl x7)))
noncomputable def cb (fuel : Nat) (p1 : List aa) (p2 : List (List UInt8)) (p3 : List Int) : Option (Int × ag) :=
  (eu fuel p1).bind fun y1 => if ¬ ((y1.2).code) = 0 then (some (0, (y1.2))) else ((aW (fun (x7, x8) => d7 p2 p3 y1 x7 x8) (0, 0)).bind (Sum.elim (fun z11 => fj z11) (fun z12 => some z12)))
noncomputable def ey : Option Bool :=
  some true
noncomputable def eA (p1 : List aa) (p2 : List aa) (x3 : Int) : Option (Int ⊕ (Unit ⊕ Bool)) :=
  if x3 < (p1.length : Int) then (if (0 ≤ x3 ∧ x3 < (p1.length : Int)) ∧ (0 ≤ x3 ∧ x3 < (p2.length : Int)) then (if ((p1.getD x3.toNat default).n) = ((p2.getD x3.toNat default).n) ∧ ((p1.getD x3.toNat default).name) = ((p2.getD x3.toNat default).name) then (some (.inl (IntKind.wrap .i64 (x3 + 1)))) else (some (.inr (.inr false)))) else none) else (some (.inr (.inl ())))
noncomputable def da (p1 : List aa) (p2 : List aa) : Option Bool :=
  if ¬ (p1.length : Int) = (p2.length : Int) then (some false) else ((aW (fun x3 => eA p1 p2 x3) 0).bind (Sum.elim (fun _ => ey) (fun z4 => some z4)))
noncomputable def d8 (fuel : Nat) : Option Bool :=
  (eu fuel (lit ([(aa.mk 2 ([110] : List UInt8)), (aa.mk 3 []), (aa.mk (-1) ([110] : List UInt8))] : List aa))).bind fun y1 => (cb fuel (lit ([(aa.mk 2 ([110] : List UInt8)), (aa.mk (-1) [])] : List aa)) (lit ([([110] : List UInt8)] : List (List UInt8))) (lit ([4] : List Int))).bind fun y2 => if ((y1.2).code) = 0 then (if ((y2.2).code) = 0 then (if y2.1 = 7 then ((da y1.1 (lit ([(aa.mk 3 []), (aa.mk 1 ([110] : List UInt8))] : List aa))).bind fun y3 => some y3) else (some false)) else (some false)) else (some false)
noncomputable def eC : Option Bool :=
  some false
noncomputable def eD (x3 : Int) : Option (Int ⊕ (Unit ⊕ Bool)) :=
  some (.inl (IntKind.wrap .i64 (x3 + 1)))
noncomputable def eE (p3 : List (List aa)) (x3 : Int) (x6 : Int) : Option (Int ⊕ (Unit ⊕ Bool)) :=
  if x6 < ((p3.getD x3.toNat default).length : Int) then (if (0 ≤ x6 ∧ x6 < ((p3.getD x3.toNat default).length : Int)) then (if ((((p3.getD x3.toNat default).getD x6.toNat default).name).length : Int) > 100 then (some (.inr (.inr true))) else (some (.inl (IntKind.wrap .i64 (x6 + 1))))) else none) else (some (.inr (.inl ())))
noncomputable def eF (p3 : List (List aa)) (x3 : Int) : Option (Int ⊕ (Unit ⊕ Bool)) :=
  if x3 < (p3.length : Int) then (if (0 ≤ x3 ∧ x3 < (p3.length : Int)) then (if ((p3.getD x3.toNat default).length : Int) > 1100 then (some (.inr (.inr true))) else ((aW (fun x6 => eE p3 x3 x6) 0).bind (Sum.elim (fun _ => eD x3) (fun z7 => some (.inr (.inr z7)))))) else none) else (some (.inr (.inl ())))
noncomputable def dr (p3 : List (List aa)) : Option Bool :=
  (aW (fun x3 => eF p3 x3) 0).bind (Sum.elim (fun _ => eC) (fun z8 => some z8))
noncomputable def eG (p2 : List (List UInt8)) (x11 : Int) : Option (Int ⊕ (Unit ⊕ Bool)) :=
  if x11 < (p2.length : Int) then (if (0 ≤ x11 ∧ x11 < (p2.length : Int)) then (if ((p2.getD x11.toNat default).length : Int) > 100 then (some (.inr (.inr true))) else (some (.inl (IntKind.wrap .i64 (x11 + 1))))) else none) else (some (.inr (.inl ())))
noncomputable def dt (p2 : List (List UInt8)) (p3 : List (List aa)) : Option Bool :=
  (aW (fun x11 => eG p2 x11) 0).bind (Sum.elim (fun _ => dr p3) (fun z12 => some z12))
noncomputable def eH (p1 : List aa) (x15 : Int) : Option (Int ⊕ (Unit ⊕ Bool)) :=
  if x15 < (p1.length : Int) then (if (0 ≤ x15 ∧ x15 < (p1.length : Int)) then (if (((p1.getD x15.toNat default).name).length : Int) > 100 then (some (.inr (.inr true))) else (some (.inl (IntKind.wrap .i64 (x15 + 1))))) else none) else (some (.inr (.inl ())))
noncomputable def gh (p1 : List aa) (p2 : List (List UInt8)) (p3 : List (List aa)) : Option Bool :=
  if (p1.length : Int) > 1100 then (some true) else (if (p2.length : Int) > 100 then (some true) else (if (p3.length : Int) > 100 then (some true) else ((aW (fun x15 => eH p1 x15) 0).bind (Sum.elim (fun _ => dt p2 p3) (fun z16 => some z16)))))
noncomputable def dA : Option Bool :=
  some false
noncomputable def eW : Option (Unit ⊕ Unit) :=
  if (0 : Int) < 0 then none else (some (.inr ()))
noncomputable def c8 : Option Bool :=
  (aW (fun _ => eW) ()).bind (fun _ => dA)
noncomputable def eX : Option (Unit ⊕ Unit) :=
  if (0 : Int) < 0 then none else (some (.inr ()))
noncomputable def cP : Option Bool :=
  (aW (fun _ => eX) ()).bind (fun _ => c8)
noncomputable def dB (p1 : List aa) (x3 : Int) : Option (Int ⊕ (Unit ⊕ Bool)) :=
  if x3 < (p1.length : Int) then (if (0 ≤ x3 ∧ x3 < (p1.length : Int)) then (if (((p1.getD x3.toNat default).name).length : Int) > 100 then (some (.inr (.inr true))) else (some (.inl (IntKind.wrap .i64 (x3 + 1))))) else none) else (some (.inr (.inl ())))
noncomputable def fb (p1 : List aa) : Option Bool :=
  if (p1.length : Int) > 1100 then (some true) else (if (0 : Int) > 100 then (some true) else ((aW (fun x3 => dB p1 x3) 0).bind (Sum.elim (fun _ => cP) (fun z4 => some z4))))
noncomputable def iq (p1 : Int) (p2 : Int) : Option ag :=
  some (ag.mk p1 p2)
noncomputable def fI (p1 : Int) : Option Bool :=
  if p1 ≥ (-1000000) then (some (decide (p1 ≤ 1000000))) else (some false)
noncomputable def gw (p1 : List aa) (l14 : List aa) (x19 : Int) (x22 : Int) : Option (((List aa) × Int) ⊕ ((List aa) × ag)) :=
  if ¬ x22 = 0 then (if (0 ≤ x19 ∧ x19 < (p1.length : Int)) ∧ gn (l14.length + 1) 24 then (some (.inl ((l14 ++ (lit ([(aa.mk x22 ((p1.getD x19.toNat default).name))] : List aa))), x19))) else none) else (some (.inl (l14, x19)))
noncomputable def dl (p1 : List aa) (x19 : Int) (x35 : Int) (x36 : Int) : Option ((Int × Int) ⊕ Int) :=
  if x36 < (p1.length : Int) then (if (0 ≤ x36 ∧ x36 < (p1.length : Int)) ∧ (0 ≤ x19 ∧ x19 < (p1.length : Int)) then (if ((p1.getD x36.toNat default).name) = ((p1.getD x19.toNat default).name) then (some (.inl ((IntKind.wrap .i64 (x35 + ((p1.getD x36.toNat default).n))), (IntKind.wrap .i64 (x36 + 1))))) else (some (.inl (x35, (IntKind.wrap .i64 (x36 + 1)))))) else none) else (some (.inr x35))
noncomputable def eP (p1 : List aa) (l14 : List aa) (x19 : Int) : Option (((List aa) × Int) ⊕ ((List aa) × ag)) :=
  if x19 < 0 then (some (.inr (l14, (ag.mk 0 0)))) else ((aW (fun (x35, x36) => dl p1 x19 x35 x36) (0, 0)).bind (fun z37 => gw p1 l14 x19 z37))
noncomputable def dW (p1 : List aa) (x16 : Int) (x50 : Int) (x51 : Int) : Option ((Int × Int) ⊕ Int) :=
  if x51 < (p1.length : Int) then (if x16 < 0 then (if x50 < 0 then (some (.inl (x51, (IntKind.wrap .i64 (x51 + 1))))) else (if (0 ≤ x51 ∧ x51 < (p1.length : Int)) ∧ (0 ≤ x50 ∧ x50 < (p1.length : Int)) then (if (Op.bytesLess ((p1.getD x51.toNat default).name) ((p1.getD x50.toNat default).name)) = true then (some (.inl (x51, (IntKind.wrap .i64 (x51 + 1))))) else (some (.inl (x50, (IntKind.wrap .i64 (x51 + 1)))))) else none)) else (if (0 ≤ x51 ∧ x51 < (p1.length : Int)) ∧ (0 ≤ x16 ∧ x16 < (p1.length : Int)) then (if (Op.bytesLess ((p1.getD x51.toNat default).name) ((p1.getD x16.toNat default).name) || ((p1.getD x51.toNat default).name) == ((p1.getD x16.toNat default).name)) = true then (some (.inl (x50, (IntKind.wrap .i64 (x51 + 1))))) else (if x50 < 0 then (some (.inl (x51, (IntKind.wrap .i64 (x51 + 1))))) else (if (0 ≤ x50 ∧ x50 < (p1.length : Int)) then (if (Op.bytesLess ((p1.getD x51.toNat default).name) ((p1.getD x50.toNat default).name)) = true then (some (.inl (x51, (IntKind.wrap .i64 (x51 + 1))))) else (some (.inl (x50, (IntKind.wrap .i64 (x51 + 1)))))) else none))) else none)) else (some (.inr x50))
noncomputable def dX (p1 : List aa) (l14 : List aa) (x16 : Int) : Option (((List aa) × Int) ⊕ ((List aa) × ag)) :=
  (aW (fun (x50, x51) => dW p1 x16 x50 x51) ((-1), 0)).bind (fun z52 => eP p1 l14 z52)
noncomputable def gx (p1 : List aa) : Option ((List aa) × ag) :=
  (aW (fun (l14, x16) => dX p1 l14 x16) ([], (-1))).bind (fun z53 => some z53)
noncomputable def gy (p1 : List aa) (x56 : Int) : Option (Int ⊕ (Unit ⊕ ((List aa) × ag))) :=
  if x56 < (p1.length : Int) then (if (0 ≤ x56 ∧ x56 < (p1.length : Int)) then ((fI ((p1.getD x56.toNat default).n)).bind fun y57 => if y57 = true then (some (.inl (IntKind.wrap .i64 (x56 + 1)))) else ((iq 16 x56).bind fun y58 => some (.inr (.inr ([], (y58)))))) else none) else (some (.inr (.inl ())))
noncomputable def dj (p1 : List aa) : Option ((List aa) × ag) :=
  if (p1.length : Int) > 1000 then ((iq 7 (-1)).bind fun y1 => some ([], (y1))) else ((aW (fun x56 => gy p1 x56) 0).bind (Sum.elim (fun _ => gx p1) (fun z59 => some z59)))
noncomputable def gM (l3 : List aa) : Option ((List aa) × ag) :=
  if (l3.length : Int) > 1000 then (some ([], (ag.mk 7 (-1)))) else (some (l3, (ag.mk 0 0)))
noncomputable def dY (x19 : Int) (l22 : List aa) : Option (((List aa) × Int) ⊕ ((List aa) ⊕ ((List aa) × ag))) :=
  some (.inl (l22, (IntKind.wrap .i64 (x19 + 1))))
noncomputable def eY (p1 : List aa) (p3 : List (List aa)) (x19 : Int) (y24 : Int) (l39 : List aa) (x41 : Int) : Option (((List aa) × Int) ⊕ ((List aa) ⊕ ((List aa) × ag))) :=
  if x41 < ((p3.getD y24.toNat default).length : Int) then (if (0 ≤ x41 ∧ x41 < ((p3.getD y24.toNat default).length : Int)) then (if ((p1.getD x19.toNat default).n) < (-1000000) then (some (.inr (.inr ([], (ag.mk 16 (-1)))))) else (if ((p1.getD x19.toNat default).n) > 1000000 then (some (.inr (.inr ([], (ag.mk 16 (-1)))))) else (if (((p3.getD y24.toNat default).getD x41.toNat default).n) < (-1000000) then (some (.inr (.inr ([], (ag.mk 16 (-1)))))) else (if (((p3.getD y24.toNat default).getD x41.toNat default).n) > 1000000 then (some (.inr (.inr ([], (ag.mk 16 (-1)))))) else (if gn (l39.length + 1) 24 then (some (.inl ((l39 ++ (lit ([(aa.mk (IntKind.wrap .i64 (((p1.getD x19.toNat default).n) * (((p3.getD y24.toNat default).getD x41.toNat default).n))) (((p3.getD y24.toNat default).getD x41.toNat default).name))] : List aa))), (IntKind.wrap .i64 (x41 + 1))))) else none))))) else none) else (some (.inr (.inl l39)))
noncomputable def eZ (p1 : List aa) (p2 : List (List UInt8)) (p3 : List (List aa)) (l17 : List aa) (x19 : Int) : Option (((List aa) × Int) ⊕ ((List aa) ⊕ ((List aa) × ag))) :=
  if x19 < (p1.length : Int) then (if (0 ≤ x19 ∧ x19 < (p1.length : Int)) then ((bO p2 ((p1.getD x19.toNat default).name)).bind fun y24 => if ((p1.getD x19.toNat default).name) = ([] : List UInt8) then (if gn (l17.length + 1) 24 then (dY x19 (l17 ++ (lit ([(p1.getD x19.toNat default)] : List aa)))) else none) else (if y24 < 0 then (if gn (l17.length + 1) 24 then (dY x19 (l17 ++ (lit ([(p1.getD x19.toNat default)] : List aa)))) else none) else (if y24 ≥ (p3.length : Int) then (if gn (l17.length + 1) 24 then (dY x19 (l17 ++ (lit ([(p1.getD x19.toNat default)] : List aa)))) else none) else (if (0 ≤ y24 ∧ y24 < (p3.length : Int)) then ((aW (fun (l39, x41) => eY p1 p3 x19 y24 l39 x41) (l17, 0)).bind (Sum.elim (fun z42 => dY x19 z42) (fun z43 => some (.inr (.inr z43))))) else none)))) else none) else (some (.inr (.inl l17)))
noncomputable def jk (p1 : List aa) (p2 : List (List UInt8)) (p3 : List (List aa)) : Option ((List aa) × ag) :=
  (aW (fun (l17, x19) => eZ p1 p2 p3 l17 x19) ([], 0)).bind (Sum.elim (fun z44 => gM z44) (fun z45 => some z45))
noncomputable def fJ : Option Int :=
  some (-1)
noncomputable def fK (p1 : List (List UInt8)) (p2 : List UInt8) (x3 : Int) : Option (Int ⊕ (Unit ⊕ Int)) :=
  if x3 < (p1.length : Int) then (if (0 ≤ x3 ∧ x3 < (p1.length : Int)) then (if (p1.getD x3.toNat default) = p2 then (some (.inr (.inr x3))) else (some (.inl (IntKind.wrap .i64 (x3 + 1))))) else none) else (some (.inr (.inl ())))
noncomputable def gz (p1 : List (List UInt8)) (p2 : List UInt8) : Option Int :=
  (aW (fun x3 => fK p1 p2 x3) 0).bind (Sum.elim (fun _ => fJ) (fun z4 => some z4))
noncomputable def gA (l3 : List aa) : Option ((List aa) × ag) :=
  if (l3.length : Int) > 1000 then ((iq 7 (-1)).bind fun y5 => some ([], (y5))) else (some (l3, (ag.mk 0 0)))
noncomputable def dZ (x20 : Int) (l23 : List aa) : Option (((List aa) × Int) ⊕ ((List aa) ⊕ ((List aa) × ag))) :=
  some (.inl (l23, (IntKind.wrap .i64 (x20 + 1))))
noncomputable def cw (p1 : List aa) (p3 : List (List aa)) (x20 : Int) (x27 : Int) (l42 : List aa) (x44 : Int) : Option (((List aa) × Int) ⊕ ((List aa) ⊕ ((List aa) × ag))) :=
  if (0 ≤ x27 ∧ x27 < (p3.length : Int)) then (if x44 < ((p3.getD x27.toNat default).length : Int) then (if (0 ≤ x44 ∧ x44 < ((p3.getD x27.toNat default).length : Int)) then ((fI (((p3.getD x27.toNat default).getD x44.toNat default).n)).bind fun y45 => if y45 = true then (if (0 ≤ x20 ∧ x20 < (p1.length : Int)) then ((fI ((p1.getD x20.toNat default).n)).bind fun y46 => if y46 = true then (if gn (l42.length + 1) 24 then (some (.inl ((l42 ++ (lit ([(aa.mk (IntKind.wrap .i64 (((p1.getD x20.toNat default).n) * (((p3.getD x27.toNat default).getD x44.toNat default).n))) (((p3.getD x27.toNat default).getD x44.toNat default).name))] : List aa))), (IntKind.wrap .i64 (x44 + 1))))) else none) else ((iq 16 (-1)).bind fun y47 => some (.inr (.inr ([], (y47)))))) else none) else ((iq 16 (-1)).bind fun y48 => some (.inr (.inr ([], (y48)))))) else none) else (some (.inr (.inl l42)))) else none
noncomputable def dm (p1 : List aa) (p3 : List (List aa)) (l18 : List aa) (x20 : Int) (x27 : Int) : Option (((List aa) × Int) ⊕ ((List aa) ⊕ ((List aa) × ag))) :=
  if x27 < 0 then (if (0 ≤ x20 ∧ x20 < (p1.length : Int)) ∧ gn (l18.length + 1) 24 then (dZ x20 (l18 ++ (lit ([(p1.getD x20.toNat default)] : List aa)))) else none) else (if x27 ≥ (p3.length : Int) then (if (0 ≤ x20 ∧ x20 < (p1.length : Int)) ∧ gn (l18.length + 1) 24 then (dZ x20 (l18 ++ (lit ([(p1.getD x20.toNat default)] : List aa)))) else none) else ((aW (fun (l42, x44) => cw p1 p3 x20 x27 l42 x44) (l18, 0)).bind (Sum.elim (fun z49 => dZ x20 z49) (fun z50 => some (.inr (.inr z50))))))
noncomputable def cB (p1 : List aa) (p2 : List (List UInt8)) (p3 : List (List aa)) (l18 : List aa) (x20 : Int) : Option (((List aa) × Int) ⊕ ((List aa) ⊕ ((List aa) × ag))) :=
  if x20 < (p1.length : Int) then (if (0 ≤ x20 ∧ x20 < (p1.length : Int)) then (if ((p1.getD x20.toNat default).name) = ([] : List UInt8) then (dm p1 p3 l18 x20 (-1)) else ((gz p2 ((p1.getD x20.toNat default).name)).bind fun y51 => dm p1 p3 l18 x20 y51)) else none) else (some (.inr (.inl l18)))
noncomputable def iJ (p1 : List aa) (p2 : List (List UInt8)) (p3 : List (List aa)) : Option ((List aa) × ag) :=
  (aW (fun (l18, x20) => cB p1 p2 p3 l18 x20) ([], 0)).bind (Sum.elim (fun z52 => gA z52) (fun z53 => some z53))
noncomputable def gN (x2 : Int) : Option (Int × ag) :=
  some (x2, (ag.mk 0 0))
noncomputable def aX (p2 : List (List UInt8)) (p3 : List Int) (y1 : ((List aa) × ag)) (x7 : Int) (x8 : Int) : Option ((Int × Int) ⊕ (Int ⊕ (Int × ag))) :=
  if x8 < (y1.1.length : Int) then (if (0 ≤ x8 ∧ x8 < (y1.1.length : Int)) then (if ((y1.1.getD x8.toNat default).name) = ([] : List UInt8) then (some (.inl ((IntKind.wrap .i64 (x7 + ((y1.1.getD x8.toNat default).n))), (IntKind.wrap .i64 (x8 + 1))))) else ((gz p2 ((y1.1.getD x8.toNat default).name)).bind fun y9 => if y9 < 0 then ((iq 9 (-1)).bind fun y10 => some (.inr (.inr (0, (y10))))) else (if y9 ≥ (p3.length : Int) then ((iq 9 (-1)).bind fun y11 => some (.inr (.inr (0, (y11))))) else (if (0 ≤ y9 ∧ y9 < (p3.length : Int)) then ((fI (p3.getD y9.toNat default)).bind fun y12 => if y12 = true then (some (.inl ((IntKind.wrap .i64 (x7 + (IntKind.wrap .i64 (((y1.1.getD x8.toNat default).n) * (p3.getD y9.toNat default))))), (IntKind.wrap .i64 (x8 + 1))))) else ((iq 16 (-1)).bind fun y13 => some (.inr (.inr (0, (y13)))))) else none)))) else none) else (some (.inr (.inl x7)))
noncomputable def di (p1 : List aa) (p2 : List (List UInt8)) (p3 : List Int) : Option (Int × ag) :=
  (dj p1).bind fun y1 => if ¬ ((y1.2).code) = 0 then (some (0, (y1.2))) else ((aW (fun (x7, x8) => aX p2 p3 y1 x7 x8) (0, 0)).bind (Sum.elim (fun z14 => gN z14) (fun z15 => some z15)))
noncomputable def bQ : Option Bool :=
  some true
noncomputable def bU (p1 : List aa) (p2 : List aa) (x3 : Int) : Option (Int ⊕ (Unit ⊕ Bool)) :=
  if x3 < (p1.length : Int) then (if (0 ≤ x3 ∧ x3 < (p1.length : Int)) ∧ (0 ≤ x3 ∧ x3 < (p2.length : Int)) then (if ((p1.getD x3.toNat default).n) = ((p2.getD x3.toNat default).n) ∧ ((p1.getD x3.toNat default).name) = ((p2.getD x3.toNat default).name) then (some (.inl (IntKind.wrap .i64 (x3 + 1)))) else (some (.inr (.inr false)))) else none) else (some (.inr (.inl ())))
noncomputable def cd (p1 : List aa) (p2 : List aa) : Option Bool :=
  if ¬ (p1.length : Int) = (p2.length : Int) then (some false) else ((aW (fun x3 => bU p1 p2 x3) 0).bind (Sum.elim (fun _ => bQ) (fun z4 => some z4)))
noncomputable def fT (fuel : Nat) (p1 : List aa) (p2 : List aa) : Option Bool :=
  (eu fuel p1).bind fun y1 => (eu fuel p2).bind fun y2 => if ((y1.2).code) = 0 then (if ((y2.2).code) = 0 then ((cd y1.1 y2.1).bind fun y3 => some y3) else (some false)) else (some false)
noncomputable def e7 (p1 : List aa) (p2 : List aa) : Option Bool :=
  (dj p1).bind fun y1 => (dj p2).bind fun y2 => if ((y1.2).code) = 0 then (if ((y2.2).code) = 0 then ((da y1.1 y2.1).bind fun y3 => some y3) else (some false)) else (some false)
noncomputable def it (fuel : Nat) (p1 : List aa) (p2 : List aa) (p3 : List (List UInt8)) (p4 : List (List aa)) (p5 : List Int) : Option Bool :=
  (d8 fuel ).bind fun y1 => if y1 = true then ((gh p1 p3 p4).bind fun y2 => if y2 = true then (some true) else ((fb p2).bind fun y3 => if y3 = true then (some true) else (if (p5.length : Int) > 1000 then (some true) else (if gn p1.length 24 then ((eu fuel p1).bind fun y4 => (dj p1).bind fun y5 => (jk p1 p3 p4).bind fun y6 => (iJ p1 p3 p4).bind fun y7 => (cb fuel p1 p3 p5).bind fun y8 => (di p1 p3 p5).bind fun y9 => if ((y4.2).code) = ((y5.2).code) ∧ ((y4.2).at_) = ((y5.2).at_) then ((da y4.1 y5.1).bind fun y10 => if y10 = true then (if ((y6.2).code) = ((y7.2).code) ∧ ((y6.2).at_) = ((y7.2).at_) then ((da y6.1 y7.1).bind fun y11 => if y11 = true then (if y8.1 = y9.1 then (if ((y8.2).code) = ((y9.2).code) ∧ ((y8.2).at_) = ((y9.2).at_) then ((fT fuel p1 p2).bind fun y12 => (e7 p1 p2).bind fun y13 => if y12 = y13 then ((da p1 p1).bind fun y14 => some y14) else (some false)) else (some false)) else (some false)) else (some false)) else (some false)) else (some false)) else (some false)) else none)))) else (some false)
end Pam
