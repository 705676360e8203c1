/- what kinds_Op computes, read off the program by a program of ours -/
import Derived.Test.YtjmjabdmmlgenaaDoesaData1
import Derived.Test.YtjmjabdmmlgenaaDoesBase2
set_option linter.all false
namespace Pam
open Go
noncomputable def jP (p1 : Int) : Option (Int × Int × Int) :=
  if p1 ≥ 1 then (if p1 ≤ 7 then (some (105, 105, 2)) else (if p1 = 8 then (some (105, 98, 2)) else (if p1 = 9 then (some (105, 98, 2)) else (if p1 ≥ 10 then (if p1 ≤ 12 then (some (98, 98, 2)) else (if p1 = 13 then (some (105, 105, 1)) else (if p1 = 14 then (some (98, 98, 1)) else (some (0, 0, 0))))) else (if p1 = 13 then (some (105, 105, 1)) else (if p1 = 14 then (some (98, 98, 1)) else (some (0, 0, 0)))))))) else (if p1 = 8 then (some (105, 98, 2)) else (if p1 = 9 then (some (105, 98, 2)) else (if p1 ≥ 10 then (if p1 ≤ 12 then (some (98, 98, 2)) else (if p1 = 13 then (some (105, 105, 1)) else (if p1 = 14 then (some (98, 98, 1)) else (some (0, 0, 0))))) else (if p1 = 13 then (some (105, 105, 1)) else (if p1 = 14 then (some (98, 98, 1)) else (some (0, 0, 0)))))))
noncomputable def fT (p1 : Int) (p2 : ck) : Option Bool :=
  if p1 < 0 then (some true) else (some (decide (p1 ≥ p2.m_.regs)))
noncomputable def bO : Option Int :=
  some (-1)
noncomputable def bP (p1 : List Int) (p2 : ck) (x3 : Int) : Option (Int ⊕ (Unit ⊕ Int)) :=
  if x3 < (p1.length : Int) then (if (0 ≤ x3 ∧ x3 < (p1.length : Int)) then ((fT (p1.getD x3.toNat default) p2).bind fun y4 => if y4 = true then (some (.inr (.inr x3))) else (some (.inl (IntKind.wrap .i64 (x3 + 1))))) else none) else (some (.inr (.inl ())))
noncomputable def cm (p1 : List Int) (p2 : ck) : Option Int :=
  (aU (fun x3 => bP p1 p2 x3) 0).bind (Sum.elim (fun _ => bO) (fun z5 => some z5))
noncomputable def cD (p1 : List Int) (p2 : ck) : Option Bool :=
  (cm p1 p2).bind fun y1 => some (decide (y1 ≥ 0))
noncomputable def bD (p1 : ck) (p2 : List Int) : Option Bool :=
  (cD p2 p1).bind fun y1 => some (!y1)
noncomputable def cV (p1 : ck) (p2 : Int) (p3 : Int) : Option Bool :=
  if p3 ≥ 1 then (if p3 ≤ p1.m_.cells then (if p2 ≥ 0 then (some (decide (p2 ≤ (IntKind.wrap .i64 (p1.m_.cells - p3))))) else (some false)) else (some false)) else (some false)
noncomputable def cW (p1 : ck) (p2 : ax) (y1 : (Int × Int × Int)) (b6 : Bool) : Option Bool :=
  if b6 = true then ((bD p1 (lit ([p2.r_, p2.a] : List Int))).bind fun y7 => if y7 = true then ((cV p1 p2.n p2.b).bind fun y8 => some y8) else (some false)) else (if p2.op = 6 then ((bD p1 (lit ([p2.r_, p2.a] : List Int))).bind fun y9 => if y9 = true then (some (y1.2.2 == 1)) else (some false)) else (if p2.op = 7 then ((bD p1 (lit ([p2.r_, p2.a, p2.b] : List Int))).bind fun y10 => if y10 = true then (some (y1.2.2 == 2)) else (some false)) else (if p2.op = 8 then ((bD p1 (lit ([p2.r_, p2.a, p2.b] : List Int))).bind fun y11 => some y11) else (if p2.op = 9 then ((bD p1 (lit ([p2.r_, p2.a] : List Int))).bind fun y12 => some y12) else (if p2.op = 10 then ((bD p1 (lit ([p2.r_] : List Int))).bind fun y13 => if y13 = true then (if p2.n ≥ 1 then (some (decide (p2.n ≤ 300))) else (some false)) else (some false)) else (some (p2.op == 11)))))))
noncomputable def cX (p1 : ck) (p2 : ax) (y1 : (Int × Int × Int)) (b3 : Bool) : Option Bool :=
  if b3 = true then ((bD p1 (lit ([p2.r_] : List Int))).bind fun y4 => if y4 = true then ((cV p1 p2.n 1).bind fun y5 => some y5) else (some false)) else (if p2.op = 3 then (cW p1 p2 y1 (p2.op == 3)) else (cW p1 p2 y1 (p2.op == 5)))
noncomputable def dy (p1 : ck) (p2 : ax) : Option Bool :=
  (jP p2.k).bind fun y1 => if p2.op = 1 then ((bD p1 (lit ([p2.r_] : List Int))).bind fun y2 => some y2) else (if p2.op = 2 then (cX p1 p2 y1 (p2.op == 2)) else (cX p1 p2 y1 (p2.op == 4)))
noncomputable def eR (x1 : Int) (x2 : Int) : Option Int :=
  if x2 > 0 then (some 0) else (some x1)
noncomputable def eT (p1 : List ax) (x11 : Int) (x12 : Int) (x13 : Int) (x14 : Int) : Option ((Int × Int × Int × Int) ⊕ ((Int × Int) ⊕ Int)) :=
  if x14 < (p1.length : Int) then (if (0 ≤ x14 ∧ x14 < (p1.length : Int)) then (if ((p1.getD x14.toNat default).op) = 10 then (if x12 > 1 then (some (.inr (.inr 0))) else (if x13 > 0 then (some (.inr (.inr 0))) else (if ((p1.getD x14.toNat default).n) < 1 then (some (.inr (.inr 0))) else (if ((p1.getD x14.toNat default).n) > 300 then (some (.inr (.inr 0))) else (some (.inl ((IntKind.wrap .i64 (x11 + x12)), (p1.getD x14.toNat default).n, 1, (IntKind.wrap .i64 (x14 + 1))))))))) else (if ((p1.getD x14.toNat default).op) = 11 then (if x13 = 0 then (some (.inr (.inr 0))) else (some (.inl ((IntKind.wrap .i64 (x11 + x12)), 1, 0, (IntKind.wrap .i64 (x14 + 1)))))) else (some (.inl ((IntKind.wrap .i64 (x11 + x12)), x12, x13, (IntKind.wrap .i64 (x14 + 1))))))) else none) else (some (.inr (.inl (x11, x13))))
noncomputable def ja (p1 : List ax) : Option Int :=
  (aU (fun (x11, x12, x13, x14) => eT p1 x11 x12 x13 x14) (0, 1, 0, 0)).bind (Sum.elim (fun (z15, z16) => eR z15 z16) (fun z17 => some z17))
noncomputable def fd (p1 : aj) : Option af :=
  (ja p1.code).bind fun y1 => if y1 = 0 then (if (p1.code.length : Int) > 0 then (some (af.mk 18 (-1))) else (if ¬ y1 = p1.cost then (some (af.mk 18 (-1))) else (some (af.mk 0 0)))) else (if ¬ y1 = p1.cost then (some (af.mk 18 (-1))) else (some (af.mk 0 0)))
noncomputable def fe (p1 : aj) (x4 : Int) : Option (Int ⊕ (Unit ⊕ af)) :=
  if x4 < (p1.code.length : Int) then (if (0 ≤ x4 ∧ x4 < (p1.code.length : Int)) then ((dy (ck.mk p1) (p1.code.getD x4.toNat default)).bind fun y5 => if y5 = true then (some (.inl (IntKind.wrap .i64 (x4 + 1)))) else (some (.inr (.inr (af.mk 4 x4))))) else none) else (some (.inr (.inl ())))
noncomputable def ff (p1 : aj) : Option af :=
  (aU (fun x4 => fe p1 x4) 0).bind (Sum.elim (fun _ => fd p1) (fun z6 => some z6))
noncomputable def fg (x9 : Int) : Option (Int ⊕ (Unit ⊕ af)) :=
  some (.inl (IntKind.wrap .i64 (x9 + 1)))
noncomputable def fh (p1 : aj) (x9 : Int) (x12 : Int) : Option (Int ⊕ (Unit ⊕ af)) :=
  if x12 < (((lit ([p1.put, p1.bools, p1.get] : List (List Int))).getD x9.toNat default).length : Int) then (if (0 ≤ x12 ∧ x12 < (((lit ([p1.put, p1.bools, p1.get] : List (List Int))).getD x9.toNat default).length : Int)) then (if (((lit ([p1.put, p1.bools, p1.get] : List (List Int))).getD x9.toNat default).getD x12.toNat default) < 0 then (some (.inr (.inr (af.mk 16 (-1))))) else (if (((lit ([p1.put, p1.bools, p1.get] : List (List Int))).getD x9.toNat default).getD x12.toNat default) ≥ p1.cells then (some (.inr (.inr (af.mk 16 (-1))))) else (some (.inl (IntKind.wrap .i64 (x12 + 1)))))) else none) else (some (.inr (.inl ())))
noncomputable def fj (p1 : aj) (x9 : Int) : Option (Int ⊕ (Unit ⊕ af)) :=
  if x9 < (3 : Int) then (if (0 ≤ x9 ∧ x9 < (3 : Int)) then ((aU (fun x12 => fh p1 x9 x12) 0).bind (Sum.elim (fun _ => fg x9) (fun z13 => some (.inr (.inr z13))))) else none) else (some (.inr (.inl ())))
noncomputable def fC (p1 : aj) : Option af :=
  if p1.cells < 1 then (some (af.mk 13 (-1))) else (if p1.cells > 6000 then (some (af.mk 13 (-1))) else (if p1.regs < 1 then (some (af.mk 13 (-1))) else (if p1.regs > 40 then (some (af.mk 13 (-1))) else (if (p1.put.length : Int) > 6000 then (some (af.mk 7 (-1))) else (if (p1.bools.length : Int) > 6000 then (some (af.mk 7 (-1))) else (if (p1.get.length : Int) > 120000 then (some (af.mk 7 (-1))) else (if (p1.code.length : Int) > 200000 then (some (af.mk 7 (-1))) else ((aU (fun x9 => fj p1 x9) 0).bind (Sum.elim (fun _ => ff p1) (fun z14 => some z14))))))))))
noncomputable def dE (x15 : Int) (l18 : List Int) : Option (((List Int) × Int) ⊕ (List Int)) :=
  some (.inl (l18, (IntKind.wrap .i64 (x15 + 1))))
noncomputable def ca (x15 : Int) (l22 : List Int) (x24 : Int) : Option (((List Int) × Int) ⊕ (List Int)) :=
  if fo (l22.length + 1) 1 then (dE x15 (l22 ++ (lit ([(IntKind.wrap .u8 x24)] : List Int)))) else none
noncomputable def bB (l39 : List Int) (x41 : Int) : Option (((List Int) × Int) ⊕ ((List Int) × Int)) :=
  if x41 ≥ 128 then (if fo (l39.length + 1) 1 then (some (.inl ((l39 ++ (lit ([(bits .or .u8 (IntKind.wrap .u8 x41) 128)] : List Int))), (x41.fdiv (2 ^ (min 7 (IntKind.bits .u64))))))) else none) else (some (.inr (l39, x41)))
noncomputable def bC (p1 : List Int) (l13 : List Int) (x15 : Int) : Option (((List Int) × Int) ⊕ (List Int)) :=
  if x15 < (p1.length : Int) then (if (0 ≤ x15 ∧ x15 < (p1.length : Int)) then ((aU (fun (l39, x41) => bB l39 x41) (l13, (bits .xor .u64 (IntKind.wrap .u64 ((IntKind.wrap .u64 (p1.getD x15.toNat default)) * 2 ^ (min 1 (IntKind.bits .u64)))) (IntKind.wrap .u64 ((p1.getD x15.toNat default).fdiv (2 ^ (min 63 (IntKind.bits .i64)))))))).bind (fun (z42, z43) => ca x15 z42 z43)) else none) else (some (.inr l13))
noncomputable def bN (p1 : List Int) (p2 : List Int) : Option (List Int) :=
  (aU (fun (l13, x15) => bC p1 l13 x15) (p2, 0)).bind (fun z44 => some z44)
noncomputable def bq (p1 : List Int) (l17 : List Int) (x19 : Int) : Option (((List Int) × Int) ⊕ (List Int)) :=
  if x19 < (p1.length : Int) then (if (0 ≤ x19 ∧ x19 < (p1.length : Int)) then ((bN (lit ([(p1.getD x19.toNat default)] : List Int)) l17).bind fun y20 => some (.inl (y20, (IntKind.wrap .i64 (x19 + 1))))) else none) else (some (.inr l17))
noncomputable def cH (p1 : List Int) (p2 : List Int) : Option (List Int) :=
  (bN (lit ([(p1.length : Int)] : List Int)) p2).bind fun y1 => (aU (fun (l17, x19) => bq p1 l17 x19) (y1, 0)).bind (fun z22 => some z22)
noncomputable def gG (x1 : Int) : Option Int :=
  some (bits .xor .u32 (if (IntKind.u32).signed then -1 else (IntKind.u32).max) x1)
noncomputable def gH (x7 : Int) (x8 : Int) : Option ((Int × Int) ⊕ Int) :=
  some (.inl (x8, (IntKind.wrap .i64 (x7 + 1))))
noncomputable def js (x13 : Int) (x14 : Int) : Option ((Int × Int) ⊕ Int) :=
  if x14 < 8 then (some (.inl ((bits .xor .u32 (x13.fdiv (2 ^ (min 1 (IntKind.bits .u32)))) (bits .and .u32 3988292384 (IntKind.wrap .u32 (0 - (bits .and .u32 x13 1))))), (IntKind.wrap .i64 (x14 + 1))))) else (some (.inr x13))
noncomputable def jt (p1 : List Int) (x6 : Int) (x7 : Int) : Option ((Int × Int) ⊕ Int) :=
  if x7 < (p1.length : Int) then (if (0 ≤ x7 ∧ x7 < (p1.length : Int)) then ((aU (fun (x13, x14) => js x13 x14) ((bits .xor .u32 x6 (IntKind.wrap .u32 (p1.getD x7.toNat default))), 0)).bind (fun z15 => gH x7 z15)) else none) else (some (.inr x6))
noncomputable def j8 (p1 : List Int) : Option Int :=
  (aU (fun (x6, x7) => jt p1 x6 x7) (4294967295, 0)).bind (fun z16 => gG z16)
noncomputable def eZ (l19 : List Int) : Option ((List Int) × af) :=
  some (l19, (af.mk 0 0))
noncomputable def bI (l37 : List Int) (x39 : Int) (x40 : Int) : Option (((List Int) × Int × Int) ⊕ (List Int)) :=
  if x40 < 4 then (if fo (l37.length + 1) 1 then (some (.inl ((l37 ++ (lit ([(IntKind.wrap .u8 x39)] : List Int))), (x39.fdiv (2 ^ (min 8 (IntKind.bits .u32)))), (IntKind.wrap .i64 (x40 + 1))))) else none) else (some (.inr l37))
noncomputable def dz (l14 : List Int) : Option ((List Int) × af) :=
  (j8 l14).bind fun y16 => (aU (fun (l37, x39, x40) => bI l37 x39 x40) (l14, y16, 0)).bind (fun z41 => eZ z41)
noncomputable def bU (p1 : aj) (l56 : List Int) (x58 : Int) : Option (((List Int) × Int) ⊕ (List Int)) :=
  if x58 < (p1.code.length : Int) then (if (0 ≤ x58 ∧ x58 < (p1.code.length : Int)) then ((bN (lit ([(p1.code.getD x58.toNat default).op, (p1.code.getD x58.toNat default).k, (p1.code.getD x58.toNat default).r_, (p1.code.getD x58.toNat default).a, (p1.code.getD x58.toNat default).b, (p1.code.getD x58.toNat default).n] : List Int)) l56).bind fun y59 => some (.inl (y59, (IntKind.wrap .i64 (x58 + 1))))) else none) else (some (.inr l56))
noncomputable def d7 (p1 : aj) : Option ((List Int) × af) :=
  (fC p1).bind fun y1 => if ¬ ((y1).code) = 0 then (some ([], (y1))) else ((bN (lit ([p1.cells, p1.regs, p1.cost] : List Int)) (lit ([76, 87, 1] : List Int))).bind fun y2 => (cH p1.put y2).bind fun y4 => (cH p1.bools y4).bind fun y6 => (cH p1.get y6).bind fun y8 => (bN (lit ([(p1.code.length : Int)] : List Int)) y8).bind fun y10 => (aU (fun (l56, x58) => bU p1 l56 x58) (y10, 0)).bind (fun z61 => dz z61))
noncomputable def ey (x1 : Int) : Option Int :=
  some (bits .xor .u32 (if (IntKind.u32).signed then -1 else (IntKind.u32).max) x1)
noncomputable def ez (x7 : Int) (x8 : Int) : Option ((Int × Int) ⊕ Int) :=
  some (.inl (x8, (IntKind.wrap .i64 (x7 + 1))))
noncomputable def cn (x13 : Int) (x14 : Int) : Option ((Int × Int) ⊕ Int) :=
  if x14 < 8 then (some (.inl ((bits .xor .u32 (x13.fdiv (2 ^ (min 1 (IntKind.bits .u32)))) (bits .and .u32 3988292384 (IntKind.wrap .u32 (0 - (bits .and .u32 x13 1))))), (IntKind.wrap .i64 (x14 + 1))))) else (some (.inr x13))
noncomputable def cI (p1 : List Int) (x6 : Int) (x7 : Int) : Option ((Int × Int) ⊕ Int) :=
  if x7 < (p1.length : Int) then (if (0 ≤ x7 ∧ x7 < (p1.length : Int)) then ((aU (fun (x13, x14) => cn x13 x14) ((bits .xor .u32 x6 (IntKind.wrap .u32 (p1.getD x7.toNat default))), 0)).bind (fun z15 => ez x7 z15)) else none) else (some (.inr x6))
noncomputable def eN (p1 : List Int) : Option Int :=
  (aU (fun (x6, x7) => cI p1 x6 x7) (4294967295, 0)).bind (fun z16 => ey z16)
noncomputable def fD : Option Bool :=
  (d7 (aj.mk 100 3 0 [] [] [] [])).bind fun y1 => if ((y1.2).code) = 0 then (if (y1.1.length : Int) = 15 then (if (0 ≤ 3 ∧ 3 < (y1.1.length : Int)) then (if (y1.1.getD 3 default) = 200 then (if (0 ≤ 4 ∧ 4 < (y1.1.length : Int)) then (if (y1.1.getD 4 default) = 1 then ((eN (lit ([49, 50, 51, 52, 53, 54, 55, 56, 57] : List Int))).bind fun y2 => some (y2 == 3421780262)) else (some false)) else none) else (some false)) else none) else (some false)) else (some false)
noncomputable def fE (p1 : aj) : Option Bool :=
  if (p1.put.length : Int) > 7000 then (some true) else (if (p1.bools.length : Int) > 7000 then (some true) else (if (p1.get.length : Int) > 20000 then (some true) else (some (decide ((p1.code.length : Int) > 20000)))))
noncomputable def gW (p1 : aj) : Option aj :=
  if fo p1.put.length 8 ∧ fo p1.bools.length 8 ∧ fo p1.get.length 8 ∧ fo p1.code.length 48 then (some p1) else none
noncomputable def cb (x1 : Int) (x2 : Int) : Option ((Int × Int) ⊕ (Int × Int)) :=
  some (.inl ((bits .xor .i64 (IntKind.wrap .i64 (x2.fdiv (2 ^ (min 1 (IntKind.bits .u64))))) (IntKind.wrap .i64 (0 - (IntKind.wrap .i64 (bits .and .u64 x2 1))))), x1))
noncomputable def bp (p1 : aD) (x9 : Int) (x10 : Int) (x11 : Int) : Option ((Int × Int × Int) ⊕ ((Int × Int) ⊕ ((Int × Int) ⊕ (Int × Int)))) :=
  if 0 ≤ (IntKind.wrap .i64 (7 * x11)) then (if (p1.b.getD x9.toNat default) < 128 then (some (.inr (.inl ((IntKind.wrap .i64 (x9 + 1)), (bits .or .u64 x10 (IntKind.wrap .u64 ((IntKind.wrap .u64 (bits .and .u8 (p1.b.getD x9.toNat default) 127)) * 2 ^ (min ((IntKind.wrap .i64 (7 * x11)).toNat) (IntKind.bits .u64))))))))) else (some (.inl ((IntKind.wrap .i64 (x9 + 1)), (bits .or .u64 x10 (IntKind.wrap .u64 ((IntKind.wrap .u64 (bits .and .u8 (p1.b.getD x9.toNat default) 127)) * 2 ^ (min ((IntKind.wrap .i64 (7 * x11)).toNat) (IntKind.bits .u64))))), (IntKind.wrap .i64 (x11 + 1)))))) else none
noncomputable def be (p1 : aD) (x9 : Int) (x10 : Int) (x11 : Int) : Option ((Int × Int × Int) ⊕ ((Int × Int) ⊕ ((Int × Int) ⊕ (Int × Int)))) :=
  if x11 < 10 then (if x9 ≥ (p1.b.length : Int) then (some (.inr (.inr (.inr (5, (p1.b.length : Int)))))) else (if (0 ≤ x9 ∧ x9 < (p1.b.length : Int)) then (if x11 = 9 then (if (p1.b.getD x9.toNat default) > 1 then (some (.inr (.inr (.inr (2, x9))))) else (if x11 > 0 then (if (p1.b.getD x9.toNat default) = 0 then (some (.inr (.inr (.inr (2, x9))))) else (bp p1 x9 x10 x11)) else (bp p1 x9 x10 x11))) else (if x11 > 0 then (if (p1.b.getD x9.toNat default) = 0 then (some (.inr (.inr (.inr (2, x9))))) else (bp p1 x9 x10 x11)) else (bp p1 x9 x10 x11))) else none)) else (some (.inr (.inl (x9, x10))))
noncomputable def aV (p1 : aD) : Option ((Int × Int) ⊕ (Int × Int)) :=
  (aU (fun (x9, x10, x11) => be p1 x9 x10 x11) (p1.at_, 0, 0)).bind (Sum.elim (fun (z12, z13) => cb z12 z13) (fun z14 => some z14))
noncomputable def cY (p1 : Int) (p2 : aD) : Option ((Int × Int) ⊕ (Int × Int)) :=
  (aV p2).bind fun y1 => Sum.elim (fun y4 => if y4.1 < 0 then (some (.inr (7, p2.at_))) else (if p1 ≠ 0 then (if y4.1 > (IntKind.wrap .i64 ((IntKind.wrap .i64 ((p2.b.length : Int) - y4.2)).tdiv p1)) then (some (.inr (7, p2.at_))) else (some (.inl (y4.1, y4.2)))) else none)) (fun y5 => some (.inr (y5.1, y5.2))) y1
noncomputable def dk (x3 : Int) (l4 : List Int) : Option (((List Int) × Int) ⊕ (Int × Int)) :=
  some (.inl (l4, x3))
noncomputable def br (p1 : aD) (y9 : (Int × Int)) (x25 : Int) (l26 : List Int) (x28 : Int) : Option ((Int × (List Int) × Int) ⊕ ((Int × (List Int)) ⊕ (((List Int) × Int) ⊕ (Int × Int)))) :=
  if x28 < y9.1 then ((aV (aD.mk p1.b x25)).bind fun y29 => Sum.elim (fun y32 => if fo (l26.length + 1) 8 then (some (.inl (y32.2, (l26 ++ (lit ([y32.1] : List Int))), (IntKind.wrap .i64 (x28 + 1))))) else none) (fun y33 => some (.inr (.inr (.inr (y33.1, y33.2))))) y29) else (some (.inr (.inl (x25, l26))))
noncomputable def cJ (p1 : aD) : Option (((List Int) × Int) ⊕ (Int × Int)) :=
  (cY 1 p1).bind fun y6 => Sum.elim (fun y9 => (aU (fun (x25, l26, x28) => br p1 y9 x25 l26 x28) (y9.2, [], 0)).bind (Sum.elim (fun (z34, z35) => dk z34 z35) (fun z36 => some z36))) (fun y10 => some (.inr (y10.1, y10.2))) y6
noncomputable def cT (y4 : (Int × Int)) (y9 : (Int × Int)) (y14 : (Int × Int)) (y19 : ((List Int) × Int)) (y24 : ((List Int) × Int)) (y29 : ((List Int) × Int)) (x33 : Int) (l34 : List ax) : Option ((aj × Int) ⊕ (Int × Int)) :=
  some (.inl ((aj.mk y4.1 y9.1 y14.1 y19.1 y24.1 y29.1 l34), x33))
noncomputable def bm (p1 : aD) (y39 : (Int × Int)) (x55 : Int) (l56 : List ax) (x58 : Int) : Option ((Int × (List ax) × Int) ⊕ ((Int × (List ax)) ⊕ ((aj × Int) ⊕ (Int × Int)))) :=
  if x58 < y39.1 then ((aV (aD.mk p1.b x55)).bind fun y59 => Sum.elim (fun y62 => (aV (aD.mk p1.b y62.2)).bind fun y64 => Sum.elim (fun y67 => (aV (aD.mk p1.b y67.2)).bind fun y69 => Sum.elim (fun y72 => (aV (aD.mk p1.b y72.2)).bind fun y74 => Sum.elim (fun y77 => (aV (aD.mk p1.b y77.2)).bind fun y79 => Sum.elim (fun y82 => (aV (aD.mk p1.b y82.2)).bind fun y84 => Sum.elim (fun y87 => if fo (l56.length + 1) 48 then (some (.inl (y87.2, (l56 ++ (lit ([(ax.mk y62.1 y67.1 y72.1 y77.1 y82.1 y87.1)] : List ax))), (IntKind.wrap .i64 (x58 + 1))))) else none) (fun y88 => some (.inr (.inr (.inr (y88.1, y88.2))))) y84) (fun y83 => some (.inr (.inr (.inr (y83.1, y83.2))))) y79) (fun y78 => some (.inr (.inr (.inr (y78.1, y78.2))))) y74) (fun y73 => some (.inr (.inr (.inr (y73.1, y73.2))))) y69) (fun y68 => some (.inr (.inr (.inr (y68.1, y68.2))))) y64) (fun y63 => some (.inr (.inr (.inr (y63.1, y63.2))))) y59) else (some (.inr (.inl (x55, l56))))
noncomputable def cZ (p1 : aD) : Option ((aj × Int) ⊕ (Int × Int)) :=
  (aV p1).bind fun y1 => Sum.elim (fun y4 => (aV (aD.mk p1.b y4.2)).bind fun y6 => Sum.elim (fun y9 => (aV (aD.mk p1.b y9.2)).bind fun y11 => Sum.elim (fun y14 => (cJ (aD.mk p1.b y14.2)).bind fun y16 => Sum.elim (fun y19 => (cJ (aD.mk p1.b y19.2)).bind fun y21 => Sum.elim (fun y24 => (cJ (aD.mk p1.b y24.2)).bind fun y26 => Sum.elim (fun y29 => (cY 6 (aD.mk p1.b y29.2)).bind fun y36 => Sum.elim (fun y39 => (aU (fun (x55, l56, x58) => bm p1 y39 x55 l56 x58) (y39.2, [], 0)).bind (Sum.elim (fun (z89, z90) => cT y4 y9 y14 y19 y24 y29 z89 z90) (fun z91 => some z91))) (fun y40 => some (.inr (y40.1, y40.2))) y36) (fun y30 => some (.inr (y30.1, y30.2))) y26) (fun y25 => some (.inr (y25.1, y25.2))) y21) (fun y20 => some (.inr (y20.1, y20.2))) y16) (fun y15 => some (.inr (y15.1, y15.2))) y11) (fun y10 => some (.inr (y10.1, y10.2))) y6) (fun y5 => some (.inr (y5.1, y5.2))) y1
noncomputable def eU (p1 : List Int) : Option (aj × af) :=
  if (IntKind.wrap .i64 ((p1.length : Int) - 4)) < 3 then (some ((aj.mk 0 0 0 [] [] [] []), (af.mk 5 (p1.length : Int)))) else (if (0 ≤ 3 ∧ 3 ≤ (p1.length : Int)) then (if (iA (p1.take 3)) = ([76, 87, 1] : List UInt8) then (if (0 ≤ (IntKind.wrap .i64 ((p1.length : Int) - 4)) ∧ (IntKind.wrap .i64 ((p1.length : Int) - 4)) < (p1.length : Int)) ∧ (0 ≤ (IntKind.wrap .i64 ((IntKind.wrap .i64 ((p1.length : Int) - 4)) + 1)) ∧ (IntKind.wrap .i64 ((IntKind.wrap .i64 ((p1.length : Int) - 4)) + 1)) < (p1.length : Int)) ∧ (0 ≤ (IntKind.wrap .i64 ((IntKind.wrap .i64 ((p1.length : Int) - 4)) + 2)) ∧ (IntKind.wrap .i64 ((IntKind.wrap .i64 ((p1.length : Int) - 4)) + 2)) < (p1.length : Int)) ∧ (0 ≤ (IntKind.wrap .i64 ((IntKind.wrap .i64 ((p1.length : Int) - 4)) + 3)) ∧ (IntKind.wrap .i64 ((IntKind.wrap .i64 ((p1.length : Int) - 4)) + 3)) < (p1.length : Int)) then (if (0 ≤ (IntKind.wrap .i64 ((p1.length : Int) - 4)) ∧ (IntKind.wrap .i64 ((p1.length : Int) - 4)) ≤ (p1.length : Int)) then ((eN (p1.take ((IntKind.wrap .i64 ((p1.length : Int) - 4)).toNat))).bind fun y1 => if ¬ y1 = (bits .or .u32 (bits .or .u32 (bits .or .u32 (IntKind.wrap .u32 (p1.getD ((IntKind.wrap .i64 ((p1.length : Int) - 4)).toNat) default)) (IntKind.wrap .u32 ((IntKind.wrap .u32 (p1.getD ((IntKind.wrap .i64 ((IntKind.wrap .i64 ((p1.length : Int) - 4)) + 1)).toNat) default)) * 2 ^ (min 8 (IntKind.bits .u32))))) (IntKind.wrap .u32 ((IntKind.wrap .u32 (p1.getD ((IntKind.wrap .i64 ((IntKind.wrap .i64 ((p1.length : Int) - 4)) + 2)).toNat) default)) * 2 ^ (min 16 (IntKind.bits .u32))))) (IntKind.wrap .u32 ((IntKind.wrap .u32 (p1.getD ((IntKind.wrap .i64 ((IntKind.wrap .i64 ((p1.length : Int) - 4)) + 3)).toNat) default)) * 2 ^ (min 24 (IntKind.bits .u32))))) then (some ((aj.mk 0 0 0 [] [] [] []), (af.mk 19 (IntKind.wrap .i64 ((p1.length : Int) - 4))))) else ((cZ (aD.mk (p1.take ((IntKind.wrap .i64 ((p1.length : Int) - 4)).toNat)) 3)).bind fun y2 => Sum.elim (fun y5 => if y5.2 < (IntKind.wrap .i64 ((p1.length : Int) - 4)) then (some ((aj.mk 0 0 0 [] [] [] []), (af.mk 4 y5.2))) else ((fC (y5.1)).bind fun y7 => if ¬ ((y7).code) = 0 then (some ((aj.mk 0 0 0 [] [] [] []), (af.mk 18 (IntKind.wrap .i64 ((p1.length : Int) - 4))))) else (some ((y5.1), (af.mk 0 0))))) (fun y6 => some ((aj.mk 0 0 0 [] [] [] []), (af.mk y6.1 y6.2))) y2)) else none) else none) else (some ((aj.mk 0 0 0 [] [] [] []), (af.mk 4 0)))) else none)
noncomputable def eA (p1 : Int) (p2 : Int) : Option af :=
  some (af.mk p1 p2)
noncomputable def fF (p1 : Int) (x1 : Int) : Option (Int × Int × Int) :=
  if (0 ≤ p1 ∧ p1 < (([63, 105, 105, 105, 105, 105, 105, 105, 105, 105, 98, 98, 98, 105, 98] : List UInt8).length : Int)) ∧ (0 ≤ p1 ∧ p1 < (([63, 105, 105, 105, 105, 105, 105, 105, 98, 98, 98, 98, 98, 105, 98] : List UInt8).length : Int)) then (some (((([63, 105, 105, 105, 105, 105, 105, 105, 105, 105, 98, 98, 98, 105, 98] : List UInt8).getD p1.toNat 0).toNat : Int), ((([63, 105, 105, 105, 105, 105, 105, 105, 98, 98, 98, 98, 98, 105, 98] : List UInt8).getD p1.toNat 0).toNat : Int), x1)) else none
noncomputable def jQ (p1 : Int) : Option (Int × Int × Int) :=
  if p1 < 1 then (some (0, 0, 0)) else (if p1 > 14 then (some (0, 0, 0)) else (if p1 ≥ 13 then (fF p1 1) else (fF p1 2)))
noncomputable def gc : Option Bool :=
  some true
noncomputable def gf (p1 : aj) (p2 : List Int) (x3 : Int) : Option (Int ⊕ (Unit ⊕ Bool)) :=
  if x3 < (p2.length : Int) then (if (0 ≤ x3 ∧ x3 < (p2.length : Int)) then (if (p2.getD x3.toNat default) < 0 then (some (.inr (.inr false))) else (if (p2.getD x3.toNat default) ≥ p1.regs then (some (.inr (.inr false))) else (some (.inl (IntKind.wrap .i64 (x3 + 1)))))) else none) else (some (.inr (.inl ())))
noncomputable def c9 (p1 : aj) (p2 : List Int) : Option Bool :=
  (aU (fun x3 => gf p1 p2 x3) 0).bind (Sum.elim (fun _ => gc) (fun z4 => some z4))
noncomputable def fU (p1 : aj) (p2 : ax) (y1 : (Int × Int × Int)) (b5 : Bool) : Option Bool :=
  if b5 = true then ((c9 p1 (lit ([p2.r_, p2.a] : List Int))).bind fun y6 => if y6 = true then (if p2.n ≥ 0 then (if p2.n < p1.cells then (if p2.b ≥ 1 then (some (decide (p2.b ≤ (IntKind.wrap .i64 (p1.cells - p2.n))))) else (some false)) else (some false)) else (some false)) else (some false)) else (if p2.op = 6 then ((c9 p1 (lit ([p2.r_, p2.a] : List Int))).bind fun y7 => if y7 = true then (some (y1.2.2 == 1)) else (some false)) else (if p2.op = 7 then ((c9 p1 (lit ([p2.r_, p2.a, p2.b] : List Int))).bind fun y8 => if y8 = true then (some (y1.2.2 == 2)) else (some false)) else (if p2.op = 8 then ((c9 p1 (lit ([p2.r_, p2.a, p2.b] : List Int))).bind fun y9 => some y9) else (if p2.op = 9 then ((c9 p1 (lit ([p2.r_, p2.a] : List Int))).bind fun y10 => some y10) else (if p2.op = 10 then ((c9 p1 (lit ([p2.r_] : List Int))).bind fun y11 => if y11 = true then (if p2.n ≥ 1 then (some (decide (p2.n ≤ 300))) else (some false)) else (some false)) else (some (p2.op == 11)))))))
noncomputable def fV (p1 : aj) (p2 : ax) (y1 : (Int × Int × Int)) (b3 : Bool) : Option Bool :=
  if b3 = true then ((c9 p1 (lit ([p2.r_] : List Int))).bind fun y4 => if y4 = true then (if p2.n ≥ 0 then (some (decide (p2.n < p1.cells))) else (some false)) else (some false)) else (if p2.op = 3 then (fU p1 p2 y1 (p2.op == 3)) else (fU p1 p2 y1 (p2.op == 5)))
noncomputable def io (p1 : aj) (p2 : ax) : Option Bool :=
  (jQ p2.k).bind fun y1 => if p2.op = 1 then ((c9 p1 (lit ([p2.r_] : List Int))).bind fun y2 => some y2) else (if p2.op = 2 then (fV p1 p2 y1 (p2.op == 2)) else (fV p1 p2 y1 (p2.op == 4)))
noncomputable def ed (x1 : Int) : Option Int :=
  some x1
noncomputable def ee (x8 : Int) (x9 : Int) : Option ((Int × Int) ⊕ (Int ⊕ Int)) :=
  some (.inl (x8, (IntKind.wrap .i64 (x9 + 1))))
noncomputable def db (p1 : List ax) (x6 : Int) (x7 : Int) (x10 : Int) : Option ((Int × Int) ⊕ (Int ⊕ Int)) :=
  if x10 = (p1.length : Int) then (some (.inr (.inr 0))) else (if ((p1.getD x7.toNat default).n) < 1 then (some (.inr (.inr 0))) else (if ((p1.getD x7.toNat default).n) > 300 then (some (.inr (.inr 0))) else (ee (IntKind.wrap .i64 ((IntKind.wrap .i64 (x6 + 1)) + (IntKind.wrap .i64 (((p1.getD x7.toNat default).n) * (IntKind.wrap .i64 (x10 - x7)))))) x10)))
noncomputable def cF (p1 : List ax) (x13 : Int) : Option (Int ⊕ (Int ⊕ Int)) :=
  if x13 < (p1.length : Int) then (if (0 ≤ x13 ∧ x13 < (p1.length : Int)) then (if ¬ ((p1.getD x13.toNat default).op) = 11 then (if ((p1.getD x13.toNat default).op) = 10 then (some (.inr (.inr 0))) else (some (.inl (IntKind.wrap .i64 (x13 + 1))))) else (some (.inr (.inl x13)))) else none) else (some (.inr (.inl x13)))
noncomputable def eg (p1 : List ax) (x6 : Int) (x7 : Int) : Option ((Int × Int) ⊕ (Int ⊕ Int)) :=
  if x7 < (p1.length : Int) then (if (0 ≤ x7 ∧ x7 < (p1.length : Int)) then (if ((p1.getD x7.toNat default).op) = 11 then (some (.inr (.inr 0))) else (if ¬ ((p1.getD x7.toNat default).op) = 10 then (ee (IntKind.wrap .i64 (x6 + 1)) x7) else ((aU (fun x13 => cF p1 x13) (IntKind.wrap .i64 (x7 + 1))).bind (Sum.elim (fun z14 => db p1 x6 x7 z14) (fun z15 => some (.inr (.inr z15))))))) else none) else (some (.inr (.inl x6)))
noncomputable def iB (p1 : List ax) : Option Int :=
  (aU (fun (x6, x7) => eg p1 x6 x7) (0, 0)).bind (Sum.elim (fun z16 => ed z16) (fun z17 => some z17))
noncomputable def dp (p1 : aj) : Option af :=
  (iB p1.code).bind fun y9 => if ¬ p1.cost = y9 then ((eA 18 (-1)).bind fun y10 => some (y10)) else (if y9 = 0 then (if (p1.code.length : Int) > 0 then ((eA 18 (-1)).bind fun y11 => some (y11)) else (some (af.mk 0 0))) else (some (af.mk 0 0)))
noncomputable def dq (p1 : aj) (x14 : Int) : Option (Int ⊕ (Unit ⊕ af)) :=
  if x14 < (p1.code.length : Int) then (if (0 ≤ x14 ∧ x14 < (p1.code.length : Int)) then ((io p1 (p1.code.getD x14.toNat default)).bind fun y15 => if y15 = true then (some (.inl (IntKind.wrap .i64 (x14 + 1)))) else ((eA 4 x14).bind fun y16 => some (.inr (.inr (y16))))) else none) else (some (.inr (.inl ())))
noncomputable def dr (p1 : aj) : Option af :=
  (aU (fun x14 => dq p1 x14) 0).bind (Sum.elim (fun _ => dp p1) (fun z17 => some z17))
noncomputable def dt (x20 : Int) : Option (Int ⊕ (Unit ⊕ af)) :=
  some (.inl (IntKind.wrap .i64 (x20 + 1)))
noncomputable def du (p1 : aj) (x20 : Int) (x23 : Int) : Option (Int ⊕ (Unit ⊕ af)) :=
  if (0 ≤ x20 ∧ x20 < (3 : Int)) then (if x23 < (((lit ([p1.put, p1.bools, p1.get] : List (List Int))).getD x20.toNat default).length : Int) then (if (0 ≤ x23 ∧ x23 < (((lit ([p1.put, p1.bools, p1.get] : List (List Int))).getD x20.toNat default).length : Int)) then (if (((lit ([p1.put, p1.bools, p1.get] : List (List Int))).getD x20.toNat default).getD x23.toNat default) < 0 then ((eA 16 (-1)).bind fun y24 => some (.inr (.inr (y24)))) else (if (((lit ([p1.put, p1.bools, p1.get] : List (List Int))).getD x20.toNat default).getD x23.toNat default) ≥ p1.cells then ((eA 16 (-1)).bind fun y25 => some (.inr (.inr (y25)))) else (some (.inl (IntKind.wrap .i64 (x23 + 1)))))) else none) else (some (.inr (.inl ())))) else none
noncomputable def dv (p1 : aj) (x20 : Int) : Option (Int ⊕ (Unit ⊕ af)) :=
  if x20 < 3 then ((aU (fun x23 => du p1 x20 x23) 0).bind (Sum.elim (fun _ => dt x20) (fun z26 => some (.inr (.inr z26))))) else (some (.inr (.inl ())))
noncomputable def eC (p1 : aj) : Option af :=
  if p1.cells < 1 then ((eA 13 (-1)).bind fun y1 => some (y1)) else (if p1.cells > 6000 then ((eA 13 (-1)).bind fun y2 => some (y2)) else (if p1.regs < 1 then ((eA 13 (-1)).bind fun y3 => some (y3)) else (if p1.regs > 40 then ((eA 13 (-1)).bind fun y4 => some (y4)) else (if (p1.put.length : Int) > 6000 then ((eA 7 (-1)).bind fun y5 => some (y5)) else (if (p1.bools.length : Int) > 6000 then ((eA 7 (-1)).bind fun y6 => some (y6)) else (if (p1.get.length : Int) > 120000 then ((eA 7 (-1)).bind fun y7 => some (y7)) else (if (p1.code.length : Int) > 200000 then ((eA 7 (-1)).bind fun y8 => some (y8)) else ((aU (fun x20 => dv p1 x20) 0).bind (Sum.elim (fun _ => dr p1) (fun z27 => some z27))))))))))
noncomputable def fW (x1 : Int) : Option Int :=
  some (IntKind.wrap .u32 (4294967295 - x1))
noncomputable def fX (x7 : Int) (x8 : Int) : Option ((Int × Int) ⊕ Int) :=
  some (.inl (x8, (IntKind.wrap .i64 (x7 + 1))))
noncomputable def dd (p1 : List Int) (x7 : Int) (x13 : Int) (x14 : Int) : Option ((Int × Int) ⊕ Int) :=
  if x14 < 8 then (if (0 ≤ x7 ∧ x7 < (p1.length : Int)) ∧ 0 ≤ (IntKind.wrap .u64 x14) then (if (bits .xor .u32 (bits .and .u32 ((IntKind.wrap .u32 (p1.getD x7.toNat default)).fdiv (2 ^ (min ((IntKind.wrap .u64 x14).toNat) (IntKind.bits .u32)))) 1) (bits .and .u32 x13 1)) = 1 then (some (.inl ((bits .xor .u32 (x13.fdiv (2 ^ (min 1 (IntKind.bits .u32)))) 3988292384), (IntKind.wrap .i64 (x14 + 1))))) else (some (.inl ((x13.fdiv (2 ^ (min 1 (IntKind.bits .u32)))), (IntKind.wrap .i64 (x14 + 1)))))) else none) else (some (.inr x13))
noncomputable def dJ (p1 : List Int) (x6 : Int) (x7 : Int) : Option ((Int × Int) ⊕ Int) :=
  if x7 < (p1.length : Int) then ((aU (fun (x13, x14) => dd p1 x7 x13 x14) (x6, 0)).bind (fun z15 => fX x7 z15)) else (some (.inr x6))
noncomputable def ip (p1 : List Int) : Option Int :=
  (aU (fun (x6, x7) => dJ p1 x6 x7) (4294967295, 0)).bind (fun z16 => fW z16)
noncomputable def bG (p1 : Int) (p2 : Int) (p3 : ao) : Option (Int × Int) :=
  if p3.f.code = 0 then ((eA p1 p2).bind fun y1 => some ((y1).code, (y1).at_)) else (some (p3.f.code, p3.f.at_))
noncomputable def bH (p1 : ao) (x1 : Int) (x2 : Int) : Option (Int × Int × Int × Int) :=
  if (x2.tmod 2) = 1 then (some ((IntKind.wrap .i64 ((IntKind.wrap .i64 (0 - (IntKind.wrap .i64 (IntKind.wrap .u64 (x2.tdiv 2))))) - 1)), x1, p1.f.code, p1.f.at_)) else (some ((IntKind.wrap .i64 (IntKind.wrap .u64 (x2.tdiv 2))), x1, p1.f.code, p1.f.at_))
noncomputable def bx (p1 : ao) (x11 : Int) (x12 : Int) (x13 : Int) (x14 : Int) : Option ((Int × Int × Int × Int) ⊕ ((Int × Int) ⊕ (Int × Int × Int × Int))) :=
  if (IntKind.wrap .u64 (p1.b.getD x11.toNat default)) < 128 then (some (.inr (.inl ((IntKind.wrap .i64 (x11 + 1)), (IntKind.wrap .u64 (x12 + (IntKind.wrap .u64 (((IntKind.wrap .u64 (p1.b.getD x11.toNat default)).tmod 128) * x13)))))))) else (some (.inl ((IntKind.wrap .i64 (x11 + 1)), (IntKind.wrap .u64 (x12 + (IntKind.wrap .u64 (((IntKind.wrap .u64 (p1.b.getD x11.toNat default)).tmod 128) * x13)))), (IntKind.wrap .u64 (x13 * 128)), (IntKind.wrap .i64 (x14 + 1)))))
noncomputable def aW (p1 : ao) (x11 : Int) (x12 : Int) (x13 : Int) (x14 : Int) : Option ((Int × Int × Int × Int) ⊕ ((Int × Int) ⊕ (Int × Int × Int × Int))) :=
  if p1.f.code = 0 then (if x11 ≥ (p1.b.length : Int) then ((bG 5 (p1.b.length : Int) (ao.mk p1.b x11 p1.f)).bind fun y15 => some (.inr (.inr (0, x11, y15.1, y15.2)))) else (if (0 ≤ x11 ∧ x11 < (p1.b.length : Int)) then (if x14 = 9 then (if (IntKind.wrap .u64 (p1.b.getD x11.toNat default)) > 1 then ((bG 2 x11 (ao.mk p1.b x11 p1.f)).bind fun y16 => some (.inr (.inr (0, x11, y16.1, y16.2)))) else (if x14 > 0 then (if (IntKind.wrap .u64 (p1.b.getD x11.toNat default)) = 0 then ((bG 2 x11 (ao.mk p1.b x11 p1.f)).bind fun y17 => some (.inr (.inr (0, x11, y17.1, y17.2)))) else (bx p1 x11 x12 x13 x14)) else (bx p1 x11 x12 x13 x14))) else (if x14 > 0 then (if (IntKind.wrap .u64 (p1.b.getD x11.toNat default)) = 0 then ((bG 2 x11 (ao.mk p1.b x11 p1.f)).bind fun y18 => some (.inr (.inr (0, x11, y18.1, y18.2)))) else (bx p1 x11 x12 x13 x14)) else (bx p1 x11 x12 x13 x14))) else none)) else (some (.inr (.inl (x11, x12))))
noncomputable def aQ (p1 : ao) : Option (Int × Int × Int × Int) :=
  (aU (fun (x11, x12, x13, x14) => aW p1 x11 x12 x13 x14) (p1.at_, 0, 1, 0)).bind (Sum.elim (fun (z19, z20) => bH p1 z19 z20) (fun z21 => some z21))
noncomputable def bg (y1 : (Int × Int × Int × Int)) (x2 : Int) (x3 : Int) : Option (Int × Int × Int × Int) :=
  if ¬ x2 = 0 then (some (0, y1.2.1, x2, x3)) else (some (y1.1, y1.2.1, x2, x3))
noncomputable def cg (p1 : Int) (p2 : ao) : Option (Int × Int × Int × Int) :=
  (aQ p2).bind fun y1 => if y1.2.2.1 = 0 then (if y1.1 < 0 then ((bG 7 p2.at_ (ao.mk p2.b y1.2.1 (af.mk y1.2.2.1 y1.2.2.2))).bind fun y4 => bg y1 y4.1 y4.2) else (if p1 ≠ 0 then (if y1.1 > (IntKind.wrap .i64 ((IntKind.wrap .i64 ((p2.b.length : Int) - y1.2.1)).tdiv p1)) then ((bG 7 p2.at_ (ao.mk p2.b y1.2.1 (af.mk y1.2.2.1 y1.2.2.2))).bind fun y5 => bg y1 y5.1 y5.2) else (bg y1 y1.2.2.1 y1.2.2.2)) else none)) else (bg y1 y1.2.2.1 y1.2.2.2)
noncomputable def cM (x4 : Int) (x5 : Int) (x6 : Int) (l7 : List Int) : Option ((List Int) × Int × Int × Int) :=
  some (l7, x4, x5, x6)
noncomputable def aE (p1 : ao) (y1 : (Int × Int × Int × Int)) (x27 : Int) (x28 : Int) (x29 : Int) (l30 : List Int) (x32 : Int) : Option ((Int × Int × Int × (List Int) × Int) ⊕ (Int × Int × Int × (List Int))) :=
  if x32 < y1.1 then (if x28 = 0 then ((aQ (ao.mk p1.b x27 (af.mk x28 x29))).bind fun y33 => if fo (l30.length + 1) 8 then (some (.inl (y33.2.1, y33.2.2.1, y33.2.2.2, (l30 ++ (lit ([y33.1] : List Int))), (IntKind.wrap .i64 (x32 + 1))))) else none) else (some (.inr (x27, x28, x29, l30)))) else (some (.inr (x27, x28, x29, l30)))
noncomputable def bV (p1 : ao) : Option ((List Int) × Int × Int × Int) :=
  (cg 1 p1).bind fun y1 => (aU (fun (x27, x28, x29, l30, x32) => aE p1 y1 x27 x28 x29 l30 x32) (y1.2.1, y1.2.2.1, y1.2.2.2, [], 0)).bind (fun (z34, z35, z36, z37) => cM z34 z35 z36 z37)
noncomputable def cp (p1 : List Int) (y6 : (Int × Int × Int × Int)) (y7 : (Int × Int × Int × Int)) (y8 : (Int × Int × Int × Int)) (y9 : ((List Int) × Int × Int × Int)) (y10 : ((List Int) × Int × Int × Int)) (y11 : ((List Int) × Int × Int × Int)) (x15 : Int) (x16 : Int) (x17 : Int) (l18 : List ax) : Option (aj × af) :=
  if ¬ x16 = 0 then (some ((aj.mk 0 0 0 [] [] [] []), (af.mk x16 x17))) else (if x15 < (IntKind.wrap .i64 ((p1.length : Int) - 4)) then ((eA 4 x15).bind fun y20 => some ((aj.mk 0 0 0 [] [] [] []), (y20))) else ((eC (aj.mk y6.1 y7.1 y8.1 y9.1 y10.1 y11.1 l18)).bind fun y21 => if ¬ ((y21).code) = 0 then ((eA 18 (IntKind.wrap .i64 ((p1.length : Int) - 4))).bind fun y22 => some ((aj.mk 0 0 0 [] [] [] []), (y22))) else (some ((aj.mk y6.1 y7.1 y8.1 y9.1 y10.1 y11.1 l18), (af.mk 0 0)))))
noncomputable def bj (p1 : List Int) (y12 : (Int × Int × Int × Int)) (x41 : Int) (x42 : Int) (x43 : Int) (l44 : List ax) (x46 : Int) : Option ((Int × Int × Int × (List ax) × Int) ⊕ (Int × Int × Int × (List ax))) :=
  if x46 < y12.1 then (if x42 = 0 then ((aQ (ao.mk (p1.take ((IntKind.wrap .i64 ((p1.length : Int) - 4)).toNat)) x41 (af.mk x42 x43))).bind fun y47 => (aQ (ao.mk (p1.take ((IntKind.wrap .i64 ((p1.length : Int) - 4)).toNat)) y47.2.1 (af.mk y47.2.2.1 y47.2.2.2))).bind fun y48 => (aQ (ao.mk (p1.take ((IntKind.wrap .i64 ((p1.length : Int) - 4)).toNat)) y48.2.1 (af.mk y48.2.2.1 y48.2.2.2))).bind fun y49 => (aQ (ao.mk (p1.take ((IntKind.wrap .i64 ((p1.length : Int) - 4)).toNat)) y49.2.1 (af.mk y49.2.2.1 y49.2.2.2))).bind fun y50 => (aQ (ao.mk (p1.take ((IntKind.wrap .i64 ((p1.length : Int) - 4)).toNat)) y50.2.1 (af.mk y50.2.2.1 y50.2.2.2))).bind fun y51 => (aQ (ao.mk (p1.take ((IntKind.wrap .i64 ((p1.length : Int) - 4)).toNat)) y51.2.1 (af.mk y51.2.2.1 y51.2.2.2))).bind fun y52 => if fo (l44.length + 1) 48 then (some (.inl (y52.2.1, y52.2.2.1, y52.2.2.2, (l44 ++ (lit ([(ax.mk y47.1 y48.1 y49.1 y50.1 y51.1 y52.1)] : List ax))), (IntKind.wrap .i64 (x46 + 1))))) else none) else (some (.inr (x41, x42, x43, l44)))) else (some (.inr (x41, x42, x43, l44)))
noncomputable def dP (p1 : List Int) : Option (aj × af) :=
  (aQ (ao.mk (p1.take ((IntKind.wrap .i64 ((p1.length : Int) - 4)).toNat)) 3 (af.mk 0 0))).bind fun y6 => (aQ (ao.mk (p1.take ((IntKind.wrap .i64 ((p1.length : Int) - 4)).toNat)) y6.2.1 (af.mk y6.2.2.1 y6.2.2.2))).bind fun y7 => (aQ (ao.mk (p1.take ((IntKind.wrap .i64 ((p1.length : Int) - 4)).toNat)) y7.2.1 (af.mk y7.2.2.1 y7.2.2.2))).bind fun y8 => (bV (ao.mk (p1.take ((IntKind.wrap .i64 ((p1.length : Int) - 4)).toNat)) y8.2.1 (af.mk y8.2.2.1 y8.2.2.2))).bind fun y9 => (bV (ao.mk (p1.take ((IntKind.wrap .i64 ((p1.length : Int) - 4)).toNat)) y9.2.1 (af.mk y9.2.2.1 y9.2.2.2))).bind fun y10 => (bV (ao.mk (p1.take ((IntKind.wrap .i64 ((p1.length : Int) - 4)).toNat)) y10.2.1 (af.mk y10.2.2.1 y10.2.2.2))).bind fun y11 => (cg 6 (ao.mk (p1.take ((IntKind.wrap .i64 ((p1.length : Int) - 4)).toNat)) y11.2.1 (af.mk y11.2.2.1 y11.2.2.2))).bind fun y12 => (aU (fun (x41, x42, x43, l44, x46) => bj p1 y12 x41 x42 x43 l44 x46) (y12.2.1, y12.2.2.1, y12.2.2.2, [], 0)).bind (fun (z53, z54, z55, z56) => cp p1 y6 y7 y8 y9 y10 y11 z53 z54 z55 z56)
noncomputable def dQ (p1 : List Int) (y5 : Int) (x59 : Int) : Option (Int ⊕ (Unit ⊕ (aj × af))) :=
  if x59 < 4 then (if (0 ≤ (IntKind.wrap .i64 ((IntKind.wrap .i64 ((p1.length : Int) - 4)) + x59)) ∧ (IntKind.wrap .i64 ((IntKind.wrap .i64 ((p1.length : Int) - 4)) + x59)) < (p1.length : Int)) ∧ 0 ≤ (IntKind.wrap .u64 (IntKind.wrap .i64 (8 * x59))) then (if ¬ (p1.getD ((IntKind.wrap .i64 ((IntKind.wrap .i64 ((p1.length : Int) - 4)) + x59)).toNat) default) = (IntKind.wrap .u8 (y5.fdiv (2 ^ (min ((IntKind.wrap .u64 (IntKind.wrap .i64 (8 * x59))).toNat) (IntKind.bits .u32))))) then ((eA 19 (IntKind.wrap .i64 ((p1.length : Int) - 4))).bind fun y60 => some (.inr (.inr ((aj.mk 0 0 0 [] [] [] []), (y60))))) else (some (.inl (IntKind.wrap .i64 (x59 + 1))))) else none) else (some (.inr (.inl ())))
noncomputable def hK (p1 : List Int) : Option (aj × af) :=
  if (p1.length : Int) < 7 then ((eA 5 (p1.length : Int)).bind fun y1 => some ((aj.mk 0 0 0 [] [] [] []), (y1))) else (if (0 ≤ 0 ∧ 0 < (p1.length : Int)) then (if ¬ (p1.getD 0 default) = 76 then ((eA 4 0).bind fun y2 => some ((aj.mk 0 0 0 [] [] [] []), (y2))) else (if (0 ≤ 1 ∧ 1 < (p1.length : Int)) then (if ¬ (p1.getD 1 default) = 87 then ((eA 4 0).bind fun y3 => some ((aj.mk 0 0 0 [] [] [] []), (y3))) else (if (0 ≤ 2 ∧ 2 < (p1.length : Int)) then (if ¬ (p1.getD 2 default) = 1 then ((eA 4 0).bind fun y4 => some ((aj.mk 0 0 0 [] [] [] []), (y4))) else (if (0 ≤ (IntKind.wrap .i64 ((p1.length : Int) - 4)) ∧ (IntKind.wrap .i64 ((p1.length : Int) - 4)) ≤ (p1.length : Int)) then ((ip (p1.take ((IntKind.wrap .i64 ((p1.length : Int) - 4)).toNat))).bind fun y5 => (aU (fun x59 => dQ p1 y5 x59) 0).bind (Sum.elim (fun _ => dP p1) (fun z61 => some z61))) else none)) else none)) else none)) else none)
noncomputable def fa : Option Bool :=
  some true
noncomputable def fb (p1 : List Int) (p2 : List Int) (x3 : Int) : Option (Int ⊕ (Unit ⊕ Bool)) :=
  if x3 < (p1.length : Int) then (if (0 ≤ x3 ∧ x3 < (p1.length : Int)) ∧ (0 ≤ x3 ∧ x3 < (p2.length : Int)) then (if ¬ (p1.getD x3.toNat default) = (p2.getD x3.toNat default) then (some (.inr (.inr false))) else (some (.inl (IntKind.wrap .i64 (x3 + 1))))) else none) else (some (.inr (.inl ())))
noncomputable def eV (p1 : List Int) (p2 : List Int) : Option Bool :=
  if ¬ (p1.length : Int) = (p2.length : Int) then (some false) else ((aU (fun x3 => fb p1 p2 x3) 0).bind (Sum.elim (fun _ => fa) (fun z4 => some z4)))
noncomputable def eD : Option Bool :=
  some true
noncomputable def eE (p1 : aj) (p2 : aj) (x6 : Int) : Option (Int ⊕ (Unit ⊕ Bool)) :=
  if x6 < (p1.code.length : Int) then (if (0 ≤ x6 ∧ x6 < (p1.code.length : Int)) ∧ (0 ≤ x6 ∧ x6 < (p2.code.length : Int)) then (if ((p1.code.getD x6.toNat default).op) = ((p2.code.getD x6.toNat default).op) ∧ ((p1.code.getD x6.toNat default).k) = ((p2.code.getD x6.toNat default).k) ∧ ((p1.code.getD x6.toNat default).r_) = ((p2.code.getD x6.toNat default).r_) ∧ ((p1.code.getD x6.toNat default).a) = ((p2.code.getD x6.toNat default).a) ∧ ((p1.code.getD x6.toNat default).b) = ((p2.code.getD x6.toNat default).b) ∧ ((p1.code.getD x6.toNat default).n) = ((p2.code.getD x6.toNat default).n) then (some (.inl (IntKind.wrap .i64 (x6 + 1)))) else (some (.inr (.inr false)))) else none) else (some (.inr (.inl ())))
noncomputable def fl (p1 : aj) (p2 : aj) : Option Bool :=
  if ¬ p1.cells = p2.cells then (some false) else (if ¬ p1.regs = p2.regs then (some false) else (if ¬ p1.cost = p2.cost then (some false) else ((eV p1.put p2.put).bind fun y1 => if y1 = true then ((eV p1.bools p2.bools).bind fun y2 => if y2 = true then ((eV p1.get p2.get).bind fun y3 => if y3 = true then (if ¬ (p1.code.length : Int) = (p2.code.length : Int) then (some false) else ((aU (fun x6 => eE p1 p2 x6) 0).bind (Sum.elim (fun _ => eD) (fun z7 => some z7)))) else (some false)) else (some false)) else (some false))))
noncomputable def dV (l4 : List Int) (x6 : Int) : Option (List Int) :=
  if fo (l4.length + 1) 1 then (some (l4 ++ (lit ([(IntKind.wrap .u8 x6)] : List Int)))) else none
noncomputable def cx (l19 : List Int) (x21 : Int) : Option (((List Int) × Int) ⊕ ((List Int) × Int)) :=
  if x21 ≥ 128 then (if fo (l19.length + 1) 1 then (some (.inl ((l19 ++ (lit ([(IntKind.wrap .u8 (IntKind.wrap .u64 ((x21.tmod 128) + 128)))] : List Int))), (IntKind.wrap .u64 (x21.tdiv 128))))) else none) else (some (.inr (l19, x21)))
noncomputable def dA (x1 : Int) : Option (List Int) :=
  (aU (fun (l19, x21) => cx l19 x21) ([], x1)).bind (fun (z22, z23) => dV z22 z23)
noncomputable def cy (p1 : Int) : Option (List Int) :=
  if p1 < 0 then (dA (IntKind.wrap .u64 ((IntKind.wrap .u64 ((IntKind.wrap .u64 (IntKind.wrap .i64 (0 - (IntKind.wrap .i64 (p1 + 1))))) * 2)) + 1))) else (dA (IntKind.wrap .u64 ((IntKind.wrap .u64 p1) * 2)))
noncomputable def eF (l4 : List Int) (v5 : Nat) : Option ((List Int) × Nat) :=
  some (l4, v5)
noncomputable def bW (p1 : List Int) (l18 : List Int) (v19 : Nat) (x20 : Int) : Option (((List Int) × Nat × Int) ⊕ ((List Int) × Nat)) :=
  if x20 < (p1.length : Int) then (if (0 ≤ x20 ∧ x20 < (p1.length : Int)) then ((cy (p1.getD x20.toNat default)).bind fun y21 => if fo (l18.length + y21.length) 1 then (some (.inl ((l18 ++ y21), v19 + 1, (IntKind.wrap .i64 (x20 + 1))))) else none) else none) else (some (.inr (l18, v19)))
noncomputable def eh (p1 : List Int) (p2 : List Int) (pv3 : Nat) : Option ((List Int) × Nat) :=
  (cy (p1.length : Int)).bind fun y1 => if fo (p2.length + y1.length) 1 then ((aU (fun (l18, v19, x20) => bW p1 l18 v19 x20) ((p2 ++ y1), pv3 + 1, 0)).bind (fun (z22, z23) => eF z22 z23)) else none
noncomputable def fG (x1 : Int) : Option Int :=
  some (IntKind.wrap .u32 (4294967295 - x1))
noncomputable def fH (x7 : Int) (x8 : Int) : Option ((Int × Int) ⊕ Int) :=
  some (.inl (x8, (IntKind.wrap .i64 (x7 + 1))))
noncomputable def iC (p1 : List Int) (x7 : Int) (x13 : Int) (x14 : Int) : Option ((Int × Int) ⊕ Int) :=
  if x14 < 8 then (if (0 ≤ x7 ∧ x7 < (p1.length : Int)) ∧ 0 ≤ (IntKind.wrap .u64 x14) then (if (bits .xor .u32 (bits .and .u32 ((IntKind.wrap .u32 (p1.getD x7.toNat default)).fdiv (2 ^ (min ((IntKind.wrap .u64 x14).toNat) (IntKind.bits .u32)))) 1) (bits .and .u32 x13 1)) = 1 then (some (.inl ((bits .xor .u32 (x13.fdiv (2 ^ (min 1 (IntKind.bits .u32)))) 3988292384), (IntKind.wrap .i64 (x14 + 1))))) else (some (.inl ((x13.fdiv (2 ^ (min 1 (IntKind.bits .u32)))), (IntKind.wrap .i64 (x14 + 1)))))) else none) else (some (.inr x13))
noncomputable def iD (p1 : List Int) (x6 : Int) (x7 : Int) : Option ((Int × Int) ⊕ Int) :=
  if x7 < (p1.length : Int) then ((aU (fun (x13, x14) => iC p1 x7 x13 x14) (x6, 0)).bind (fun z15 => fH x7 z15)) else (some (.inr x6))
noncomputable def iM (p1 : List Int) : Option Int :=
  (aU (fun (x6, x7) => iD p1 x6 x7) (4294967295, 0)).bind (fun z16 => fG z16)
noncomputable def eG (l10 : List Int) : Option (List Int) :=
  (iM l10).bind fun y12 => if fo (l10.length + 4) 1 then (some (l10 ++ (lit ([(IntKind.wrap .u8 y12), (IntKind.wrap .u8 (y12.fdiv (2 ^ (min 8 (IntKind.bits .u32))))), (IntKind.wrap .u8 (y12.fdiv (2 ^ (min 16 (IntKind.bits .u32))))), (IntKind.wrap .u8 (y12.fdiv (2 ^ (min 24 (IntKind.bits .u32)))))] : List Int)))) else none
noncomputable def eH (x27 : Int) (l30 : List Int) : Option (((List Int) × Int) ⊕ (List Int)) :=
  some (.inl (l30, (IntKind.wrap .i64 (x27 + 1))))
noncomputable def cq (p1 : aj) (x27 : Int) (l46 : List Int) (x48 : Int) : Option (((List Int) × Int) ⊕ (List Int)) :=
  if x48 < 6 then (if (0 ≤ x48 ∧ x48 < (6 : Int)) then ((cy ((lit ([(p1.code.getD x27.toNat default).op, (p1.code.getD x27.toNat default).k, (p1.code.getD x27.toNat default).r_, (p1.code.getD x27.toNat default).a, (p1.code.getD x27.toNat default).b, (p1.code.getD x27.toNat default).n] : List Int)).getD x48.toNat default)).bind fun y49 => if fo (l46.length + y49.length) 1 then (some (.inl ((l46 ++ y49), (IntKind.wrap .i64 (x48 + 1))))) else none) else none) else (some (.inr l46))
noncomputable def cr (p1 : aj) (l25 : List Int) (x27 : Int) : Option (((List Int) × Int) ⊕ (List Int)) :=
  if x27 < (p1.code.length : Int) then (if (0 ≤ x27 ∧ x27 < (p1.code.length : Int)) then ((aU (fun (l46, x48) => cq p1 x27 l46 x48) (l25, 0)).bind (fun z50 => eH x27 z50)) else none) else (some (.inr l25))
noncomputable def hM (p1 : aj) : Option (List Int) :=
  (cy p1.cells).bind fun y1 => if fo (3 + y1.length) 1 then ((cy p1.regs).bind fun y2 => if fo ((3 + y1.length) + y2.length) 1 then ((cy p1.cost).bind fun y3 => if fo (((3 + y1.length) + y2.length) + y3.length) 1 then ((eh p1.put ((((lit ([76, 87, 1] : List Int)) ++ y1) ++ y2) ++ y3) 3).bind fun y4 => (eh p1.bools y4.1 y4.2).bind fun y5 => (eh p1.get y5.1 y5.2).bind fun y6 => (cy (p1.code.length : Int)).bind fun y7 => if fo (y6.1.length + y7.length) 1 then ((aU (fun (l25, x27) => cr p1 l25 x27) ((y6.1 ++ y7), 0)).bind (fun z51 => eG z51)) else none) else none) else none) else none
noncomputable def gX (p1 : aj) (p2 : List Int) : Option Bool :=
  (fD ).bind fun y1 => if y1 = true then ((fE p1).bind fun y2 => if y2 = true then (some true) else (if (p2.length : Int) > 30000 then (some true) else ((gW p1).bind fun y3 => if fo p2.length 1 then ((d7 (y3)).bind fun y4 => (eU p2).bind fun y5 => (eC p1).bind fun y6 => (hK p2).bind fun y7 => if ((y4.2).code) = ((y6).code) ∧ ((y4.2).at_) = ((y6).at_) then (if ((y5.2).code) = ((y7.2).code) ∧ ((y5.2).at_) = ((y7.2).at_) then ((fl (y5.1) (y7.1)).bind fun y8 => if y8 = true then ((fl (y3) p1).bind fun y9 => if y9 = true then ((eN p2).bind fun y10 => (ip p2).bind fun y11 => if ¬ y10 = y11 then (some false) else (if ¬ ((y6).code) = 0 then (if (y4.1.length : Int) = 0 then (some true) else (some false)) else ((hM p1).bind fun y12 => some ((iA y4.1) == (iA y12))))) else (some false)) else (some false)) else (some false)) else (some false)) else none))) else (some false)
end Pam
