/- what kinds_Op computes, read off the program by a program of ours -/
import Derived.Test.YtjmjabdmmlgenaaTornaData1
import Derived.Test.YtjmjabdmmlgenaaTornBase2
set_option linter.all false
namespace Pam
open Go
noncomputable def hL (p1 : Int) : Option (Int × Int × Int) :=
  if p1 ≥ 1 then (if p1 ≤ 7 then (some (105, 105, 2)) else (if p1 = 8 then (some (105, 98, 2)) else (if p1 = 9 then (some (105, 98, 2)) else (if p1 ≥ 10 then (if p1 ≤ 12 then (some (98, 98, 2)) else (if p1 = 13 then (some (105, 105, 1)) else (if p1 = 14 then (some (98, 98, 1)) else (some (0, 0, 0))))) else (if p1 = 13 then (some (105, 105, 1)) else (if p1 = 14 then (some (98, 98, 1)) else (some (0, 0, 0)))))))) else (if p1 = 8 then (some (105, 98, 2)) else (if p1 = 9 then (some (105, 98, 2)) else (if p1 ≥ 10 then (if p1 ≤ 12 then (some (98, 98, 2)) else (if p1 = 13 then (some (105, 105, 1)) else (if p1 = 14 then (some (98, 98, 1)) else (some (0, 0, 0))))) else (if p1 = 13 then (some (105, 105, 1)) else (if p1 = 14 then (some (98, 98, 1)) else (some (0, 0, 0)))))))
noncomputable def dQ (p1 : Int) (p2 : br) : Option Bool :=
  if p1 < 0 then (some true) else (some (decide (p1 ≥ p2.m_.regs)))
noncomputable def be : Option Int :=
  some (-1)
noncomputable def bf (p1 : List Int) (p2 : br) (x3 : Int) : Option (Int ⊕ (Unit ⊕ Int)) :=
  if x3 < (p1.length : Int) then (if (0 ≤ x3 ∧ x3 < (p1.length : Int)) then ((dQ (p1.getD x3.toNat default) p2).bind fun y4 => if y4 = true then (some (.inr (.inr x3))) else (some (.inl (IntKind.wrap .i64 (x3 + 1))))) else none) else (some (.inr (.inl ())))
noncomputable def bu (p1 : List Int) (p2 : br) : Option Int :=
  (bz (fun x3 => bf p1 p2 x3) 0).bind (Sum.elim (fun _ => be) (fun z5 => some z5))
noncomputable def bx (p1 : List Int) (p2 : br) : Option Bool :=
  (bu p1 p2).bind fun y1 => some (decide (y1 ≥ 0))
noncomputable def aU (p1 : br) (p2 : List Int) : Option Bool :=
  (bx p2 p1).bind fun y1 => some (!y1)
noncomputable def bV (p1 : br) (p2 : Int) (p3 : Int) : Option Bool :=
  if p3 ≥ 1 then (if p3 ≤ p1.m_.cells then (if p2 ≥ 0 then (some (decide (p2 ≤ (IntKind.wrap .i64 (p1.m_.cells - p3))))) else (some false)) else (some false)) else (some false)
noncomputable def bW (p1 : br) (p2 : aD) (y1 : (Int × Int × Int)) (b6 : Bool) : Option Bool :=
  if b6 = true then ((aU p1 (lit ([p2.r_, p2.a] : List Int))).bind fun y7 => if y7 = true then ((bV p1 p2.n p2.b).bind fun y8 => some y8) else (some false)) else (if p2.op = 6 then ((aU p1 (lit ([p2.r_, p2.a] : List Int))).bind fun y9 => if y9 = true then (some (y1.2.2 == 1)) else (some false)) else (if p2.op = 7 then ((aU p1 (lit ([p2.r_, p2.a, p2.b] : List Int))).bind fun y10 => if y10 = true then (some (y1.2.2 == 2)) else (some false)) else (if p2.op = 8 then ((aU p1 (lit ([p2.r_, p2.a, p2.b] : List Int))).bind fun y11 => some y11) else (if p2.op = 9 then ((aU p1 (lit ([p2.r_, p2.a] : List Int))).bind fun y12 => some y12) else (if p2.op = 10 then ((aU p1 (lit ([p2.r_] : List Int))).bind fun y13 => if y13 = true then (if p2.n ≥ 1 then (some (decide (p2.n ≤ 300))) else (some false)) else (some false)) else (some (p2.op == 11)))))))
noncomputable def bY (p1 : br) (p2 : aD) (y1 : (Int × Int × Int)) (b3 : Bool) : Option Bool :=
  if b3 = true then ((aU p1 (lit ([p2.r_] : List Int))).bind fun y4 => if y4 = true then ((bV p1 p2.n 1).bind fun y5 => some y5) else (some false)) else (if p2.op = 3 then (bW p1 p2 y1 (p2.op == 3)) else (bW p1 p2 y1 (p2.op == 5)))
noncomputable def cp (p1 : br) (p2 : aD) : Option Bool :=
  (hL p2.k).bind fun y1 => if p2.op = 1 then ((aU p1 (lit ([p2.r_] : List Int))).bind fun y2 => some y2) else (if p2.op = 2 then (bY p1 p2 y1 (p2.op == 2)) else (bY p1 p2 y1 (p2.op == 4)))
noncomputable def dd (x1 : Int) (x2 : Int) : Option Int :=
  if x2 > 0 then (some 0) else (some x1)
noncomputable def de (p1 : List aD) (x11 : Int) (x12 : Int) (x13 : Int) (x14 : Int) : Option ((Int × Int × Int × Int) ⊕ ((Int × Int) ⊕ Int)) :=
  if x14 < (p1.length : Int) then (if (0 ≤ x14 ∧ x14 < (p1.length : Int)) then (if ((p1.getD x14.toNat default).op) = 10 then (if x12 > 1 then (some (.inr (.inr 0))) else (if x13 > 0 then (some (.inr (.inr 0))) else (if ((p1.getD x14.toNat default).n) < 1 then (some (.inr (.inr 0))) else (if ((p1.getD x14.toNat default).n) > 300 then (some (.inr (.inr 0))) else (some (.inl ((IntKind.wrap .i64 (x11 + x12)), (p1.getD x14.toNat default).n, 1, (IntKind.wrap .i64 (x14 + 1))))))))) else (if ((p1.getD x14.toNat default).op) = 11 then (if x13 = 0 then (some (.inr (.inr 0))) else (some (.inl ((IntKind.wrap .i64 (x11 + x12)), 1, 0, (IntKind.wrap .i64 (x14 + 1)))))) else (some (.inl ((IntKind.wrap .i64 (x11 + x12)), x12, x13, (IntKind.wrap .i64 (x14 + 1))))))) else none) else (some (.inr (.inl (x11, x13))))
noncomputable def gc (p1 : List aD) : Option Int :=
  (bz (fun (x11, x12, x13, x14) => de p1 x11 x12 x13 x14) (0, 1, 0, 0)).bind (Sum.elim (fun (z15, z16) => dd z15 z16) (fun z17 => some z17))
noncomputable def dp (p1 : ag) : Option ao :=
  (gc p1.code).bind fun y1 => if y1 = 0 then (if (p1.code.length : Int) > 0 then (some (ao.mk 18 (-1))) else (if ¬ y1 = p1.cost then (some (ao.mk 18 (-1))) else (some (ao.mk 0 0)))) else (if ¬ y1 = p1.cost then (some (ao.mk 18 (-1))) else (some (ao.mk 0 0)))
noncomputable def dq (p1 : ag) (x4 : Int) : Option (Int ⊕ (Unit ⊕ ao)) :=
  if x4 < (p1.code.length : Int) then (if (0 ≤ x4 ∧ x4 < (p1.code.length : Int)) then ((cp (br.mk p1) (p1.code.getD x4.toNat default)).bind fun y5 => if y5 = true then (some (.inl (IntKind.wrap .i64 (x4 + 1)))) else (some (.inr (.inr (ao.mk 4 x4))))) else none) else (some (.inr (.inl ())))
noncomputable def dr (p1 : ag) : Option ao :=
  (bz (fun x4 => dq p1 x4) 0).bind (Sum.elim (fun _ => dp p1) (fun z6 => some z6))
noncomputable def dt (x9 : Int) : Option (Int ⊕ (Unit ⊕ ao)) :=
  some (.inl (IntKind.wrap .i64 (x9 + 1)))
noncomputable def du (p1 : ag) (x9 : Int) (x12 : Int) : Option (Int ⊕ (Unit ⊕ ao)) :=
  if x12 < (((lit ([p1.put, p1.bools, p1.get] : List (List Int))).getD x9.toNat default).length : Int) then (if (0 ≤ x12 ∧ x12 < (((lit ([p1.put, p1.bools, p1.get] : List (List Int))).getD x9.toNat default).length : Int)) then (if (((lit ([p1.put, p1.bools, p1.get] : List (List Int))).getD x9.toNat default).getD x12.toNat default) < 0 then (some (.inr (.inr (ao.mk 16 (-1))))) else (if (((lit ([p1.put, p1.bools, p1.get] : List (List Int))).getD x9.toNat default).getD x12.toNat default) ≥ p1.cells then (some (.inr (.inr (ao.mk 16 (-1))))) else (some (.inl (IntKind.wrap .i64 (x12 + 1)))))) else none) else (some (.inr (.inl ())))
noncomputable def dv (p1 : ag) (x9 : Int) : Option (Int ⊕ (Unit ⊕ ao)) :=
  if x9 < (3 : Int) then (if (0 ≤ x9 ∧ x9 < (3 : Int)) then ((bz (fun x12 => du p1 x9 x12) 0).bind (Sum.elim (fun _ => dt x9) (fun z13 => some (.inr (.inr z13))))) else none) else (some (.inr (.inl ())))
noncomputable def dg (p1 : ag) : Option ao :=
  if p1.cells < 1 then (some (ao.mk 13 (-1))) else (if p1.cells > 6000 then (some (ao.mk 13 (-1))) else (if p1.regs < 1 then (some (ao.mk 13 (-1))) else (if p1.regs > 40 then (some (ao.mk 13 (-1))) else (if (p1.put.length : Int) > 6000 then (some (ao.mk 7 (-1))) else (if (p1.bools.length : Int) > 6000 then (some (ao.mk 7 (-1))) else (if (p1.get.length : Int) > 120000 then (some (ao.mk 7 (-1))) else (if (p1.code.length : Int) > 200000 then (some (ao.mk 7 (-1))) else ((bz (fun x9 => dv p1 x9) 0).bind (Sum.elim (fun _ => dr p1) (fun z14 => some z14))))))))))
noncomputable def cw (x15 : Int) (l18 : List Int) : Option (((List Int) × Int) ⊕ (List Int)) :=
  some (.inl (l18, (IntKind.wrap .i64 (x15 + 1))))
noncomputable def bl (x15 : Int) (l22 : List Int) (x24 : Int) : Option (((List Int) × Int) ⊕ (List Int)) :=
  if iX (l22.length + 1) 1 then (cw x15 (l22 ++ (lit ([(IntKind.wrap .u8 x24)] : List Int)))) else none
noncomputable def aR (l39 : List Int) (x41 : Int) : Option (((List Int) × Int) ⊕ ((List Int) × Int)) :=
  if x41 ≥ 128 then (if iX (l39.length + 1) 1 then (some (.inl ((l39 ++ (lit ([(bits .or .u8 (IntKind.wrap .u8 x41) 128)] : List Int))), (x41.fdiv (2 ^ (min 7 (IntKind.bits .u64))))))) else none) else (some (.inr (l39, x41)))
noncomputable def aS (p1 : List Int) (l13 : List Int) (x15 : Int) : Option (((List Int) × Int) ⊕ (List Int)) :=
  if x15 < (p1.length : Int) then (if (0 ≤ x15 ∧ x15 < (p1.length : Int)) then ((bz (fun (l39, x41) => aR l39 x41) (l13, (bits .xor .u64 (IntKind.wrap .u64 ((IntKind.wrap .u64 (p1.getD x15.toNat default)) * 2 ^ (min 1 (IntKind.bits .u64)))) (IntKind.wrap .u64 ((p1.getD x15.toNat default).fdiv (2 ^ (min 63 (IntKind.bits .i64)))))))).bind (fun (z42, z43) => bl x15 z42 z43)) else none) else (some (.inr l13))
noncomputable def a8 (p1 : List Int) (p2 : List Int) : Option (List Int) :=
  (bz (fun (l13, x15) => aS p1 l13 x15) (p2, 0)).bind (fun z44 => some z44)
noncomputable def aN (p1 : List Int) (l17 : List Int) (x19 : Int) : Option (((List Int) × Int) ⊕ (List Int)) :=
  if x19 < (p1.length : Int) then (if (0 ≤ x19 ∧ x19 < (p1.length : Int)) then ((a8 (lit ([(p1.getD x19.toNat default)] : List Int)) l17).bind fun y20 => some (.inl (y20, (IntKind.wrap .i64 (x19 + 1))))) else none) else (some (.inr l17))
noncomputable def bG (p1 : List Int) (p2 : List Int) : Option (List Int) :=
  (a8 (lit ([(p1.length : Int)] : List Int)) p2).bind fun y1 => (bz (fun (l17, x19) => aN p1 l17 x19) (y1, 0)).bind (fun z22 => some z22)
noncomputable def eF (x1 : Int) : Option Int :=
  some (bits .xor .u32 (if (IntKind.u32).signed then -1 else (IntKind.u32).max) x1)
noncomputable def eG (x7 : Int) (x8 : Int) : Option ((Int × Int) ⊕ Int) :=
  some (.inl (x8, (IntKind.wrap .i64 (x7 + 1))))
noncomputable def gD (x13 : Int) (x14 : Int) : Option ((Int × Int) ⊕ Int) :=
  if x14 < 8 then (some (.inl ((bits .xor .u32 (x13.fdiv (2 ^ (min 1 (IntKind.bits .u32)))) (bits .and .u32 3988292384 (IntKind.wrap .u32 (0 - (bits .and .u32 x13 1))))), (IntKind.wrap .i64 (x14 + 1))))) else (some (.inr x13))
noncomputable def gE (p1 : List Int) (x6 : Int) (x7 : Int) : Option ((Int × Int) ⊕ Int) :=
  if x7 < (p1.length : Int) then (if (0 ≤ x7 ∧ x7 < (p1.length : Int)) then ((bz (fun (x13, x14) => gD x13 x14) ((bits .xor .u32 x6 (IntKind.wrap .u32 (p1.getD x7.toNat default))), 0)).bind (fun z15 => eG x7 z15)) else none) else (some (.inr x6))
noncomputable def hS (p1 : List Int) : Option Int :=
  (bz (fun (x6, x7) => gE p1 x6 x7) (4294967295, 0)).bind (fun z16 => eF z16)
noncomputable def dj (l19 : List Int) : Option ((List Int) × ao) :=
  some (l19, (ao.mk 0 0))
noncomputable def aY (l37 : List Int) (x39 : Int) (x40 : Int) : Option (((List Int) × Int × Int) ⊕ (List Int)) :=
  if x40 < 4 then (if iX (l37.length + 1) 1 then (some (.inl ((l37 ++ (lit ([(IntKind.wrap .u8 x39)] : List Int))), (x39.fdiv (2 ^ (min 8 (IntKind.bits .u32)))), (IntKind.wrap .i64 (x40 + 1))))) else none) else (some (.inr l37))
noncomputable def cq (l14 : List Int) : Option ((List Int) × ao) :=
  (hS l14).bind fun y16 => (bz (fun (l37, x39, x40) => aY l37 x39 x40) (l14, y16, 0)).bind (fun z41 => dj z41)
noncomputable def bj (p1 : ag) (l56 : List Int) (x58 : Int) : Option (((List Int) × Int) ⊕ (List Int)) :=
  if x58 < (p1.code.length : Int) then (if (0 ≤ x58 ∧ x58 < (p1.code.length : Int)) then ((a8 (lit ([(p1.code.getD x58.toNat default).op, (p1.code.getD x58.toNat default).k, (p1.code.getD x58.toNat default).r_, (p1.code.getD x58.toNat default).a, (p1.code.getD x58.toNat default).b, (p1.code.getD x58.toNat default).n] : List Int)) l56).bind fun y59 => some (.inl (y59, (IntKind.wrap .i64 (x58 + 1))))) else none) else (some (.inr l56))
noncomputable def cK (p1 : ag) : Option ((List Int) × ao) :=
  (dg p1).bind fun y1 => if ¬ ((y1).code) = 0 then (some ([], (y1))) else ((a8 (lit ([p1.cells, p1.regs, p1.cost] : List Int)) (lit ([76, 87, 1] : List Int))).bind fun y2 => (bG p1.put y2).bind fun y4 => (bG p1.bools y4).bind fun y6 => (bG p1.get y6).bind fun y8 => (a8 (lit ([(p1.code.length : Int)] : List Int)) y8).bind fun y10 => (bz (fun (l56, x58) => bj p1 l56 x58) (y10, 0)).bind (fun z61 => cq z61))
noncomputable def cV (x1 : Int) : Option Int :=
  some (bits .xor .u32 (if (IntKind.u32).signed then -1 else (IntKind.u32).max) x1)
noncomputable def cW (x7 : Int) (x8 : Int) : Option ((Int × Int) ⊕ Int) :=
  some (.inl (x8, (IntKind.wrap .i64 (x7 + 1))))
noncomputable def bw (x13 : Int) (x14 : Int) : Option ((Int × Int) ⊕ Int) :=
  if x14 < 8 then (some (.inl ((bits .xor .u32 (x13.fdiv (2 ^ (min 1 (IntKind.bits .u32)))) (bits .and .u32 3988292384 (IntKind.wrap .u32 (0 - (bits .and .u32 x13 1))))), (IntKind.wrap .i64 (x14 + 1))))) else (some (.inr x13))
noncomputable def bH (p1 : List Int) (x6 : Int) (x7 : Int) : Option ((Int × Int) ⊕ Int) :=
  if x7 < (p1.length : Int) then (if (0 ≤ x7 ∧ x7 < (p1.length : Int)) then ((bz (fun (x13, x14) => bw x13 x14) ((bits .xor .u32 x6 (IntKind.wrap .u32 (p1.getD x7.toNat default))), 0)).bind (fun z15 => cW x7 z15)) else none) else (some (.inr x6))
noncomputable def dH (p1 : List Int) : Option Int :=
  (bz (fun (x6, x7) => bH p1 x6 x7) (4294967295, 0)).bind (fun z16 => cV z16)
noncomputable def dI : Option Bool :=
  (cK (ag.mk 100 3 0 [] [] [] [])).bind fun y1 => if ((y1.2).code) = 0 then (if (y1.1.length : Int) = 15 then (if (0 ≤ 3 ∧ 3 < (y1.1.length : Int)) then (if (y1.1.getD 3 default) = 200 then (if (0 ≤ 4 ∧ 4 < (y1.1.length : Int)) then (if (y1.1.getD 4 default) = 1 then ((dH (lit ([49, 50, 51, 52, 53, 54, 55, 56, 57] : List Int))).bind fun y2 => some (y2 == 3421780262)) else (some false)) else none) else (some false)) else none) else (some false)) else (some false)
noncomputable def dJ (p1 : ag) : Option Bool :=
  if (p1.put.length : Int) > 7000 then (some true) else (if (p1.bools.length : Int) > 7000 then (some true) else (if (p1.get.length : Int) > 20000 then (some true) else (some (decide ((p1.code.length : Int) > 20000)))))
noncomputable def bm (x1 : Int) (x2 : Int) : Option ((Int × Int) ⊕ (Int × Int)) :=
  some (.inl ((bits .xor .i64 (IntKind.wrap .i64 (x2.fdiv (2 ^ (min 1 (IntKind.bits .u64))))) (IntKind.wrap .i64 (0 - (IntKind.wrap .i64 (bits .and .u64 x2 1))))), x1))
noncomputable def aI (p1 : ah) (x9 : Int) (x10 : Int) (x11 : Int) : Option ((Int × Int × Int) ⊕ ((Int × Int) ⊕ ((Int × Int) ⊕ (Int × Int)))) :=
  if 0 ≤ (IntKind.wrap .i64 (7 * x11)) then (if (p1.b.getD x9.toNat default) < 128 then (some (.inr (.inl ((IntKind.wrap .i64 (x9 + 1)), (bits .or .u64 x10 (IntKind.wrap .u64 ((IntKind.wrap .u64 (bits .and .u8 (p1.b.getD x9.toNat default) 127)) * 2 ^ (min ((IntKind.wrap .i64 (7 * x11)).toNat) (IntKind.bits .u64))))))))) else (some (.inl ((IntKind.wrap .i64 (x9 + 1)), (bits .or .u64 x10 (IntKind.wrap .u64 ((IntKind.wrap .u64 (bits .and .u8 (p1.b.getD x9.toNat default) 127)) * 2 ^ (min ((IntKind.wrap .i64 (7 * x11)).toNat) (IntKind.bits .u64))))), (IntKind.wrap .i64 (x11 + 1)))))) else none
noncomputable def aM (p1 : ah) (x9 : Int) (x10 : Int) (x11 : Int) : Option ((Int × Int × Int) ⊕ ((Int × Int) ⊕ ((Int × Int) ⊕ (Int × Int)))) :=
  if x11 < 10 then (if x9 ≥ (p1.b.length : Int) then (some (.inr (.inr (.inr (5, (p1.b.length : Int)))))) else (if (0 ≤ x9 ∧ x9 < (p1.b.length : Int)) then (if x11 = 9 then (if (p1.b.getD x9.toNat default) > 1 then (some (.inr (.inr (.inr (2, x9))))) else (if x11 > 0 then (if (p1.b.getD x9.toNat default) = 0 then (some (.inr (.inr (.inr (2, x9))))) else (aI p1 x9 x10 x11)) else (aI p1 x9 x10 x11))) else (if x11 > 0 then (if (p1.b.getD x9.toNat default) = 0 then (some (.inr (.inr (.inr (2, x9))))) else (aI p1 x9 x10 x11)) else (aI p1 x9 x10 x11))) else none)) else (some (.inr (.inl (x9, x10))))
noncomputable def aA (p1 : ah) : Option ((Int × Int) ⊕ (Int × Int)) :=
  (bz (fun (x9, x10, x11) => aM p1 x9 x10 x11) (p1.at_, 0, 0)).bind (Sum.elim (fun (z12, z13) => bm z12 z13) (fun z14 => some z14))
noncomputable def b8 (p1 : Int) (p2 : ah) : Option ((Int × Int) ⊕ (Int × Int)) :=
  (aA p2).bind fun y1 => Sum.elim (fun y4 => if y4.1 < 0 then (some (.inr (7, p2.at_))) else (if p1 ≠ 0 then (if y4.1 > (IntKind.wrap .i64 ((IntKind.wrap .i64 ((p2.b.length : Int) - y4.2)).tdiv p1)) then (some (.inr (7, p2.at_))) else (some (.inl (y4.1, y4.2)))) else none)) (fun y5 => some (.inr (y5.1, y5.2))) y1
noncomputable def cj (x3 : Int) (l4 : List Int) : Option (((List Int) × Int) ⊕ (Int × Int)) :=
  some (.inl (l4, x3))
noncomputable def aO (p1 : ah) (y9 : (Int × Int)) (x25 : Int) (l26 : List Int) (x28 : Int) : Option ((Int × (List Int) × Int) ⊕ ((Int × (List Int)) ⊕ (((List Int) × Int) ⊕ (Int × Int)))) :=
  if x28 < y9.1 then ((aA (ah.mk p1.b x25)).bind fun y29 => Sum.elim (fun y32 => if iX (l26.length + 1) 8 then (some (.inl (y32.2, (l26 ++ (lit ([y32.1] : List Int))), (IntKind.wrap .i64 (x28 + 1))))) else none) (fun y33 => some (.inr (.inr (.inr (y33.1, y33.2))))) y29) else (some (.inr (.inl (x25, l26))))
noncomputable def bI (p1 : ah) : Option (((List Int) × Int) ⊕ (Int × Int)) :=
  (b8 1 p1).bind fun y6 => Sum.elim (fun y9 => (bz (fun (x25, l26, x28) => aO p1 y9 x25 l26 x28) (y9.2, [], 0)).bind (Sum.elim (fun (z34, z35) => cj z34 z35) (fun z36 => some z36))) (fun y10 => some (.inr (y10.1, y10.2))) y6
noncomputable def bQ (y4 : (Int × Int)) (y9 : (Int × Int)) (y14 : (Int × Int)) (y19 : ((List Int) × Int)) (y24 : ((List Int) × Int)) (y29 : ((List Int) × Int)) (x33 : Int) (l34 : List aD) : Option ((ag × Int) ⊕ (Int × Int)) :=
  some (.inl ((ag.mk y4.1 y9.1 y14.1 y19.1 y24.1 y29.1 l34), x33))
noncomputable def aF (p1 : ah) (y39 : (Int × Int)) (x55 : Int) (l56 : List aD) (x58 : Int) : Option ((Int × (List aD) × Int) ⊕ ((Int × (List aD)) ⊕ ((ag × Int) ⊕ (Int × Int)))) :=
  if x58 < y39.1 then ((aA (ah.mk p1.b x55)).bind fun y59 => Sum.elim (fun y62 => (aA (ah.mk p1.b y62.2)).bind fun y64 => Sum.elim (fun y67 => (aA (ah.mk p1.b y67.2)).bind fun y69 => Sum.elim (fun y72 => (aA (ah.mk p1.b y72.2)).bind fun y74 => Sum.elim (fun y77 => (aA (ah.mk p1.b y77.2)).bind fun y79 => Sum.elim (fun y82 => (aA (ah.mk p1.b y82.2)).bind fun y84 => Sum.elim (fun y87 => if iX (l56.length + 1) 48 then (some (.inl (y87.2, (l56 ++ (lit ([(aD.mk y62.1 y67.1 y72.1 y77.1 y82.1 y87.1)] : List aD))), (IntKind.wrap .i64 (x58 + 1))))) else none) (fun y88 => some (.inr (.inr (.inr (y88.1, y88.2))))) y84) (fun y83 => some (.inr (.inr (.inr (y83.1, y83.2))))) y79) (fun y78 => some (.inr (.inr (.inr (y78.1, y78.2))))) y74) (fun y73 => some (.inr (.inr (.inr (y73.1, y73.2))))) y69) (fun y68 => some (.inr (.inr (.inr (y68.1, y68.2))))) y64) (fun y63 => some (.inr (.inr (.inr (y63.1, y63.2))))) y59) else (some (.inr (.inl (x55, l56))))
noncomputable def b9 (p1 : ah) : Option ((ag × Int) ⊕ (Int × Int)) :=
  (aA p1).bind fun y1 => Sum.elim (fun y4 => (aA (ah.mk p1.b y4.2)).bind fun y6 => Sum.elim (fun y9 => (aA (ah.mk p1.b y9.2)).bind fun y11 => Sum.elim (fun y14 => (bI (ah.mk p1.b y14.2)).bind fun y16 => Sum.elim (fun y19 => (bI (ah.mk p1.b y19.2)).bind fun y21 => Sum.elim (fun y24 => (bI (ah.mk p1.b y24.2)).bind fun y26 => Sum.elim (fun y29 => (b8 6 (ah.mk p1.b y29.2)).bind fun y36 => Sum.elim (fun y39 => (bz (fun (x55, l56, x58) => aF p1 y39 x55 l56 x58) (y39.2, [], 0)).bind (Sum.elim (fun (z89, z90) => bQ y4 y9 y14 y19 y24 y29 z89 z90) (fun z91 => some z91))) (fun y40 => some (.inr (y40.1, y40.2))) y36) (fun y30 => some (.inr (y30.1, y30.2))) y26) (fun y25 => some (.inr (y25.1, y25.2))) y21) (fun y20 => some (.inr (y20.1, y20.2))) y16) (fun y15 => some (.inr (y15.1, y15.2))) y11) (fun y10 => some (.inr (y10.1, y10.2))) y6) (fun y5 => some (.inr (y5.1, y5.2))) y1
noncomputable def cL (p1 : List Int) : Option (ag × ao) :=
  if (IntKind.wrap .i64 ((p1.length : Int) - 4)) < 3 then (some ((ag.mk 0 0 0 [] [] [] []), (ao.mk 5 (p1.length : Int)))) else (if (0 ≤ 3 ∧ 3 ≤ (p1.length : Int)) then (if (js (p1.take 3)) = ([76, 87, 1] : List UInt8) then (if (0 ≤ (IntKind.wrap .i64 ((p1.length : Int) - 4)) ∧ (IntKind.wrap .i64 ((p1.length : Int) - 4)) < (p1.length : Int)) ∧ (0 ≤ (IntKind.wrap .i64 ((IntKind.wrap .i64 ((p1.length : Int) - 4)) + 1)) ∧ (IntKind.wrap .i64 ((IntKind.wrap .i64 ((p1.length : Int) - 4)) + 1)) < (p1.length : Int)) ∧ (0 ≤ (IntKind.wrap .i64 ((IntKind.wrap .i64 ((p1.length : Int) - 4)) + 2)) ∧ (IntKind.wrap .i64 ((IntKind.wrap .i64 ((p1.length : Int) - 4)) + 2)) < (p1.length : Int)) ∧ (0 ≤ (IntKind.wrap .i64 ((IntKind.wrap .i64 ((p1.length : Int) - 4)) + 3)) ∧ (IntKind.wrap .i64 ((IntKind.wrap .i64 ((p1.length : Int) - 4)) + 3)) < (p1.length : Int)) then (if (0 ≤ (IntKind.wrap .i64 ((p1.length : Int) - 4)) ∧ (IntKind.wrap .i64 ((p1.length : Int) - 4)) ≤ (p1.length : Int)) then ((dH (p1.take ((IntKind.wrap .i64 ((p1.length : Int) - 4)).toNat))).bind fun y1 => if ¬ y1 = (bits .or .u32 (bits .or .u32 (bits .or .u32 (IntKind.wrap .u32 (p1.getD ((IntKind.wrap .i64 ((p1.length : Int) - 4)).toNat) default)) (IntKind.wrap .u32 ((IntKind.wrap .u32 (p1.getD ((IntKind.wrap .i64 ((IntKind.wrap .i64 ((p1.length : Int) - 4)) + 1)).toNat) default)) * 2 ^ (min 8 (IntKind.bits .u32))))) (IntKind.wrap .u32 ((IntKind.wrap .u32 (p1.getD ((IntKind.wrap .i64 ((IntKind.wrap .i64 ((p1.length : Int) - 4)) + 2)).toNat) default)) * 2 ^ (min 16 (IntKind.bits .u32))))) (IntKind.wrap .u32 ((IntKind.wrap .u32 (p1.getD ((IntKind.wrap .i64 ((IntKind.wrap .i64 ((p1.length : Int) - 4)) + 3)).toNat) default)) * 2 ^ (min 24 (IntKind.bits .u32))))) then (some ((ag.mk 0 0 0 [] [] [] []), (ao.mk 19 (IntKind.wrap .i64 ((p1.length : Int) - 4))))) else ((b9 (ah.mk (p1.take ((IntKind.wrap .i64 ((p1.length : Int) - 4)).toNat)) 3)).bind fun y2 => Sum.elim (fun y5 => if y5.2 < (IntKind.wrap .i64 ((p1.length : Int) - 4)) then (some ((ag.mk 0 0 0 [] [] [] []), (ao.mk 4 y5.2))) else ((dg (y5.1)).bind fun y7 => if ¬ ((y7).code) = 0 then (some ((ag.mk 0 0 0 [] [] [] []), (ao.mk 18 (IntKind.wrap .i64 ((p1.length : Int) - 4))))) else (some ((y5.1), (ao.mk 0 0))))) (fun y6 => some ((ag.mk 0 0 0 [] [] [] []), (ao.mk y6.1 y6.2))) y2)) else none) else none) else (some ((ag.mk 0 0 0 [] [] [] []), (ao.mk 4 0)))) else none)
noncomputable def eU (p1 : ag) (p2 : Int) (p3 : Int) : Option Bool :=
  (dI ).bind fun y1 => if y1 = true then ((dJ p1).bind fun y2 => if y2 = true then (some true) else ((cK p1).bind fun y3 => if ¬ ((y3.2).code) = 0 then (some true) else (if p3 = 0 then (some true) else (if (IntKind.wrap .u64 (y3.1.length : Int)) ≠ 0 then (if iX y3.1.length 1 then (if (0 ≤ (IntKind.wrap .i64 ((IntKind.wrap .u64 p2).tmod (IntKind.wrap .u64 (y3.1.length : Int)))) ∧ (IntKind.wrap .i64 ((IntKind.wrap .u64 p2).tmod (IntKind.wrap .u64 (y3.1.length : Int)))) < (y3.1.length : Int)) then ((cL (y3.1.set ((IntKind.wrap .i64 ((IntKind.wrap .u64 p2).tmod (IntKind.wrap .u64 (y3.1.length : Int)))).toNat) (bits .xor .u8 (y3.1.getD ((IntKind.wrap .i64 ((IntKind.wrap .u64 p2).tmod (IntKind.wrap .u64 (y3.1.length : Int)))).toNat) default) p3))).bind fun y4 => (cL y3.1).bind fun y5 => if ¬ ((y4.2).code) = 0 then (some (((y5.2).code) == 0)) else (some false)) else none) else none) else none)))) else (some false)
end Pam
namespace Pam
open Go
noncomputable def fP (p1 : Int) (x1 : Int) : Option (Int × Int × Int) :=
  if (0 ≤ p1 ∧ p1 < (([63, 105, 105, 105, 105, 105, 105, 105, 105, 105, 98, 98, 98, 105, 98] : List UInt8).length : Int)) ∧ (0 ≤ p1 ∧ p1 < (([63, 105, 105, 105, 105, 105, 105, 105, 98, 98, 98, 98, 98, 105, 98] : List UInt8).length : Int)) then (some (((([63, 105, 105, 105, 105, 105, 105, 105, 105, 105, 98, 98, 98, 105, 98] : List UInt8).getD p1.toNat 0).toNat : Int), ((([63, 105, 105, 105, 105, 105, 105, 105, 98, 98, 98, 98, 98, 105, 98] : List UInt8).getD p1.toNat 0).toNat : Int), x1)) else none
noncomputable def kf (p1 : Int) : Option (Int × Int × Int) :=
  if p1 < 1 then (some (0, 0, 0)) else (if p1 > 14 then (some (0, 0, 0)) else (if p1 ≥ 13 then (fP p1 1) else (fP p1 2)))
noncomputable def ks : Option Bool :=
  some true
noncomputable def fT (p1 : ag) (p2 : List Int) (x3 : Int) : Option (Int ⊕ (Unit ⊕ Bool)) :=
  if x3 < (p2.length : Int) then (if (0 ≤ x3 ∧ x3 < (p2.length : Int)) then (if (p2.getD x3.toNat default) < 0 then (some (.inr (.inr false))) else (if (p2.getD x3.toNat default) ≥ p1.regs then (some (.inr (.inr false))) else (some (.inl (IntKind.wrap .i64 (x3 + 1)))))) else none) else (some (.inr (.inl ())))
noncomputable def cC (p1 : ag) (p2 : List Int) : Option Bool :=
  (bz (fun x3 => fT p1 p2 x3) 0).bind (Sum.elim (fun _ => ks) (fun z4 => some z4))
noncomputable def gJ (p1 : ag) (p2 : aD) (y1 : (Int × Int × Int)) (b5 : Bool) : Option Bool :=
  if b5 = true then ((cC p1 (lit ([p2.r_, p2.a] : List Int))).bind fun y6 => if y6 = true then (if p2.n ≥ 0 then (if p2.n < p1.cells then (if p2.b ≥ 1 then (some (decide (p2.b ≤ (IntKind.wrap .i64 (p1.cells - p2.n))))) else (some false)) else (some false)) else (some false)) else (some false)) else (if p2.op = 6 then ((cC p1 (lit ([p2.r_, p2.a] : List Int))).bind fun y7 => if y7 = true then (some (y1.2.2 == 1)) else (some false)) else (if p2.op = 7 then ((cC p1 (lit ([p2.r_, p2.a, p2.b] : List Int))).bind fun y8 => if y8 = true then (some (y1.2.2 == 2)) else (some false)) else (if p2.op = 8 then ((cC p1 (lit ([p2.r_, p2.a, p2.b] : List Int))).bind fun y9 => some y9) else (if p2.op = 9 then ((cC p1 (lit ([p2.r_, p2.a] : List Int))).bind fun y10 => some y10) else (if p2.op = 10 then ((cC p1 (lit ([p2.r_] : List Int))).bind fun y11 => if y11 = true then (if p2.n ≥ 1 then (some (decide (p2.n ≤ 300))) else (some false)) else (some false)) else (some (p2.op == 11)))))))
noncomputable def gK (p1 : ag) (p2 : aD) (y1 : (Int × Int × Int)) (b3 : Bool) : Option Bool :=
  if b3 = true then ((cC p1 (lit ([p2.r_] : List Int))).bind fun y4 => if y4 = true then (if p2.n ≥ 0 then (some (decide (p2.n < p1.cells))) else (some false)) else (some false)) else (if p2.op = 3 then (gJ p1 p2 y1 (p2.op == 3)) else (gJ p1 p2 y1 (p2.op == 5)))
noncomputable def ji (p1 : ag) (p2 : aD) : Option Bool :=
  (kf p2.k).bind fun y1 => if p2.op = 1 then ((cC p1 (lit ([p2.r_] : List Int))).bind fun y2 => some y2) else (if p2.op = 2 then (gK p1 p2 y1 (p2.op == 2)) else (gK p1 p2 y1 (p2.op == 4)))
end Pam
namespace Pam
open Go
end Pam
