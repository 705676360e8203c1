/- what kinds_Op computes, read off the program by a program of ours -/
import Derived.Test.YtjmjabdmmlgenaaBackaData1
import Derived.Test.YtjmjabdmmlgenaaBackBase2
set_option linter.all false
namespace Pam
open Go
noncomputable def io (p1 : Int) : Option (Int × Int × Int) :=
  if p1 ≥ 1 then (if p1 ≤ 7 then (some (105, 105, 2)) else (if p1 = 8 then (some (105, 98, 2)) else (if p1 = 9 then (some (105, 98, 2)) else (if p1 ≥ 10 then (if p1 ≤ 12 then (some (98, 98, 2)) else (if p1 = 13 then (some (105, 105, 1)) else (if p1 = 14 then (some (98, 98, 1)) else (some (0, 0, 0))))) else (if p1 = 13 then (some (105, 105, 1)) else (if p1 = 14 then (some (98, 98, 1)) else (some (0, 0, 0)))))))) else (if p1 = 8 then (some (105, 98, 2)) else (if p1 = 9 then (some (105, 98, 2)) else (if p1 ≥ 10 then (if p1 ≤ 12 then (some (98, 98, 2)) else (if p1 = 13 then (some (105, 105, 1)) else (if p1 = 14 then (some (98, 98, 1)) else (some (0, 0, 0))))) else (if p1 = 13 then (some (105, 105, 1)) else (if p1 = 14 then (some (98, 98, 1)) else (some (0, 0, 0)))))))
noncomputable def er (p1 : Int) (p2 : bI) : Option Bool :=
  if p1 < 0 then (some true) else (some (decide (p1 ≥ p2.m_.regs)))
noncomputable def bj : Option Int :=
  some (-1)
noncomputable def bk (p1 : List Int) (p2 : bI) (x3 : Int) : Option (Int ⊕ (Unit ⊕ Int)) :=
  if x3 < (p1.length : Int) then (if (0 ≤ x3 ∧ x3 < (p1.length : Int)) then ((er (p1.getD x3.toNat default) p2).bind fun y4 => if y4 = true then (some (.inr (.inr x3))) else (some (.inl (IntKind.wrap .i64 (x3 + 1))))) else none) else (some (.inr (.inl ())))
noncomputable def bJ (p1 : List Int) (p2 : bI) : Option Int :=
  (bw (fun x3 => bk p1 p2 x3) 0).bind (Sum.elim (fun _ => bj) (fun z5 => some z5))
noncomputable def bU (p1 : List Int) (p2 : bI) : Option Bool :=
  (bJ p1 p2).bind fun y1 => some (decide (y1 ≥ 0))
noncomputable def aY (p1 : bI) (p2 : List Int) : Option Bool :=
  (bU p2 p1).bind fun y1 => some (!y1)
noncomputable def cj (p1 : bI) (p2 : Int) (p3 : Int) : Option Bool :=
  if p3 ≥ 1 then (if p3 ≤ p1.m_.cells then (if p2 ≥ 0 then (some (decide (p2 ≤ (IntKind.wrap .i64 (p1.m_.cells - p3))))) else (some false)) else (some false)) else (some false)
noncomputable def ck (p1 : bI) (p2 : aF) (y1 : (Int × Int × Int)) (b6 : Bool) : Option Bool :=
  if b6 = true then ((aY p1 (lit ([p2.r_, p2.a] : List Int))).bind fun y7 => if y7 = true then ((cj p1 p2.n p2.b).bind fun y8 => some y8) else (some false)) else (if p2.op = 6 then ((aY p1 (lit ([p2.r_, p2.a] : List Int))).bind fun y9 => if y9 = true then (some (y1.2.2 == 1)) else (some false)) else (if p2.op = 7 then ((aY p1 (lit ([p2.r_, p2.a, p2.b] : List Int))).bind fun y10 => if y10 = true then (some (y1.2.2 == 2)) else (some false)) else (if p2.op = 8 then ((aY p1 (lit ([p2.r_, p2.a, p2.b] : List Int))).bind fun y11 => some y11) else (if p2.op = 9 then ((aY p1 (lit ([p2.r_, p2.a] : List Int))).bind fun y12 => some y12) else (if p2.op = 10 then ((aY p1 (lit ([p2.r_] : List Int))).bind fun y13 => if y13 = true then (if p2.n ≥ 1 then (some (decide (p2.n ≤ 300))) else (some false)) else (some false)) else (some (p2.op == 11)))))))
noncomputable def cm (p1 : bI) (p2 : aF) (y1 : (Int × Int × Int)) (b3 : Bool) : Option Bool :=
  if b3 = true then ((aY p1 (lit ([p2.r_] : List Int))).bind fun y4 => if y4 = true then ((cj p1 p2.n 1).bind fun y5 => some y5) else (some false)) else (if p2.op = 3 then (ck p1 p2 y1 (p2.op == 3)) else (ck p1 p2 y1 (p2.op == 5)))
noncomputable def cG (p1 : bI) (p2 : aF) : Option Bool :=
  (io p2.k).bind fun y1 => if p2.op = 1 then ((aY p1 (lit ([p2.r_] : List Int))).bind fun y2 => some y2) else (if p2.op = 2 then (cm p1 p2 y1 (p2.op == 2)) else (cm p1 p2 y1 (p2.op == 4)))
noncomputable def dx (x1 : Int) (x2 : Int) : Option Int :=
  if x2 > 0 then (some 0) else (some x1)
noncomputable def dy (p1 : List aF) (x11 : Int) (x12 : Int) (x13 : Int) (x14 : Int) : Option ((Int × Int × Int × Int) ⊕ ((Int × Int) ⊕ Int)) :=
  if x14 < (p1.length : Int) then (if (0 ≤ x14 ∧ x14 < (p1.length : Int)) then (if ((p1.getD x14.toNat default).op) = 10 then (if x12 > 1 then (some (.inr (.inr 0))) else (if x13 > 0 then (some (.inr (.inr 0))) else (if ((p1.getD x14.toNat default).n) < 1 then (some (.inr (.inr 0))) else (if ((p1.getD x14.toNat default).n) > 300 then (some (.inr (.inr 0))) else (some (.inl ((IntKind.wrap .i64 (x11 + x12)), (p1.getD x14.toNat default).n, 1, (IntKind.wrap .i64 (x14 + 1))))))))) else (if ((p1.getD x14.toNat default).op) = 11 then (if x13 = 0 then (some (.inr (.inr 0))) else (some (.inl ((IntKind.wrap .i64 (x11 + x12)), 1, 0, (IntKind.wrap .i64 (x14 + 1)))))) else (some (.inl ((IntKind.wrap .i64 (x11 + x12)), x12, x13, (IntKind.wrap .i64 (x14 + 1))))))) else none) else (some (.inr (.inl (x11, x13))))
noncomputable def gF (p1 : List aF) : Option Int :=
  (bw (fun (x11, x12, x13, x14) => dy p1 x11 x12 x13 x14) (0, 1, 0, 0)).bind (Sum.elim (fun (z15, z16) => dx z15 z16) (fun z17 => some z17))
noncomputable def dG (p1 : ag) : Option aq :=
  (gF p1.code).bind fun y1 => if y1 = 0 then (if (p1.code.length : Int) > 0 then (some (aq.mk 18 (-1))) else (if ¬ y1 = p1.cost then (some (aq.mk 18 (-1))) else (some (aq.mk 0 0)))) else (if ¬ y1 = p1.cost then (some (aq.mk 18 (-1))) else (some (aq.mk 0 0)))
noncomputable def dH (p1 : ag) (x4 : Int) : Option (Int ⊕ (Unit ⊕ aq)) :=
  if x4 < (p1.code.length : Int) then (if (0 ≤ x4 ∧ x4 < (p1.code.length : Int)) then ((cG (bI.mk p1) (p1.code.getD x4.toNat default)).bind fun y5 => if y5 = true then (some (.inl (IntKind.wrap .i64 (x4 + 1)))) else (some (.inr (.inr (aq.mk 4 x4))))) else none) else (some (.inr (.inl ())))
noncomputable def dI (p1 : ag) : Option aq :=
  (bw (fun x4 => dH p1 x4) 0).bind (Sum.elim (fun _ => dG p1) (fun z6 => some z6))
noncomputable def dJ (x9 : Int) : Option (Int ⊕ (Unit ⊕ aq)) :=
  some (.inl (IntKind.wrap .i64 (x9 + 1)))
noncomputable def dK (p1 : ag) (x9 : Int) (x12 : Int) : Option (Int ⊕ (Unit ⊕ aq)) :=
  if x12 < (((lit ([p1.put, p1.bools, p1.get] : List (List Int))).getD x9.toNat default).length : Int) then (if (0 ≤ x12 ∧ x12 < (((lit ([p1.put, p1.bools, p1.get] : List (List Int))).getD x9.toNat default).length : Int)) then (if (((lit ([p1.put, p1.bools, p1.get] : List (List Int))).getD x9.toNat default).getD x12.toNat default) < 0 then (some (.inr (.inr (aq.mk 16 (-1))))) else (if (((lit ([p1.put, p1.bools, p1.get] : List (List Int))).getD x9.toNat default).getD x12.toNat default) ≥ p1.cells then (some (.inr (.inr (aq.mk 16 (-1))))) else (some (.inl (IntKind.wrap .i64 (x12 + 1)))))) else none) else (some (.inr (.inl ())))
noncomputable def dL (p1 : ag) (x9 : Int) : Option (Int ⊕ (Unit ⊕ aq)) :=
  if x9 < (3 : Int) then (if (0 ≤ x9 ∧ x9 < (3 : Int)) then ((bw (fun x12 => dK p1 x9 x12) 0).bind (Sum.elim (fun _ => dJ x9) (fun z13 => some (.inr (.inr z13))))) else none) else (some (.inr (.inl ())))
noncomputable def cZ (p1 : ag) : Option aq :=
  if p1.cells < 1 then (some (aq.mk 13 (-1))) else (if p1.cells > 6000 then (some (aq.mk 13 (-1))) else (if p1.regs < 1 then (some (aq.mk 13 (-1))) else (if p1.regs > 40 then (some (aq.mk 13 (-1))) else (if (p1.put.length : Int) > 6000 then (some (aq.mk 7 (-1))) else (if (p1.bools.length : Int) > 6000 then (some (aq.mk 7 (-1))) else (if (p1.get.length : Int) > 120000 then (some (aq.mk 7 (-1))) else (if (p1.code.length : Int) > 200000 then (some (aq.mk 7 (-1))) else ((bw (fun x9 => dL p1 x9) 0).bind (Sum.elim (fun _ => dI p1) (fun z14 => some z14))))))))))
noncomputable def cJ (x15 : Int) (l18 : List Int) : Option (((List Int) × Int) ⊕ (List Int)) :=
  some (.inl (l18, (IntKind.wrap .i64 (x15 + 1))))
noncomputable def bB (x15 : Int) (l22 : List Int) (x24 : Int) : Option (((List Int) × Int) ⊕ (List Int)) :=
  if iH (l22.length + 1) 1 then (cJ x15 (l22 ++ (lit ([(IntKind.wrap .u8 x24)] : List Int)))) else none
noncomputable def aV (l39 : List Int) (x41 : Int) : Option (((List Int) × Int) ⊕ ((List Int) × Int)) :=
  if x41 ≥ 128 then (if iH (l39.length + 1) 1 then (some (.inl ((l39 ++ (lit ([(bits .or .u8 (IntKind.wrap .u8 x41) 128)] : List Int))), (x41.fdiv (2 ^ (min 7 (IntKind.bits .u64))))))) else none) else (some (.inr (l39, x41)))
noncomputable def aW (p1 : List Int) (l13 : List Int) (x15 : Int) : Option (((List Int) × Int) ⊕ (List Int)) :=
  if x15 < (p1.length : Int) then (if (0 ≤ x15 ∧ x15 < (p1.length : Int)) then ((bw (fun (l39, x41) => aV l39 x41) (l13, (bits .xor .u64 (IntKind.wrap .u64 ((IntKind.wrap .u64 (p1.getD x15.toNat default)) * 2 ^ (min 1 (IntKind.bits .u64)))) (IntKind.wrap .u64 ((p1.getD x15.toNat default).fdiv (2 ^ (min 63 (IntKind.bits .i64)))))))).bind (fun (z42, z43) => bB x15 z42 z43)) else none) else (some (.inr l13))
noncomputable def bh (p1 : List Int) (p2 : List Int) : Option (List Int) :=
  (bw (fun (l13, x15) => aW p1 l13 x15) (p2, 0)).bind (fun z44 => some z44)
noncomputable def aR (p1 : List Int) (l17 : List Int) (x19 : Int) : Option (((List Int) × Int) ⊕ (List Int)) :=
  if x19 < (p1.length : Int) then (if (0 ≤ x19 ∧ x19 < (p1.length : Int)) then ((bh (lit ([(p1.getD x19.toNat default)] : List Int)) l17).bind fun y20 => some (.inl (y20, (IntKind.wrap .i64 (x19 + 1))))) else none) else (some (.inr l17))
noncomputable def bY (p1 : List Int) (p2 : List Int) : Option (List Int) :=
  (bh (lit ([(p1.length : Int)] : List Int)) p2).bind fun y1 => (bw (fun (l17, x19) => aR p1 l17 x19) (y1, 0)).bind (fun z22 => some z22)
noncomputable def eW (x1 : Int) : Option Int :=
  some (bits .xor .u32 (if (IntKind.u32).signed then -1 else (IntKind.u32).max) x1)
noncomputable def eX (x7 : Int) (x8 : Int) : Option ((Int × Int) ⊕ Int) :=
  some (.inl (x8, (IntKind.wrap .i64 (x7 + 1))))
noncomputable def gZ (x13 : Int) (x14 : Int) : Option ((Int × Int) ⊕ Int) :=
  if x14 < 8 then (some (.inl ((bits .xor .u32 (x13.fdiv (2 ^ (min 1 (IntKind.bits .u32)))) (bits .and .u32 3988292384 (IntKind.wrap .u32 (0 - (bits .and .u32 x13 1))))), (IntKind.wrap .i64 (x14 + 1))))) else (some (.inr x13))
noncomputable def hB (p1 : List Int) (x6 : Int) (x7 : Int) : Option ((Int × Int) ⊕ Int) :=
  if x7 < (p1.length : Int) then (if (0 ≤ x7 ∧ x7 < (p1.length : Int)) then ((bw (fun (x13, x14) => gZ x13 x14) ((bits .xor .u32 x6 (IntKind.wrap .u32 (p1.getD x7.toNat default))), 0)).bind (fun z15 => eX x7 z15)) else none) else (some (.inr x6))
noncomputable def iz (p1 : List Int) : Option Int :=
  (bw (fun (x6, x7) => hB p1 x6 x7) (4294967295, 0)).bind (fun z16 => eW z16)
noncomputable def dC (l19 : List Int) : Option ((List Int) × aq) :=
  some (l19, (aq.mk 0 0))
noncomputable def a9 (l37 : List Int) (x39 : Int) (x40 : Int) : Option (((List Int) × Int × Int) ⊕ (List Int)) :=
  if x40 < 4 then (if iH (l37.length + 1) 1 then (some (.inl ((l37 ++ (lit ([(IntKind.wrap .u8 x39)] : List Int))), (x39.fdiv (2 ^ (min 8 (IntKind.bits .u32)))), (IntKind.wrap .i64 (x40 + 1))))) else none) else (some (.inr l37))
noncomputable def cH (l14 : List Int) : Option ((List Int) × aq) :=
  (iz l14).bind fun y16 => (bw (fun (l37, x39, x40) => a9 l37 x39 x40) (l14, y16, 0)).bind (fun z41 => dC z41)
noncomputable def bu (p1 : ag) (l56 : List Int) (x58 : Int) : Option (((List Int) × Int) ⊕ (List Int)) :=
  if x58 < (p1.code.length : Int) then (if (0 ≤ x58 ∧ x58 < (p1.code.length : Int)) then ((bh (lit ([(p1.code.getD x58.toNat default).op, (p1.code.getD x58.toNat default).k, (p1.code.getD x58.toNat default).r_, (p1.code.getD x58.toNat default).a, (p1.code.getD x58.toNat default).b, (p1.code.getD x58.toNat default).n] : List Int)) l56).bind fun y59 => some (.inl (y59, (IntKind.wrap .i64 (x58 + 1))))) else none) else (some (.inr l56))
noncomputable def cq (p1 : ag) : Option ((List Int) × aq) :=
  (cZ p1).bind fun y1 => if ¬ ((y1).code) = 0 then (some ([], (y1))) else ((bh (lit ([p1.cells, p1.regs, p1.cost] : List Int)) (lit ([76, 87, 1] : List Int))).bind fun y2 => (bY p1.put y2).bind fun y4 => (bY p1.bools y4).bind fun y6 => (bY p1.get y6).bind fun y8 => (bh (lit ([(p1.code.length : Int)] : List Int)) y8).bind fun y10 => (bw (fun (l56, x58) => bu p1 l56 x58) (y10, 0)).bind (fun z61 => cH z61))
noncomputable def dk (x1 : Int) : Option Int :=
  some (bits .xor .u32 (if (IntKind.u32).signed then -1 else (IntKind.u32).max) x1)
noncomputable def dl (x7 : Int) (x8 : Int) : Option ((Int × Int) ⊕ Int) :=
  some (.inl (x8, (IntKind.wrap .i64 (x7 + 1))))
noncomputable def bK (x13 : Int) (x14 : Int) : Option ((Int × Int) ⊕ Int) :=
  if x14 < 8 then (some (.inl ((bits .xor .u32 (x13.fdiv (2 ^ (min 1 (IntKind.bits .u32)))) (bits .and .u32 3988292384 (IntKind.wrap .u32 (0 - (bits .and .u32 x13 1))))), (IntKind.wrap .i64 (x14 + 1))))) else (some (.inr x13))
noncomputable def b8 (p1 : List Int) (x6 : Int) (x7 : Int) : Option ((Int × Int) ⊕ Int) :=
  if x7 < (p1.length : Int) then (if (0 ≤ x7 ∧ x7 < (p1.length : Int)) then ((bw (fun (x13, x14) => bK x13 x14) ((bits .xor .u32 x6 (IntKind.wrap .u32 (p1.getD x7.toNat default))), 0)).bind (fun z15 => dl x7 z15)) else none) else (some (.inr x6))
noncomputable def dY (p1 : List Int) : Option Int :=
  (bw (fun (x6, x7) => b8 p1 x6 x7) (4294967295, 0)).bind (fun z16 => dk z16)
noncomputable def dZ : Option Bool :=
  (cq (ag.mk 100 3 0 [] [] [] [])).bind fun y1 => if ((y1.2).code) = 0 then (if (y1.1.length : Int) = 15 then (if (0 ≤ 3 ∧ 3 < (y1.1.length : Int)) then (if (y1.1.getD 3 default) = 200 then (if (0 ≤ 4 ∧ 4 < (y1.1.length : Int)) then (if (y1.1.getD 4 default) = 1 then ((dY (lit ([49, 50, 51, 52, 53, 54, 55, 56, 57] : List Int))).bind fun y2 => some (y2 == 3421780262)) else (some false)) else none) else (some false)) else none) else (some false)) else (some false)
noncomputable def d8 (p1 : ag) : Option Bool :=
  if (p1.put.length : Int) > 7000 then (some true) else (if (p1.bools.length : Int) > 7000 then (some true) else (if (p1.get.length : Int) > 20000 then (some true) else (some (decide ((p1.code.length : Int) > 20000)))))
noncomputable def bi (x1 : Int) (x2 : Int) : Option ((Int × Int) ⊕ (Int × Int)) :=
  some (.inl ((bits .xor .i64 (IntKind.wrap .i64 (x2.fdiv (2 ^ (min 1 (IntKind.bits .u64))))) (IntKind.wrap .i64 (0 - (IntKind.wrap .i64 (bits .and .u64 x2 1))))), x1))
noncomputable def aD (p1 : ae) (x9 : Int) (x10 : Int) (x11 : Int) : Option ((Int × Int × Int) ⊕ ((Int × Int) ⊕ ((Int × Int) ⊕ (Int × Int)))) :=
  if 0 ≤ (IntKind.wrap .i64 (7 * x11)) then (if (p1.b.getD x9.toNat default) < 128 then (some (.inr (.inl ((IntKind.wrap .i64 (x9 + 1)), (bits .or .u64 x10 (IntKind.wrap .u64 ((IntKind.wrap .u64 (bits .and .u8 (p1.b.getD x9.toNat default) 127)) * 2 ^ (min ((IntKind.wrap .i64 (7 * x11)).toNat) (IntKind.bits .u64))))))))) else (some (.inl ((IntKind.wrap .i64 (x9 + 1)), (bits .or .u64 x10 (IntKind.wrap .u64 ((IntKind.wrap .u64 (bits .and .u8 (p1.b.getD x9.toNat default) 127)) * 2 ^ (min ((IntKind.wrap .i64 (7 * x11)).toNat) (IntKind.bits .u64))))), (IntKind.wrap .i64 (x11 + 1)))))) else none
noncomputable def ar (p1 : ae) (x9 : Int) (x10 : Int) (x11 : Int) : Option ((Int × Int × Int) ⊕ ((Int × Int) ⊕ ((Int × Int) ⊕ (Int × Int)))) :=
  if x11 < 10 then (if x9 ≥ (p1.b.length : Int) then (some (.inr (.inr (.inr (5, (p1.b.length : Int)))))) else (if (0 ≤ x9 ∧ x9 < (p1.b.length : Int)) then (if x11 = 9 then (if (p1.b.getD x9.toNat default) > 1 then (some (.inr (.inr (.inr (2, x9))))) else (if x11 > 0 then (if (p1.b.getD x9.toNat default) = 0 then (some (.inr (.inr (.inr (2, x9))))) else (aD p1 x9 x10 x11)) else (aD p1 x9 x10 x11))) else (if x11 > 0 then (if (p1.b.getD x9.toNat default) = 0 then (some (.inr (.inr (.inr (2, x9))))) else (aD p1 x9 x10 x11)) else (aD p1 x9 x10 x11))) else none)) else (some (.inr (.inl (x9, x10))))
noncomputable def aC (p1 : ae) : Option ((Int × Int) ⊕ (Int × Int)) :=
  (bw (fun (x9, x10, x11) => ar p1 x9 x10 x11) (p1.at_, 0, 0)).bind (Sum.elim (fun (z12, z13) => bi z12 z13) (fun z14 => some z14))
noncomputable def bp (p1 : Int) (p2 : ae) : Option ((Int × Int) ⊕ (Int × Int)) :=
  (aC p2).bind fun y1 => Sum.elim (fun y4 => if y4.1 < 0 then (some (.inr (7, p2.at_))) else (if p1 ≠ 0 then (if y4.1 > (IntKind.wrap .i64 ((IntKind.wrap .i64 ((p2.b.length : Int) - y4.2)).tdiv p1)) then (some (.inr (7, p2.at_))) else (some (.inl (y4.1, y4.2)))) else none)) (fun y5 => some (.inr (y5.1, y5.2))) y1
noncomputable def cz (x3 : Int) (l4 : List Int) : Option (((List Int) × Int) ⊕ (Int × Int)) :=
  some (.inl (l4, x3))
noncomputable def aA (p1 : ae) (y9 : (Int × Int)) (x25 : Int) (l26 : List Int) (x28 : Int) : Option ((Int × (List Int) × Int) ⊕ ((Int × (List Int)) ⊕ (((List Int) × Int) ⊕ (Int × Int)))) :=
  if x28 < y9.1 then ((aC (ae.mk p1.b x25)).bind fun y29 => Sum.elim (fun y32 => if iH (l26.length + 1) 8 then (some (.inl (y32.2, (l26 ++ (lit ([y32.1] : List Int))), (IntKind.wrap .i64 (x28 + 1))))) else none) (fun y33 => some (.inr (.inr (.inr (y33.1, y33.2))))) y29) else (some (.inr (.inl (x25, l26))))
noncomputable def bl (p1 : ae) : Option (((List Int) × Int) ⊕ (Int × Int)) :=
  (bp 1 p1).bind fun y6 => Sum.elim (fun y9 => (bw (fun (x25, l26, x28) => aA p1 y9 x25 l26 x28) (y9.2, [], 0)).bind (Sum.elim (fun (z34, z35) => cz z34 z35) (fun z36 => some z36))) (fun y10 => some (.inr (y10.1, y10.2))) y6
noncomputable def cg (y4 : (Int × Int)) (y9 : (Int × Int)) (y14 : (Int × Int)) (y19 : ((List Int) × Int)) (y24 : ((List Int) × Int)) (y29 : ((List Int) × Int)) (x33 : Int) (l34 : List aF) : Option ((ag × Int) ⊕ (Int × Int)) :=
  some (.inl ((ag.mk y4.1 y9.1 y14.1 y19.1 y24.1 y29.1 l34), x33))
noncomputable def au (p1 : ae) (y39 : (Int × Int)) (x55 : Int) (l56 : List aF) (x58 : Int) : Option ((Int × (List aF) × Int) ⊕ ((Int × (List aF)) ⊕ ((ag × Int) ⊕ (Int × Int)))) :=
  if x58 < y39.1 then ((aC (ae.mk p1.b x55)).bind fun y59 => Sum.elim (fun y62 => (aC (ae.mk p1.b y62.2)).bind fun y64 => Sum.elim (fun y67 => (aC (ae.mk p1.b y67.2)).bind fun y69 => Sum.elim (fun y72 => (aC (ae.mk p1.b y72.2)).bind fun y74 => Sum.elim (fun y77 => (aC (ae.mk p1.b y77.2)).bind fun y79 => Sum.elim (fun y82 => (aC (ae.mk p1.b y82.2)).bind fun y84 => Sum.elim (fun y87 => if iH (l56.length + 1) 48 then (some (.inl (y87.2, (l56 ++ (lit ([(aF.mk y62.1 y67.1 y72.1 y77.1 y82.1 y87.1)] : List aF))), (IntKind.wrap .i64 (x58 + 1))))) else none) (fun y88 => some (.inr (.inr (.inr (y88.1, y88.2))))) y84) (fun y83 => some (.inr (.inr (.inr (y83.1, y83.2))))) y79) (fun y78 => some (.inr (.inr (.inr (y78.1, y78.2))))) y74) (fun y73 => some (.inr (.inr (.inr (y73.1, y73.2))))) y69) (fun y68 => some (.inr (.inr (.inr (y68.1, y68.2))))) y64) (fun y63 => some (.inr (.inr (.inr (y63.1, y63.2))))) y59) else (some (.inr (.inl (x55, l56))))
noncomputable def bq (p1 : ae) : Option ((ag × Int) ⊕ (Int × Int)) :=
  (aC p1).bind fun y1 => Sum.elim (fun y4 => (aC (ae.mk p1.b y4.2)).bind fun y6 => Sum.elim (fun y9 => (aC (ae.mk p1.b y9.2)).bind fun y11 => Sum.elim (fun y14 => (bl (ae.mk p1.b y14.2)).bind fun y16 => Sum.elim (fun y19 => (bl (ae.mk p1.b y19.2)).bind fun y21 => Sum.elim (fun y24 => (bl (ae.mk p1.b y24.2)).bind fun y26 => Sum.elim (fun y29 => (bp 6 (ae.mk p1.b y29.2)).bind fun y36 => Sum.elim (fun y39 => (bw (fun (x55, l56, x58) => au p1 y39 x55 l56 x58) (y39.2, [], 0)).bind (Sum.elim (fun (z89, z90) => cg y4 y9 y14 y19 y24 y29 z89 z90) (fun z91 => some z91))) (fun y40 => some (.inr (y40.1, y40.2))) y36) (fun y30 => some (.inr (y30.1, y30.2))) y26) (fun y25 => some (.inr (y25.1, y25.2))) y21) (fun y20 => some (.inr (y20.1, y20.2))) y16) (fun y15 => some (.inr (y15.1, y15.2))) y11) (fun y10 => some (.inr (y10.1, y10.2))) y6) (fun y5 => some (.inr (y5.1, y5.2))) y1
noncomputable def cN (p1 : List Int) : Option (ag × aq) :=
  if (IntKind.wrap .i64 ((p1.length : Int) - 4)) < 3 then (some ((ag.mk 0 0 0 [] [] [] []), (aq.mk 5 (p1.length : Int)))) else (if (0 ≤ 3 ∧ 3 ≤ (p1.length : Int)) then (if (gY (p1.take 3)) = ([76, 87, 1] : List UInt8) then (if (0 ≤ (IntKind.wrap .i64 ((p1.length : Int) - 4)) ∧ (IntKind.wrap .i64 ((p1.length : Int) - 4)) < (p1.length : Int)) ∧ (0 ≤ (IntKind.wrap .i64 ((IntKind.wrap .i64 ((p1.length : Int) - 4)) + 1)) ∧ (IntKind.wrap .i64 ((IntKind.wrap .i64 ((p1.length : Int) - 4)) + 1)) < (p1.length : Int)) ∧ (0 ≤ (IntKind.wrap .i64 ((IntKind.wrap .i64 ((p1.length : Int) - 4)) + 2)) ∧ (IntKind.wrap .i64 ((IntKind.wrap .i64 ((p1.length : Int) - 4)) + 2)) < (p1.length : Int)) ∧ (0 ≤ (IntKind.wrap .i64 ((IntKind.wrap .i64 ((p1.length : Int) - 4)) + 3)) ∧ (IntKind.wrap .i64 ((IntKind.wrap .i64 ((p1.length : Int) - 4)) + 3)) < (p1.length : Int)) then (if (0 ≤ (IntKind.wrap .i64 ((p1.length : Int) - 4)) ∧ (IntKind.wrap .i64 ((p1.length : Int) - 4)) ≤ (p1.length : Int)) then ((dY (p1.take ((IntKind.wrap .i64 ((p1.length : Int) - 4)).toNat))).bind fun y1 => if ¬ y1 = (bits .or .u32 (bits .or .u32 (bits .or .u32 (IntKind.wrap .u32 (p1.getD ((IntKind.wrap .i64 ((p1.length : Int) - 4)).toNat) default)) (IntKind.wrap .u32 ((IntKind.wrap .u32 (p1.getD ((IntKind.wrap .i64 ((IntKind.wrap .i64 ((p1.length : Int) - 4)) + 1)).toNat) default)) * 2 ^ (min 8 (IntKind.bits .u32))))) (IntKind.wrap .u32 ((IntKind.wrap .u32 (p1.getD ((IntKind.wrap .i64 ((IntKind.wrap .i64 ((p1.length : Int) - 4)) + 2)).toNat) default)) * 2 ^ (min 16 (IntKind.bits .u32))))) (IntKind.wrap .u32 ((IntKind.wrap .u32 (p1.getD ((IntKind.wrap .i64 ((IntKind.wrap .i64 ((p1.length : Int) - 4)) + 3)).toNat) default)) * 2 ^ (min 24 (IntKind.bits .u32))))) then (some ((ag.mk 0 0 0 [] [] [] []), (aq.mk 19 (IntKind.wrap .i64 ((p1.length : Int) - 4))))) else ((bq (ae.mk (p1.take ((IntKind.wrap .i64 ((p1.length : Int) - 4)).toNat)) 3)).bind fun y2 => Sum.elim (fun y5 => if y5.2 < (IntKind.wrap .i64 ((p1.length : Int) - 4)) then (some ((ag.mk 0 0 0 [] [] [] []), (aq.mk 4 y5.2))) else ((cZ (y5.1)).bind fun y7 => if ¬ ((y7).code) = 0 then (some ((ag.mk 0 0 0 [] [] [] []), (aq.mk 18 (IntKind.wrap .i64 ((p1.length : Int) - 4))))) else (some ((y5.1), (aq.mk 0 0))))) (fun y6 => some ((ag.mk 0 0 0 [] [] [] []), (aq.mk y6.1 y6.2))) y2)) else none) else none) else (some ((ag.mk 0 0 0 [] [] [] []), (aq.mk 4 0)))) else none)
noncomputable def dD : Option Bool :=
  some true
noncomputable def dE (p1 : List Int) (p2 : List Int) (x3 : Int) : Option (Int ⊕ (Unit ⊕ Bool)) :=
  if x3 < (p1.length : Int) then (if (0 ≤ x3 ∧ x3 < (p1.length : Int)) ∧ (0 ≤ x3 ∧ x3 < (p2.length : Int)) then (if ¬ (p1.getD x3.toNat default) = (p2.getD x3.toNat default) then (some (.inr (.inr false))) else (some (.inl (IntKind.wrap .i64 (x3 + 1))))) else none) else (some (.inr (.inl ())))
noncomputable def dz (p1 : List Int) (p2 : List Int) : Option Bool :=
  if ¬ (p1.length : Int) = (p2.length : Int) then (some false) else ((bw (fun x3 => dE p1 p2 x3) 0).bind (Sum.elim (fun _ => dD) (fun z4 => some z4)))
noncomputable def dm : Option Bool :=
  some true
noncomputable def dp (p1 : ag) (p2 : ag) (x6 : Int) : Option (Int ⊕ (Unit ⊕ Bool)) :=
  if x6 < (p1.code.length : Int) then (if (0 ≤ x6 ∧ x6 < (p1.code.length : Int)) ∧ (0 ≤ x6 ∧ x6 < (p2.code.length : Int)) then (if ((p1.code.getD x6.toNat default).op) = ((p2.code.getD x6.toNat default).op) ∧ ((p1.code.getD x6.toNat default).k) = ((p2.code.getD x6.toNat default).k) ∧ ((p1.code.getD x6.toNat default).r_) = ((p2.code.getD x6.toNat default).r_) ∧ ((p1.code.getD x6.toNat default).a) = ((p2.code.getD x6.toNat default).a) ∧ ((p1.code.getD x6.toNat default).b) = ((p2.code.getD x6.toNat default).b) ∧ ((p1.code.getD x6.toNat default).n) = ((p2.code.getD x6.toNat default).n) then (some (.inl (IntKind.wrap .i64 (x6 + 1)))) else (some (.inr (.inr false)))) else none) else (some (.inr (.inl ())))
noncomputable def dM (p1 : ag) (p2 : ag) : Option Bool :=
  if ¬ p1.cells = p2.cells then (some false) else (if ¬ p1.regs = p2.regs then (some false) else (if ¬ p1.cost = p2.cost then (some false) else ((dz p1.put p2.put).bind fun y1 => if y1 = true then ((dz p1.bools p2.bools).bind fun y2 => if y2 = true then ((dz p1.get p2.get).bind fun y3 => if y3 = true then (if ¬ (p1.code.length : Int) = (p2.code.length : Int) then (some false) else ((bw (fun x6 => dp p1 p2 x6) 0).bind (Sum.elim (fun _ => dm) (fun z7 => some z7)))) else (some false)) else (some false)) else (some false))))
noncomputable def cn (p2 : List Int) : Option Bool :=
  (cN p2).bind fun y4 => if ¬ ((y4.2).code) = 0 then ((dM (y4.1) (ag.mk 0 0 0 [] [] [] [])).bind fun y5 => some y5) else ((cq (y4.1)).bind fun y6 => if ((y6.2).code) = 0 then (some ((gY y6.1) == (gY p2))) else (some false))
noncomputable def fq (p1 : ag) (p2 : List Int) : Option Bool :=
  (dZ ).bind fun y1 => if y1 = true then ((d8 p1).bind fun y2 => if y2 = true then (some true) else (if (p2.length : Int) > 30000 then (some true) else ((cq p1).bind fun y3 => if ((y3.2).code) = 0 then ((cN y3.1).bind fun y7 => if ¬ ((y7.2).code) = 0 then (some false) else ((dM (y7.1) p1).bind fun y8 => if y8 = true then (cn p2) else (some false))) else (cn p2)))) else (some false)
end Pam
namespace Pam
open Go
noncomputable def gg (p1 : Int) (x1 : Int) : Option (Int × Int × Int) :=
  if (0 ≤ p1 ∧ p1 < (([63, 105, 105, 105, 105, 105, 105, 105, 105, 105, 98, 98, 98, 105, 98] : List UInt8).length : Int)) ∧ (0 ≤ p1 ∧ p1 < (([63, 105, 105, 105, 105, 105, 105, 105, 98, 98, 98, 98, 98, 105, 98] : List UInt8).length : Int)) then (some (((([63, 105, 105, 105, 105, 105, 105, 105, 105, 105, 98, 98, 98, 105, 98] : List UInt8).getD p1.toNat 0).toNat : Int), ((([63, 105, 105, 105, 105, 105, 105, 105, 98, 98, 98, 98, 98, 105, 98] : List UInt8).getD p1.toNat 0).toNat : Int), x1)) else none
noncomputable def kM (p1 : Int) : Option (Int × Int × Int) :=
  if p1 < 1 then (some (0, 0, 0)) else (if p1 > 14 then (some (0, 0, 0)) else (if p1 ≥ 13 then (gg p1 1) else (gg p1 2)))
noncomputable def kY : Option Bool :=
  some true
noncomputable def gl (p1 : ag) (p2 : List Int) (x3 : Int) : Option (Int ⊕ (Unit ⊕ Bool)) :=
  if x3 < (p2.length : Int) then (if (0 ≤ x3 ∧ x3 < (p2.length : Int)) then (if (p2.getD x3.toNat default) < 0 then (some (.inr (.inr false))) else (if (p2.getD x3.toNat default) ≥ p1.regs then (some (.inr (.inr false))) else (some (.inl (IntKind.wrap .i64 (x3 + 1)))))) else none) else (some (.inr (.inl ())))
noncomputable def cR (p1 : ag) (p2 : List Int) : Option Bool :=
  (bw (fun x3 => gl p1 p2 x3) 0).bind (Sum.elim (fun _ => kY) (fun z4 => some z4))
noncomputable def hL (p1 : ag) (p2 : aF) (y1 : (Int × Int × Int)) (b5 : Bool) : Option Bool :=
  if b5 = true then ((cR p1 (lit ([p2.r_, p2.a] : List Int))).bind fun y6 => if y6 = true then (if p2.n ≥ 0 then (if p2.n < p1.cells then (if p2.b ≥ 1 then (some (decide (p2.b ≤ (IntKind.wrap .i64 (p1.cells - p2.n))))) else (some false)) else (some false)) else (some false)) else (some false)) else (if p2.op = 6 then ((cR p1 (lit ([p2.r_, p2.a] : List Int))).bind fun y7 => if y7 = true then (some (y1.2.2 == 1)) else (some false)) else (if p2.op = 7 then ((cR p1 (lit ([p2.r_, p2.a, p2.b] : List Int))).bind fun y8 => if y8 = true then (some (y1.2.2 == 2)) else (some false)) else (if p2.op = 8 then ((cR p1 (lit ([p2.r_, p2.a, p2.b] : List Int))).bind fun y9 => some y9) else (if p2.op = 9 then ((cR p1 (lit ([p2.r_, p2.a] : List Int))).bind fun y10 => some y10) else (if p2.op = 10 then ((cR p1 (lit ([p2.r_] : List Int))).bind fun y11 => if y11 = true then (if p2.n ≥ 1 then (some (decide (p2.n ≤ 300))) else (some false)) else (some false)) else (some (p2.op == 11)))))))
noncomputable def hM (p1 : ag) (p2 : aF) (y1 : (Int × Int × Int)) (b3 : Bool) : Option Bool :=
  if b3 = true then ((cR p1 (lit ([p2.r_] : List Int))).bind fun y4 => if y4 = true then (if p2.n ≥ 0 then (some (decide (p2.n < p1.cells))) else (some false)) else (some false)) else (if p2.op = 3 then (hL p1 p2 y1 (p2.op == 3)) else (hL p1 p2 y1 (p2.op == 5)))
noncomputable def jK (p1 : ag) (p2 : aF) : Option Bool :=
  (kM p2.k).bind fun y1 => if p2.op = 1 then ((cR p1 (lit ([p2.r_] : List Int))).bind fun y2 => some y2) else (if p2.op = 2 then (hM p1 p2 y1 (p2.op == 2)) else (hM p1 p2 y1 (p2.op == 4)))
end Pam
namespace Pam
open Go
end Pam
