/- what code_Cost computes, read off the program by a program of ours -/
import Derived.Test.YtkdminbbajdjpaaCodeCostsData1
set_option linter.all false
namespace Pam
open Go
noncomputable def code_Cost_j1 (x1 : Int) (x2 : Int) : Option Int :=
  if x2 > 0 then (some 0) else (some x1)

noncomputable def code_Cost_l1 (p1 : List TIns) (x11 : Int) (x12 : Int) (x13 : Int) (x14 : Int) : Option ((Int × Int × Int × Int) ⊕ ((Int × Int) ⊕ Int)) :=
  if x14 < (p1.length : Int) then (if (0 ≤ x14 ∧ x14 < (p1.length : Int)) then (if ((p1.getD x14.toNat default).op) = 10 then (if x12 > 1 then (some (.inr (.inr 0))) else (if x13 > 0 then (some (.inr (.inr 0))) else (if ((p1.getD x14.toNat default).n) < 1 then (some (.inr (.inr 0))) else (if ((p1.getD x14.toNat default).n) > 300 then (some (.inr (.inr 0))) else (some (.inl ((IntKind.wrap .i64 (x11 + x12)), (p1.getD x14.toNat default).n, 1, (IntKind.wrap .i64 (x14 + 1))))))))) else (if ((p1.getD x14.toNat default).op) = 11 then (if x13 = 0 then (some (.inr (.inr 0))) else (some (.inl ((IntKind.wrap .i64 (x11 + x12)), 1, 0, (IntKind.wrap .i64 (x14 + 1)))))) else (some (.inl ((IntKind.wrap .i64 (x11 + x12)), x12, x13, (IntKind.wrap .i64 (x14 + 1))))))) else none) else (some (.inr (.inl (x11, x13))))

noncomputable def code_Cost (p1 : List TIns) : Option Int :=
  (loop (fun (x11, x12, x13, x14) => code_Cost_l1 p1 x11 x12 x13 x14) (0, 1, 0, 0)).bind (Sum.elim (fun (z15, z16) => code_Cost_j1 z15 z16) (fun z17 => some z17))
end Pam

/- what kinds_Op computes, read off the program by a program of ours -/
namespace Pam
open Go
noncomputable def kinds_Op (p1 : Int) : Option (Int × Int × Int) :=
  if p1 ≥ 1 then (if p1 ≤ 7 then (some (105, 105, 2)) else (if p1 = 8 then (some (105, 98, 2)) else (if p1 = 9 then (some (105, 98, 2)) else (if p1 ≥ 10 then (if p1 ≤ 12 then (some (98, 98, 2)) else (if p1 = 13 then (some (105, 105, 1)) else (if p1 = 14 then (some (98, 98, 1)) else (some (0, 0, 0))))) else (if p1 = 13 then (some (105, 105, 1)) else (if p1 = 14 then (some (98, 98, 1)) else (some (0, 0, 0)))))))) else (if p1 = 8 then (some (105, 98, 2)) else (if p1 = 9 then (some (105, 98, 2)) else (if p1 ≥ 10 then (if p1 ≤ 12 then (some (98, 98, 2)) else (if p1 = 13 then (some (105, 105, 1)) else (if p1 = 14 then (some (98, 98, 1)) else (some (0, 0, 0))))) else (if p1 = 13 then (some (105, 105, 1)) else (if p1 = 14 then (some (98, 98, 1)) else (some (0, 0, 0)))))))
end Pam

/- what code_judge_reg_1 computes, read off the program by a program of ours -/
namespace Pam
open Go
noncomputable def code_judge_reg_1 (p1 : Int) (p2 : Tjudge) : Option Bool :=
  if p1 < 0 then (some true) else (some (decide (p1 ≥ p2.m_.regs)))
end Pam

/- what slices_IndexFunc_int_int computes, read off the program by a program of ours -/
namespace Pam
open Go
noncomputable def slices_IndexFunc_int_int_j1 : Option Int :=
  some (-1)

noncomputable def slices_IndexFunc_int_int_l1 (p1 : List Int) (p2 : Tjudge) (x3 : Int) : Option (Int ⊕ (Unit ⊕ Int)) :=
  if x3 < (p1.length : Int) then (if (0 ≤ x3 ∧ x3 < (p1.length : Int)) then ((code_judge_reg_1 (p1.getD x3.toNat default) p2).bind fun y4 => if y4 = true then (some (.inr (.inr x3))) else (some (.inl (IntKind.wrap .i64 (x3 + 1))))) else none) else (some (.inr (.inl ())))

noncomputable def slices_IndexFunc_int_int (p1 : List Int) (p2 : Tjudge) : Option Int :=
  (loop (fun x3 => slices_IndexFunc_int_int_l1 p1 p2 x3) 0).bind (Sum.elim (fun _ => slices_IndexFunc_int_int_j1) (fun z5 => some z5))
end Pam

/- what slices_ContainsFunc_int_int computes, read off the program by a program of ours -/
namespace Pam
open Go
noncomputable def slices_ContainsFunc_int_int (p1 : List Int) (p2 : Tjudge) : Option Bool :=
  (slices_IndexFunc_int_int p1 p2).bind fun y1 => some (decide (y1 ≥ 0))
end Pam

/- what code_judge_reg computes, read off the program by a program of ours -/
namespace Pam
open Go
noncomputable def code_judge_reg (p1 : Tjudge) (p2 : List Int) : Option Bool :=
  (slices_ContainsFunc_int_int p2 p1).bind fun y1 => some (!y1)
end Pam

/- what code_judge_cells computes, read off the program by a program of ours -/
namespace Pam
open Go
noncomputable def code_judge_cells (p1 : Tjudge) (p2 : Int) (p3 : Int) : Option Bool :=
  if p3 ≥ 1 then (if p3 ≤ p1.m_.cells then (if p2 ≥ 0 then (some (decide (p2 ≤ (IntKind.wrap .i64 (p1.m_.cells - p3))))) else (some false)) else (some false)) else (some false)
end Pam

/- what code_judge_fits computes, read off the program by a program of ours -/
namespace Pam
open Go
noncomputable def code_judge_fits_j2 (p1 : Tjudge) (p2 : TIns) (y1 : (Int × Int × Int)) (b6 : Bool) : Option Bool :=
  if b6 = true then ((code_judge_reg p1 (lit ([p2.r_, p2.a] : List Int))).bind fun y7 => if y7 = true then ((code_judge_cells p1 p2.n p2.b).bind fun y8 => some y8) else (some false)) else (if p2.op = 6 then ((code_judge_reg p1 (lit ([p2.r_, p2.a] : List Int))).bind fun y9 => if y9 = true then (some (y1.2.2 == 1)) else (some false)) else (if p2.op = 7 then ((code_judge_reg p1 (lit ([p2.r_, p2.a, p2.b] : List Int))).bind fun y10 => if y10 = true then (some (y1.2.2 == 2)) else (some false)) else (if p2.op = 8 then ((code_judge_reg p1 (lit ([p2.r_, p2.a, p2.b] : List Int))).bind fun y11 => some y11) else (if p2.op = 9 then ((code_judge_reg p1 (lit ([p2.r_, p2.a] : List Int))).bind fun y12 => some y12) else (if p2.op = 10 then ((code_judge_reg p1 (lit ([p2.r_] : List Int))).bind fun y13 => if y13 = true then (if p2.n ≥ 1 then (some (decide (p2.n ≤ 300))) else (some false)) else (some false)) else (some (p2.op == 11)))))))

noncomputable def code_judge_fits_j1 (p1 : Tjudge) (p2 : TIns) (y1 : (Int × Int × Int)) (b3 : Bool) : Option Bool :=
  if b3 = true then ((code_judge_reg p1 (lit ([p2.r_] : List Int))).bind fun y4 => if y4 = true then ((code_judge_cells p1 p2.n 1).bind fun y5 => some y5) else (some false)) else (if p2.op = 3 then (code_judge_fits_j2 p1 p2 y1 (p2.op == 3)) else (code_judge_fits_j2 p1 p2 y1 (p2.op == 5)))

noncomputable def code_judge_fits (p1 : Tjudge) (p2 : TIns) : Option Bool :=
  (kinds_Op p2.k).bind fun y1 => if p2.op = 1 then ((code_judge_reg p1 (lit ([p2.r_] : List Int))).bind fun y2 => some y2) else (if p2.op = 2 then (code_judge_fits_j1 p1 p2 y1 (p2.op == 2)) else (code_judge_fits_j1 p1 p2 y1 (p2.op == 4)))
end Pam

/- what code_Check computes, read off the program by a program of ours -/
namespace Pam
open Go
noncomputable def code_Check_j2 (p1 : TImage) : Option TFault :=
  (code_Cost p1.code).bind fun y1 => if y1 = 0 then (if (p1.code.length : Int) > 0 then (some (TFault.mk 18 (-1))) else (if ¬ y1 = p1.cost then (some (TFault.mk 18 (-1))) else (some (TFault.mk 0 0)))) else (if ¬ y1 = p1.cost then (some (TFault.mk 18 (-1))) else (some (TFault.mk 0 0)))

noncomputable def code_Check_l1 (p1 : TImage) (x4 : Int) : Option (Int ⊕ (Unit ⊕ TFault)) :=
  if x4 < (p1.code.length : Int) then (if (0 ≤ x4 ∧ x4 < (p1.code.length : Int)) then ((code_judge_fits (Tjudge.mk p1) (p1.code.getD x4.toNat default)).bind fun y5 => if y5 = true then (some (.inl (IntKind.wrap .i64 (x4 + 1)))) else (some (.inr (.inr (TFault.mk 4 x4))))) else none) else (some (.inr (.inl ())))

noncomputable def code_Check_j1 (p1 : TImage) : Option TFault :=
  (loop (fun x4 => code_Check_l1 p1 x4) 0).bind (Sum.elim (fun _ => code_Check_j2 p1) (fun z6 => some z6))

noncomputable def code_Check_j3 (x9 : Int) : Option (Int ⊕ (Unit ⊕ TFault)) :=
  some (.inl (IntKind.wrap .i64 (x9 + 1)))

noncomputable def code_Check_l3 (p1 : TImage) (x9 : Int) (x12 : Int) : Option (Int ⊕ (Unit ⊕ TFault)) :=
  if x12 < (((lit ([p1.put, p1.bools, p1.get] : List (List Int))).getD x9.toNat default).length : Int) then (if (0 ≤ x12 ∧ x12 < (((lit ([p1.put, p1.bools, p1.get] : List (List Int))).getD x9.toNat default).length : Int)) then (if (((lit ([p1.put, p1.bools, p1.get] : List (List Int))).getD x9.toNat default).getD x12.toNat default) < 0 then (some (.inr (.inr (TFault.mk 16 (-1))))) else (if (((lit ([p1.put, p1.bools, p1.get] : List (List Int))).getD x9.toNat default).getD x12.toNat default) ≥ p1.cells then (some (.inr (.inr (TFault.mk 16 (-1))))) else (some (.inl (IntKind.wrap .i64 (x12 + 1)))))) else none) else (some (.inr (.inl ())))

noncomputable def code_Check_l2 (p1 : TImage) (x9 : Int) : Option (Int ⊕ (Unit ⊕ TFault)) :=
  if x9 < (3 : Int) then (if (0 ≤ x9 ∧ x9 < (3 : Int)) then ((loop (fun x12 => code_Check_l3 p1 x9 x12) 0).bind (Sum.elim (fun _ => code_Check_j3 x9) (fun z13 => some (.inr (.inr z13))))) else none) else (some (.inr (.inl ())))

noncomputable def code_Check (p1 : TImage) : Option TFault :=
  if p1.cells < 1 then (some (TFault.mk 13 (-1))) else (if p1.cells > 6000 then (some (TFault.mk 13 (-1))) else (if p1.regs < 1 then (some (TFault.mk 13 (-1))) else (if p1.regs > 40 then (some (TFault.mk 13 (-1))) else (if (p1.put.length : Int) > 6000 then (some (TFault.mk 7 (-1))) else (if (p1.bools.length : Int) > 6000 then (some (TFault.mk 7 (-1))) else (if (p1.get.length : Int) > 120000 then (some (TFault.mk 7 (-1))) else (if (p1.code.length : Int) > 200000 then (some (TFault.mk 7 (-1))) else ((loop (fun x9 => code_Check_l2 p1 x9) 0).bind (Sum.elim (fun _ => code_Check_j1 p1) (fun z14 => some z14))))))))))
end Pam

/- what law_codeBegun computes, read off the program by a program of ours -/
namespace Pam
open Go
noncomputable def law_codeBegun : Option Bool :=
  (code_Cost (lit ([(TIns.mk 1 0 0 0 0 0), (TIns.mk 10 0 0 0 0 3), (TIns.mk 9 0 0 0 0 0), (TIns.mk 11 0 0 0 0 0), (TIns.mk 4 0 0 0 0 0)] : List TIns))).bind fun y1 => if y1 = 9 then ((code_Check (TImage.mk 1 1 9 [] [] [] (lit ([(TIns.mk 1 0 0 0 0 0), (TIns.mk 10 0 0 0 0 3), (TIns.mk 9 0 0 0 0 0), (TIns.mk 11 0 0 0 0 0), (TIns.mk 4 0 0 0 0 0)] : List TIns)))).bind fun y2 => some (((y2).code) == 0)) else (some false)
end Pam

/- what law_CodeCosts computes, read off the program by a program of ours -/
namespace Pam
open Go
noncomputable def law_CodeCosts_j2 (p1 : List TIns) (p3 : Int) (y2 : Int) : Option Bool :=
  if room 1 48 then (if room (1 + p1.length) 48 ∧ room ((1 + p1.length) + 1) 48 then (if y2 = (p1.length : Int) then ((code_Cost (((lit ([(TIns.mk 10 0 0 0 0 (IntKind.wrap .i64 (1 + (IntKind.wrap .i64 ((IntKind.wrap .u64 p3).tmod 300)))))] : List TIns)) ++ p1) ++ (lit ([(TIns.mk 11 0 0 0 0 0)] : List TIns)))).bind fun y4 => some (y4 == (IntKind.wrap .i64 (1 + (IntKind.wrap .i64 ((IntKind.wrap .i64 (1 + (IntKind.wrap .i64 ((IntKind.wrap .u64 p3).tmod 300)))) * (IntKind.wrap .i64 (y2 + 1)))))))) else (some false)) else none) else none

noncomputable def law_CodeCosts_l1 (p1 : List TIns) (y2 : Int) (x7 : Int) : Option (Int ⊕ (Unit ⊕ Bool)) :=
  if x7 < (p1.length : Int) then (if ((p1.getD x7.toNat default).op) = 10 then (if (0 ≤ x7 ∧ x7 < (p1.length : Int)) then (some (.inr (.inr (decide (y2 ≥ 0))))) else none) else (if (0 ≤ x7 ∧ x7 < (p1.length : Int)) then (if ((p1.getD x7.toNat default).op) = 11 then (some (.inr (.inr (decide (y2 ≥ 0))))) else (some (.inl (IntKind.wrap .i64 (x7 + 1))))) else none)) else (some (.inr (.inl ())))

noncomputable def law_CodeCosts_j1 (p1 : List TIns) (p3 : Int) (y2 : Int) : Option Bool :=
  (loop (fun x7 => law_CodeCosts_l1 p1 y2 x7) 0).bind (Sum.elim (fun _ => law_CodeCosts_j2 p1 p3 y2) (fun z8 => some z8))

noncomputable def law_CodeCosts (p1 : List TIns) (p2 : List TIns) (p3 : Int) : Option Bool :=
  (law_codeBegun ).bind fun y1 => if y1 = true then (if (p1.length : Int) > 5000 then (some true) else (if (p2.length : Int) > 5000 then (some true) else ((code_Cost p1).bind fun y2 => (code_Cost p2).bind fun y3 => if room p1.length 48 ∧ room (p1.length + p2.length) 48 then (if (p1.length : Int) > 0 then (if (p2.length : Int) > 0 then (if y2 > 0 then (if y3 > 0 then ((code_Cost (p1 ++ p2)).bind fun y9 => if ¬ y9 = (IntKind.wrap .i64 (y2 + y3)) then (some false) else (law_CodeCosts_j1 p1 p3 y2)) else (law_CodeCosts_j1 p1 p3 y2)) else (law_CodeCosts_j1 p1 p3 y2)) else (law_CodeCosts_j1 p1 p3 y2)) else (law_CodeCosts_j1 p1 p3 y2)) else none))) else (some false)
end Pam

/- what ref_F computes, read off the program by a program of ours -/
namespace Pam
open Go
noncomputable def ref_F (p1 : Int) (p2 : Int) : Option TFault :=
  some (TFault.mk p1 p2)
end Pam

/- what ref_OpOf computes, read off the program by a program of ours -/
namespace Pam
open Go
noncomputable def ref_OpOf_j1 (p1 : Int) (x1 : Int) : Option (Int × Int × Int) :=
  if (0 ≤ p1 ∧ p1 < (([63, 105, 105, 105, 105, 105, 105, 105, 105, 105, 98, 98, 98, 105, 98] : List UInt8).length : Int)) ∧ (0 ≤ p1 ∧ p1 < (([63, 105, 105, 105, 105, 105, 105, 105, 98, 98, 98, 98, 98, 105, 98] : List UInt8).length : Int)) then (some (((([63, 105, 105, 105, 105, 105, 105, 105, 105, 105, 98, 98, 98, 105, 98] : List UInt8).getD p1.toNat 0).toNat : Int), ((([63, 105, 105, 105, 105, 105, 105, 105, 98, 98, 98, 98, 98, 105, 98] : List UInt8).getD p1.toNat 0).toNat : Int), x1)) else none

noncomputable def ref_OpOf (p1 : Int) : Option (Int × Int × Int) :=
  if p1 < 1 then (some (0, 0, 0)) else (if p1 > 14 then (some (0, 0, 0)) else (if p1 ≥ 13 then (ref_OpOf_j1 p1 1) else (ref_OpOf_j1 p1 2)))
end Pam

/- what ref_regsOK computes, read off the program by a program of ours -/
namespace Pam
open Go
noncomputable def ref_regsOK_j1 : Option Bool :=
  some true

noncomputable def ref_regsOK_l1 (p1 : TImage) (p2 : List Int) (x3 : Int) : Option (Int ⊕ (Unit ⊕ Bool)) :=
  if x3 < (p2.length : Int) then (if (p2.getD x3.toNat default) < 0 then (if (0 ≤ x3 ∧ x3 < (p2.length : Int)) then (some (.inr (.inr false))) else none) else (if (0 ≤ x3 ∧ x3 < (p2.length : Int)) then (if (p2.getD x3.toNat default) ≥ p1.regs then (some (.inr (.inr false))) else (some (.inl (IntKind.wrap .i64 (x3 + 1))))) else none)) else (some (.inr (.inl ())))

noncomputable def ref_regsOK (p1 : TImage) (p2 : List Int) : Option Bool :=
  (loop (fun x3 => ref_regsOK_l1 p1 p2 x3) 0).bind (Sum.elim (fun _ => ref_regsOK_j1) (fun z4 => some z4))
end Pam

/- what ref_insOK computes, read off the program by a program of ours -/
namespace Pam
open Go
noncomputable def ref_insOK_j2 (p1 : TImage) (p2 : TIns) (y1 : (Int × Int × Int)) (b5 : Bool) : Option Bool :=
  if b5 = true then ((ref_regsOK p1 (lit ([p2.r_, p2.a] : List Int))).bind fun y6 => if y6 = true then (if p2.n ≥ 0 then (if p2.n < p1.cells then (if p2.b ≥ 1 then (some (decide (p2.b ≤ (IntKind.wrap .i64 (p1.cells - p2.n))))) else (some false)) else (some false)) else (some false)) else (some false)) else (if p2.op = 6 then ((ref_regsOK p1 (lit ([p2.r_, p2.a] : List Int))).bind fun y7 => if y7 = true then (some (y1.2.2 == 1)) else (some false)) else (if p2.op = 7 then ((ref_regsOK p1 (lit ([p2.r_, p2.a, p2.b] : List Int))).bind fun y8 => if y8 = true then (some (y1.2.2 == 2)) else (some false)) else (if p2.op = 8 then ((ref_regsOK p1 (lit ([p2.r_, p2.a, p2.b] : List Int))).bind fun y9 => some y9) else (if p2.op = 9 then ((ref_regsOK p1 (lit ([p2.r_, p2.a] : List Int))).bind fun y10 => some y10) else (if p2.op = 10 then ((ref_regsOK p1 (lit ([p2.r_] : List Int))).bind fun y11 => if y11 = true then (if p2.n ≥ 1 then (some (decide (p2.n ≤ 300))) else (some false)) else (some false)) else (some (p2.op == 11)))))))

noncomputable def ref_insOK_j1 (p1 : TImage) (p2 : TIns) (y1 : (Int × Int × Int)) (b3 : Bool) : Option Bool :=
  if b3 = true then ((ref_regsOK p1 (lit ([p2.r_] : List Int))).bind fun y4 => if y4 = true then (if p2.n ≥ 0 then (some (decide (p2.n < p1.cells))) else (some false)) else (some false)) else (if p2.op = 3 then (ref_insOK_j2 p1 p2 y1 (p2.op == 3)) else (ref_insOK_j2 p1 p2 y1 (p2.op == 5)))

noncomputable def ref_insOK (p1 : TImage) (p2 : TIns) : Option Bool :=
  (ref_OpOf p2.k).bind fun y1 => if p2.op = 1 then ((ref_regsOK p1 (lit ([p2.r_] : List Int))).bind fun y2 => some y2) else (if p2.op = 2 then (ref_insOK_j1 p1 p2 y1 (p2.op == 2)) else (ref_insOK_j1 p1 p2 y1 (p2.op == 4)))
end Pam

/- what ref_CostOf computes, read off the program by a program of ours -/
namespace Pam
open Go
noncomputable def ref_CostOf_j1 (x1 : Int) : Option Int :=
  some x1

noncomputable def ref_CostOf_j2 (x8 : Int) (x9 : Int) : Option ((Int × Int) ⊕ (Int ⊕ Int)) :=
  some (.inl (x8, (IntKind.wrap .i64 (x9 + 1))))

noncomputable def ref_CostOf_j3 (p1 : List TIns) (x6 : Int) (x7 : Int) (x10 : Int) : Option ((Int × Int) ⊕ (Int ⊕ Int)) :=
  if x10 = (p1.length : Int) then (some (.inr (.inr 0))) else (if ((p1.getD x7.toNat default).n) < 1 then (some (.inr (.inr 0))) else (if ((p1.getD x7.toNat default).n) > 300 then (some (.inr (.inr 0))) else (ref_CostOf_j2 (IntKind.wrap .i64 ((IntKind.wrap .i64 (x6 + 1)) + (IntKind.wrap .i64 (((p1.getD x7.toNat default).n) * (IntKind.wrap .i64 (x10 - x7)))))) x10)))

noncomputable def ref_CostOf_l2 (p1 : List TIns) (x13 : Int) : Option (Int ⊕ (Int ⊕ Int)) :=
  if x13 < (p1.length : Int) then (if (0 ≤ x13 ∧ x13 < (p1.length : Int)) then (if ¬ ((p1.getD x13.toNat default).op) = 11 then (if ((p1.getD x13.toNat default).op) = 10 then (some (.inr (.inr 0))) else (some (.inl (IntKind.wrap .i64 (x13 + 1))))) else (some (.inr (.inl x13)))) else none) else (some (.inr (.inl x13)))

noncomputable def ref_CostOf_l1 (p1 : List TIns) (x6 : Int) (x7 : Int) : Option ((Int × Int) ⊕ (Int ⊕ Int)) :=
  if x7 < (p1.length : Int) then (if (0 ≤ x7 ∧ x7 < (p1.length : Int)) then (if ((p1.getD x7.toNat default).op) = 11 then (some (.inr (.inr 0))) else (if ¬ ((p1.getD x7.toNat default).op) = 10 then (ref_CostOf_j2 (IntKind.wrap .i64 (x6 + 1)) x7) else ((loop (fun x13 => ref_CostOf_l2 p1 x13) (IntKind.wrap .i64 (x7 + 1))).bind (Sum.elim (fun z14 => ref_CostOf_j3 p1 x6 x7 z14) (fun z15 => some (.inr (.inr z15))))))) else none) else (some (.inr (.inl x6)))

noncomputable def ref_CostOf (p1 : List TIns) : Option Int :=
  (loop (fun (x6, x7) => ref_CostOf_l1 p1 x6 x7) (0, 0)).bind (Sum.elim (fun z16 => ref_CostOf_j1 z16) (fun z17 => some z17))
end Pam

/- what ref_ImageFault computes, read off the program by a program of ours -/
namespace Pam
open Go
noncomputable def ref_ImageFault_j2 (p1 : TImage) : Option TFault :=
  (ref_CostOf p1.code).bind fun y9 => if ¬ p1.cost = y9 then ((ref_F 18 (-1)).bind fun y10 => some (y10)) else (if y9 = 0 then (if (p1.code.length : Int) > 0 then ((ref_F 18 (-1)).bind fun y11 => some (y11)) else (some (TFault.mk 0 0))) else (some (TFault.mk 0 0)))

noncomputable def ref_ImageFault_l1 (p1 : TImage) (x14 : Int) : Option (Int ⊕ (Unit ⊕ TFault)) :=
  if x14 < (p1.code.length : Int) then (if (0 ≤ x14 ∧ x14 < (p1.code.length : Int)) then ((ref_insOK p1 (p1.code.getD x14.toNat default)).bind fun y15 => if y15 = true then (some (.inl (IntKind.wrap .i64 (x14 + 1)))) else ((ref_F 4 x14).bind fun y16 => some (.inr (.inr (y16))))) else none) else (some (.inr (.inl ())))

noncomputable def ref_ImageFault_j1 (p1 : TImage) : Option TFault :=
  (loop (fun x14 => ref_ImageFault_l1 p1 x14) 0).bind (Sum.elim (fun _ => ref_ImageFault_j2 p1) (fun z17 => some z17))

noncomputable def ref_ImageFault_j3 (x20 : Int) : Option (Int ⊕ (Unit ⊕ TFault)) :=
  some (.inl (IntKind.wrap .i64 (x20 + 1)))

noncomputable def ref_ImageFault_l3 (p1 : TImage) (x20 : Int) (x23 : Int) : Option (Int ⊕ (Unit ⊕ TFault)) :=
  if (0 ≤ x20 ∧ x20 < (3 : Int)) then (if x23 < (((lit ([p1.put, p1.bools, p1.get] : List (List Int))).getD x20.toNat default).length : Int) then (if (((lit ([p1.put, p1.bools, p1.get] : List (List Int))).getD x20.toNat default).getD x23.toNat default) < 0 then (if (0 ≤ x23 ∧ x23 < (((lit ([p1.put, p1.bools, p1.get] : List (List Int))).getD x20.toNat default).length : Int)) then ((ref_F 16 (-1)).bind fun y24 => some (.inr (.inr (y24)))) else none) else (if (0 ≤ x23 ∧ x23 < (((lit ([p1.put, p1.bools, p1.get] : List (List Int))).getD x20.toNat default).length : Int)) then (if (((lit ([p1.put, p1.bools, p1.get] : List (List Int))).getD x20.toNat default).getD x23.toNat default) ≥ p1.cells then ((ref_F 16 (-1)).bind fun y25 => some (.inr (.inr (y25)))) else (some (.inl (IntKind.wrap .i64 (x23 + 1))))) else none)) else (some (.inr (.inl ())))) else none

noncomputable def ref_ImageFault_l2 (p1 : TImage) (x20 : Int) : Option (Int ⊕ (Unit ⊕ TFault)) :=
  if x20 < 3 then ((loop (fun x23 => ref_ImageFault_l3 p1 x20 x23) 0).bind (Sum.elim (fun _ => ref_ImageFault_j3 x20) (fun z26 => some (.inr (.inr z26))))) else (some (.inr (.inl ())))

noncomputable def ref_ImageFault (p1 : TImage) : Option TFault :=
  if p1.cells < 1 then ((ref_F 13 (-1)).bind fun y1 => some (y1)) else (if p1.cells > 6000 then ((ref_F 13 (-1)).bind fun y2 => some (y2)) else (if p1.regs < 1 then ((ref_F 13 (-1)).bind fun y3 => some (y3)) else (if p1.regs > 40 then ((ref_F 13 (-1)).bind fun y4 => some (y4)) else (if (p1.put.length : Int) > 6000 then ((ref_F 7 (-1)).bind fun y5 => some (y5)) else (if (p1.bools.length : Int) > 6000 then ((ref_F 7 (-1)).bind fun y6 => some (y6)) else (if (p1.get.length : Int) > 120000 then ((ref_F 7 (-1)).bind fun y7 => some (y7)) else (if (p1.code.length : Int) > 200000 then ((ref_F 7 (-1)).bind fun y8 => some (y8)) else ((loop (fun x20 => ref_ImageFault_l2 p1 x20) 0).bind (Sum.elim (fun _ => ref_ImageFault_j1 p1) (fun z27 => some z27))))))))))
end Pam

/- what ref_SameInts computes, read off the program by a program of ours -/
namespace Pam
open Go
noncomputable def ref_SameInts_j1 : Option Bool :=
  some true

noncomputable def ref_SameInts_l1 (p1 : List Int) (p2 : List Int) (x3 : Int) : Option (Int ⊕ (Unit ⊕ Bool)) :=
  if x3 < (p1.length : Int) then (if (0 ≤ x3 ∧ x3 < (p1.length : Int)) ∧ (0 ≤ x3 ∧ x3 < (p2.length : Int)) then (if ¬ (p1.getD x3.toNat default) = (p2.getD x3.toNat default) then (some (.inr (.inr false))) else (some (.inl (IntKind.wrap .i64 (x3 + 1))))) else none) else (some (.inr (.inl ())))

noncomputable def ref_SameInts (p1 : List Int) (p2 : List Int) : Option Bool :=
  if ¬ (p1.length : Int) = (p2.length : Int) then (some false) else ((loop (fun x3 => ref_SameInts_l1 p1 p2 x3) 0).bind (Sum.elim (fun _ => ref_SameInts_j1) (fun z4 => some z4)))
end Pam

/- what ref_SameImage computes, read off the program by a program of ours -/
namespace Pam
open Go
noncomputable def ref_SameImage_j1 : Option Bool :=
  some true

noncomputable def ref_SameImage_l1 (p1 : TImage) (p2 : TImage) (x6 : Int) : Option (Int ⊕ (Unit ⊕ Bool)) :=
  if x6 < (p1.code.length : Int) then (if (0 ≤ x6 ∧ x6 < (p1.code.length : Int)) ∧ (0 ≤ x6 ∧ x6 < (p2.code.length : Int)) then (if ((p1.code.getD x6.toNat default).op) = ((p2.code.getD x6.toNat default).op) ∧ ((p1.code.getD x6.toNat default).k) = ((p2.code.getD x6.toNat default).k) ∧ ((p1.code.getD x6.toNat default).r_) = ((p2.code.getD x6.toNat default).r_) ∧ ((p1.code.getD x6.toNat default).a) = ((p2.code.getD x6.toNat default).a) ∧ ((p1.code.getD x6.toNat default).b) = ((p2.code.getD x6.toNat default).b) ∧ ((p1.code.getD x6.toNat default).n) = ((p2.code.getD x6.toNat default).n) then (some (.inl (IntKind.wrap .i64 (x6 + 1)))) else (some (.inr (.inr false)))) else none) else (some (.inr (.inl ())))

noncomputable def ref_SameImage (p1 : TImage) (p2 : TImage) : Option Bool :=
  if ¬ p1.cells = p2.cells then (some false) else (if ¬ p1.regs = p2.regs then (some false) else (if ¬ p1.cost = p2.cost then (some false) else ((ref_SameInts p1.put p2.put).bind fun y1 => if y1 = true then ((ref_SameInts p1.bools p2.bools).bind fun y2 => if y2 = true then ((ref_SameInts p1.get p2.get).bind fun y3 => if y3 = true then (if ¬ (p1.code.length : Int) = (p2.code.length : Int) then (some false) else ((loop (fun x6 => ref_SameImage_l1 p1 p2 x6) 0).bind (Sum.elim (fun _ => ref_SameImage_j1) (fun z7 => some z7)))) else (some false)) else (some false)) else (some false))))
end Pam
