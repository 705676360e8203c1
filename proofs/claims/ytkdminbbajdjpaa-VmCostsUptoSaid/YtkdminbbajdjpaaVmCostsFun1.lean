/- what kinds_Op computes, read off the program by a program of ours -/
import Derived.Test.YtkdminbbajdjpaaVmCostsData1
set_option linter.all false
namespace Pam
open Go
noncomputable def kinds_Op (p1 : Int) : Option (Int × Int × Int) :=
  if p1 ≥ 1 then (if p1 ≤ 7 then (some (105, 105, 2)) else (if p1 = 8 then (some (105, 98, 2)) else (if p1 = 9 then (some (105, 98, 2)) else (if p1 ≥ 10 then (if p1 ≤ 12 then (some (98, 98, 2)) else (if p1 = 13 then (some (105, 105, 1)) else (if p1 = 14 then (some (98, 98, 1)) else (some (0, 0, 0))))) else (if p1 = 13 then (some (105, 105, 1)) else (if p1 = 14 then (some (98, 98, 1)) else (some (0, 0, 0)))))))) else (if p1 = 8 then (some (105, 98, 2)) else (if p1 = 9 then (some (105, 98, 2)) else (if p1 ≥ 10 then (if p1 ≤ 12 then (some (98, 98, 2)) else (if p1 = 13 then (some (105, 105, 1)) else (if p1 = 14 then (some (98, 98, 1)) else (some (0, 0, 0))))) else (if p1 = 13 then (some (105, 105, 1)) else (if p1 = 14 then (some (98, 98, 1)) else (some (0, 0, 0)))))))
end Pam

/- what code_judge_reg_1 computes, read off the program by a program of ours -/
namespace Pam
open Go
noncomputable def code_judge_reg_1 (p1 : Int) (p2 : Tjudge) : Option Bool :=
  if p1 < 0 then (some true) else (some (decide (p1 ≥ p2.m_.regs)))
end Pam

/- what slices_IndexFunc_int_int computes, read off the program by a program of ours -/
namespace Pam
open Go
noncomputable def slices_IndexFunc_int_int_j1 : Option Int :=
  some (-1)

noncomputable def slices_IndexFunc_int_int_l1 (p1 : List Int) (p2 : Tjudge) (x3 : Int) : Option (Int ⊕ (Unit ⊕ Int)) :=
  if x3 < (p1.length : Int) then (if (0 ≤ x3 ∧ x3 < (p1.length : Int)) then ((code_judge_reg_1 (p1.getD x3.toNat default) p2).bind fun y4 => if y4 = true then (some (.inr (.inr x3))) else (some (.inl (IntKind.wrap .i64 (x3 + 1))))) else none) else (some (.inr (.inl ())))

noncomputable def slices_IndexFunc_int_int (p1 : List Int) (p2 : Tjudge) : Option Int :=
  (loop (fun x3 => slices_IndexFunc_int_int_l1 p1 p2 x3) 0).bind (Sum.elim (fun _ => slices_IndexFunc_int_int_j1) (fun z5 => some z5))
end Pam

/- what slices_ContainsFunc_int_int computes, read off the program by a program of ours -/
namespace Pam
open Go
noncomputable def slices_ContainsFunc_int_int (p1 : List Int) (p2 : Tjudge) : Option Bool :=
  (slices_IndexFunc_int_int p1 p2).bind fun y1 => some (decide (y1 ≥ 0))
end Pam

/- what code_judge_reg computes, read off the program by a program of ours -/
namespace Pam
open Go
noncomputable def code_judge_reg (p1 : Tjudge) (p2 : List Int) : Option Bool :=
  (slices_ContainsFunc_int_int p2 p1).bind fun y1 => some (!y1)
end Pam

/- what code_judge_cells computes, read off the program by a program of ours -/
namespace Pam
open Go
noncomputable def code_judge_cells (p1 : Tjudge) (p2 : Int) (p3 : Int) : Option Bool :=
  if p3 ≥ 1 then (if p3 ≤ p1.m_.cells then (if p2 ≥ 0 then (some (decide (p2 ≤ (IntKind.wrap .i64 (p1.m_.cells - p3))))) else (some false)) else (some false)) else (some false)
end Pam

/- what code_judge_fits computes, read off the program by a program of ours -/
namespace Pam
open Go
noncomputable def code_judge_fits_j2 (p1 : Tjudge) (p2 : TIns) (y1 : (Int × Int × Int)) (b6 : Bool) : Option Bool :=
  if b6 = true then ((code_judge_reg p1 (lit ([p2.r_, p2.a] : List Int))).bind fun y7 => if y7 = true then ((code_judge_cells p1 p2.n p2.b).bind fun y8 => some y8) else (some false)) else (if p2.op = 6 then ((code_judge_reg p1 (lit ([p2.r_, p2.a] : List Int))).bind fun y9 => if y9 = true then (some (y1.2.2 == 1)) else (some false)) else (if p2.op = 7 then ((code_judge_reg p1 (lit ([p2.r_, p2.a, p2.b] : List Int))).bind fun y10 => if y10 = true then (some (y1.2.2 == 2)) else (some false)) else (if p2.op = 8 then ((code_judge_reg p1 (lit ([p2.r_, p2.a, p2.b] : List Int))).bind fun y11 => some y11) else (if p2.op = 9 then ((code_judge_reg p1 (lit ([p2.r_, p2.a] : List Int))).bind fun y12 => some y12) else (if p2.op = 10 then ((code_judge_reg p1 (lit ([p2.r_] : List Int))).bind fun y13 => if y13 = true then (if p2.n ≥ 1 then (some (decide (p2.n ≤ 300))) else (some false)) else (some false)) else (some (p2.op == 11)))))))

noncomputable def code_judge_fits_j1 (p1 : Tjudge) (p2 : TIns) (y1 : (Int × Int × Int)) (b3 : Bool) : Option Bool :=
  if b3 = true then ((code_judge_reg p1 (lit ([p2.r_] : List Int))).bind fun y4 => if y4 = true then ((code_judge_cells p1 p2.n 1).bind fun y5 => some y5) else (some false)) else (if p2.op = 3 then (code_judge_fits_j2 p1 p2 y1 (p2.op == 3)) else (code_judge_fits_j2 p1 p2 y1 (p2.op == 5)))

noncomputable def code_judge_fits (p1 : Tjudge) (p2 : TIns) : Option Bool :=
  (kinds_Op p2.k).bind fun y1 => if p2.op = 1 then ((code_judge_reg p1 (lit ([p2.r_] : List Int))).bind fun y2 => some y2) else (if p2.op = 2 then (code_judge_fits_j1 p1 p2 y1 (p2.op == 2)) else (code_judge_fits_j1 p1 p2 y1 (p2.op == 4)))
end Pam

/- what code_Cost computes, read off the program by a program of ours -/
namespace Pam
open Go
noncomputable def code_Cost_j1 (x1 : Int) (x2 : Int) : Option Int :=
  if x2 > 0 then (some 0) else (some x1)

noncomputable def code_Cost_l1 (p1 : List TIns) (x11 : Int) (x12 : Int) (x13 : Int) (x14 : Int) : Option ((Int × Int × Int × Int) ⊕ ((Int × Int) ⊕ Int)) :=
  if x14 < (p1.length : Int) then (if (0 ≤ x14 ∧ x14 < (p1.length : Int)) then (if ((p1.getD x14.toNat default).op) = 10 then (if x12 > 1 then (some (.inr (.inr 0))) else (if x13 > 0 then (some (.inr (.inr 0))) else (if ((p1.getD x14.toNat default).n) < 1 then (some (.inr (.inr 0))) else (if ((p1.getD x14.toNat default).n) > 300 then (some (.inr (.inr 0))) else (some (.inl ((IntKind.wrap .i64 (x11 + x12)), (p1.getD x14.toNat default).n, 1, (IntKind.wrap .i64 (x14 + 1))))))))) else (if ((p1.getD x14.toNat default).op) = 11 then (if x13 = 0 then (some (.inr (.inr 0))) else (some (.inl ((IntKind.wrap .i64 (x11 + x12)), 1, 0, (IntKind.wrap .i64 (x14 + 1)))))) else (some (.inl ((IntKind.wrap .i64 (x11 + x12)), x12, x13, (IntKind.wrap .i64 (x14 + 1))))))) else none) else (some (.inr (.inl (x11, x13))))

noncomputable def code_Cost (p1 : List TIns) : Option Int :=
  (loop (fun (x11, x12, x13, x14) => code_Cost_l1 p1 x11 x12 x13 x14) (0, 1, 0, 0)).bind (Sum.elim (fun (z15, z16) => code_Cost_j1 z15 z16) (fun z17 => some z17))
end Pam

/- what code_Check computes, read off the program by a program of ours -/
namespace Pam
open Go
noncomputable def code_Check_j2 (p1 : TImage) : Option TFault :=
  (code_Cost p1.code).bind fun y1 => if y1 = 0 then (if (p1.code.length : Int) > 0 then (some (TFault.mk 18 (-1))) else (if ¬ y1 = p1.cost then (some (TFault.mk 18 (-1))) else (some (TFault.mk 0 0)))) else (if ¬ y1 = p1.cost then (some (TFault.mk 18 (-1))) else (some (TFault.mk 0 0)))

noncomputable def code_Check_l1 (p1 : TImage) (x4 : Int) : Option (Int ⊕ (Unit ⊕ TFault)) :=
  if x4 < (p1.code.length : Int) then (if (0 ≤ x4 ∧ x4 < (p1.code.length : Int)) then ((code_judge_fits (Tjudge.mk p1) (p1.code.getD x4.toNat default)).bind fun y5 => if y5 = true then (some (.inl (IntKind.wrap .i64 (x4 + 1)))) else (some (.inr (.inr (TFault.mk 4 x4))))) else none) else (some (.inr (.inl ())))

noncomputable def code_Check_j1 (p1 : TImage) : Option TFault :=
  (loop (fun x4 => code_Check_l1 p1 x4) 0).bind (Sum.elim (fun _ => code_Check_j2 p1) (fun z6 => some z6))

noncomputable def code_Check_j3 (x9 : Int) : Option (Int ⊕ (Unit ⊕ TFault)) :=
  some (.inl (IntKind.wrap .i64 (x9 + 1)))

noncomputable def code_Check_l3 (p1 : TImage) (x9 : Int) (x12 : Int) : Option (Int ⊕ (Unit ⊕ TFault)) :=
  if x12 < (((lit ([p1.put, p1.bools, p1.get] : List (List Int))).getD x9.toNat default).length : Int) then (if (0 ≤ x12 ∧ x12 < (((lit ([p1.put, p1.bools, p1.get] : List (List Int))).getD x9.toNat default).length : Int)) then (if (((lit ([p1.put, p1.bools, p1.get] : List (List Int))).getD x9.toNat default).getD x12.toNat default) < 0 then (some (.inr (.inr (TFault.mk 16 (-1))))) else (if (((lit ([p1.put, p1.bools, p1.get] : List (List Int))).getD x9.toNat default).getD x12.toNat default) ≥ p1.cells then (some (.inr (.inr (TFault.mk 16 (-1))))) else (some (.inl (IntKind.wrap .i64 (x12 + 1)))))) else none) else (some (.inr (.inl ())))

noncomputable def code_Check_l2 (p1 : TImage) (x9 : Int) : Option (Int ⊕ (Unit ⊕ TFault)) :=
  if x9 < (3 : Int) then (if (0 ≤ x9 ∧ x9 < (3 : Int)) then ((loop (fun x12 => code_Check_l3 p1 x9 x12) 0).bind (Sum.elim (fun _ => code_Check_j3 x9) (fun z13 => some (.inr (.inr z13))))) else none) else (some (.inr (.inl ())))

noncomputable def code_Check (p1 : TImage) : Option TFault :=
  if p1.cells < 1 then (some (TFault.mk 13 (-1))) else (if p1.cells > 6000 then (some (TFault.mk 13 (-1))) else (if p1.regs < 1 then (some (TFault.mk 13 (-1))) else (if p1.regs > 40 then (some (TFault.mk 13 (-1))) else (if (p1.put.length : Int) > 6000 then (some (TFault.mk 7 (-1))) else (if (p1.bools.length : Int) > 6000 then (some (TFault.mk 7 (-1))) else (if (p1.get.length : Int) > 120000 then (some (TFault.mk 7 (-1))) else (if (p1.code.length : Int) > 200000 then (some (TFault.mk 7 (-1))) else ((loop (fun x9 => code_Check_l2 p1 x9) 0).bind (Sum.elim (fun _ => code_Check_j1 p1) (fun z14 => some z14))))))))))
end Pam

/- what slices_Clone_int_int computes, read off the program by a program of ours -/
namespace Pam
open Go
noncomputable def slices_Clone_int_int (p1 : List Int) : Option (List Int) :=
  if p1 = [] then (some []) else (if room p1.length 8 then (some p1) else none)
end Pam

/- what slices_Clone_api_Ins_api_Ins computes, read off the program by a program of ours -/
namespace Pam
open Go
noncomputable def slices_Clone_api_Ins_api_Ins (p1 : List TIns) : Option (List TIns) :=
  if p1 = [] then (some []) else (if room p1.length 48 then (some p1) else none)
end Pam

/- what vm_New computes, read off the program by a program of ours -/
namespace Pam
open Go
noncomputable def vm_New (p1 : TImage) : Option (TFault ⊕ (TFault × Int × Int × Int × (List Int) × (List Int) × (List Int) × (List TIns) × (List Int) × Int × Int × Int × (List Int))) :=
  (code_Check p1).bind fun y1 => if ¬ ((y1).code) = 0 then (some (.inl (y1))) else ((slices_Clone_int_int p1.put).bind fun y2 => (slices_Clone_int_int p1.get).bind fun y3 => (slices_Clone_int_int p1.bools).bind fun y4 => (slices_Clone_api_Ins_api_Ins p1.code).bind fun y5 => if (0 ≤ p1.cells ∧ p1.cells ≤ p1.cells) ∧ room p1.cells.toNat 8 then (some (.inr ((TFault.mk 0 0), p1.cells, p1.regs, p1.cost, y2, y4, y3, y5, [], 0, 0, 0, (List.replicate p1.cells.toNat 0)))) else none)
end Pam

/- what vm_VM_Row computes, read off the program by a program of ours -/
namespace Pam
open Go
noncomputable def vm_VM_Row (p1 : List Int) : Option Unit :=
  none
end Pam

/- what slices_Index_int_int computes, read off the program by a program of ours -/
namespace Pam
open Go
noncomputable def slices_Index_int_int_j1 : Option Int :=
  some (-1)

noncomputable def slices_Index_int_int_l1 (p1 : List Int) (p2 : Int) (x3 : Int) : Option (Int ⊕ (Unit ⊕ Int)) :=
  if x3 < (p1.length : Int) then (if (0 ≤ x3 ∧ x3 < (p1.length : Int)) then (if p2 = (p1.getD x3.toNat default) then (some (.inr (.inr x3))) else (some (.inl (IntKind.wrap .i64 (x3 + 1))))) else none) else (some (.inr (.inl ())))

noncomputable def slices_Index_int_int (p1 : List Int) (p2 : Int) : Option Int :=
  (loop (fun x3 => slices_Index_int_int_l1 p1 p2 x3) 0).bind (Sum.elim (fun _ => slices_Index_int_int_j1) (fun z4 => some z4))
end Pam

/- what slices_Contains_int_int computes, read off the program by a program of ours -/
namespace Pam
open Go
noncomputable def slices_Contains_int_int (p1 : List Int) (p2 : Int) : Option Bool :=
  (slices_Index_int_int p1 p2).bind fun y1 => some (decide (y1 ≥ 0))
end Pam

/- what slices_Clone_int64_int64 computes, read off the program by a program of ours -/
namespace Pam
open Go
noncomputable def slices_Clone_int64_int64 (p1 : List Int) : Option (List Int) :=
  if p1.length = 0 then (some []) else (if room p1.length 8 then (some p1) else none)
end Pam

/- what sys_divide computes, read off the program by a program of ours -/
namespace Pam
open Go
noncomputable def sys_divide (p1 : Int) (p2 : Int) (p3 : Int) : Option Int :=
  if p3 = 0 then (some 0) else (if p1 = 4 then (if p3 ≠ 0 then (some (IntKind.wrap .i64 (p2.tdiv p3))) else none) else (if p3 ≠ 0 then (some (p2.tmod p3)) else none))
end Pam

/- what sys_truth computes, read off the program by a program of ours -/
namespace Pam
open Go
noncomputable def sys_truth (p1 : Bool) : Option Int :=
  if p1 = true then (some 1) else (some 0)
end Pam

/- what sys_Apply computes, read off the program by a program of ours -/
namespace Pam
open Go
noncomputable def sys_Apply_j1 (p1 : Int) (p2 : Int) (p3 : Int) (b1 : Bool) : Option Int :=
  if b1 = true then ((sys_divide p1 p2 p3).bind fun y2 => some y2) else (if p1 = 6 then (some (if p3 < p2 then p3 else p2)) else (if p1 = 7 then (some (if p3 > p2 then p3 else p2)) else (if p1 = 8 then ((sys_truth (decide (p2 < p3))).bind fun y3 => some y3) else (if p1 = 9 then ((sys_truth (p2 == p3)).bind fun y4 => some y4) else (if p1 = 10 then (if ¬ p2 = 0 then ((sys_truth (p3 != 0)).bind fun y5 => some y5) else ((sys_truth false).bind fun y6 => some y6)) else (if p1 = 11 then (if ¬ p2 = 0 then ((sys_truth true).bind fun y7 => some y7) else ((sys_truth (p3 != 0)).bind fun y8 => some y8)) else (if p1 = 12 then ((sys_truth (!((p2 != 0) == (p3 != 0)))).bind fun y9 => some y9) else (if p1 = 13 then (some (IntKind.wrap .i64 (0 - p2))) else (if p1 = 14 then ((sys_truth (p2 == 0)).bind fun y10 => some y10) else (some 0))))))))))

noncomputable def sys_Apply (p1 : Int) (p2 : Int) (p3 : Int) : Option Int :=
  if p1 = 1 then (some (IntKind.wrap .i64 (p2 + p3))) else (if p1 = 2 then (some (IntKind.wrap .i64 (p2 - p3))) else (if p1 = 3 then (some (IntKind.wrap .i64 (p2 * p3))) else (if p1 = 4 then (sys_Apply_j1 p1 p2 p3 (p1 == 4)) else (sys_Apply_j1 p1 p2 p3 (p1 == 5)))))
end Pam

/- what vm_VM_one computes, read off the program by a program of ours -/
namespace Pam
open Go
noncomputable def vm_VM_one_j1 (p1 : TIns) (p10 : List Int) (p11 : List Int) (b1 : Bool) : Option (Bool × (List Int) × (List Int)) :=
  if b1 = true then (if (0 ≤ p1.a ∧ p1.a < (p11.length : Int)) then (if (p11.getD p1.a.toNat default) < 0 then (some (false, p10, p11)) else (if (p11.getD p1.a.toNat default) ≥ p1.b then (some (false, p10, p11)) else (if p1.op = 3 then (if (0 ≤ (IntKind.wrap .i64 (p1.n + (p11.getD p1.a.toNat default))) ∧ (IntKind.wrap .i64 (p1.n + (p11.getD p1.a.toNat default))) < (p10.length : Int)) ∧ (0 ≤ p1.r_ ∧ p1.r_ < (p11.length : Int)) then (some (true, p10, (p11.set p1.r_.toNat (p10.getD ((IntKind.wrap .i64 (p1.n + (p11.getD p1.a.toNat default))).toNat) default)))) else none) else (if (0 ≤ p1.r_ ∧ p1.r_ < (p11.length : Int)) ∧ (0 ≤ (IntKind.wrap .i64 (p1.n + (p11.getD p1.a.toNat default))) ∧ (IntKind.wrap .i64 (p1.n + (p11.getD p1.a.toNat default))) < (p10.length : Int)) then (some (true, (p10.set ((IntKind.wrap .i64 (p1.n + (p11.getD p1.a.toNat default))).toNat) (p11.getD p1.r_.toNat default)), p11)) else none)))) else none) else (if p1.op = 6 then (if (0 ≤ p1.a ∧ p1.a < (p11.length : Int)) then ((sys_Apply p1.k (p11.getD p1.a.toNat default) 0).bind fun y2 => if (0 ≤ p1.r_ ∧ p1.r_ < (p11.length : Int)) then (some (true, p10, (p11.set p1.r_.toNat y2))) else none) else none) else (if p1.op = 7 then (if (0 ≤ p1.a ∧ p1.a < (p11.length : Int)) ∧ (0 ≤ p1.b ∧ p1.b < (p11.length : Int)) then ((sys_Apply p1.k (p11.getD p1.a.toNat default) (p11.getD p1.b.toNat default)).bind fun y3 => if (0 ≤ p1.r_ ∧ p1.r_ < (p11.length : Int)) then (some (true, p10, (p11.set p1.r_.toNat y3))) else none) else none) else (if p1.op = 8 then (if (0 ≤ p1.r_ ∧ p1.r_ < (p11.length : Int)) then (if ¬ (p11.getD p1.r_.toNat default) = 0 then (if (0 ≤ p1.a ∧ p1.a < (p11.length : Int)) then (some (true, p10, (p11.set p1.r_.toNat (p11.getD p1.a.toNat default)))) else none) else (if (0 ≤ p1.b ∧ p1.b < (p11.length : Int)) then (some (true, p10, (p11.set p1.r_.toNat (p11.getD p1.b.toNat default)))) else none)) else none) else (if p1.op = 9 then (if (0 ≤ p1.a ∧ p1.a < (p11.length : Int)) ∧ (0 ≤ p1.r_ ∧ p1.r_ < (p11.length : Int)) then (some (true, p10, (p11.set p1.r_.toNat (p11.getD p1.a.toNat default)))) else none) else (some (true, p10, p11))))))

noncomputable def vm_VM_one (p1 : TIns) (p2 : Int) (p3 : Int) (p4 : Int) (p5 : List Int) (p6 : List Int) (p7 : List Int) (p8 : List TIns) (p9 : Int) (p10 : List Int) (p11 : List Int) : Option (Bool × (List Int) × (List Int)) :=
  if p1.op = 1 then (if (0 ≤ p1.r_ ∧ p1.r_ < (p11.length : Int)) then (some (true, p10, (p11.set p1.r_.toNat p1.n))) else none) else (if p1.op = 2 then (if (0 ≤ p1.n ∧ p1.n < (p10.length : Int)) ∧ (0 ≤ p1.r_ ∧ p1.r_ < (p11.length : Int)) then (some (true, p10, (p11.set p1.r_.toNat (p10.getD p1.n.toNat default)))) else none) else (if p1.op = 4 then (if (0 ≤ p1.r_ ∧ p1.r_ < (p11.length : Int)) ∧ (0 ≤ p1.n ∧ p1.n < (p10.length : Int)) then (some (true, (p10.set p1.n.toNat (p11.getD p1.r_.toNat default)), p11)) else none) else (if p1.op = 3 then (vm_VM_one_j1 p1 p10 p11 (p1.op == 3)) else (vm_VM_one_j1 p1 p10 p11 (p1.op == 5)))))
end Pam

/- what vm_VM_run computes, read off the program by a program of ours -/
namespace Pam
open Go
noncomputable def vm_VM_run_j1 (x3 : Int) (l4 : List Int) (l5 : List Int) : Option (Int × (List Int) × Int × (List Int)) :=
  some ((-1), l5, x3, l4)

noncomputable def vm_VM_run_l1 (p1 : Int) (p2 : Int) (p3 : Int) (p4 : List Int) (p5 : List Int) (p6 : List Int) (p7 : List TIns) (x31 : Int) (l32 : List Int) (l33 : List Int) (x34 : Int) (x35 : Int) (x36 : Int) : Option ((Int × (List Int) × (List Int) × Int × Int × Int) ⊕ ((Int × (List Int) × (List Int)) ⊕ (Int × (List Int) × Int × (List Int)))) :=
  if x36 < (p7.length : Int) then (if (0 ≤ x36 ∧ x36 < (p7.length : Int)) then (if ((p7.getD x36.toNat default).op) = 10 then (if (0 ≤ (p7.getD x36.toNat default).r_ ∧ (p7.getD x36.toNat default).r_ < (l33.length : Int)) then (some (.inl ((IntKind.wrap .i64 (x31 + 1)), l32, (l33.set (((p7.getD x36.toNat default).r_).toNat) 0), x36, 0, (IntKind.wrap .i64 (x36 + 1))))) else none) else (if ((p7.getD x36.toNat default).op) = 11 then (if (0 ≤ x34 ∧ x34 < (p7.length : Int)) then (if (IntKind.wrap .i64 (x35 + 1)) < ((p7.getD x34.toNat default).n) then (if (0 ≤ (p7.getD x34.toNat default).r_ ∧ (p7.getD x34.toNat default).r_ < (l33.length : Int)) then (some (.inl ((IntKind.wrap .i64 (x31 + 1)), l32, (l33.set (((p7.getD x34.toNat default).r_).toNat) (IntKind.wrap .i64 (x35 + 1))), x34, (IntKind.wrap .i64 (x35 + 1)), (IntKind.wrap .i64 (x34 + 1))))) else none) else (some (.inl ((IntKind.wrap .i64 (x31 + 1)), l32, l33, x34, (IntKind.wrap .i64 (x35 + 1)), (IntKind.wrap .i64 (x36 + 1)))))) else none) else ((vm_VM_one (p7.getD x36.toNat default) p1 p2 p3 p4 p5 p6 p7 (IntKind.wrap .i64 (x31 + 1)) l32 l33).bind fun y37 => if y37.1 = true then (some (.inl ((IntKind.wrap .i64 (x31 + 1)), y37.2.1, y37.2.2, x34, x35, (IntKind.wrap .i64 (x36 + 1))))) else (some (.inr (.inr (x36, y37.2.2, (IntKind.wrap .i64 (x31 + 1)), y37.2.1))))))) else none) else (some (.inr (.inl (x31, l32, l33))))

noncomputable def vm_VM_run (p1 : Int) (p2 : Int) (p3 : Int) (p4 : List Int) (p5 : List Int) (p6 : List Int) (p7 : List TIns) (p8 : List Int) (p9 : Int) (p10 : List Int) : Option (Int × (List Int) × Int × (List Int)) :=
  if (0 ≤ p2 ∧ p2 ≤ p2) ∧ room p2.toNat 8 then ((loop (fun (x31, l32, l33, x34, x35, x36) => vm_VM_run_l1 p1 p2 p3 p4 p5 p6 p7 x31 l32 l33 x34 x35 x36) (p9, p10, (List.replicate p2.toNat 0), 0, 0, 0)).bind (Sum.elim (fun (z38, z39, z40) => vm_VM_run_j1 z38 z39 z40) (fun z41 => some z41))) else none
end Pam

/- what vm_VM_Row_2 computes, read off the program by a program of ours -/
namespace Pam
open Go
noncomputable def vm_VM_Row_2_j3 (y4 : (Int × (List Int) × Int × (List Int))) (l7 : List Int) : Option ((List Int) × TFault × (List Int) × Int × (List Int)) :=
  some (l7, (TFault.mk 0 0), y4.2.1, y4.2.2.1, y4.2.2.2)

noncomputable def vm_VM_Row_2_l1 (p7 : List Int) (y4 : (Int × (List Int) × Int × (List Int))) (l21 : List Int) (x23 : Int) : Option (((List Int) × Int) ⊕ (List Int)) :=
  if x23 < (p7.length : Int) then (if (0 ≤ x23 ∧ x23 < (p7.length : Int)) then (if (0 ≤ (p7.getD x23.toNat default) ∧ (p7.getD x23.toNat default) < (y4.2.2.2.length : Int)) ∧ room (l21.length + 1) 8 then (some (.inl ((l21 ++ (lit ([(y4.2.2.2.getD ((p7.getD x23.toNat default).toNat) default)] : List Int))), (IntKind.wrap .i64 (x23 + 1))))) else none) else none) else (some (.inr l21))

noncomputable def vm_VM_Row_2_j2 (p2 : Int) (p3 : Int) (p4 : Int) (p5 : List Int) (p6 : List Int) (p7 : List Int) (p8 : List TIns) (p9 : List Int) (p10 : Int) (y1 : (List Int)) (l3 : List Int) : Option ((List Int) × TFault × (List Int) × Int × (List Int)) :=
  (vm_VM_run p2 p3 p4 p5 p6 p7 p8 p9 p10 l3).bind fun y4 => if y4.1 ≥ 0 then (some ([], (TFault.mk 16 y4.1), y4.2.1, p10, y1)) else ((loop (fun (l21, x23) => vm_VM_Row_2_l1 p7 y4 l21 x23) ([], 0)).bind (fun z24 => vm_VM_Row_2_j3 y4 z24))

noncomputable def vm_VM_Row_2_l2 (p1 : List Int) (p5 : List Int) (l32 : List Int) (x33 : Int) : Option (((List Int) × Int) ⊕ (List Int)) :=
  if x33 < (p5.length : Int) then (if (0 ≤ x33 ∧ x33 < (p5.length : Int)) then (if (0 ≤ x33 ∧ x33 < (p1.length : Int)) ∧ (0 ≤ (p5.getD x33.toNat default) ∧ (p5.getD x33.toNat default) < (l32.length : Int)) then (some (.inl ((l32.set ((p5.getD x33.toNat default).toNat) (p1.getD x33.toNat default)), (IntKind.wrap .i64 (x33 + 1))))) else none) else none) else (some (.inr l32))

noncomputable def vm_VM_Row_2_j1 (p1 : List Int) (p2 : Int) (p3 : Int) (p4 : Int) (p5 : List Int) (p6 : List Int) (p7 : List Int) (p8 : List TIns) (p9 : List Int) (p10 : Int) (p11 : List Int) : Option ((List Int) × TFault × (List Int) × Int × (List Int)) :=
  (slices_Clone_int64_int64 p11).bind fun y1 => (loop (fun (l32, x33) => vm_VM_Row_2_l2 p1 p5 l32 x33) (p11, 0)).bind (fun z34 => vm_VM_Row_2_j2 p2 p3 p4 p5 p6 p7 p8 p9 p10 y1 z34)

noncomputable def vm_VM_Row_2_l3 (p1 : List Int) (p5 : List Int) (p6 : List Int) (p9 : List Int) (p10 : Int) (p11 : List Int) (x37 : Int) : Option (Int ⊕ (Unit ⊕ ((List Int) × TFault × (List Int) × Int × (List Int)))) :=
  if x37 < (p5.length : Int) then (if (0 ≤ x37 ∧ x37 < (p5.length : Int)) then ((slices_Contains_int_int p6 (p5.getD x37.toNat default)).bind fun y38 => if y38 = true then (if ¬ (p1.getD x37.toNat default) = 0 then (if (0 ≤ x37 ∧ x37 < (p1.length : Int)) then (if ¬ (p1.getD x37.toNat default) = 1 then (some (.inr (.inr ([], (TFault.mk 17 x37), p9, p10, p11)))) else (some (.inl (IntKind.wrap .i64 (x37 + 1))))) else none) else (if (0 ≤ x37 ∧ x37 < (p1.length : Int)) then (some (.inl (IntKind.wrap .i64 (x37 + 1)))) else none)) else (some (.inl (IntKind.wrap .i64 (x37 + 1))))) else none) else (some (.inr (.inl ())))

noncomputable def vm_VM_Row_2 (p1 : List Int) (p2 : Int) (p3 : Int) (p4 : Int) (p5 : List Int) (p6 : List Int) (p7 : List Int) (p8 : List TIns) (p9 : List Int) (p10 : Int) (p11 : List Int) : Option ((List Int) × TFault × (List Int) × Int × (List Int)) :=
  if ¬ (p1.length : Int) = (p5.length : Int) then (some ([], (TFault.mk 17 (-1)), p9, p10, p11)) else ((loop (fun x37 => vm_VM_Row_2_l3 p1 p5 p6 p9 p10 p11 x37) 0).bind (Sum.elim (fun _ => vm_VM_Row_2_j1 p1 p2 p3 p4 p5 p6 p7 p8 p9 p10 p11) (fun z39 => some z39)))
end Pam

/- what ref_SameLongs computes, read off the program by a program of ours -/
namespace Pam
open Go
noncomputable def ref_SameLongs_j1 : Option Bool :=
  some true

noncomputable def ref_SameLongs_l1 (p1 : List Int) (p2 : List Int) (x3 : Int) : Option (Int ⊕ (Unit ⊕ Bool)) :=
  if x3 < (p1.length : Int) then (if (0 ≤ x3 ∧ x3 < (p1.length : Int)) ∧ (0 ≤ x3 ∧ x3 < (p2.length : Int)) then (if ¬ (p1.getD x3.toNat default) = (p2.getD x3.toNat default) then (some (.inr (.inr false))) else (some (.inl (IntKind.wrap .i64 (x3 + 1))))) else none) else (some (.inr (.inl ())))

noncomputable def ref_SameLongs (p1 : List Int) (p2 : List Int) : Option Bool :=
  if ¬ (p1.length : Int) = (p2.length : Int) then (some false) else ((loop (fun x3 => ref_SameLongs_l1 p1 p2 x3) 0).bind (Sum.elim (fun _ => ref_SameLongs_j1) (fun z4 => some z4)))
end Pam

/- what vm_VM_Steps computes, read off the program by a program of ours -/
namespace Pam
open Go
noncomputable def vm_VM_Steps (p1 : Int) (p2 : Int) (p3 : Int) (p4 : List Int) (p5 : List Int) (p6 : List Int) (p7 : List TIns) (p8 : List Int) (p9 : Int) (p10 : List Int) : Option Int :=
  some p9
end Pam

/- what law_vmBegun computes, read off the program by a program of ours -/
namespace Pam
open Go
noncomputable def law_vmBegun : Option Bool :=
  (vm_New (TImage.mk 6 2 4 (lit ([1] : List Int)) [] (lit ([5] : List Int)) (lit ([(TIns.mk 2 0 0 0 0 1), (TIns.mk 1 0 1 0 0 2), (TIns.mk 7 1 0 0 1 0), (TIns.mk 4 0 0 0 0 5)] : List TIns)))).bind fun y1 => Sum.elim (fun y2 => if ¬ ((y2).code) = 0 then (some false) else ((vm_VM_Row (lit ([7] : List Int))).bind fun y4 => none)) (fun y3 => if ¬ ((y3.1).code) = 0 then (some false) else ((vm_VM_Row_2 (lit ([7] : List Int)) y3.2.1 y3.2.2.1 y3.2.2.2.1 y3.2.2.2.2.1 y3.2.2.2.2.2.1 y3.2.2.2.2.2.2.1 y3.2.2.2.2.2.2.2.1 y3.2.2.2.2.2.2.2.2.1 y3.2.2.2.2.2.2.2.2.2.1 y3.2.2.2.2.2.2.2.2.2.2.2.2).bind fun y5 => if ((y5.2.1).code) = 0 then ((ref_SameLongs y5.1 (lit ([9] : List Int))).bind fun y7 => if y7 = true then ((vm_VM_Steps y3.2.1 y3.2.2.1 y3.2.2.2.1 y3.2.2.2.2.1 y3.2.2.2.2.2.1 y3.2.2.2.2.2.2.1 y3.2.2.2.2.2.2.2.1 y5.2.2.1 y5.2.2.2.1 y5.2.2.2.2).bind fun y8 => some (y8 == 4)) else (some false)) else (some false))) y1
end Pam

/- what ref_GreatImage computes, read off the program by a program of ours -/
namespace Pam
open Go
noncomputable def ref_GreatImage (p1 : TImage) : Option Bool :=
  if (p1.put.length : Int) > 7000 then (some true) else (if (p1.bools.length : Int) > 7000 then (some true) else (if (p1.get.length : Int) > 20000 then (some true) else (some (decide ((p1.code.length : Int) > 20000)))))
end Pam

/- what law_rowsGreat computes, read off the program by a program of ours -/
namespace Pam
open Go
noncomputable def law_rowsGreat_j1 : Option Bool :=
  some false

noncomputable def law_rowsGreat_l1 (p1 : List (List Int)) (x3 : Int) : Option (Int ⊕ (Unit ⊕ Bool)) :=
  if x3 < (p1.length : Int) then (if (0 ≤ x3 ∧ x3 < (p1.length : Int)) then (if ((p1.getD x3.toNat default).length : Int) > 10000 then (some (.inr (.inr true))) else (some (.inl (IntKind.wrap .i64 (x3 + 1))))) else none) else (some (.inr (.inl ())))

noncomputable def law_rowsGreat (p1 : List (List Int)) : Option Bool :=
  if (p1.length : Int) > 60 then (some true) else ((loop (fun x3 => law_rowsGreat_l1 p1 x3) 0).bind (Sum.elim (fun _ => law_rowsGreat_j1) (fun z4 => some z4)))
end Pam

/- what vm_VM_Cells computes, read off the program by a program of ours -/
namespace Pam
open Go
noncomputable def vm_VM_Cells (p1 : Int) (p2 : Int) (p3 : Int) (p4 : List Int) (p5 : List Int) (p6 : List Int) (p7 : List TIns) (p8 : List Int) (p9 : Int) (p10 : List Int) : Option (List Int) :=
  (slices_Clone_int64_int64 p10).bind fun y1 => some y1
end Pam

/- what vm_VM_Cells_2 computes, read off the program by a program of ours -/
namespace Pam
open Go
noncomputable def vm_VM_Cells_2 : Option Unit :=
  none
end Pam

/- what law_VmCosts computes, read off the program by a program of ours -/
namespace Pam
open Go
noncomputable def law_VmCosts_j1 : Option Bool :=
  some true

noncomputable def law_VmCosts_l1 (p2 : List (List Int)) : Option (Unit ⊕ Unit) :=
  if 0 < (p2.length : Int) then ((vm_VM_Cells_2 ).bind fun y10 => none) else (some (.inr ()))

noncomputable def law_VmCosts_j2 : Option Bool :=
  some true

noncomputable def law_VmCosts_l2 (p2 : List (List Int)) : Option (Unit ⊕ Unit) :=
  if 0 < (p2.length : Int) then ((vm_VM_Cells_2 ).bind fun y11 => none) else (some (.inr ()))

noncomputable def law_VmCosts_j3 (l17 : List Int) (x18 : Int) (l19 : List Int) : Option Bool :=
  some true

noncomputable def law_VmCosts_l3 (p2 : List (List Int)) (y6 : (TFault × Int × Int × Int × (List Int) × (List Int) × (List Int) × (List TIns) × (List Int) × Int × Int × Int × (List Int))) (l37 : List Int) (x38 : Int) (l39 : List Int) (x41 : Int) : Option (((List Int) × Int × (List Int) × Int) ⊕ (((List Int) × Int × (List Int)) ⊕ Bool)) :=
  if x41 < (p2.length : Int) then ((vm_VM_Cells y6.2.1 y6.2.2.1 y6.2.2.2.1 y6.2.2.2.2.1 y6.2.2.2.2.2.1 y6.2.2.2.2.2.2.1 y6.2.2.2.2.2.2.2.1 l37 x38 l39).bind fun y42 => (vm_VM_Steps y6.2.1 y6.2.2.1 y6.2.2.2.1 y6.2.2.2.2.1 y6.2.2.2.2.2.1 y6.2.2.2.2.2.2.1 y6.2.2.2.2.2.2.2.1 l37 x38 l39).bind fun y43 => if (0 ≤ x41 ∧ x41 < (p2.length : Int)) then ((vm_VM_Row_2 (p2.getD x41.toNat default) y6.2.1 y6.2.2.1 y6.2.2.2.1 y6.2.2.2.2.1 y6.2.2.2.2.2.1 y6.2.2.2.2.2.2.1 y6.2.2.2.2.2.2.2.1 l37 x38 l39).bind fun y44 => if ¬ ((y44.2.1).code) = 0 then (if ¬ (y44.1.length : Int) = 0 then (some (.inr (.inr false))) else ((vm_VM_Steps y6.2.1 y6.2.2.1 y6.2.2.2.1 y6.2.2.2.2.1 y6.2.2.2.2.2.1 y6.2.2.2.2.2.2.1 y6.2.2.2.2.2.2.2.1 y44.2.2.1 y44.2.2.2.1 y44.2.2.2.2).bind fun y46 => if ¬ y46 = y43 then (some (.inr (.inr false))) else ((vm_VM_Cells y6.2.1 y6.2.2.1 y6.2.2.2.1 y6.2.2.2.2.1 y6.2.2.2.2.2.1 y6.2.2.2.2.2.2.1 y6.2.2.2.2.2.2.2.1 y44.2.2.1 y44.2.2.2.1 y44.2.2.2.2).bind fun y47 => (ref_SameLongs y47 y42).bind fun y48 => if y48 = true then (some (.inl (y44.2.2.1, y44.2.2.2.1, y44.2.2.2.2, (IntKind.wrap .i64 (x41 + 1))))) else (some (.inr (.inr false)))))) else ((vm_VM_Row (p2.getD x41.toNat default)).bind fun y49 => none)) else none) else (some (.inr (.inl (l37, x38, l39))))

noncomputable def law_VmCosts_j4 (l58 : List Int) (x59 : Int) (l60 : List Int) (l62 : List Int) (x63 : Int) (l64 : List Int) : Option Bool :=
  some true

noncomputable def law_VmCosts_l4 (p1 : TImage) (p2 : List (List Int)) (y6 : (TFault × Int × Int × Int × (List Int) × (List Int) × (List Int) × (List TIns) × (List Int) × Int × Int × Int × (List Int))) (y14 : (TFault × Int × Int × Int × (List Int) × (List Int) × (List Int) × (List TIns) × (List Int) × Int × Int × Int × (List Int))) (l96 : List Int) (x97 : Int) (l98 : List Int) (l100 : List Int) (x101 : Int) (l102 : List Int) (x104 : Int) : Option (((List Int) × Int × (List Int) × (List Int) × Int × (List Int) × Int) ⊕ (((List Int) × Int × (List Int) × (List Int) × Int × (List Int)) ⊕ Bool)) :=
  if x104 < (p2.length : Int) then ((vm_VM_Cells y6.2.1 y6.2.2.1 y6.2.2.2.1 y6.2.2.2.2.1 y6.2.2.2.2.2.1 y6.2.2.2.2.2.2.1 y6.2.2.2.2.2.2.2.1 l96 x97 l98).bind fun y105 => (vm_VM_Steps y6.2.1 y6.2.2.1 y6.2.2.2.1 y6.2.2.2.2.1 y6.2.2.2.2.2.1 y6.2.2.2.2.2.2.1 y6.2.2.2.2.2.2.2.1 l96 x97 l98).bind fun y106 => if (0 ≤ x104 ∧ x104 < (p2.length : Int)) then ((vm_VM_Row_2 (p2.getD x104.toNat default) y6.2.1 y6.2.2.1 y6.2.2.2.1 y6.2.2.2.2.1 y6.2.2.2.2.2.1 y6.2.2.2.2.2.2.1 y6.2.2.2.2.2.2.2.1 l96 x97 l98).bind fun y107 => if ¬ ((y107.2.1).code) = 0 then (if ¬ (y107.1.length : Int) = 0 then (some (.inr (.inr false))) else ((vm_VM_Steps y6.2.1 y6.2.2.1 y6.2.2.2.1 y6.2.2.2.2.1 y6.2.2.2.2.2.1 y6.2.2.2.2.2.2.1 y6.2.2.2.2.2.2.2.1 y107.2.2.1 y107.2.2.2.1 y107.2.2.2.2).bind fun y109 => if ¬ y109 = y106 then (some (.inr (.inr false))) else ((vm_VM_Cells y6.2.1 y6.2.2.1 y6.2.2.2.1 y6.2.2.2.2.1 y6.2.2.2.2.2.1 y6.2.2.2.2.2.2.1 y6.2.2.2.2.2.2.2.1 y107.2.2.1 y107.2.2.2.1 y107.2.2.2.2).bind fun y110 => (ref_SameLongs y110 y105).bind fun y111 => if y111 = true then (some (.inl (y107.2.2.1, y107.2.2.2.1, y107.2.2.2.2, l100, x101, l102, (IntKind.wrap .i64 (x104 + 1))))) else (some (.inr (.inr false)))))) else ((vm_VM_Row_2 (p2.getD x104.toNat default) y14.2.1 y14.2.2.1 y14.2.2.2.1 y14.2.2.2.2.1 y14.2.2.2.2.2.1 y14.2.2.2.2.2.2.1 y14.2.2.2.2.2.2.2.1 l100 x101 l102).bind fun y112 => (vm_VM_Steps y6.2.1 y6.2.2.1 y6.2.2.2.1 y6.2.2.2.2.1 y6.2.2.2.2.2.1 y6.2.2.2.2.2.2.1 y6.2.2.2.2.2.2.2.1 y107.2.2.1 y107.2.2.2.1 y107.2.2.2.2).bind fun y114 => if ¬ y114 = (IntKind.wrap .i64 (y106 + p1.cost)) then (some (.inr (.inr false))) else (if ¬ ((y112.2.1).code) = 0 then (some (.inr (.inr false))) else ((ref_SameLongs y107.1 y112.1).bind fun y115 => if y115 = true then ((vm_VM_Cells y6.2.1 y6.2.2.1 y6.2.2.2.1 y6.2.2.2.2.1 y6.2.2.2.2.2.1 y6.2.2.2.2.2.2.1 y6.2.2.2.2.2.2.2.1 y107.2.2.1 y107.2.2.2.1 y107.2.2.2.2).bind fun y116 => (vm_VM_Cells y14.2.1 y14.2.2.1 y14.2.2.2.1 y14.2.2.2.2.1 y14.2.2.2.2.2.1 y14.2.2.2.2.2.2.1 y14.2.2.2.2.2.2.2.1 y112.2.2.1 y112.2.2.2.1 y112.2.2.2.2).bind fun y117 => (ref_SameLongs y116 y117).bind fun y118 => if y118 = true then (some (.inl (y107.2.2.1, y107.2.2.2.1, y107.2.2.2.2, y112.2.2.1, y112.2.2.2.1, y112.2.2.2.2, (IntKind.wrap .i64 (x104 + 1))))) else (some (.inr (.inr false)))) else (some (.inr (.inr false))))))) else none) else (some (.inr (.inl (l96, x97, l98, l100, x101, l102))))

noncomputable def law_VmCosts (p1 : TImage) (p2 : List (List Int)) : Option Bool :=
  (law_vmBegun ).bind fun y1 => if y1 = true then ((ref_GreatImage p1).bind fun y2 => if y2 = true then (some true) else ((law_rowsGreat p2).bind fun y3 => if y3 = true then (some true) else (if p1.cost > 20000 then (some true) else ((vm_New p1).bind fun y4 => Sum.elim (fun y5 => (vm_New p1).bind fun y7 => Sum.elim (fun y8 => if ¬ ((y5).code) = 0 then (some ((((y5).code) == ((y8).code)) && (((y5).at_) == ((y8).at_)))) else (if ¬ ((y8).code) = 0 then (some ((((y5).code) == ((y8).code)) && (((y5).at_) == ((y8).at_)))) else ((loop (fun _ => law_VmCosts_l1 p2) ()).bind (fun _ => law_VmCosts_j1)))) (fun y9 => if ¬ ((y5).code) = 0 then (some ((((y5).code) == ((y9.1).code)) && (((y5).at_) == ((y9.1).at_)))) else (if ¬ ((y9.1).code) = 0 then (some ((((y5).code) == ((y9.1).code)) && (((y5).at_) == ((y9.1).at_)))) else ((loop (fun _ => law_VmCosts_l2 p2) ()).bind (fun _ => law_VmCosts_j2)))) y7) (fun y6 => (vm_New p1).bind fun y12 => Sum.elim (fun y13 => if ¬ ((y6.1).code) = 0 then (some ((((y6.1).code) == ((y13).code)) && (((y6.1).at_) == ((y13).at_)))) else (if ¬ ((y13).code) = 0 then (some ((((y6.1).code) == ((y13).code)) && (((y6.1).at_) == ((y13).at_)))) else ((loop (fun (l37, x38, l39, x41) => law_VmCosts_l3 p2 y6 l37 x38 l39 x41) (y6.2.2.2.2.2.2.2.2.1, y6.2.2.2.2.2.2.2.2.2.1, y6.2.2.2.2.2.2.2.2.2.2.2.2, 0)).bind (Sum.elim (fun (z50, z51, z52) => law_VmCosts_j3 z50 z51 z52) (fun z53 => some z53))))) (fun y14 => if ¬ ((y6.1).code) = 0 then (some ((((y6.1).code) == ((y14.1).code)) && (((y6.1).at_) == ((y14.1).at_)))) else (if ¬ ((y14.1).code) = 0 then (some ((((y6.1).code) == ((y14.1).code)) && (((y6.1).at_) == ((y14.1).at_)))) else ((loop (fun (l96, x97, l98, l100, x101, l102, x104) => law_VmCosts_l4 p1 p2 y6 y14 l96 x97 l98 l100 x101 l102 x104) (y6.2.2.2.2.2.2.2.2.1, y6.2.2.2.2.2.2.2.2.2.1, y6.2.2.2.2.2.2.2.2.2.2.2.2, y14.2.2.2.2.2.2.2.2.1, y14.2.2.2.2.2.2.2.2.2.1, y14.2.2.2.2.2.2.2.2.2.2.2.2, 0)).bind (Sum.elim (fun (z119, z120, z121, z122, z123, z124) => law_VmCosts_j4 z119 z120 z121 z122 z123 z124) (fun z125 => some z125))))) y12) y4)))) else (some false)
end Pam

/- what ref_Apply computes, read off the program by a program of ours -/
namespace Pam
open Go
noncomputable def ref_Apply_j1 (b1 : Bool) : Option Int :=
  if b1 = true then (some 1) else (some 0)

noncomputable def ref_Apply (p1 : Int) (p2 : Int) (p3 : Int) : Option Int :=
  if p1 = 1 then (some (IntKind.wrap .i64 (p2 + p3))) else (if p1 = 2 then (some (IntKind.wrap .i64 (p2 - p3))) else (if p1 = 3 then (some (IntKind.wrap .i64 (p2 * p3))) else (if p1 = 13 then (some (IntKind.wrap .i64 (0 - p2))) else (if p1 = 4 then (if p3 = 0 then (some 0) else (if p3 = (-1) then (some (IntKind.wrap .i64 (0 - p2))) else (if p3 ≠ 0 then (some (IntKind.wrap .i64 (p2.tdiv p3))) else none))) else (if p1 = 5 then (if p3 = 0 then (some 0) else (if p3 = (-1) then (some 0) else (if p3 ≠ 0 then (some (IntKind.wrap .i64 (p2 - (IntKind.wrap .i64 ((IntKind.wrap .i64 (p2.tdiv p3)) * p3))))) else none))) else (if p1 = 6 then (if p3 < p2 then (some p3) else (some p2)) else (if p1 = 7 then (if p3 > p2 then (some p3) else (some p2)) else (if p1 = 8 then (ref_Apply_j1 (decide (p2 < p3))) else (if p1 = 9 then (ref_Apply_j1 (p2 == p3)) else (if p1 = 10 then (if ¬ p2 = 0 then (ref_Apply_j1 (p3 != 0)) else (ref_Apply_j1 false)) else (if p1 = 11 then (if ¬ p2 = 0 then (ref_Apply_j1 true) else (ref_Apply_j1 (p3 != 0))) else (if p1 = 12 then (ref_Apply_j1 (!((p2 == 0) == (p3 == 0)))) else (if p1 = 14 then (ref_Apply_j1 (p2 == 0)) else (ref_Apply_j1 false))))))))))))))
end Pam

/- what ref_Going_one_3 computes, read off the program by a program of ours -/
namespace Pam
open Go
noncomputable def ref_Going_one_3 (p1 : TIns) (p2 : Nat) (p3 : Int) (p4 : Int) (p5 : Int) (p6 : List Int) (p7 : List Int) (p8 : List Int) (p9 : List TIns) (p10 : Int) (p11 : List Int) (p12 : List Int) : Option (Bool × Int × (List Int) × (List Int)) :=
  if p1.op = 1 then (if (0 ≤ p1.r_ ∧ p1.r_ < (p2 : Int)) ∧ p1.r_.toNat < p11.length then (some (true, (IntKind.wrap .i64 (p10 + 1)), (p11.set p1.r_.toNat p1.n), p12)) else none) else (if p1.op = 2 then (if (0 ≤ p1.n ∧ p1.n < (p12.length : Int)) ∧ (0 ≤ p1.r_ ∧ p1.r_ < (p2 : Int)) ∧ p1.r_.toNat < p11.length then (some (true, (IntKind.wrap .i64 (p10 + 1)), (p11.set p1.r_.toNat (p12.getD p1.n.toNat default)), p12)) else none) else (if p1.op = 4 then (if (0 ≤ p1.r_ ∧ p1.r_ < (p2 : Int)) ∧ p1.r_.toNat < p11.length ∧ (0 ≤ p1.n ∧ p1.n < (p12.length : Int)) then (some (true, (IntKind.wrap .i64 (p10 + 1)), p11, (p12.set p1.n.toNat (p11.getD p1.r_.toNat default)))) else none) else (if p1.op = 3 then (if (p11.getD p1.a.toNat default) < 0 then (if (0 ≤ p1.a ∧ p1.a < (p2 : Int)) ∧ p1.a.toNat < p11.length then (some (false, (IntKind.wrap .i64 (p10 + 1)), p11, p12)) else none) else (if (0 ≤ p1.a ∧ p1.a < (p2 : Int)) ∧ p1.a.toNat < p11.length then (if (p11.getD p1.a.toNat default) ≥ p1.b then (some (false, (IntKind.wrap .i64 (p10 + 1)), p11, p12)) else (if (0 ≤ (IntKind.wrap .i64 (p1.n + (p11.getD p1.a.toNat default))) ∧ (IntKind.wrap .i64 (p1.n + (p11.getD p1.a.toNat default))) < (p12.length : Int)) ∧ (0 ≤ p1.r_ ∧ p1.r_ < (p2 : Int)) ∧ p1.r_.toNat < p11.length then (some (true, (IntKind.wrap .i64 (p10 + 1)), (p11.set p1.r_.toNat (p12.getD ((IntKind.wrap .i64 (p1.n + (p11.getD p1.a.toNat default))).toNat) default)), p12)) else none)) else none)) else (if p1.op = 5 then (if (p11.getD p1.a.toNat default) < 0 then (if (0 ≤ p1.a ∧ p1.a < (p2 : Int)) ∧ p1.a.toNat < p11.length then (some (false, (IntKind.wrap .i64 (p10 + 1)), p11, p12)) else none) else (if (0 ≤ p1.a ∧ p1.a < (p2 : Int)) ∧ p1.a.toNat < p11.length then (if (p11.getD p1.a.toNat default) ≥ p1.b then (some (false, (IntKind.wrap .i64 (p10 + 1)), p11, p12)) else (if (0 ≤ p1.r_ ∧ p1.r_ < (p2 : Int)) ∧ p1.r_.toNat < p11.length ∧ (0 ≤ (IntKind.wrap .i64 (p1.n + (p11.getD p1.a.toNat default))) ∧ (IntKind.wrap .i64 (p1.n + (p11.getD p1.a.toNat default))) < (p12.length : Int)) then (some (true, (IntKind.wrap .i64 (p10 + 1)), p11, (p12.set ((IntKind.wrap .i64 (p1.n + (p11.getD p1.a.toNat default))).toNat) (p11.getD p1.r_.toNat default)))) else none)) else none)) else (if p1.op = 6 then (if (0 ≤ p1.a ∧ p1.a < (p2 : Int)) ∧ p1.a.toNat < p11.length then ((ref_Apply p1.k (p11.getD p1.a.toNat default) 0).bind fun y1 => if (0 ≤ p1.r_ ∧ p1.r_ < (p2 : Int)) ∧ p1.r_.toNat < p11.length then (some (true, (IntKind.wrap .i64 (p10 + 1)), (p11.set p1.r_.toNat y1), p12)) else none) else none) else (if p1.op = 7 then (if (0 ≤ p1.a ∧ p1.a < (p2 : Int)) ∧ p1.a.toNat < p11.length ∧ (0 ≤ p1.b ∧ p1.b < (p2 : Int)) ∧ p1.b.toNat < p11.length then ((ref_Apply p1.k (p11.getD p1.a.toNat default) (p11.getD p1.b.toNat default)).bind fun y2 => if (0 ≤ p1.r_ ∧ p1.r_ < (p2 : Int)) ∧ p1.r_.toNat < p11.length then (some (true, (IntKind.wrap .i64 (p10 + 1)), (p11.set p1.r_.toNat y2), p12)) else none) else none) else (if p1.op = 8 then (if (0 ≤ p1.r_ ∧ p1.r_ < (p2 : Int)) ∧ p1.r_.toNat < p11.length then (if (p11.getD p1.r_.toNat default) = 0 then (if (0 ≤ p1.b ∧ p1.b < (p2 : Int)) ∧ p1.b.toNat < p11.length then (some (true, (IntKind.wrap .i64 (p10 + 1)), (p11.set p1.r_.toNat (p11.getD p1.b.toNat default)), p12)) else none) else (if (0 ≤ p1.a ∧ p1.a < (p2 : Int)) ∧ p1.a.toNat < p11.length then (some (true, (IntKind.wrap .i64 (p10 + 1)), (p11.set p1.r_.toNat (p11.getD p1.a.toNat default)), p12)) else none)) else none) else (if p1.op = 9 then (if (0 ≤ p1.a ∧ p1.a < (p2 : Int)) ∧ p1.a.toNat < p11.length ∧ (0 ≤ p1.r_ ∧ p1.r_ < (p2 : Int)) ∧ p1.r_.toNat < p11.length then (some (true, (IntKind.wrap .i64 (p10 + 1)), (p11.set p1.r_.toNat (p11.getD p1.a.toNat default)), p12)) else none) else (some (true, (IntKind.wrap .i64 (p10 + 1)), p11, p12))))))))))
end Pam

/- what ref_Going_all computes, read off the program by a program of ours -/
namespace Pam
open Go
noncomputable def ref_Going_all_j1 (x3 : Int) (l4 : List Int) (l5 : List Int) : Option (Int × Int × (List Int)) :=
  some ((-1), x3, l4)

noncomputable def ref_Going_all_j2 (x26 : Int) (l27 : List Int) (l28 : List Int) (x29 : Int) : Option ((Int × (List Int) × (List Int) × Int) ⊕ ((Int × (List Int) × (List Int)) ⊕ (Int × Int × (List Int)))) :=
  some (.inl (x26, l27, l28, (IntKind.wrap .i64 (x29 + 1))))

noncomputable def ref_Going_all_j4 (x31 : Int) (x34 : Int) (l35 : List Int) (l36 : List Int) : Option ((Int × (List Int) × (List Int) × Int) ⊕ ((Int × (List Int) × (List Int)) ⊕ (Int × Int × (List Int)))) :=
  ref_Going_all_j2 x34 l35 l36 x31

noncomputable def ref_Going_all_j5 (x54 : Int) (x57 : Int) (l58 : List Int) (l59 : List Int) : Option ((Int × (List Int) × (List Int) × Int) ⊕ ((Int × (List Int) × (List Int)) ⊕ (Int × Int × (List Int)))) :=
  some (.inl (x57, l58, l59, (IntKind.wrap .i64 (x54 + 1))))

noncomputable def ref_Going_all_j6 (x54 : Int) (x62 : Int) (l63 : List Int) (l64 : List Int) : Option ((Int × (List Int) × (List Int) × Int) ⊕ ((Int × (List Int) × (List Int)) ⊕ (Int × Int × (List Int)))) :=
  ref_Going_all_j5 x54 (IntKind.wrap .i64 (x62 + 1)) l63 l64

noncomputable def ref_Going_all_l3 (p1 : Int) (p2 : Int) (p3 : Int) (p4 : List Int) (p5 : List Int) (p6 : List Int) (p7 : List TIns) (x31 : Int) (x79 : Int) (l80 : List Int) (l81 : List Int) (x82 : Int) : Option ((Int × (List Int) × (List Int) × Int) ⊕ ((Int × (List Int) × (List Int)) ⊕ (Int × Int × (List Int)))) :=
  if x82 < x31 then (if (0 ≤ x82 ∧ x82 < (p7.length : Int)) then ((ref_Going_one_3 (p7.getD x82.toNat default) p2.toNat p1 p2 p3 p4 p5 p6 p7 x79 l81 l80).bind fun y83 => if y83.1 = true then (some (.inl (y83.2.1, y83.2.2.2, y83.2.2.1, (IntKind.wrap .i64 (x82 + 1))))) else (some (.inr (.inr (x82, y83.2.1, y83.2.2.2))))) else none) else (some (.inr (.inl (x79, l80, l81))))

noncomputable def ref_Going_all_l2 (p1 : Int) (p2 : Int) (p3 : Int) (p4 : List Int) (p5 : List Int) (p6 : List Int) (p7 : List TIns) (x23 : Int) (x31 : Int) (x51 : Int) (l52 : List Int) (l53 : List Int) (x54 : Int) : Option ((Int × (List Int) × (List Int) × Int) ⊕ ((Int × (List Int) × (List Int)) ⊕ (Int × Int × (List Int)))) :=
  if x54 < ((p7.getD x23.toNat default).n) then (if (0 ≤ (p7.getD x23.toNat default).r_ ∧ (p7.getD x23.toNat default).r_ < (p2.toNat : Int)) ∧ ((p7.getD x23.toNat default).r_).toNat < l53.length then ((loop (fun (x79, l80, l81, x82) => ref_Going_all_l3 p1 p2 p3 p4 p5 p6 p7 x31 x79 l80 l81 x82) (x51, l52, (l53.set (((p7.getD x23.toNat default).r_).toNat) x54), (IntKind.wrap .i64 (x23 + 1)))).bind (Sum.elim (fun (z84, z85, z86) => ref_Going_all_j6 x54 z84 z85 z86) (fun z87 => some (.inr (.inr z87))))) else none) else (some (.inr (.inl (x51, l52, l53))))

noncomputable def ref_Going_all_j3 (p1 : Int) (p2 : Int) (p3 : Int) (p4 : List Int) (p5 : List Int) (p6 : List Int) (p7 : List TIns) (x20 : Int) (l21 : List Int) (l22 : List Int) (x23 : Int) (x31 : Int) : Option ((Int × (List Int) × (List Int) × Int) ⊕ ((Int × (List Int) × (List Int)) ⊕ (Int × Int × (List Int)))) :=
  (loop (fun (x51, l52, l53, x54) => ref_Going_all_l2 p1 p2 p3 p4 p5 p6 p7 x23 x31 x51 l52 l53 x54) ((IntKind.wrap .i64 (x20 + 1)), l21, l22, 0)).bind (Sum.elim (fun (z88, z89, z90) => ref_Going_all_j4 x31 z88 z89 z90) (fun z91 => some (.inr (.inr z91))))

noncomputable def ref_Going_all_l4 (p7 : List TIns) (x94 : Int) : Option (Int ⊕ Int) :=
  if (0 ≤ x94 ∧ x94 < (p7.length : Int)) then (if ¬ ((p7.getD x94.toNat default).op) = 11 then (some (.inl (IntKind.wrap .i64 (x94 + 1)))) else (some (.inr x94))) else none

noncomputable def ref_Going_all_l1 (p1 : Int) (p2 : Int) (p3 : Int) (p4 : List Int) (p5 : List Int) (p6 : List Int) (p7 : List TIns) (x20 : Int) (l21 : List Int) (l22 : List Int) (x23 : Int) : Option ((Int × (List Int) × (List Int) × Int) ⊕ ((Int × (List Int) × (List Int)) ⊕ (Int × Int × (List Int)))) :=
  if x23 < (p7.length : Int) then (if (0 ≤ x23 ∧ x23 < (p7.length : Int)) then (if ¬ ((p7.getD x23.toNat default).op) = 10 then ((ref_Going_one_3 (p7.getD x23.toNat default) p2.toNat p1 p2 p3 p4 p5 p6 p7 x20 l22 l21).bind fun y30 => if y30.1 = true then (ref_Going_all_j2 y30.2.1 y30.2.2.2 y30.2.2.1 x23) else (some (.inr (.inr (x23, y30.2.1, y30.2.2.2))))) else ((loop (fun x94 => ref_Going_all_l4 p7 x94) x23).bind (fun z95 => ref_Going_all_j3 p1 p2 p3 p4 p5 p6 p7 x20 l21 l22 x23 z95))) else none) else (some (.inr (.inl (x20, l21, l22))))

noncomputable def ref_Going_all (p1 : Int) (p2 : Int) (p3 : Int) (p4 : List Int) (p5 : List Int) (p6 : List Int) (p7 : List TIns) (p8 : Int) (p9 : List Int) : Option (Int × Int × (List Int)) :=
  if (0 ≤ p2 ∧ p2 ≤ p2) ∧ room p2.toNat 8 then ((loop (fun (x20, l21, l22, x23) => ref_Going_all_l1 p1 p2 p3 p4 p5 p6 p7 x20 l21 l22 x23) (p8, p9, (List.replicate p2.toNat 0), 0)).bind (Sum.elim (fun (z96, z97, z98) => ref_Going_all_j1 z96 z97 z98) (fun z99 => some z99))) else none
end Pam

/- what ref_F computes, read off the program by a program of ours -/
namespace Pam
open Go
noncomputable def ref_F (p1 : Int) (p2 : Int) : Option TFault :=
  some (TFault.mk p1 p2)
end Pam

/- what ref_OpOf computes, read off the program by a program of ours -/
namespace Pam
open Go
noncomputable def ref_OpOf_j1 (p1 : Int) (x1 : Int) : Option (Int × Int × Int) :=
  if (0 ≤ p1 ∧ p1 < (([63, 105, 105, 105, 105, 105, 105, 105, 105, 105, 98, 98, 98, 105, 98] : List UInt8).length : Int)) ∧ (0 ≤ p1 ∧ p1 < (([63, 105, 105, 105, 105, 105, 105, 105, 98, 98, 98, 98, 98, 105, 98] : List UInt8).length : Int)) then (some (((([63, 105, 105, 105, 105, 105, 105, 105, 105, 105, 98, 98, 98, 105, 98] : List UInt8).getD p1.toNat 0).toNat : Int), ((([63, 105, 105, 105, 105, 105, 105, 105, 98, 98, 98, 98, 98, 105, 98] : List UInt8).getD p1.toNat 0).toNat : Int), x1)) else none

noncomputable def ref_OpOf (p1 : Int) : Option (Int × Int × Int) :=
  if p1 < 1 then (some (0, 0, 0)) else (if p1 > 14 then (some (0, 0, 0)) else (if p1 ≥ 13 then (ref_OpOf_j1 p1 1) else (ref_OpOf_j1 p1 2)))
end Pam

/- what ref_regsOK computes, read off the program by a program of ours -/
namespace Pam
open Go
noncomputable def ref_regsOK_j1 : Option Bool :=
  some true

noncomputable def ref_regsOK_l1 (p1 : TImage) (p2 : List Int) (x3 : Int) : Option (Int ⊕ (Unit ⊕ Bool)) :=
  if x3 < (p2.length : Int) then (if (p2.getD x3.toNat default) < 0 then (if (0 ≤ x3 ∧ x3 < (p2.length : Int)) then (some (.inr (.inr false))) else none) else (if (0 ≤ x3 ∧ x3 < (p2.length : Int)) then (if (p2.getD x3.toNat default) ≥ p1.regs then (some (.inr (.inr false))) else (some (.inl (IntKind.wrap .i64 (x3 + 1))))) else none)) else (some (.inr (.inl ())))

noncomputable def ref_regsOK (p1 : TImage) (p2 : List Int) : Option Bool :=
  (loop (fun x3 => ref_regsOK_l1 p1 p2 x3) 0).bind (Sum.elim (fun _ => ref_regsOK_j1) (fun z4 => some z4))
end Pam

/- what ref_insOK computes, read off the program by a program of ours -/
namespace Pam
open Go
noncomputable def ref_insOK_j2 (p1 : TImage) (p2 : TIns) (y1 : (Int × Int × Int)) (b5 : Bool) : Option Bool :=
  if b5 = true then ((ref_regsOK p1 (lit ([p2.r_, p2.a] : List Int))).bind fun y6 => if y6 = true then (if p2.n ≥ 0 then (if p2.n < p1.cells then (if p2.b ≥ 1 then (some (decide (p2.b ≤ (IntKind.wrap .i64 (p1.cells - p2.n))))) else (some false)) else (some false)) else (some false)) else (some false)) else (if p2.op = 6 then ((ref_regsOK p1 (lit ([p2.r_, p2.a] : List Int))).bind fun y7 => if y7 = true then (some (y1.2.2 == 1)) else (some false)) else (if p2.op = 7 then ((ref_regsOK p1 (lit ([p2.r_, p2.a, p2.b] : List Int))).bind fun y8 => if y8 = true then (some (y1.2.2 == 2)) else (some false)) else (if p2.op = 8 then ((ref_regsOK p1 (lit ([p2.r_, p2.a, p2.b] : List Int))).bind fun y9 => some y9) else (if p2.op = 9 then ((ref_regsOK p1 (lit ([p2.r_, p2.a] : List Int))).bind fun y10 => some y10) else (if p2.op = 10 then ((ref_regsOK p1 (lit ([p2.r_] : List Int))).bind fun y11 => if y11 = true then (if p2.n ≥ 1 then (some (decide (p2.n ≤ 300))) else (some false)) else (some false)) else (some (p2.op == 11)))))))

noncomputable def ref_insOK_j1 (p1 : TImage) (p2 : TIns) (y1 : (Int × Int × Int)) (b3 : Bool) : Option Bool :=
  if b3 = true then ((ref_regsOK p1 (lit ([p2.r_] : List Int))).bind fun y4 => if y4 = true then (if p2.n ≥ 0 then (some (decide (p2.n < p1.cells))) else (some false)) else (some false)) else (if p2.op = 3 then (ref_insOK_j2 p1 p2 y1 (p2.op == 3)) else (ref_insOK_j2 p1 p2 y1 (p2.op == 5)))

noncomputable def ref_insOK (p1 : TImage) (p2 : TIns) : Option Bool :=
  (ref_OpOf p2.k).bind fun y1 => if p2.op = 1 then ((ref_regsOK p1 (lit ([p2.r_] : List Int))).bind fun y2 => some y2) else (if p2.op = 2 then (ref_insOK_j1 p1 p2 y1 (p2.op == 2)) else (ref_insOK_j1 p1 p2 y1 (p2.op == 4)))
end Pam

/- what ref_CostOf computes, read off the program by a program of ours -/
namespace Pam
open Go
noncomputable def ref_CostOf_j1 (x1 : Int) : Option Int :=
  some x1

noncomputable def ref_CostOf_j2 (x8 : Int) (x9 : Int) : Option ((Int × Int) ⊕ (Int ⊕ Int)) :=
  some (.inl (x8, (IntKind.wrap .i64 (x9 + 1))))

noncomputable def ref_CostOf_j3 (p1 : List TIns) (x6 : Int) (x7 : Int) (x10 : Int) : Option ((Int × Int) ⊕ (Int ⊕ Int)) :=
  if x10 = (p1.length : Int) then (some (.inr (.inr 0))) else (if ((p1.getD x7.toNat default).n) < 1 then (some (.inr (.inr 0))) else (if ((p1.getD x7.toNat default).n) > 300 then (some (.inr (.inr 0))) else (ref_CostOf_j2 (IntKind.wrap .i64 ((IntKind.wrap .i64 (x6 + 1)) + (IntKind.wrap .i64 (((p1.getD x7.toNat default).n) * (IntKind.wrap .i64 (x10 - x7)))))) x10)))

noncomputable def ref_CostOf_l2 (p1 : List TIns) (x13 : Int) : Option (Int ⊕ (Int ⊕ Int)) :=
  if x13 < (p1.length : Int) then (if (0 ≤ x13 ∧ x13 < (p1.length : Int)) then (if ¬ ((p1.getD x13.toNat default).op) = 11 then (if ((p1.getD x13.toNat default).op) = 10 then (some (.inr (.inr 0))) else (some (.inl (IntKind.wrap .i64 (x13 + 1))))) else (some (.inr (.inl x13)))) else none) else (some (.inr (.inl x13)))

noncomputable def ref_CostOf_l1 (p1 : List TIns) (x6 : Int) (x7 : Int) : Option ((Int × Int) ⊕ (Int ⊕ Int)) :=
  if x7 < (p1.length : Int) then (if (0 ≤ x7 ∧ x7 < (p1.length : Int)) then (if ((p1.getD x7.toNat default).op) = 11 then (some (.inr (.inr 0))) else (if ¬ ((p1.getD x7.toNat default).op) = 10 then (ref_CostOf_j2 (IntKind.wrap .i64 (x6 + 1)) x7) else ((loop (fun x13 => ref_CostOf_l2 p1 x13) (IntKind.wrap .i64 (x7 + 1))).bind (Sum.elim (fun z14 => ref_CostOf_j3 p1 x6 x7 z14) (fun z15 => some (.inr (.inr z15))))))) else none) else (some (.inr (.inl x6)))

noncomputable def ref_CostOf (p1 : List TIns) : Option Int :=
  (loop (fun (x6, x7) => ref_CostOf_l1 p1 x6 x7) (0, 0)).bind (Sum.elim (fun z16 => ref_CostOf_j1 z16) (fun z17 => some z17))
end Pam

/- what ref_ImageFault computes, read off the program by a program of ours -/
namespace Pam
open Go
noncomputable def ref_ImageFault_j2 (p1 : TImage) : Option TFault :=
  (ref_CostOf p1.code).bind fun y9 => if ¬ p1.cost = y9 then ((ref_F 18 (-1)).bind fun y10 => some (y10)) else (if y9 = 0 then (if (p1.code.length : Int) > 0 then ((ref_F 18 (-1)).bind fun y11 => some (y11)) else (some (TFault.mk 0 0))) else (some (TFault.mk 0 0)))

noncomputable def ref_ImageFault_l1 (p1 : TImage) (x14 : Int) : Option (Int ⊕ (Unit ⊕ TFault)) :=
  if x14 < (p1.code.length : Int) then (if (0 ≤ x14 ∧ x14 < (p1.code.length : Int)) then ((ref_insOK p1 (p1.code.getD x14.toNat default)).bind fun y15 => if y15 = true then (some (.inl (IntKind.wrap .i64 (x14 + 1)))) else ((ref_F 4 x14).bind fun y16 => some (.inr (.inr (y16))))) else none) else (some (.inr (.inl ())))

noncomputable def ref_ImageFault_j1 (p1 : TImage) : Option TFault :=
  (loop (fun x14 => ref_ImageFault_l1 p1 x14) 0).bind (Sum.elim (fun _ => ref_ImageFault_j2 p1) (fun z17 => some z17))

noncomputable def ref_ImageFault_j3 (x20 : Int) : Option (Int ⊕ (Unit ⊕ TFault)) :=
  some (.inl (IntKind.wrap .i64 (x20 + 1)))

noncomputable def ref_ImageFault_l3 (p1 : TImage) (x20 : Int) (x23 : Int) : Option (Int ⊕ (Unit ⊕ TFault)) :=
  if (0 ≤ x20 ∧ x20 < (3 : Int)) then (if x23 < (((lit ([p1.put, p1.bools, p1.get] : List (List Int))).getD x20.toNat default).length : Int) then (if (((lit ([p1.put, p1.bools, p1.get] : List (List Int))).getD x20.toNat default).getD x23.toNat default) < 0 then (if (0 ≤ x23 ∧ x23 < (((lit ([p1.put, p1.bools, p1.get] : List (List Int))).getD x20.toNat default).length : Int)) then ((ref_F 16 (-1)).bind fun y24 => some (.inr (.inr (y24)))) else none) else (if (0 ≤ x23 ∧ x23 < (((lit ([p1.put, p1.bools, p1.get] : List (List Int))).getD x20.toNat default).length : Int)) then (if (((lit ([p1.put, p1.bools, p1.get] : List (List Int))).getD x20.toNat default).getD x23.toNat default) ≥ p1.cells then ((ref_F 16 (-1)).bind fun y25 => some (.inr (.inr (y25)))) else (some (.inl (IntKind.wrap .i64 (x23 + 1))))) else none)) else (some (.inr (.inl ())))) else none

noncomputable def ref_ImageFault_l2 (p1 : TImage) (x20 : Int) : Option (Int ⊕ (Unit ⊕ TFault)) :=
  if x20 < 3 then ((loop (fun x23 => ref_ImageFault_l3 p1 x20 x23) 0).bind (Sum.elim (fun _ => ref_ImageFault_j3 x20) (fun z26 => some (.inr (.inr z26))))) else (some (.inr (.inl ())))

noncomputable def ref_ImageFault (p1 : TImage) : Option TFault :=
  if p1.cells < 1 then ((ref_F 13 (-1)).bind fun y1 => some (y1)) else (if p1.cells > 6000 then ((ref_F 13 (-1)).bind fun y2 => some (y2)) else (if p1.regs < 1 then ((ref_F 13 (-1)).bind fun y3 => some (y3)) else (if p1.regs > 40 then ((ref_F 13 (-1)).bind fun y4 => some (y4)) else (if (p1.put.length : Int) > 6000 then ((ref_F 7 (-1)).bind fun y5 => some (y5)) else (if (p1.bools.length : Int) > 6000 then ((ref_F 7 (-1)).bind fun y6 => some (y6)) else (if (p1.get.length : Int) > 120000 then ((ref_F 7 (-1)).bind fun y7 => some (y7)) else (if (p1.code.length : Int) > 200000 then ((ref_F 7 (-1)).bind fun y8 => some (y8)) else ((loop (fun x20 => ref_ImageFault_l2 p1 x20) 0).bind (Sum.elim (fun _ => ref_ImageFault_j1 p1) (fun z27 => some z27))))))))))
end Pam

/- what ref_SameInts computes, read off the program by a program of ours -/
namespace Pam
open Go
noncomputable def ref_SameInts_j1 : Option Bool :=
  some true

noncomputable def ref_SameInts_l1 (p1 : List Int) (p2 : List Int) (x3 : Int) : Option (Int ⊕ (Unit ⊕ Bool)) :=
  if x3 < (p1.length : Int) then (if (0 ≤ x3 ∧ x3 < (p1.length : Int)) ∧ (0 ≤ x3 ∧ x3 < (p2.length : Int)) then (if ¬ (p1.getD x3.toNat default) = (p2.getD x3.toNat default) then (some (.inr (.inr false))) else (some (.inl (IntKind.wrap .i64 (x3 + 1))))) else none) else (some (.inr (.inl ())))

noncomputable def ref_SameInts (p1 : List Int) (p2 : List Int) : Option Bool :=
  if ¬ (p1.length : Int) = (p2.length : Int) then (some false) else ((loop (fun x3 => ref_SameInts_l1 p1 p2 x3) 0).bind (Sum.elim (fun _ => ref_SameInts_j1) (fun z4 => some z4)))
end Pam

/- what ref_SameImage computes, read off the program by a program of ours -/
namespace Pam
open Go
noncomputable def ref_SameImage_j1 : Option Bool :=
  some true

noncomputable def ref_SameImage_l1 (p1 : TImage) (p2 : TImage) (x6 : Int) : Option (Int ⊕ (Unit ⊕ Bool)) :=
  if x6 < (p1.code.length : Int) then (if (0 ≤ x6 ∧ x6 < (p1.code.length : Int)) ∧ (0 ≤ x6 ∧ x6 < (p2.code.length : Int)) then (if ((p1.code.getD x6.toNat default).op) = ((p2.code.getD x6.toNat default).op) ∧ ((p1.code.getD x6.toNat default).k) = ((p2.code.getD x6.toNat default).k) ∧ ((p1.code.getD x6.toNat default).r_) = ((p2.code.getD x6.toNat default).r_) ∧ ((p1.code.getD x6.toNat default).a) = ((p2.code.getD x6.toNat default).a) ∧ ((p1.code.getD x6.toNat default).b) = ((p2.code.getD x6.toNat default).b) ∧ ((p1.code.getD x6.toNat default).n) = ((p2.code.getD x6.toNat default).n) then (some (.inl (IntKind.wrap .i64 (x6 + 1)))) else (some (.inr (.inr false)))) else none) else (some (.inr (.inl ())))

noncomputable def ref_SameImage (p1 : TImage) (p2 : TImage) : Option Bool :=
  if ¬ p1.cells = p2.cells then (some false) else (if ¬ p1.regs = p2.regs then (some false) else (if ¬ p1.cost = p2.cost then (some false) else ((ref_SameInts p1.put p2.put).bind fun y1 => if y1 = true then ((ref_SameInts p1.bools p2.bools).bind fun y2 => if y2 = true then ((ref_SameInts p1.get p2.get).bind fun y3 => if y3 = true then (if ¬ (p1.code.length : Int) = (p2.code.length : Int) then (some false) else ((loop (fun x6 => ref_SameImage_l1 p1 p2 x6) 0).bind (Sum.elim (fun _ => ref_SameImage_j1) (fun z7 => some z7)))) else (some false)) else (some false)) else (some false))))
end Pam

/- what ref_In computes, read off the program by a program of ours -/
namespace Pam
open Go
noncomputable def ref_In_j1 : Option Bool :=
  some false

noncomputable def ref_In_l1 (p1 : List Int) (p2 : Int) (x3 : Int) : Option (Int ⊕ (Unit ⊕ Bool)) :=
  if x3 < (p1.length : Int) then (if (0 ≤ x3 ∧ x3 < (p1.length : Int)) then (if (p1.getD x3.toNat default) = p2 then (some (.inr (.inr true))) else (some (.inl (IntKind.wrap .i64 (x3 + 1))))) else none) else (some (.inr (.inl ())))

noncomputable def ref_In (p1 : List Int) (p2 : Int) : Option Bool :=
  (loop (fun x3 => ref_In_l1 p1 p2 x3) 0).bind (Sum.elim (fun _ => ref_In_j1) (fun z4 => some z4))
end Pam

/- what ref_Going_Row computes, read off the program by a program of ours -/
namespace Pam
open Go
noncomputable def ref_Going_Row_j3 (y4 : (Int × Int × (List Int))) (l8 : List Int) : Option ((List Int) × TFault × Int × (List Int)) :=
  some (l8, (TFault.mk 0 0), y4.2.1, y4.2.2)

noncomputable def ref_Going_Row_l1 (p7 : List Int) (y4 : (Int × Int × (List Int))) (l22 : List Int) (x24 : Int) : Option (((List Int) × Int) ⊕ (List Int)) :=
  if x24 < (p7.length : Int) then (if (0 ≤ x24 ∧ x24 < (p7.length : Int)) ∧ (0 ≤ (p7.getD x24.toNat default) ∧ (p7.getD x24.toNat default) < (y4.2.2.length : Int)) ∧ room (l22.length + 1) 8 then (some (.inl ((l22 ++ (lit ([(y4.2.2.getD ((p7.getD x24.toNat default).toNat) default)] : List Int))), (IntKind.wrap .i64 (x24 + 1))))) else none) else (some (.inr l22))

noncomputable def ref_Going_Row_j2 (p2 : Int) (p3 : Int) (p4 : Int) (p5 : List Int) (p6 : List Int) (p7 : List Int) (p8 : List TIns) (p9 : Int) (p10 : List Int) (l3 : List Int) : Option ((List Int) × TFault × Int × (List Int)) :=
  (ref_Going_all p2 p3 p4 p5 p6 p7 p8 p9 l3).bind fun y4 => if y4.1 ≥ 0 then ((ref_F 16 y4.1).bind fun y5 => some ([], (y5), p9, p10)) else ((loop (fun (l22, x24) => ref_Going_Row_l1 p7 y4 l22 x24) ([], 0)).bind (fun z25 => ref_Going_Row_j3 y4 z25))

noncomputable def ref_Going_Row_l2 (p1 : List Int) (p5 : List Int) (l33 : List Int) (x34 : Int) : Option (((List Int) × Int) ⊕ (List Int)) :=
  if x34 < (p1.length : Int) then (if (0 ≤ x34 ∧ x34 < (p5.length : Int)) ∧ (0 ≤ x34 ∧ x34 < (p1.length : Int)) ∧ (0 ≤ (p5.getD x34.toNat default) ∧ (p5.getD x34.toNat default) < (l33.length : Int)) then (some (.inl ((l33.set ((p5.getD x34.toNat default).toNat) (p1.getD x34.toNat default)), (IntKind.wrap .i64 (x34 + 1))))) else none) else (some (.inr l33))

noncomputable def ref_Going_Row_j1 (p1 : List Int) (p2 : Int) (p3 : Int) (p4 : Int) (p5 : List Int) (p6 : List Int) (p7 : List Int) (p8 : List TIns) (p9 : Int) (p10 : List Int) : Option ((List Int) × TFault × Int × (List Int)) :=
  if room p10.length 8 then ((loop (fun (l33, x34) => ref_Going_Row_l2 p1 p5 l33 x34) (p10, 0)).bind (fun z35 => ref_Going_Row_j2 p2 p3 p4 p5 p6 p7 p8 p9 p10 z35)) else none

noncomputable def ref_Going_Row_l3 (p1 : List Int) (p5 : List Int) (p6 : List Int) (p9 : Int) (p10 : List Int) (x38 : Int) : Option (Int ⊕ (Unit ⊕ ((List Int) × TFault × Int × (List Int)))) :=
  if x38 < (p1.length : Int) then (if ¬ (p1.getD x38.toNat default) = 0 then (if ¬ (p1.getD x38.toNat default) = 1 then (if (0 ≤ x38 ∧ x38 < (p1.length : Int)) ∧ (0 ≤ x38 ∧ x38 < (p5.length : Int)) then ((ref_In p6 (p5.getD x38.toNat default)).bind fun y39 => if y39 = true then ((ref_F 17 x38).bind fun y40 => some (.inr (.inr ([], (y40), p9, p10)))) else (some (.inl (IntKind.wrap .i64 (x38 + 1))))) else none) else (if (0 ≤ x38 ∧ x38 < (p1.length : Int)) then (some (.inl (IntKind.wrap .i64 (x38 + 1)))) else none)) else (if (0 ≤ x38 ∧ x38 < (p1.length : Int)) then (some (.inl (IntKind.wrap .i64 (x38 + 1)))) else none)) else (some (.inr (.inl ())))

noncomputable def ref_Going_Row (p1 : List Int) (p2 : Int) (p3 : Int) (p4 : Int) (p5 : List Int) (p6 : List Int) (p7 : List Int) (p8 : List TIns) (p9 : Int) (p10 : List Int) : Option ((List Int) × TFault × Int × (List Int)) :=
  if ¬ (p1.length : Int) = (p5.length : Int) then ((ref_F 17 (-1)).bind fun y1 => some ([], (y1), p9, p10)) else ((loop (fun x38 => ref_Going_Row_l3 p1 p5 p6 p9 p10 x38) 0).bind (Sum.elim (fun _ => ref_Going_Row_j1 p1 p2 p3 p4 p5 p6 p7 p8 p9 p10) (fun z41 => some z41)))
end Pam

/- what law_copyRows computes, read off the program by a program of ours -/
namespace Pam
open Go
noncomputable def law_copyRows_j1 (l3 : List (List Int)) : Option (List (List Int)) :=
  some l3

noncomputable def law_copyRows_l1 (p1 : List (List Int)) (l17 : List (List Int)) (x19 : Int) : Option (((List (List Int)) × Int) ⊕ (List (List Int))) :=
  if x19 < (p1.length : Int) then (if (0 ≤ x19 ∧ x19 < (p1.length : Int)) ∧ room ((p1.getD x19.toNat default).length) 8 then (if room (l17.length + 1) 24 then (some (.inl ((l17 ++ (lit ([(p1.getD x19.toNat default)] : List (List Int)))), (IntKind.wrap .i64 (x19 + 1))))) else none) else none) else (some (.inr l17))

noncomputable def law_copyRows (p1 : List (List Int)) : Option (List (List Int)) :=
  (loop (fun (l17, x19) => law_copyRows_l1 p1 l17 x19) ([], 0)).bind (fun z20 => law_copyRows_j1 z20)
end Pam

/- what law_sameRows computes, read off the program by a program of ours -/
namespace Pam
open Go
noncomputable def law_sameRows_j1 : Option Bool :=
  some true

noncomputable def law_sameRows_l1 (p1 : List (List Int)) (p2 : List (List Int)) (x3 : Int) : Option (Int ⊕ (Unit ⊕ Bool)) :=
  if x3 < (p1.length : Int) then (if (0 ≤ x3 ∧ x3 < (p1.length : Int)) ∧ (0 ≤ x3 ∧ x3 < (p2.length : Int)) then ((ref_SameLongs (p1.getD x3.toNat default) (p2.getD x3.toNat default)).bind fun y4 => if y4 = true then (some (.inl (IntKind.wrap .i64 (x3 + 1)))) else (some (.inr (.inr false)))) else none) else (some (.inr (.inl ())))

noncomputable def law_sameRows (p1 : List (List Int)) (p2 : List (List Int)) : Option Bool :=
  if ¬ (p1.length : Int) = (p2.length : Int) then (some false) else ((loop (fun x3 => law_sameRows_l1 p1 p2 x3) 0).bind (Sum.elim (fun _ => law_sameRows_j1) (fun z5 => some z5)))
end Pam

/- what ref_SameLongs_2 computes, read off the program by a program of ours -/
namespace Pam
open Go
noncomputable def ref_SameLongs_2_j1 : Option Bool :=
  some true

noncomputable def ref_SameLongs_2_l1 (p1 : List Int) (p2 : List Int) (x3 : Int) : Option (Int ⊕ (Unit ⊕ Bool)) :=
  if x3 < (p1.length : Int) then (if (0 ≤ x3 ∧ x3 < (p1.length : Int)) ∧ (0 ≤ x3 ∧ x3 < (p2.length : Int)) then (if ¬ (p1.getD x3.toNat default) = (p2.getD x3.toNat default) then (some (.inr (.inr false))) else (some (.inl (IntKind.wrap .i64 (x3 + 1))))) else none) else (some (.inr (.inl ())))

noncomputable def ref_SameLongs_2 (p1 : List Int) (p2 : List Int) : Option Bool :=
  if ¬ (p1.length : Int) = (p2.length : Int) then (some false) else ((loop (fun x3 => ref_SameLongs_2_l1 p1 p2 x3) 0).bind (Sum.elim (fun _ => ref_SameLongs_2_j1) (fun z4 => some z4)))
end Pam

/- what ref_BeginCode computes, read off the program by a program of ours -/
namespace Pam
open Go
noncomputable def ref_BeginCode (p1 : TImage) : Option (Int × Int × Int × (List Int) × (List Int) × (List Int) × (List TIns) × Int × (List Int)) :=
  if (0 ≤ p1.cells ∧ p1.cells ≤ p1.cells) ∧ room p1.cells.toNat 8 then (some (p1.cells, p1.regs, p1.cost, p1.put, p1.bools, p1.get, p1.code, 0, (List.replicate p1.cells.toNat 0))) else none
end Pam
