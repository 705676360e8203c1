/- what slices_Grow_int_int computes, read off the program by a program of ours -/
import Derived.Test.YtkdminbbajdjpaaLoopRowsData1
set_option linter.all false
namespace Pam
open Go
noncomputable def slices_Grow_int_int (p1 : Int) : Option (List Int) :=
  if p1 < 0 then none else (if (IntKind.wrap .i64 (p1 - (IntKind.wrap .i64 (0 - 0)))) > 0 then (if 0 ≤ (IntKind.wrap .i64 (p1 - (IntKind.wrap .i64 (0 - 0)))) ∧ room ((IntKind.wrap .i64 (p1 - (IntKind.wrap .i64 (0 - 0)))).toNat) 8 then (if (0 ≤ 0 ∧ 0 ≤ ((IntKind.wrap .i64 (p1 - (IntKind.wrap .i64 (0 - 0)))).toNat : Int)) then (some ((List.replicate ((IntKind.wrap .i64 (p1 - (IntKind.wrap .i64 (0 - 0)))).toNat) 0).take 0)) else none) else none) else (some []))
end Pam

/- what slices_Concat_int_int computes, read off the program by a program of ours -/
namespace Pam
open Go
noncomputable def slices_Concat_int_int_j2 (l5 : List Int) : Option (List Int) :=
  some l5

noncomputable def slices_Concat_int_int_l1 (p1 : List (List Int)) (l19 : List Int) (x21 : Int) : Option (((List Int) × Int) ⊕ (List Int)) :=
  if x21 < (p1.length : Int) then (if (0 ≤ x21 ∧ x21 < (p1.length : Int)) then (if room (l19.length + ((p1.getD x21.toNat default).length)) 8 then (some (.inl ((l19 ++ (p1.getD x21.toNat default)), (IntKind.wrap .i64 (x21 + 1))))) else none) else none) else (some (.inr l19))

noncomputable def slices_Concat_int_int_j1 (p1 : List (List Int)) (x1 : Int) : Option (List Int) :=
  (slices_Grow_int_int x1).bind fun y2 => (loop (fun (l19, x21) => slices_Concat_int_int_l1 p1 l19 x21) (y2, 0)).bind (fun z22 => slices_Concat_int_int_j2 z22)

noncomputable def slices_Concat_int_int_l2 (p1 : List (List Int)) (x27 : Int) (x28 : Int) : Option ((Int × Int) ⊕ Int) :=
  if x28 < (p1.length : Int) then (if (0 ≤ x28 ∧ x28 < (p1.length : Int)) then (if (IntKind.wrap .i64 (x27 + ((p1.getD x28.toNat default).length : Int))) < 0 then none else (some (.inl ((IntKind.wrap .i64 (x27 + ((p1.getD x28.toNat default).length : Int))), (IntKind.wrap .i64 (x28 + 1)))))) else none) else (some (.inr x27))

noncomputable def slices_Concat_int_int (p1 : List (List Int)) : Option (List Int) :=
  (loop (fun (x27, x28) => slices_Concat_int_int_l2 p1 x27 x28) (0, 0)).bind (fun z29 => slices_Concat_int_int_j1 p1 z29)
end Pam

/- what loop_inside computes, read off the program by a program of ours -/
namespace Pam
open Go
noncomputable def loop_inside (p1 : TLoops) (p2 : Int) (p3 : Int) : Option Bool :=
  if p2 ≥ 0 then (if p3 ≥ 1 then (if p3 ≤ p1.cells then (some (decide (p2 ≤ (IntKind.wrap .i64 (p1.cells - p3))))) else (some false)) else (some false)) else (some false)
end Pam

/- what kinds_Op computes, read off the program by a program of ours -/
namespace Pam
open Go
noncomputable def kinds_Op (p1 : Int) : Option (Int × Int × Int) :=
  if p1 ≥ 1 then (if p1 ≤ 7 then (some (105, 105, 2)) else (if p1 = 8 then (some (105, 98, 2)) else (if p1 = 9 then (some (105, 98, 2)) else (if p1 ≥ 10 then (if p1 ≤ 12 then (some (98, 98, 2)) else (if p1 = 13 then (some (105, 105, 1)) else (if p1 = 14 then (some (98, 98, 1)) else (some (0, 0, 0))))) else (if p1 = 13 then (some (105, 105, 1)) else (if p1 = 14 then (some (98, 98, 1)) else (some (0, 0, 0)))))))) else (if p1 = 8 then (some (105, 98, 2)) else (if p1 = 9 then (some (105, 98, 2)) else (if p1 ≥ 10 then (if p1 ≤ 12 then (some (98, 98, 2)) else (if p1 = 13 then (some (105, 105, 1)) else (if p1 = 14 then (some (98, 98, 1)) else (some (0, 0, 0))))) else (if p1 = 13 then (some (105, 105, 1)) else (if p1 = 14 then (some (98, 98, 1)) else (some (0, 0, 0)))))))
end Pam

/- what loop_step computes, read off the program by a program of ours -/
namespace Pam
open Go
noncomputable def loop_step_j1 (p1 : TLoops) (p2 : TPush) (b3 : Bool) : Option (Int × Bool) :=
  if b3 = true then ((kinds_Op p2.k).bind fun y4 => some (y4.2.2, (y4.2.2 == (IntKind.wrap .i64 ((IntKind.wrap .i64 (p2.op - 5)) + 1))))) else (if p2.op = 7 then (some (3, true)) else (if p2.op = 8 then ((loop_inside p1 p2.v p2.n).bind fun y5 => some (2, y5)) else (some (0, false))))

noncomputable def loop_step (p1 : TLoops) (p2 : TPush) (p3 : Int) : Option (Int × Bool) :=
  if p2.op = 1 then (some (0, true)) else (if p2.op = 2 then ((loop_inside p1 p2.v 1).bind fun y1 => some (0, y1)) else (if p2.op = 3 then ((loop_inside p1 p2.v p3).bind fun y2 => some (0, y2)) else (if p2.op = 4 then (if p2.n ≥ (-1000000000000000000) then (some (0, decide (p2.n ≤ 1000000000000000000))) else (some (0, false))) else (if p2.op = 5 then (loop_step_j1 p1 p2 (p2.op == 5)) else (loop_step_j1 p1 p2 (p2.op == 6))))))
end Pam

/- what loop_tree computes, read off the program by a program of ours -/
namespace Pam
open Go
noncomputable def loop_tree_j1 (p2 : List TPush) (x1 : Int) : Option Bool :=
  if x1 = 1 then (some (decide ((p2.length : Int) ≤ 24))) else (some false)

noncomputable def loop_tree_l1 (p1 : TLoops) (p2 : List TPush) (p3 : Int) (x6 : Int) (x7 : Int) : Option ((Int × Int) ⊕ (Int ⊕ Bool)) :=
  if x7 < (p2.length : Int) then (if (0 ≤ x7 ∧ x7 < (p2.length : Int)) then ((loop_step p1 (p2.getD x7.toNat default) p3).bind fun y8 => if y8.2 = true then (if x6 < y8.1 then (some (.inr (.inr false))) else (some (.inl ((IntKind.wrap .i64 (x6 + (IntKind.wrap .i64 (1 - y8.1)))), (IntKind.wrap .i64 (x7 + 1)))))) else (some (.inr (.inr false)))) else none) else (some (.inr (.inl x6)))

noncomputable def loop_tree (p1 : TLoops) (p2 : List TPush) (p3 : Int) : Option Bool :=
  (loop (fun (x6, x7) => loop_tree_l1 p1 p2 p3 x6 x7) (0, 0)).bind (Sum.elim (fun z9 => loop_tree_j1 p2 z9) (fun z10 => some z10))
end Pam

/- what loop_fits computes, read off the program by a program of ours -/
namespace Pam
open Go
noncomputable def loop_fits_j2 (p1 : TLoops) (p2 : TLoop) (y1 : (Int × Int × Int)) (x5 : Int) : Option Bool :=
  if p2.n ≥ 1 then (if p2.n ≤ 300 then ((loop_inside p1 p2.to x5).bind fun y6 => if y6 = true then ((loop_tree p1 p2.e p2.n).bind fun y7 => if y7 = true then (if p2.op = 2 then (some true) else (if y1.2.2 = 2 then ((loop_tree p1 p2.f 1).bind fun y8 => some y8) else (some false))) else (some false)) else (some false)) else (some false)) else (some false)

noncomputable def loop_fits_j1 (p1 : TLoops) (p2 : TLoop) (y1 : (Int × Int × Int)) (b4 : Bool) : Option Bool :=
  if b4 = true then (if p2.op = 3 then (loop_fits_j2 p1 p2 y1 1) else (loop_fits_j2 p1 p2 y1 p2.n)) else (some false)

noncomputable def loop_fits (p1 : TLoops) (p2 : TLoop) : Option Bool :=
  (kinds_Op p2.k).bind fun y1 => if p2.op = 1 then ((loop_inside p1 p2.to 1).bind fun y2 => if y2 = true then ((loop_tree p1 p2.e 1).bind fun y3 => some y3) else (some false)) else (if p2.op = 2 then (loop_fits_j1 p1 p2 y1 (p2.op == 2)) else (if p2.op = 4 then (loop_fits_j1 p1 p2 y1 (p2.op == 4)) else (loop_fits_j1 p1 p2 y1 (p2.op == 3))))
end Pam

/- what loop_Check computes, read off the program by a program of ours -/
namespace Pam
open Go
noncomputable def loop_Check_j2 : Option TFault :=
  some (TFault.mk 0 0)

noncomputable def loop_Check_l1 (p1 : TLoops) (x3 : Int) : Option (Int ⊕ (Unit ⊕ TFault)) :=
  if x3 < (p1.steps.length : Int) then (if (0 ≤ x3 ∧ x3 < (p1.steps.length : Int)) then ((loop_fits p1 (p1.steps.getD x3.toNat default)).bind fun y4 => if y4 = true then (some (.inl (IntKind.wrap .i64 (x3 + 1)))) else (some (.inr (.inr (TFault.mk 4 x3))))) else none) else (some (.inr (.inl ())))

noncomputable def loop_Check_j1 (p1 : TLoops) : Option TFault :=
  (loop (fun x3 => loop_Check_l1 p1 x3) 0).bind (Sum.elim (fun _ => loop_Check_j2) (fun z5 => some z5))

noncomputable def loop_Check_l2 (p1 : TLoops) (y6 : (List Int)) (x9 : Int) : Option (Int ⊕ (Unit ⊕ TFault)) :=
  if x9 < (y6.length : Int) then (if (0 ≤ x9 ∧ x9 < (y6.length : Int)) then ((loop_inside p1 (y6.getD x9.toNat default) 1).bind fun y10 => if y10 = true then (some (.inl (IntKind.wrap .i64 (x9 + 1)))) else (some (.inr (.inr (TFault.mk 16 (-1)))))) else none) else (some (.inr (.inl ())))

noncomputable def loop_Check (p1 : TLoops) : Option TFault :=
  if p1.cells < 1 then (some (TFault.mk 13 (-1))) else (if p1.cells > 6000 then (some (TFault.mk 13 (-1))) else (if (p1.put.length : Int) > 6000 then (some (TFault.mk 7 (-1))) else (if (p1.get.length : Int) > 120000 then (some (TFault.mk 7 (-1))) else (if (p1.steps.length : Int) > 1200 then (some (TFault.mk 7 (-1))) else ((slices_Concat_int_int (lit ([p1.put, p1.get] : List (List Int)))).bind fun y6 => (loop (fun x9 => loop_Check_l2 p1 y6 x9) 0).bind (Sum.elim (fun _ => loop_Check_j1 p1) (fun z11 => some z11)))))))
end Pam

/- what slices_Clone_int_int computes, read off the program by a program of ours -/
namespace Pam
open Go
noncomputable def slices_Clone_int_int (p1 : List Int) : Option (List Int) :=
  if p1 = [] then (some []) else (if room p1.length 8 then (some p1) else none)
end Pam

/- what slices_Clone_api_Push_api_Push computes, read off the program by a program of ours -/
namespace Pam
open Go
noncomputable def slices_Clone_api_Push_api_Push (p1 : List TPush) : Option (List TPush) :=
  if p1 = [] then (some []) else (if room p1.length 32 then (some p1) else none)
end Pam

/- what loop_New computes, read off the program by a program of ours -/
namespace Pam
open Go
noncomputable def loop_New_j1 (p1 : TLoops) (y2 : (List Int)) (y3 : (List Int)) (l6 : List TLoop) : Option (TFault ⊕ (TFault × Int × (List Int) × (List Int) × (List TLoop) × Int × Int × (List Int))) :=
  if (0 ≤ p1.cells ∧ p1.cells ≤ p1.cells) ∧ room p1.cells.toNat 8 then (some (.inr ((TFault.mk 0 0), p1.cells, y2, y3, l6, 0, 0, (List.replicate p1.cells.toNat 0)))) else none

noncomputable def loop_New_l1 (p1 : TLoops) (l20 : List TLoop) (x22 : Int) : Option (((List TLoop) × Int) ⊕ (List TLoop)) :=
  if x22 < (p1.steps.length : Int) then (if (0 ≤ x22 ∧ x22 < (p1.steps.length : Int)) then ((slices_Clone_api_Push_api_Push ((p1.steps.getD x22.toNat default).e)).bind fun y23 => (slices_Clone_api_Push_api_Push ((p1.steps.getD x22.toNat default).f)).bind fun y24 => if room (l20.length + 1) 80 then (some (.inl ((l20 ++ (lit ([(TLoop.mk ((p1.steps.getD x22.toNat default).op) ((p1.steps.getD x22.toNat default).k) ((p1.steps.getD x22.toNat default).n) ((p1.steps.getD x22.toNat default).to) y24 y23)] : List TLoop))), (IntKind.wrap .i64 (x22 + 1))))) else none) else none) else (some (.inr l20))

noncomputable def loop_New (p1 : TLoops) : Option (TFault ⊕ (TFault × Int × (List Int) × (List Int) × (List TLoop) × Int × Int × (List Int))) :=
  (loop_Check p1).bind fun y1 => if ¬ ((y1).code) = 0 then (some (.inl (y1))) else ((slices_Clone_int_int p1.put).bind fun y2 => (slices_Clone_int_int p1.get).bind fun y3 => (loop (fun (l20, x22) => loop_New_l1 p1 l20 x22) ([], 0)).bind (fun z25 => loop_New_j1 p1 y2 y3 z25))
end Pam

/- what loop_Machine_Row computes, read off the program by a program of ours -/
namespace Pam
open Go
noncomputable def loop_Machine_Row (p1 : List Int) : Option Unit :=
  none
end Pam

/- what sys_divide computes, read off the program by a program of ours -/
namespace Pam
open Go
noncomputable def sys_divide (p1 : Int) (p2 : Int) (p3 : Int) : Option Int :=
  if p3 = 0 then (some 0) else (if p1 = 4 then (if p3 ≠ 0 then (some (IntKind.wrap .i64 (p2.tdiv p3))) else none) else (if p3 ≠ 0 then (some (p2.tmod p3)) else none))
end Pam

/- what sys_truth computes, read off the program by a program of ours -/
namespace Pam
open Go
noncomputable def sys_truth (p1 : Bool) : Option Int :=
  if p1 = true then (some 1) else (some 0)
end Pam

/- what sys_Apply computes, read off the program by a program of ours -/
namespace Pam
open Go
noncomputable def sys_Apply_j1 (p1 : Int) (p2 : Int) (p3 : Int) (b1 : Bool) : Option Int :=
  if b1 = true then ((sys_divide p1 p2 p3).bind fun y2 => some y2) else (if p1 = 6 then (some (if p3 < p2 then p3 else p2)) else (if p1 = 7 then (some (if p3 > p2 then p3 else p2)) else (if p1 = 8 then ((sys_truth (decide (p2 < p3))).bind fun y3 => some y3) else (if p1 = 9 then ((sys_truth (p2 == p3)).bind fun y4 => some y4) else (if p1 = 10 then (if ¬ p2 = 0 then ((sys_truth (p3 != 0)).bind fun y5 => some y5) else ((sys_truth false).bind fun y6 => some y6)) else (if p1 = 11 then (if ¬ p2 = 0 then ((sys_truth true).bind fun y7 => some y7) else ((sys_truth (p3 != 0)).bind fun y8 => some y8)) else (if p1 = 12 then ((sys_truth (!((p2 != 0) == (p3 != 0)))).bind fun y9 => some y9) else (if p1 = 13 then (some (IntKind.wrap .i64 (0 - p2))) else (if p1 = 14 then ((sys_truth (p2 == 0)).bind fun y10 => some y10) else (some 0))))))))))

noncomputable def sys_Apply (p1 : Int) (p2 : Int) (p3 : Int) : Option Int :=
  if p1 = 1 then (some (IntKind.wrap .i64 (p2 + p3))) else (if p1 = 2 then (some (IntKind.wrap .i64 (p2 - p3))) else (if p1 = 3 then (some (IntKind.wrap .i64 (p2 * p3))) else (if p1 = 4 then (sys_Apply_j1 p1 p2 p3 (p1 == 4)) else (sys_Apply_j1 p1 p2 p3 (p1 == 5)))))
end Pam

/- what loop_Machine_tree computes, read off the program by a program of ours -/
namespace Pam
open Go
noncomputable def loop_Machine_tree_j1 (l3 : List Int) : Option Int :=
  if (0 ≤ 0 ∧ 0 < (l3.length : Int)) then (some (l3.getD 0 default)) else none

noncomputable def loop_Machine_tree_j2 (l17 : List Int) (x19 : Int) (x24 : Int) : Option (((List Int) × Int) ⊕ (List Int)) :=
  if (0 ≤ (IntKind.wrap .i64 ((l17.length : Int) - 3)) ∧ (IntKind.wrap .i64 ((l17.length : Int) - 3)) ≤ (l17.length : Int)) ∧ room (((IntKind.wrap .i64 ((l17.length : Int) - 3)).toNat) + 1) 8 then (some (.inl (((l17.take ((IntKind.wrap .i64 ((l17.length : Int) - 3)).toNat)) ++ (lit ([x24] : List Int))), (IntKind.wrap .i64 (x19 + 1))))) else none

noncomputable def loop_Machine_tree_j3 (l17 : List Int) (x19 : Int) (x27 : Int) : Option (((List Int) × Int) ⊕ (List Int)) :=
  if (0 ≤ (IntKind.wrap .i64 ((l17.length : Int) - 2)) ∧ (IntKind.wrap .i64 ((l17.length : Int) - 2)) ≤ (l17.length : Int)) ∧ room (((IntKind.wrap .i64 ((l17.length : Int) - 2)).toNat) + 1) 8 then (some (.inl (((l17.take ((IntKind.wrap .i64 ((l17.length : Int) - 2)).toNat)) ++ (lit ([x27] : List Int))), (IntKind.wrap .i64 (x19 + 1))))) else none

noncomputable def loop_Machine_tree_l1 (p1 : List TPush) (p2 : Int) (p7 : List Int) (l17 : List Int) (x19 : Int) : Option (((List Int) × Int) ⊕ (List Int)) :=
  if x19 < (p1.length : Int) then (if (0 ≤ x19 ∧ x19 < (p1.length : Int)) then (if ((p1.getD x19.toNat default).op) = 1 then (if room (l17.length + 1) 8 then (some (.inl ((l17 ++ (lit ([(p1.getD x19.toNat default).n] : List Int))), (IntKind.wrap .i64 (x19 + 1))))) else none) else (if ((p1.getD x19.toNat default).op) = 2 then (if (0 ≤ (p1.getD x19.toNat default).v ∧ (p1.getD x19.toNat default).v < (p7.length : Int)) ∧ room (l17.length + 1) 8 then (some (.inl ((l17 ++ (lit ([(p7.getD (((p1.getD x19.toNat default).v).toNat) default)] : List Int))), (IntKind.wrap .i64 (x19 + 1))))) else none) else (if ((p1.getD x19.toNat default).op) = 3 then (if (0 ≤ (IntKind.wrap .i64 (((p1.getD x19.toNat default).v) + p2)) ∧ (IntKind.wrap .i64 (((p1.getD x19.toNat default).v) + p2)) < (p7.length : Int)) ∧ room (l17.length + 1) 8 then (some (.inl ((l17 ++ (lit ([(p7.getD ((IntKind.wrap .i64 (((p1.getD x19.toNat default).v) + p2)).toNat) default)] : List Int))), (IntKind.wrap .i64 (x19 + 1))))) else none) else (if ((p1.getD x19.toNat default).op) = 4 then (if room (l17.length + 1) 8 then (some (.inl ((l17 ++ (lit ([(IntKind.wrap .i64 (p2 + ((p1.getD x19.toNat default).n)))] : List Int))), (IntKind.wrap .i64 (x19 + 1))))) else none) else (if ((p1.getD x19.toNat default).op) = 5 then (if (0 ≤ (IntKind.wrap .i64 ((l17.length : Int) - 1)) ∧ (IntKind.wrap .i64 ((l17.length : Int) - 1)) < (l17.length : Int)) then ((sys_Apply ((p1.getD x19.toNat default).k) (l17.getD ((IntKind.wrap .i64 ((l17.length : Int) - 1)).toNat) default) 0).bind fun y20 => some (.inl ((l17.set ((IntKind.wrap .i64 ((l17.length : Int) - 1)).toNat) y20), (IntKind.wrap .i64 (x19 + 1))))) else none) else (if ((p1.getD x19.toNat default).op) = 6 then (if (0 ≤ (IntKind.wrap .i64 ((l17.length : Int) - 2)) ∧ (IntKind.wrap .i64 ((l17.length : Int) - 2)) ≤ (l17.length : Int)) ∧ (0 ≤ (IntKind.wrap .i64 ((l17.length : Int) - 2)) ∧ (IntKind.wrap .i64 ((l17.length : Int) - 2)) < (l17.length : Int)) ∧ (0 ≤ (IntKind.wrap .i64 ((l17.length : Int) - 1)) ∧ (IntKind.wrap .i64 ((l17.length : Int) - 1)) < (l17.length : Int)) then ((sys_Apply ((p1.getD x19.toNat default).k) (l17.getD ((IntKind.wrap .i64 ((l17.length : Int) - 2)).toNat) default) (l17.getD ((IntKind.wrap .i64 ((l17.length : Int) - 1)).toNat) default)).bind fun y21 => if room (((IntKind.wrap .i64 ((l17.length : Int) - 2)).toNat) + 1) 8 then (some (.inl (((l17.take ((IntKind.wrap .i64 ((l17.length : Int) - 2)).toNat)) ++ (lit ([y21] : List Int))), (IntKind.wrap .i64 (x19 + 1))))) else none) else none) else (if ((p1.getD x19.toNat default).op) = 7 then (if (0 ≤ (IntKind.wrap .i64 ((l17.length : Int) - 1)) ∧ (IntKind.wrap .i64 ((l17.length : Int) - 1)) < (l17.length : Int)) then (if (0 ≤ (IntKind.wrap .i64 ((l17.length : Int) - 3)) ∧ (IntKind.wrap .i64 ((l17.length : Int) - 3)) < (l17.length : Int)) then (if ¬ (l17.getD ((IntKind.wrap .i64 ((l17.length : Int) - 3)).toNat) default) = 0 then (if (0 ≤ (IntKind.wrap .i64 ((l17.length : Int) - 2)) ∧ (IntKind.wrap .i64 ((l17.length : Int) - 2)) < (l17.length : Int)) then (loop_Machine_tree_j2 l17 x19 (l17.getD ((IntKind.wrap .i64 ((l17.length : Int) - 2)).toNat) default)) else none) else (loop_Machine_tree_j2 l17 x19 (l17.getD ((IntKind.wrap .i64 ((l17.length : Int) - 1)).toNat) default))) else none) else none) else (if ((p1.getD x19.toNat default).op) = 8 then (if (0 ≤ (IntKind.wrap .i64 ((l17.length : Int) - 1)) ∧ (IntKind.wrap .i64 ((l17.length : Int) - 1)) < (l17.length : Int)) then (if (0 ≤ (IntKind.wrap .i64 ((l17.length : Int) - 2)) ∧ (IntKind.wrap .i64 ((l17.length : Int) - 2)) < (l17.length : Int)) then (if (l17.getD ((IntKind.wrap .i64 ((l17.length : Int) - 2)).toNat) default) ≥ 0 then (if (l17.getD ((IntKind.wrap .i64 ((l17.length : Int) - 2)).toNat) default) < ((p1.getD x19.toNat default).n) then (if (0 ≤ (IntKind.wrap .i64 (((p1.getD x19.toNat default).v) + (l17.getD ((IntKind.wrap .i64 ((l17.length : Int) - 2)).toNat) default))) ∧ (IntKind.wrap .i64 (((p1.getD x19.toNat default).v) + (l17.getD ((IntKind.wrap .i64 ((l17.length : Int) - 2)).toNat) default))) < (p7.length : Int)) then (loop_Machine_tree_j3 l17 x19 (p7.getD ((IntKind.wrap .i64 (((p1.getD x19.toNat default).v) + (l17.getD ((IntKind.wrap .i64 ((l17.length : Int) - 2)).toNat) default))).toNat) default)) else none) else (loop_Machine_tree_j3 l17 x19 (l17.getD ((IntKind.wrap .i64 ((l17.length : Int) - 1)).toNat) default))) else (loop_Machine_tree_j3 l17 x19 (l17.getD ((IntKind.wrap .i64 ((l17.length : Int) - 1)).toNat) default))) else none) else none) else (some (.inl (l17, (IntKind.wrap .i64 (x19 + 1))))))))))))) else none) else (some (.inr l17))

noncomputable def loop_Machine_tree (p1 : List TPush) (p2 : Int) (p3 : Int) (p4 : List Int) (p5 : List Int) (p6 : List TLoop) (p7 : List Int) : Option Int :=
  (loop (fun (l17, x19) => loop_Machine_tree_l1 p1 p2 p7 l17 x19) ([], 0)).bind (fun z28 => loop_Machine_tree_j1 z28)
end Pam

/- what loop_Machine_step computes, read off the program by a program of ours -/
namespace Pam
open Go
noncomputable def loop_Machine_step_j2 (p1 : TLoop) (l4 : List Int) (x5 : Int) : Option (List Int) :=
  if p1.op = 3 then (if (0 ≤ p1.to ∧ p1.to < (l4.length : Int)) then (some (l4.set p1.to.toNat x5)) else none) else (some l4)

noncomputable def loop_Machine_step_j3 (p1 : TLoop) (l15 : List Int) (x17 : Int) (x19 : Int) (x20 : Int) : Option (((List Int) × Int × Int) ⊕ ((List Int) × Int)) :=
  if ¬ p1.op = 3 then (if (0 ≤ (IntKind.wrap .i64 (p1.to + x17)) ∧ (IntKind.wrap .i64 (p1.to + x17)) < (l15.length : Int)) then (some (.inl ((l15.set ((IntKind.wrap .i64 (p1.to + x17)).toNat) x20), x19, (IntKind.wrap .i64 (x17 + 1))))) else none) else (some (.inl (l15, x19, (IntKind.wrap .i64 (x17 + 1)))))

noncomputable def loop_Machine_step_l1 (p1 : TLoop) (p2 : Int) (p3 : List Int) (p4 : List Int) (p5 : List TLoop) (l15 : List Int) (x16 : Int) (x17 : Int) : Option (((List Int) × Int × Int) ⊕ ((List Int) × Int)) :=
  if x17 < p1.n then ((loop_Machine_tree p1.e x17 p2 p3 p4 p5 l15).bind fun y18 => if ¬ p1.op = 2 then ((sys_Apply p1.k x16 y18).bind fun y21 => loop_Machine_step_j3 p1 l15 x17 y21 y21) else (loop_Machine_step_j3 p1 l15 x17 x16 y18)) else (some (.inr (l15, x16)))

noncomputable def loop_Machine_step_j1 (p1 : TLoop) (p2 : Int) (p3 : List Int) (p4 : List Int) (p5 : List TLoop) (p6 : List Int) (x2 : Int) : Option (List Int) :=
  (loop (fun (l15, x16, x17) => loop_Machine_step_l1 p1 p2 p3 p4 p5 l15 x16 x17) (p6, x2, 0)).bind (fun (z22, z23) => loop_Machine_step_j2 p1 z22 z23)

noncomputable def loop_Machine_step (p1 : TLoop) (p2 : Int) (p3 : List Int) (p4 : List Int) (p5 : List TLoop) (p6 : List Int) : Option (List Int) :=
  if p1.op = 1 then ((loop_Machine_tree p1.e 0 p2 p3 p4 p5 p6).bind fun y1 => if (0 ≤ p1.to ∧ p1.to < (p6.length : Int)) then (some (p6.set p1.to.toNat y1)) else none) else (if ¬ p1.op = 2 then ((loop_Machine_tree p1.f 0 p2 p3 p4 p5 p6).bind fun y24 => loop_Machine_step_j1 p1 p2 p3 p4 p5 p6 y24) else (loop_Machine_step_j1 p1 p2 p3 p4 p5 p6 0))
end Pam

/- what loop_Machine_Row_2 computes, read off the program by a program of ours -/
namespace Pam
open Go
noncomputable def loop_Machine_Row_2_j3 (l4 : List Int) (l7 : List Int) : Option ((List Int) × TFault × (List Int)) :=
  some (l7, (TFault.mk 0 0), l4)

noncomputable def loop_Machine_Row_2_l1 (p4 : List Int) (l4 : List Int) (l21 : List Int) (x23 : Int) : Option (((List Int) × Int) ⊕ (List Int)) :=
  if x23 < (p4.length : Int) then (if (0 ≤ x23 ∧ x23 < (p4.length : Int)) then (if (0 ≤ (p4.getD x23.toNat default) ∧ (p4.getD x23.toNat default) < (l4.length : Int)) ∧ room (l21.length + 1) 8 then (some (.inl ((l21 ++ (lit ([(l4.getD ((p4.getD x23.toNat default).toNat) default)] : List Int))), (IntKind.wrap .i64 (x23 + 1))))) else none) else none) else (some (.inr l21))

noncomputable def loop_Machine_Row_2_j2 (p4 : List Int) (l4 : List Int) : Option ((List Int) × TFault × (List Int)) :=
  (loop (fun (l21, x23) => loop_Machine_Row_2_l1 p4 l4 l21 x23) ([], 0)).bind (fun z24 => loop_Machine_Row_2_j3 l4 z24)

noncomputable def loop_Machine_Row_2_l2 (p2 : Int) (p3 : List Int) (p4 : List Int) (p5 : List TLoop) (l32 : List Int) (x33 : Int) : Option (((List Int) × Int) ⊕ (List Int)) :=
  if x33 < (p5.length : Int) then (if (0 ≤ x33 ∧ x33 < (p5.length : Int)) then ((loop_Machine_step (p5.getD x33.toNat default) p2 p3 p4 p5 l32).bind fun y34 => some (.inl (y34, (IntKind.wrap .i64 (x33 + 1))))) else none) else (some (.inr l32))

noncomputable def loop_Machine_Row_2_j1 (p2 : Int) (p3 : List Int) (p4 : List Int) (p5 : List TLoop) (l2 : List Int) : Option ((List Int) × TFault × (List Int)) :=
  (loop (fun (l32, x33) => loop_Machine_Row_2_l2 p2 p3 p4 p5 l32 x33) (l2, 0)).bind (fun z35 => loop_Machine_Row_2_j2 p4 z35)

noncomputable def loop_Machine_Row_2_l3 (p1 : List Int) (p3 : List Int) (l43 : List Int) (x44 : Int) : Option (((List Int) × Int) ⊕ (List Int)) :=
  if x44 < (p3.length : Int) then (if (0 ≤ x44 ∧ x44 < (p3.length : Int)) then (if (0 ≤ x44 ∧ x44 < (p1.length : Int)) ∧ (0 ≤ (p3.getD x44.toNat default) ∧ (p3.getD x44.toNat default) < (l43.length : Int)) then (some (.inl ((l43.set ((p3.getD x44.toNat default).toNat) (p1.getD x44.toNat default)), (IntKind.wrap .i64 (x44 + 1))))) else none) else none) else (some (.inr l43))

noncomputable def loop_Machine_Row_2 (p1 : List Int) (p2 : Int) (p3 : List Int) (p4 : List Int) (p5 : List TLoop) (p6 : List Int) : Option ((List Int) × TFault × (List Int)) :=
  if ¬ (p1.length : Int) = (p3.length : Int) then (some ([], (TFault.mk 17 (-1)), p6)) else ((loop (fun (l43, x44) => loop_Machine_Row_2_l3 p1 p3 l43 x44) (p6, 0)).bind (fun z45 => loop_Machine_Row_2_j1 p2 p3 p4 p5 z45))
end Pam

/- what ref_SameLongs computes, read off the program by a program of ours -/
namespace Pam
open Go
noncomputable def ref_SameLongs_j1 : Option Bool :=
  some true

noncomputable def ref_SameLongs_l1 (p1 : List Int) (p2 : List Int) (x3 : Int) : Option (Int ⊕ (Unit ⊕ Bool)) :=
  if x3 < (p1.length : Int) then (if (0 ≤ x3 ∧ x3 < (p1.length : Int)) ∧ (0 ≤ x3 ∧ x3 < (p2.length : Int)) then (if ¬ (p1.getD x3.toNat default) = (p2.getD x3.toNat default) then (some (.inr (.inr false))) else (some (.inl (IntKind.wrap .i64 (x3 + 1))))) else none) else (some (.inr (.inl ())))

noncomputable def ref_SameLongs (p1 : List Int) (p2 : List Int) : Option Bool :=
  if ¬ (p1.length : Int) = (p2.length : Int) then (some false) else ((loop (fun x3 => ref_SameLongs_l1 p1 p2 x3) 0).bind (Sum.elim (fun _ => ref_SameLongs_j1) (fun z4 => some z4)))
end Pam

/- what law_loopsOne computes, read off the program by a program of ours -/
namespace Pam
open Go
noncomputable def law_loopsOne : Option TLoops :=
  some (TLoops.mk 3 (lit ([1] : List Int)) (lit ([2] : List Int)) (lit ([(TLoop.mk 1 0 0 2 [] (lit ([(TPush.mk 2 0 1 0), (TPush.mk 2 0 0 0), (TPush.mk 6 1 0 0)] : List TPush))), (TLoop.mk 1 0 0 0 [] (lit ([(TPush.mk 1 0 0 7)] : List TPush)))] : List TLoop)))
end Pam

/- what law_loopBegun computes, read off the program by a program of ours -/
namespace Pam
open Go
noncomputable def law_loopBegun : Option Bool :=
  (law_loopsOne ).bind fun y1 => (loop_New (y1)).bind fun y2 => Sum.elim (fun y3 => if ¬ ((y3).code) = 0 then (some false) else ((loop_Machine_Row (lit ([5] : List Int))).bind fun y5 => none)) (fun y4 => if ¬ ((y4.1).code) = 0 then (some false) else ((loop_Machine_Row_2 (lit ([5] : List Int)) y4.2.1 y4.2.2.1 y4.2.2.2.1 y4.2.2.2.2.1 y4.2.2.2.2.2.2.2).bind fun y6 => (loop_Machine_Row_2 (lit ([5] : List Int)) y4.2.1 y4.2.2.1 y4.2.2.2.1 y4.2.2.2.2.1 y6.2.2).bind fun y7 => if ((y6.2.1).code) = 0 then (if ((y7.2.1).code) = 0 then ((ref_SameLongs y6.1 (lit ([5] : List Int))).bind fun y8 => if y8 = true then ((ref_SameLongs y7.1 (lit ([12] : List Int))).bind fun y9 => some y9) else (some false)) else (some false)) else (some false))) y2
end Pam

/- what ref_GreatLoops computes, read off the program by a program of ours -/
namespace Pam
open Go
noncomputable def ref_GreatLoops_j1 (x1 : Int) : Option Bool :=
  some (decide (x1 > 20000))

noncomputable def ref_GreatLoops_l1 (p1 : TLoops) (x6 : Int) (x7 : Int) : Option ((Int × Int) ⊕ (Int ⊕ Bool)) :=
  if x7 < (p1.steps.length : Int) then (if (((p1.steps.getD x7.toNat default).e).length : Int) > 1000 then (if (0 ≤ x7 ∧ x7 < (p1.steps.length : Int)) then (some (.inr (.inr true))) else none) else (if (0 ≤ x7 ∧ x7 < (p1.steps.length : Int)) then (if (((p1.steps.getD x7.toNat default).f).length : Int) > 1000 then (some (.inr (.inr true))) else (some (.inl ((IntKind.wrap .i64 (x6 + (IntKind.wrap .i64 ((((p1.steps.getD x7.toNat default).e).length : Int) + (((p1.steps.getD x7.toNat default).f).length : Int))))), (IntKind.wrap .i64 (x7 + 1)))))) else none)) else (some (.inr (.inl x6)))

noncomputable def ref_GreatLoops (p1 : TLoops) : Option Bool :=
  if (p1.put.length : Int) > 7000 then (some true) else (if (p1.get.length : Int) > 130000 then (some true) else (if (p1.steps.length : Int) > 1300 then (some true) else ((loop (fun (x6, x7) => ref_GreatLoops_l1 p1 x6 x7) (0, 0)).bind (Sum.elim (fun z8 => ref_GreatLoops_j1 z8) (fun z9 => some z9)))))
end Pam

/- what law_rowsGreat computes, read off the program by a program of ours -/
namespace Pam
open Go
noncomputable def law_rowsGreat_j1 : Option Bool :=
  some false

noncomputable def law_rowsGreat_l1 (p1 : List (List Int)) (x3 : Int) : Option (Int ⊕ (Unit ⊕ Bool)) :=
  if x3 < (p1.length : Int) then (if (0 ≤ x3 ∧ x3 < (p1.length : Int)) then (if ((p1.getD x3.toNat default).length : Int) > 10000 then (some (.inr (.inr true))) else (some (.inl (IntKind.wrap .i64 (x3 + 1))))) else none) else (some (.inr (.inl ())))

noncomputable def law_rowsGreat (p1 : List (List Int)) : Option Bool :=
  if (p1.length : Int) > 60 then (some true) else ((loop (fun x3 => law_rowsGreat_l1 p1 x3) 0).bind (Sum.elim (fun _ => law_rowsGreat_j1) (fun z4 => some z4)))
end Pam

/- what ref_CopyLoops computes, read off the program by a program of ours -/
namespace Pam
open Go
noncomputable def ref_CopyLoops_j1 (p1 : TLoops) (l3 : List TLoop) : Option TLoops :=
  some (TLoops.mk p1.cells p1.put p1.get l3)

noncomputable def ref_CopyLoops_l1 (p1 : TLoops) (l17 : List TLoop) (x19 : Int) : Option (((List TLoop) × Int) ⊕ (List TLoop)) :=
  if x19 < (p1.steps.length : Int) then (if (0 ≤ x19 ∧ x19 < (p1.steps.length : Int)) then (if room (((p1.steps.getD x19.toNat default).e).length) 32 ∧ room (((p1.steps.getD x19.toNat default).f).length) 32 then (if room (l17.length + 1) 80 then (some (.inl ((l17 ++ (lit ([(p1.steps.getD x19.toNat default)] : List TLoop))), (IntKind.wrap .i64 (x19 + 1))))) else none) else none) else none) else (some (.inr l17))

noncomputable def ref_CopyLoops (p1 : TLoops) : Option TLoops :=
  if room p1.put.length 8 ∧ room p1.get.length 8 then ((loop (fun (l17, x19) => ref_CopyLoops_l1 p1 l17 x19) ([], 0)).bind (fun z20 => ref_CopyLoops_j1 p1 z20)) else none
end Pam

/- what law_copyRows computes, read off the program by a program of ours -/
namespace Pam
open Go
noncomputable def law_copyRows_j1 (l3 : List (List Int)) : Option (List (List Int)) :=
  some l3

noncomputable def law_copyRows_l1 (p1 : List (List Int)) (l17 : List (List Int)) (x19 : Int) : Option (((List (List Int)) × Int) ⊕ (List (List Int))) :=
  if x19 < (p1.length : Int) then (if (0 ≤ x19 ∧ x19 < (p1.length : Int)) ∧ room ((p1.getD x19.toNat default).length) 8 then (if room (l17.length + 1) 24 then (some (.inl ((l17 ++ (lit ([(p1.getD x19.toNat default)] : List (List Int)))), (IntKind.wrap .i64 (x19 + 1))))) else none) else none) else (some (.inr l17))

noncomputable def law_copyRows (p1 : List (List Int)) : Option (List (List Int)) :=
  (loop (fun (l17, x19) => law_copyRows_l1 p1 l17 x19) ([], 0)).bind (fun z20 => law_copyRows_j1 z20)
end Pam

/- what ref_F computes, read off the program by a program of ours -/
namespace Pam
open Go
noncomputable def ref_F (p1 : Int) (p2 : Int) : Option TFault :=
  some (TFault.mk p1 p2)
end Pam

/- what ref_there computes, read off the program by a program of ours -/
namespace Pam
open Go
noncomputable def ref_there (p1 : TLoops) (p2 : Int) (p3 : Int) : Option Bool :=
  if p2 ≥ 0 then (if p2 < p1.cells then (if p3 ≥ 1 then (some (decide (p3 ≤ (IntKind.wrap .i64 (p1.cells - p2))))) else (some false)) else (some false)) else (some false)
end Pam

/- what ref_OpOf computes, read off the program by a program of ours -/
namespace Pam
open Go
noncomputable def ref_OpOf_j1 (p1 : Int) (x1 : Int) : Option (Int × Int × Int) :=
  if (0 ≤ p1 ∧ p1 < (([63, 105, 105, 105, 105, 105, 105, 105, 105, 105, 98, 98, 98, 105, 98] : List UInt8).length : Int)) ∧ (0 ≤ p1 ∧ p1 < (([63, 105, 105, 105, 105, 105, 105, 105, 98, 98, 98, 98, 98, 105, 98] : List UInt8).length : Int)) then (some (((([63, 105, 105, 105, 105, 105, 105, 105, 105, 105, 98, 98, 98, 105, 98] : List UInt8).getD p1.toNat 0).toNat : Int), ((([63, 105, 105, 105, 105, 105, 105, 105, 98, 98, 98, 98, 98, 105, 98] : List UInt8).getD p1.toNat 0).toNat : Int), x1)) else none

noncomputable def ref_OpOf (p1 : Int) : Option (Int × Int × Int) :=
  if p1 < 1 then (some (0, 0, 0)) else (if p1 > 14 then (some (0, 0, 0)) else (if p1 ≥ 13 then (ref_OpOf_j1 p1 1) else (ref_OpOf_j1 p1 2)))
end Pam

/- what ref_plainTree computes, read off the program by a program of ours -/
namespace Pam
open Go
noncomputable def ref_plainTree_j1 (p2 : List TPush) (x1 : Int) : Option Bool :=
  if x1 = 1 then (some (decide ((p2.length : Int) ≤ 24))) else (some false)

noncomputable def ref_plainTree_l1 (p1 : TLoops) (p2 : List TPush) (p3 : Int) (x6 : Int) (x7 : Int) : Option ((Int × Int) ⊕ (Int ⊕ Bool)) :=
  if x7 < (p2.length : Int) then (if (0 ≤ x7 ∧ x7 < (p2.length : Int)) then ((ref_OpOf ((p2.getD x7.toNat default).k)).bind fun y8 => if ((p2.getD x7.toNat default).op) = 1 then (some (.inl ((IntKind.wrap .i64 (x6 + 1)), (IntKind.wrap .i64 (x7 + 1))))) else (if ((p2.getD x7.toNat default).op) = 2 then ((ref_there p1 ((p2.getD x7.toNat default).v) 1).bind fun y9 => if y9 = true then (some (.inl ((IntKind.wrap .i64 (x6 + 1)), (IntKind.wrap .i64 (x7 + 1))))) else (some (.inr (.inr false)))) else (if ((p2.getD x7.toNat default).op) = 3 then ((ref_there p1 ((p2.getD x7.toNat default).v) p3).bind fun y10 => if y10 = true then (some (.inl ((IntKind.wrap .i64 (x6 + 1)), (IntKind.wrap .i64 (x7 + 1))))) else (some (.inr (.inr false)))) else (if ((p2.getD x7.toNat default).op) = 4 then (if ((p2.getD x7.toNat default).n) < (-1000000000000000000) then (some (.inr (.inr false))) else (if ((p2.getD x7.toNat default).n) > 1000000000000000000 then (some (.inr (.inr false))) else (some (.inl ((IntKind.wrap .i64 (x6 + 1)), (IntKind.wrap .i64 (x7 + 1))))))) else (if ((p2.getD x7.toNat default).op) = 5 then (if ¬ y8.2.2 = 1 then (some (.inr (.inr false))) else (if x6 < 1 then (some (.inr (.inr false))) else (some (.inl (x6, (IntKind.wrap .i64 (x7 + 1))))))) else (if ((p2.getD x7.toNat default).op) = 6 then (if ¬ y8.2.2 = 2 then (some (.inr (.inr false))) else (if x6 < 2 then (some (.inr (.inr false))) else (some (.inl ((IntKind.wrap .i64 (x6 - 1)), (IntKind.wrap .i64 (x7 + 1))))))) else (if ((p2.getD x7.toNat default).op) = 7 then (if x6 < 3 then (some (.inr (.inr false))) else (some (.inl ((IntKind.wrap .i64 (x6 - 2)), (IntKind.wrap .i64 (x7 + 1)))))) else (if ((p2.getD x7.toNat default).op) = 8 then ((ref_there p1 ((p2.getD x7.toNat default).v) ((p2.getD x7.toNat default).n)).bind fun y11 => if y11 = true then (if x6 < 2 then (some (.inr (.inr false))) else (some (.inl ((IntKind.wrap .i64 (x6 - 1)), (IntKind.wrap .i64 (x7 + 1)))))) else (some (.inr (.inr false)))) else (some (.inr (.inr false))))))))))) else none) else (some (.inr (.inl x6)))

noncomputable def ref_plainTree (p1 : TLoops) (p2 : List TPush) (p3 : Int) : Option Bool :=
  (loop (fun (x6, x7) => ref_plainTree_l1 p1 p2 p3 x6 x7) (0, 0)).bind (Sum.elim (fun z12 => ref_plainTree_j1 p2 z12) (fun z13 => some z13))
end Pam

/- what ref_loopOK computes, read off the program by a program of ours -/
namespace Pam
open Go
noncomputable def ref_loopOK_j1 (p1 : TLoops) (p2 : TLoop) (x4 : Int) : Option Bool :=
  (ref_OpOf p2.k).bind fun y5 => (ref_there p1 p2.to x4).bind fun y6 => if y6 = true then (if p2.op = 2 then (some true) else (if y5.2.2 = 2 then ((ref_plainTree p1 p2.f 1).bind fun y7 => some y7) else (some false))) else (some false)

noncomputable def ref_loopOK (p1 : TLoops) (p2 : TLoop) : Option Bool :=
  if p2.op = 1 then ((ref_there p1 p2.to 1).bind fun y1 => if y1 = true then ((ref_plainTree p1 p2.e 1).bind fun y2 => some y2) else (some false)) else (if p2.op < 1 then (some false) else (if p2.op > 4 then (some false) else (if p2.n < 1 then (some false) else (if p2.n > 300 then (some false) else ((ref_plainTree p1 p2.e p2.n).bind fun y3 => if y3 = true then (if p2.op = 3 then (ref_loopOK_j1 p1 p2 1) else (ref_loopOK_j1 p1 p2 p2.n)) else (some false))))))
end Pam

/- what ref_LoopsFault computes, read off the program by a program of ours -/
namespace Pam
open Go
noncomputable def ref_LoopsFault_j3 : Option TFault :=
  some (TFault.mk 0 0)

noncomputable def ref_LoopsFault_l1 (p1 : TLoops) (x8 : Int) : Option (Int ⊕ (Unit ⊕ TFault)) :=
  if x8 < (p1.steps.length : Int) then (if (0 ≤ x8 ∧ x8 < (p1.steps.length : Int)) then ((ref_loopOK p1 (p1.steps.getD x8.toNat default)).bind fun y9 => if y9 = true then (some (.inl (IntKind.wrap .i64 (x8 + 1)))) else ((ref_F 4 x8).bind fun y10 => some (.inr (.inr (y10))))) else none) else (some (.inr (.inl ())))

noncomputable def ref_LoopsFault_j2 (p1 : TLoops) : Option TFault :=
  (loop (fun x8 => ref_LoopsFault_l1 p1 x8) 0).bind (Sum.elim (fun _ => ref_LoopsFault_j3) (fun z11 => some z11))

noncomputable def ref_LoopsFault_l2 (p1 : TLoops) (x14 : Int) : Option (Int ⊕ (Unit ⊕ TFault)) :=
  if x14 < (p1.get.length : Int) then (if (0 ≤ x14 ∧ x14 < (p1.get.length : Int)) then ((ref_there p1 (p1.get.getD x14.toNat default) 1).bind fun y15 => if y15 = true then (some (.inl (IntKind.wrap .i64 (x14 + 1)))) else ((ref_F 16 (-1)).bind fun y16 => some (.inr (.inr (y16))))) else none) else (some (.inr (.inl ())))

noncomputable def ref_LoopsFault_j1 (p1 : TLoops) : Option TFault :=
  (loop (fun x14 => ref_LoopsFault_l2 p1 x14) 0).bind (Sum.elim (fun _ => ref_LoopsFault_j2 p1) (fun z17 => some z17))

noncomputable def ref_LoopsFault_l3 (p1 : TLoops) (x20 : Int) : Option (Int ⊕ (Unit ⊕ TFault)) :=
  if x20 < (p1.put.length : Int) then (if (0 ≤ x20 ∧ x20 < (p1.put.length : Int)) then ((ref_there p1 (p1.put.getD x20.toNat default) 1).bind fun y21 => if y21 = true then (some (.inl (IntKind.wrap .i64 (x20 + 1)))) else ((ref_F 16 (-1)).bind fun y22 => some (.inr (.inr (y22))))) else none) else (some (.inr (.inl ())))

noncomputable def ref_LoopsFault (p1 : TLoops) : Option TFault :=
  if p1.cells < 1 then ((ref_F 13 (-1)).bind fun y1 => some (y1)) else (if p1.cells > 6000 then ((ref_F 13 (-1)).bind fun y2 => some (y2)) else (if (p1.put.length : Int) > 6000 then ((ref_F 7 (-1)).bind fun y3 => some (y3)) else (if (p1.get.length : Int) > 120000 then ((ref_F 7 (-1)).bind fun y4 => some (y4)) else (if (p1.steps.length : Int) > 1200 then ((ref_F 7 (-1)).bind fun y5 => some (y5)) else ((loop (fun x20 => ref_LoopsFault_l3 p1 x20) 0).bind (Sum.elim (fun _ => ref_LoopsFault_j1 p1) (fun z23 => some z23)))))))
end Pam

/- what ref_BeginLoops computes, read off the program by a program of ours -/
namespace Pam
open Go
noncomputable def ref_BeginLoops (p1 : TLoops) : Option (Int × (List Int) × (List Int) × (List TLoop) × (List Int)) :=
  if (0 ≤ p1.cells ∧ p1.cells ≤ p1.cells) ∧ room p1.cells.toNat 8 then (some (p1.cells, p1.put, p1.get, p1.steps, (List.replicate p1.cells.toNat 0))) else none
end Pam

/- what ref_SameInts computes, read off the program by a program of ours -/
namespace Pam
open Go
noncomputable def ref_SameInts_j1 : Option Bool :=
  some true

noncomputable def ref_SameInts_l1 (p1 : List Int) (p2 : List Int) (x3 : Int) : Option (Int ⊕ (Unit ⊕ Bool)) :=
  if x3 < (p1.length : Int) then (if (0 ≤ x3 ∧ x3 < (p1.length : Int)) ∧ (0 ≤ x3 ∧ x3 < (p2.length : Int)) then (if ¬ (p1.getD x3.toNat default) = (p2.getD x3.toNat default) then (some (.inr (.inr false))) else (some (.inl (IntKind.wrap .i64 (x3 + 1))))) else none) else (some (.inr (.inl ())))

noncomputable def ref_SameInts (p1 : List Int) (p2 : List Int) : Option Bool :=
  if ¬ (p1.length : Int) = (p2.length : Int) then (some false) else ((loop (fun x3 => ref_SameInts_l1 p1 p2 x3) 0).bind (Sum.elim (fun _ => ref_SameInts_j1) (fun z4 => some z4)))
end Pam

/- what ref_samePush computes, read off the program by a program of ours -/
namespace Pam
open Go
noncomputable def ref_samePush_j1 : Option Bool :=
  some true

noncomputable def ref_samePush_l1 (p1 : List TPush) (p2 : List TPush) (x3 : Int) : Option (Int ⊕ (Unit ⊕ Bool)) :=
  if x3 < (p1.length : Int) then (if (0 ≤ x3 ∧ x3 < (p1.length : Int)) ∧ (0 ≤ x3 ∧ x3 < (p2.length : Int)) then (if ((p1.getD x3.toNat default).op) = ((p2.getD x3.toNat default).op) ∧ ((p1.getD x3.toNat default).k) = ((p2.getD x3.toNat default).k) ∧ ((p1.getD x3.toNat default).v) = ((p2.getD x3.toNat default).v) ∧ ((p1.getD x3.toNat default).n) = ((p2.getD x3.toNat default).n) then (some (.inl (IntKind.wrap .i64 (x3 + 1)))) else (some (.inr (.inr false)))) else none) else (some (.inr (.inl ())))

noncomputable def ref_samePush (p1 : List TPush) (p2 : List TPush) : Option Bool :=
  if ¬ (p1.length : Int) = (p2.length : Int) then (some false) else ((loop (fun x3 => ref_samePush_l1 p1 p2 x3) 0).bind (Sum.elim (fun _ => ref_samePush_j1) (fun z4 => some z4)))
end Pam

/- what ref_SameLoops computes, read off the program by a program of ours -/
namespace Pam
open Go
noncomputable def ref_SameLoops_j1 : Option Bool :=
  some true

noncomputable def ref_SameLoops_l1 (p1 : TLoops) (p2 : TLoops) (x5 : Int) : Option (Int ⊕ (Unit ⊕ Bool)) :=
  if x5 < (p1.steps.length : Int) then (if (0 ≤ x5 ∧ x5 < (p1.steps.length : Int)) ∧ (0 ≤ x5 ∧ x5 < (p2.steps.length : Int)) then (if ¬ ((p1.steps.getD x5.toNat default).op) = ((p2.steps.getD x5.toNat default).op) then (some (.inr (.inr false))) else (if ¬ ((p1.steps.getD x5.toNat default).k) = ((p2.steps.getD x5.toNat default).k) then (some (.inr (.inr false))) else (if ¬ ((p1.steps.getD x5.toNat default).n) = ((p2.steps.getD x5.toNat default).n) then (some (.inr (.inr false))) else (if ¬ ((p1.steps.getD x5.toNat default).to) = ((p2.steps.getD x5.toNat default).to) then (some (.inr (.inr false))) else ((ref_samePush ((p1.steps.getD x5.toNat default).e) ((p2.steps.getD x5.toNat default).e)).bind fun y6 => if y6 = true then ((ref_samePush ((p1.steps.getD x5.toNat default).f) ((p2.steps.getD x5.toNat default).f)).bind fun y7 => if y7 = true then (some (.inl (IntKind.wrap .i64 (x5 + 1)))) else (some (.inr (.inr false)))) else (some (.inr (.inr false)))))))) else none) else (some (.inr (.inl ())))

noncomputable def ref_SameLoops (p1 : TLoops) (p2 : TLoops) : Option Bool :=
  if ¬ p1.cells = p2.cells then (some false) else ((ref_SameInts p1.put p2.put).bind fun y1 => if y1 = true then ((ref_SameInts p1.get p2.get).bind fun y2 => if y2 = true then (if ¬ (p1.steps.length : Int) = (p2.steps.length : Int) then (some false) else ((loop (fun x5 => ref_SameLoops_l1 p1 p2 x5) 0).bind (Sum.elim (fun _ => ref_SameLoops_j1) (fun z8 => some z8)))) else (some false)) else (some false))
end Pam

/- what law_sameRows computes, read off the program by a program of ours -/
namespace Pam
open Go
noncomputable def law_sameRows_j1 : Option Bool :=
  some true

noncomputable def law_sameRows_l1 (p1 : List (List Int)) (p2 : List (List Int)) (x3 : Int) : Option (Int ⊕ (Unit ⊕ Bool)) :=
  if x3 < (p1.length : Int) then (if (0 ≤ x3 ∧ x3 < (p1.length : Int)) ∧ (0 ≤ x3 ∧ x3 < (p2.length : Int)) then ((ref_SameLongs (p1.getD x3.toNat default) (p2.getD x3.toNat default)).bind fun y4 => if y4 = true then (some (.inl (IntKind.wrap .i64 (x3 + 1)))) else (some (.inr (.inr false)))) else none) else (some (.inr (.inl ())))

noncomputable def law_sameRows (p1 : List (List Int)) (p2 : List (List Int)) : Option Bool :=
  if ¬ (p1.length : Int) = (p2.length : Int) then (some false) else ((loop (fun x3 => law_sameRows_l1 p1 p2 x3) 0).bind (Sum.elim (fun _ => law_sameRows_j1) (fun z5 => some z5)))
end Pam

/- what ref_Apply computes, read off the program by a program of ours -/
namespace Pam
open Go
noncomputable def ref_Apply_j1 (b1 : Bool) : Option Int :=
  if b1 = true then (some 1) else (some 0)

noncomputable def ref_Apply (p1 : Int) (p2 : Int) (p3 : Int) : Option Int :=
  if p1 = 1 then (some (IntKind.wrap .i64 (p2 + p3))) else (if p1 = 2 then (some (IntKind.wrap .i64 (p2 - p3))) else (if p1 = 3 then (some (IntKind.wrap .i64 (p2 * p3))) else (if p1 = 13 then (some (IntKind.wrap .i64 (0 - p2))) else (if p1 = 4 then (if p3 = 0 then (some 0) else (if p3 = (-1) then (some (IntKind.wrap .i64 (0 - p2))) else (if p3 ≠ 0 then (some (IntKind.wrap .i64 (p2.tdiv p3))) else none))) else (if p1 = 5 then (if p3 = 0 then (some 0) else (if p3 = (-1) then (some 0) else (if p3 ≠ 0 then (some (IntKind.wrap .i64 (p2 - (IntKind.wrap .i64 ((IntKind.wrap .i64 (p2.tdiv p3)) * p3))))) else none))) else (if p1 = 6 then (if p3 < p2 then (some p3) else (some p2)) else (if p1 = 7 then (if p3 > p2 then (some p3) else (some p2)) else (if p1 = 8 then (ref_Apply_j1 (decide (p2 < p3))) else (if p1 = 9 then (ref_Apply_j1 (p2 == p3)) else (if p1 = 10 then (if ¬ p2 = 0 then (ref_Apply_j1 (p3 != 0)) else (ref_Apply_j1 false)) else (if p1 = 11 then (if ¬ p2 = 0 then (ref_Apply_j1 true) else (ref_Apply_j1 (p3 != 0))) else (if p1 = 12 then (ref_Apply_j1 (!((p2 == 0) == (p3 == 0)))) else (if p1 = 14 then (ref_Apply_j1 (p2 == 0)) else (ref_Apply_j1 false))))))))))))))
end Pam

/- what ref_cellAt computes, read off the program by a program of ours -/
namespace Pam
open Go
noncomputable def ref_cellAt (p1 : Nat) (p2 : Nat) (p3 : Int) (p4 : Int) (p5 : List Int) : Option Int :=
  if p3 ≥ 0 then (if p3 < (p1 : Int) then (if (0 ≤ p3 ∧ p3 < (p1 : Int)) ∧ (p2 + p3.toNat) < p5.length then (some (p5.getD (p2 + p3.toNat) default)) else none) else (some p4)) else (some p4)
end Pam

/- what ref_Looping_part computes, read off the program by a program of ours -/
namespace Pam
open Go
noncomputable def ref_Looping_part_b (rcf : (List TPush) → Int → Int → Int → (List Int) → (List Int) → (List TLoop) → (List Int) → Option (Int × Int)) (p1 : List TPush) (p2 : Int) (p3 : Int) (p4 : Int) (p5 : List Int) (p6 : List Int) (p7 : List TLoop) (p8 : List Int) : Option (Int × Int) :=
  if (0 ≤ p2 ∧ p2 < (p1.length : Int)) then (if ((p1.getD p2.toNat default).op) = 1 then (some ((p1.getD p2.toNat default).n, (IntKind.wrap .i64 (p2 - 1)))) else (if ((p1.getD p2.toNat default).op) = 2 then (if (0 ≤ (p1.getD p2.toNat default).v ∧ (p1.getD p2.toNat default).v < (p8.length : Int)) then (some ((p8.getD (((p1.getD p2.toNat default).v).toNat) default), (IntKind.wrap .i64 (p2 - 1)))) else none) else (if ((p1.getD p2.toNat default).op) = 3 then (if (0 ≤ (IntKind.wrap .i64 (((p1.getD p2.toNat default).v) + p3)) ∧ (IntKind.wrap .i64 (((p1.getD p2.toNat default).v) + p3)) < (p8.length : Int)) then (some ((p8.getD ((IntKind.wrap .i64 (((p1.getD p2.toNat default).v) + p3)).toNat) default), (IntKind.wrap .i64 (p2 - 1)))) else none) else (if ((p1.getD p2.toNat default).op) = 4 then (some ((IntKind.wrap .i64 (p3 + ((p1.getD p2.toNat default).n))), (IntKind.wrap .i64 (p2 - 1)))) else (if ((p1.getD p2.toNat default).op) = 5 then ((rcf p1 (IntKind.wrap .i64 (p2 - 1)) p3 p4 p5 p6 p7 p8).bind fun y1 => (ref_Apply ((p1.getD p2.toNat default).k) y1.1 0).bind fun y2 => some (y2, y1.2)) else ((rcf p1 (IntKind.wrap .i64 (p2 - 1)) p3 p4 p5 p6 p7 p8).bind fun y3 => (rcf p1 y3.2 p3 p4 p5 p6 p7 p8).bind fun y4 => if ((p1.getD p2.toNat default).op) = 6 then ((ref_Apply ((p1.getD p2.toNat default).k) y4.1 y3.1).bind fun y5 => some (y5, y4.2)) else (if ((p1.getD p2.toNat default).op) = 8 then (if (0 ≤ (p1.getD p2.toNat default).v ∧ (p1.getD p2.toNat default).v ≤ (IntKind.wrap .i64 (((p1.getD p2.toNat default).v) + ((p1.getD p2.toNat default).n))) ∧ (IntKind.wrap .i64 (((p1.getD p2.toNat default).v) + ((p1.getD p2.toNat default).n))) ≤ (p8.length : Int)) then ((ref_cellAt (((IntKind.wrap .i64 (((p1.getD p2.toNat default).v) + ((p1.getD p2.toNat default).n))).toNat) - (((p1.getD p2.toNat default).v).toNat)) (((p1.getD p2.toNat default).v).toNat) y4.1 y3.1 p8).bind fun y6 => some (y6, y4.2)) else none) else ((rcf p1 y4.2 p3 p4 p5 p6 p7 p8).bind fun y7 => if ¬ y7.1 = 0 then (some (y4.1, y7.2)) else (some (y3.1, y7.2)))))))))) else none

noncomputable def ref_Looping_part_k : Nat → (List TPush) → Int → Int → Int → (List Int) → (List Int) → (List TLoop) → (List Int) → Option (Int × Int)
  | 0 => fun _ _ _ _ _ _ _ _ => none
  | n + 1 => ref_Looping_part_b (ref_Looping_part_k n)

noncomputable def ref_Looping_part (fuel : Nat) (p1 : List TPush) (p2 : Int) (p3 : Int) (p4 : Int) (p5 : List Int) (p6 : List Int) (p7 : List TLoop) (p8 : List Int) : Option (Int × Int) := ref_Looping_part_k fuel p1 p2 p3 p4 p5 p6 p7 p8
end Pam

/- what ref_Looping_tree computes, read off the program by a program of ours -/
namespace Pam
open Go
noncomputable def ref_Looping_tree (fuel : Nat) (p1 : List TPush) (p2 : Int) (p3 : Int) (p4 : List Int) (p5 : List Int) (p6 : List TLoop) (p7 : List Int) : Option Int :=
  (ref_Looping_part fuel p1 (IntKind.wrap .i64 ((p1.length : Int) - 1)) p2 p3 p4 p5 p6 p7).bind fun y1 => some y1.1
end Pam

/- what ref_Looping_Row computes, read off the program by a program of ours -/
namespace Pam
open Go
noncomputable def ref_Looping_Row_j3 (l4 : List Int) (l7 : List Int) : Option ((List Int) × (List Int)) :=
  some (l7, l4)

noncomputable def ref_Looping_Row_l1 (p4 : List Int) (l4 : List Int) (l21 : List Int) (x23 : Int) : Option (((List Int) × Int) ⊕ (List Int)) :=
  if x23 < (p4.length : Int) then (if (0 ≤ x23 ∧ x23 < (p4.length : Int)) ∧ (0 ≤ (p4.getD x23.toNat default) ∧ (p4.getD x23.toNat default) < (l4.length : Int)) ∧ room (l21.length + 1) 8 then (some (.inl ((l21 ++ (lit ([(l4.getD ((p4.getD x23.toNat default).toNat) default)] : List Int))), (IntKind.wrap .i64 (x23 + 1))))) else none) else (some (.inr l21))

noncomputable def ref_Looping_Row_j2 (p4 : List Int) (l4 : List Int) : Option ((List Int) × (List Int)) :=
  (loop (fun (l21, x23) => ref_Looping_Row_l1 p4 l4 l21 x23) ([], 0)).bind (fun z24 => ref_Looping_Row_j3 l4 z24)

noncomputable def ref_Looping_Row_j4 (x33 : Int) (l35 : List Int) : Option (((List Int) × Int) ⊕ (List Int)) :=
  some (.inl (l35, (IntKind.wrap .i64 (x33 + 1))))

noncomputable def ref_Looping_Row_l3 (fuel : Nat) (p2 : Int) (p3 : List Int) (p4 : List Int) (p5 : List TLoop) (x33 : Int) (l44 : List Int) (x45 : Int) : Option (((List Int) × Int) ⊕ (List Int)) :=
  if x45 < ((p5.getD x33.toNat default).n) then ((ref_Looping_tree fuel ((p5.getD x33.toNat default).e) x45 p2 p3 p4 p5 l44).bind fun y46 => if (0 ≤ (IntKind.wrap .i64 (((p5.getD x33.toNat default).to) + x45)) ∧ (IntKind.wrap .i64 (((p5.getD x33.toNat default).to) + x45)) < (l44.length : Int)) then (some (.inl ((l44.set ((IntKind.wrap .i64 (((p5.getD x33.toNat default).to) + x45)).toNat) y46), (IntKind.wrap .i64 (x45 + 1))))) else none) else (some (.inr l44))

noncomputable def ref_Looping_Row_j5 (p5 : List TLoop) (x33 : Int) (l50 : List Int) (x51 : Int) : Option (((List Int) × Int) ⊕ (List Int)) :=
  if ((p5.getD x33.toNat default).op) = 3 then (if (0 ≤ (p5.getD x33.toNat default).to ∧ (p5.getD x33.toNat default).to < (l50.length : Int)) then (ref_Looping_Row_j4 x33 (l50.set (((p5.getD x33.toNat default).to).toNat) x51)) else none) else (ref_Looping_Row_j4 x33 l50)

noncomputable def ref_Looping_Row_l4 (fuel : Nat) (p2 : Int) (p3 : List Int) (p4 : List Int) (p5 : List TLoop) (x33 : Int) (l61 : List Int) (x62 : Int) (x63 : Int) : Option (((List Int) × Int × Int) ⊕ ((List Int) × Int)) :=
  if x63 < ((p5.getD x33.toNat default).n) then ((ref_Looping_tree fuel ((p5.getD x33.toNat default).e) x63 p2 p3 p4 p5 l61).bind fun y64 => (ref_Apply ((p5.getD x33.toNat default).k) x62 y64).bind fun y65 => if ((p5.getD x33.toNat default).op) = 4 then (if (0 ≤ (IntKind.wrap .i64 (((p5.getD x33.toNat default).to) + x63)) ∧ (IntKind.wrap .i64 (((p5.getD x33.toNat default).to) + x63)) < (l61.length : Int)) then (some (.inl ((l61.set ((IntKind.wrap .i64 (((p5.getD x33.toNat default).to) + x63)).toNat) y65), y65, (IntKind.wrap .i64 (x63 + 1))))) else none) else (some (.inl (l61, y65, (IntKind.wrap .i64 (x63 + 1)))))) else (some (.inr (l61, x62)))

noncomputable def ref_Looping_Row_l2 (fuel : Nat) (p2 : Int) (p3 : List Int) (p4 : List Int) (p5 : List TLoop) (l32 : List Int) (x33 : Int) : Option (((List Int) × Int) ⊕ (List Int)) :=
  if x33 < (p5.length : Int) then (if (0 ≤ x33 ∧ x33 < (p5.length : Int)) then (if ((p5.getD x33.toNat default).op) = 1 then ((ref_Looping_tree fuel ((p5.getD x33.toNat default).e) 0 p2 p3 p4 p5 l32).bind fun y36 => if (0 ≤ (p5.getD x33.toNat default).to ∧ (p5.getD x33.toNat default).to < (l32.length : Int)) then (ref_Looping_Row_j4 x33 (l32.set (((p5.getD x33.toNat default).to).toNat) y36)) else none) else (if ((p5.getD x33.toNat default).op) = 2 then ((loop (fun (l44, x45) => ref_Looping_Row_l3 fuel p2 p3 p4 p5 x33 l44 x45) (l32, 0)).bind (fun z47 => ref_Looping_Row_j4 x33 z47)) else ((ref_Looping_tree fuel ((p5.getD x33.toNat default).f) 0 p2 p3 p4 p5 l32).bind fun y48 => (loop (fun (l61, x62, x63) => ref_Looping_Row_l4 fuel p2 p3 p4 p5 x33 l61 x62 x63) (l32, y48, 0)).bind (fun (z66, z67) => ref_Looping_Row_j5 p5 x33 z66 z67)))) else none) else (some (.inr l32))

noncomputable def ref_Looping_Row_j1 (fuel : Nat) (p2 : Int) (p3 : List Int) (p4 : List Int) (p5 : List TLoop) (l2 : List Int) : Option ((List Int) × (List Int)) :=
  (loop (fun (l32, x33) => ref_Looping_Row_l2 fuel p2 p3 p4 p5 l32 x33) (l2, 0)).bind (fun z68 => ref_Looping_Row_j2 p4 z68)

noncomputable def ref_Looping_Row_l5 (p1 : List Int) (p3 : List Int) (l76 : List Int) (x77 : Int) : Option (((List Int) × Int) ⊕ (List Int)) :=
  if x77 < (p1.length : Int) then (if (0 ≤ x77 ∧ x77 < (p3.length : Int)) ∧ (0 ≤ x77 ∧ x77 < (p1.length : Int)) ∧ (0 ≤ (p3.getD x77.toNat default) ∧ (p3.getD x77.toNat default) < (l76.length : Int)) then (some (.inl ((l76.set ((p3.getD x77.toNat default).toNat) (p1.getD x77.toNat default)), (IntKind.wrap .i64 (x77 + 1))))) else none) else (some (.inr l76))

noncomputable def ref_Looping_Row (fuel : Nat) (p1 : List Int) (p2 : Int) (p3 : List Int) (p4 : List Int) (p5 : List TLoop) (p6 : List Int) : Option ((List Int) × (List Int)) :=
  (loop (fun (l76, x77) => ref_Looping_Row_l5 p1 p3 l76 x77) (p6, 0)).bind (fun z78 => ref_Looping_Row_j1 fuel p2 p3 p4 p5 z78)
end Pam

/- what slices_Clone_int64_int64 computes, read off the program by a program of ours -/
namespace Pam
open Go
noncomputable def slices_Clone_int64_int64 (p1 : List Int) : Option (List Int) :=
  if p1.length = 0 then (some []) else (if room p1.length 8 then (some p1) else none)
end Pam

/- what loop_Machine_Cells computes, read off the program by a program of ours -/
namespace Pam
open Go
noncomputable def loop_Machine_Cells (p1 : Int) (p2 : List Int) (p3 : List Int) (p4 : List TLoop) (p5 : List Int) : Option (List Int) :=
  (slices_Clone_int64_int64 p5).bind fun y1 => some y1
end Pam

/- what ref_SameLongs_2 computes, read off the program by a program of ours -/
namespace Pam
open Go
noncomputable def ref_SameLongs_2_j1 : Option Bool :=
  some true

noncomputable def ref_SameLongs_2_l1 (p1 : List Int) (p2 : List Int) (x3 : Int) : Option (Int ⊕ (Unit ⊕ Bool)) :=
  if x3 < (p1.length : Int) then (if (0 ≤ x3 ∧ x3 < (p1.length : Int)) ∧ (0 ≤ x3 ∧ x3 < (p2.length : Int)) then (if ¬ (p1.getD x3.toNat default) = (p2.getD x3.toNat default) then (some (.inr (.inr false))) else (some (.inl (IntKind.wrap .i64 (x3 + 1))))) else none) else (some (.inr (.inl ())))

noncomputable def ref_SameLongs_2 (p1 : List Int) (p2 : List Int) : Option Bool :=
  if ¬ (p1.length : Int) = (p2.length : Int) then (some false) else ((loop (fun x3 => ref_SameLongs_2_l1 p1 p2 x3) 0).bind (Sum.elim (fun _ => ref_SameLongs_2_j1) (fun z4 => some z4)))
end Pam

/- what law_LoopRows computes, read off the program by a program of ours -/
namespace Pam
open Go
noncomputable def law_LoopRows_j1 (p1 : TLoops) (p2 : List (List Int)) (y4 : TLoops) (y5 : (List (List Int))) : Option Bool :=
  (ref_SameLoops (y4) p1).bind fun y11 => if y11 = true then ((law_sameRows y5 p2).bind fun y12 => some y12) else (some false)

noncomputable def law_LoopRows_l1 (p2 : List (List Int)) (y5 : (List (List Int))) : Option (Unit ⊕ Unit) :=
  if 0 < (p2.length : Int) then (if (0 ≤ 0 ∧ 0 < (y5.length : Int)) then ((loop_Machine_Row (y5.getD 0 default)).bind fun y13 => none) else none) else (some (.inr ()))

noncomputable def law_LoopRows_j2 (p1 : TLoops) (p2 : List (List Int)) (y4 : TLoops) (y5 : (List (List Int))) (l18 : List Int) (l19 : List Int) : Option Bool :=
  (ref_SameLoops (y4) p1).bind fun y20 => if y20 = true then ((law_sameRows y5 p2).bind fun y21 => some y21) else (some false)

noncomputable def law_LoopRows_j3 (y8 : (TFault × Int × (List Int) × (List Int) × (List TLoop) × Int × Int × (List Int))) (x36 : Int) (y37 : ((List Int) × TFault × (List Int))) (l39 : List Int) : Option (((List Int) × (List Int) × Int) ⊕ (((List Int) × (List Int)) ⊕ Bool)) :=
  (loop_Machine_Cells y8.2.1 y8.2.2.1 y8.2.2.2.1 y8.2.2.2.2.1 y37.2.2).bind fun y40 => (ref_SameLongs_2 y40 l39).bind fun y41 => if y41 = true then (some (.inl (y37.2.2, l39, (IntKind.wrap .i64 (x36 + 1))))) else (some (.inr (.inr false)))

noncomputable def law_LoopRows_l2 (fuel : Nat) (p1 : TLoops) (p2 : List (List Int)) (y5 : (List (List Int))) (y8 : (TFault × Int × (List Int) × (List Int) × (List TLoop) × Int × Int × (List Int))) (y15 : (Int × (List Int) × (List Int) × (List TLoop) × (List Int))) (l34 : List Int) (l35 : List Int) (x36 : Int) : Option (((List Int) × (List Int) × Int) ⊕ (((List Int) × (List Int)) ⊕ Bool)) :=
  if x36 < (p2.length : Int) then (if (0 ≤ x36 ∧ x36 < (y5.length : Int)) then ((loop_Machine_Row_2 (y5.getD x36.toNat default) y8.2.1 y8.2.2.1 y8.2.2.2.1 y8.2.2.2.2.1 l34).bind fun y37 => if (0 ≤ x36 ∧ x36 < (p2.length : Int)) then (if ¬ ((p2.getD x36.toNat default).length : Int) = (p1.put.length : Int) then (if ((y37.2.1).code) = 17 ∧ ((y37.2.1).at_) = (-1) then (if ¬ (y37.1.length : Int) = 0 then (some (.inr (.inr false))) else (law_LoopRows_j3 y8 x36 y37 l35)) else (some (.inr (.inr false)))) else ((ref_Looping_Row fuel (p2.getD x36.toNat default) y15.1 y15.2.1 y15.2.2.1 y15.2.2.2.1 l35).bind fun y42 => if ¬ ((y37.2.1).code) = 0 then (some (.inr (.inr false))) else ((ref_SameLongs y37.1 y42.1).bind fun y43 => if y43 = true then (law_LoopRows_j3 y8 x36 y37 y42.2) else (some (.inr (.inr false)))))) else none) else none) else (some (.inr (.inl (l34, l35))))

noncomputable def law_LoopRows (fuel : Nat) (p1 : TLoops) (p2 : List (List Int)) : Option Bool :=
  (law_loopBegun ).bind fun y1 => if y1 = true then ((ref_GreatLoops p1).bind fun y2 => if y2 = true then (some true) else ((law_rowsGreat p2).bind fun y3 => if y3 = true then (some true) else ((ref_CopyLoops p1).bind fun y4 => (law_copyRows p2).bind fun y5 => (loop_New (y4)).bind fun y6 => Sum.elim (fun y7 => (ref_LoopsFault p1).bind fun y9 => if ((y7).code) = ((y9).code) ∧ ((y7).at_) = ((y9).at_) then (if ¬ ((y9).code) = 0 then (some true) else ((ref_BeginLoops p1).bind fun y10 => (loop (fun _ => law_LoopRows_l1 p2 y5) ()).bind (fun _ => law_LoopRows_j1 p1 p2 y4 y5))) else (some false)) (fun y8 => (ref_LoopsFault p1).bind fun y14 => if ((y8.1).code) = ((y14).code) ∧ ((y8.1).at_) = ((y14).at_) then (if ¬ ((y14).code) = 0 then (some true) else ((ref_BeginLoops p1).bind fun y15 => (loop (fun (l34, l35, x36) => law_LoopRows_l2 fuel p1 p2 y5 y8 y15 l34 l35 x36) (y8.2.2.2.2.2.2.2, y15.2.2.2.2, 0)).bind (Sum.elim (fun (z44, z45) => law_LoopRows_j2 p1 p2 y4 y5 z44 z45) (fun z46 => some z46)))) else (some false)) y6))) else (some false)
end Pam

/- what law_LoopChecks computes, read off the program by a program of ours -/
namespace Pam
open Go
noncomputable def law_LoopChecks (p1 : TLoops) : Option Bool :=
  (law_loopBegun ).bind fun y1 => if y1 = true then ((ref_GreatLoops p1).bind fun y2 => if y2 = true then (some true) else ((ref_CopyLoops p1).bind fun y3 => (loop_Check (y3)).bind fun y4 => (ref_LoopsFault p1).bind fun y5 => some ((((y4).code) == ((y5).code)) && (((y4).at_) == ((y5).at_))))) else (some false)
end Pam
