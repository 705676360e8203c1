/- what slices_Clone_int_int computes, read off the program by a program of ours -/
import Derived.Test.YtpfekllhlfodiaaSysChecksData1
import Derived.Test.YtpfekllhlfodiaaBase3
set_option linter.all false
namespace Pam
open Go
noncomputable def slices_Clone_int_int (p1 : List Int) : Option (List Int) :=
  if p1 = [] then (some []) else (if room p1.length 8 then (some p1) else none)
end Pam

/- what slices_Sort_int_int computes, read off the program by a program of ours -/
namespace Pam
open Go
noncomputable def slices_Sort_int_int (p1 : List Int) : Option (List Int) :=
  if p1.length ≤ 140737488355328 then some (sortI p1) else none
end Pam

/- what slices_Compact_int_int computes, read off the program by a program of ours -/
namespace Pam
open Go
noncomputable def slices_Compact_int_int (p0 : Nat) (p1 : List Int) : Option (List Int) :=
  if p0 = p1.length ∧ p1.length ≤ 140737488355328 then some (Go.Lib.compact p1) else none
end Pam

/- what sys_Uses computes, read off the program by a program of ours -/
namespace Pam
open Go
noncomputable def sys_Uses_j1 (l4 : List Int) : Option (List Int) :=
  (slices_Sort_int_int l4).bind fun y6 => (slices_Compact_int_int l4.length y6).bind fun y7 => some y7

noncomputable def sys_Uses_j2 (p1 : TRule) (l20 : List Int) (x22 : Int) (b25 : Bool) : Option (((List Int) × Int) ⊕ (List Int)) :=
  if b25 = true then (if room (l20.length + 1) 8 then (some (.inl ((l20 ++ (lit ([(p1.e.getD x22.toNat default).v] : List Int))), (IntKind.wrap .i64 (x22 + 1))))) else none) else (some (.inl (l20, (IntKind.wrap .i64 (x22 + 1)))))

noncomputable def sys_Uses_l1 (p1 : TRule) (l20 : List Int) (x22 : Int) : Option (((List Int) × Int) ⊕ (List Int)) :=
  if x22 < (p1.e.length : Int) then (if (0 ≤ x22 ∧ x22 < (p1.e.length : Int)) then (if ((p1.e.getD x22.toNat default).op) = 2 then (sys_Uses_j2 p1 l20 x22 (((p1.e.getD x22.toNat default).op) == 2)) else (if ((p1.e.getD x22.toNat default).op) = 3 then (sys_Uses_j2 p1 l20 x22 (((p1.e.getD x22.toNat default).op) == 3)) else (sys_Uses_j2 p1 l20 x22 (((p1.e.getD x22.toNat default).op) == 8)))) else none) else (some (.inr l20))

noncomputable def sys_Uses (p1 : TRule) : Option (List Int) :=
  (slices_Clone_int_int p1.a).bind fun y1 => (loop (fun (l20, x22) => sys_Uses_l1 p1 l20 x22) (y1, 0)).bind (fun z26 => sys_Uses_j1 z26)
end Pam

/- what sys_judge_is computes, read off the program by a program of ours -/
namespace Pam
open Go
noncomputable def sys_judge_is (p1 : Int) (p2 : Tjudge) : Option Bool :=
  if p1 ≥ 0 then (some (decide (p1 < (p2.system.vars.length : Int)))) else (some false)
end Pam

/- what slices_Index_int_int computes, read off the program by a program of ours -/
namespace Pam
open Go
noncomputable def slices_Index_int_int_j1 : Option Int :=
  some (-1)

noncomputable def slices_Index_int_int_l1 (p1 : List Int) (p2 : Int) (x3 : Int) : Option (Int ⊕ (Unit ⊕ Int)) :=
  if x3 < (p1.length : Int) then (if (0 ≤ x3 ∧ x3 < (p1.length : Int)) then (if p2 = (p1.getD x3.toNat default) then (some (.inr (.inr x3))) else (some (.inl (IntKind.wrap .i64 (x3 + 1))))) else none) else (some (.inr (.inl ())))

noncomputable def slices_Index_int_int (p1 : List Int) (p2 : Int) : Option Int :=
  (loop (fun x3 => slices_Index_int_int_l1 p1 p2 x3) 0).bind (Sum.elim (fun _ => slices_Index_int_int_j1) (fun z4 => some z4))
end Pam

/- what slices_Contains_int_int computes, read off the program by a program of ours -/
namespace Pam
open Go
noncomputable def slices_Contains_int_int (p1 : List Int) (p2 : Int) : Option Bool :=
  (slices_Index_int_int p1 p2).bind fun y1 => some (decide (y1 ≥ 0))
end Pam

/- what sys_judge_head computes, read off the program by a program of ours -/
namespace Pam
open Go
noncomputable def sys_judge_head_j3 : Option TFault :=
  some (TFault.mk 0 0)

noncomputable def sys_judge_head_l1 (p1 : Tjudge) (x3 : Int) : Option (Int ⊕ (Unit ⊕ TFault)) :=
  if x3 < (p1.system.out_.length : Int) then (if (0 ≤ x3 ∧ x3 < (p1.system.out_.length : Int)) then ((sys_judge_is (p1.system.out_.getD x3.toNat default) p1).bind fun y4 => if y4 = true then (some (.inl (IntKind.wrap .i64 (x3 + 1)))) else (some (.inr (.inr (TFault.mk 16 (-1)))))) else none) else (some (.inr (.inl ())))

noncomputable def sys_judge_head_j2 (p1 : Tjudge) : Option TFault :=
  (loop (fun x3 => sys_judge_head_l1 p1 x3) 0).bind (Sum.elim (fun _ => sys_judge_head_j3) (fun z5 => some z5))

noncomputable def sys_judge_head_l2 (p1 : Tjudge) (x8 : Int) : Option (Int ⊕ (Unit ⊕ TFault)) :=
  if x8 < (p1.system.in_.length : Int) then (if (0 ≤ x8 ∧ x8 < (p1.system.in_.length : Int)) then ((sys_judge_is (p1.system.in_.getD x8.toNat default) p1).bind fun y9 => if y9 = true then (if (0 ≤ x8 ∧ x8 ≤ (p1.system.in_.length : Int)) then ((slices_Contains_int_int (p1.system.in_.take x8.toNat) (p1.system.in_.getD x8.toNat default)).bind fun y10 => if y10 = true then (some (.inr (.inr (TFault.mk 8 (-1))))) else (some (.inl (IntKind.wrap .i64 (x8 + 1))))) else none) else (some (.inr (.inr (TFault.mk 16 (-1)))))) else none) else (some (.inr (.inl ())))

noncomputable def sys_judge_head_j1 (p1 : Tjudge) : Option TFault :=
  (loop (fun x8 => sys_judge_head_l2 p1 x8) 0).bind (Sum.elim (fun _ => sys_judge_head_j2 p1) (fun z11 => some z11))

noncomputable def sys_judge_head_j4 (p1 : Tjudge) (x14 : Int) : Option (Int ⊕ (Unit ⊕ TFault)) :=
  if ((p1.system.vars.getD x14.toNat default).n) < 0 then (some (.inr (.inr (TFault.mk 13 (IntKind.wrap .i64 ((-2) - x14)))))) else (if ((p1.system.vars.getD x14.toNat default).n) > 300 then (some (.inr (.inr (TFault.mk 13 (IntKind.wrap .i64 ((-2) - x14)))))) else (some (.inl (IntKind.wrap .i64 (x14 + 1)))))

noncomputable def sys_judge_head_l3 (p1 : Tjudge) (x14 : Int) : Option (Int ⊕ (Unit ⊕ TFault)) :=
  if x14 < (p1.system.vars.length : Int) then (if (0 ≤ x14 ∧ x14 < (p1.system.vars.length : Int)) then (if ¬ ((p1.system.vars.getD x14.toNat default).elem) = 105 then (if ¬ ((p1.system.vars.getD x14.toNat default).elem) = 98 then (some (.inr (.inr (TFault.mk 10 (IntKind.wrap .i64 ((-2) - x14)))))) else (sys_judge_head_j4 p1 x14)) else (sys_judge_head_j4 p1 x14)) else none) else (some (.inr (.inl ())))

noncomputable def sys_judge_head (p1 : Tjudge) : Option TFault :=
  if (p1.system.vars.length : Int) > 400 then (some (TFault.mk 7 (-1))) else (if (p1.system.rules.length : Int) > 400 then (some (TFault.mk 7 (-1))) else (if (p1.system.in_.length : Int) > 400 then (some (TFault.mk 7 (-1))) else (if (p1.system.out_.length : Int) > 400 then (some (TFault.mk 7 (-1))) else ((loop (fun x14 => sys_judge_head_l3 p1 x14) 0).bind (Sum.elim (fun _ => sys_judge_head_j1 p1) (fun z15 => some z15))))))
end Pam

/- what sys_judge_fail computes, read off the program by a program of ours -/
namespace Pam
open Go
noncomputable def sys_judge_fail (p1 : Bool) (p2 : Int) (p3 : Tjudge) : Option Int :=
  if p1 = true then (if p3.code = 0 then (some p2) else (some p3.code)) else (some p3.code)
end Pam

/- what sys_parts computes, read off the program by a program of ours -/
namespace Pam
open Go
noncomputable def sys_parts (p1 : Int) : Option Int :=
  if p1 < 1 then (some (-1)) else (if p1 > 16 then (some (-1)) else (if (0 ≤ p1 ∧ p1 < (17 : Int)) then (some ((lit ([0, 0, 1, 1, 2, 3, 2, 2, 1, 3, 3, 1, 2, 2, 0, 1, 1] : List Int)).getD p1.toNat 0)) else none))
end Pam

/- what kinds_Op computes, read off the program by a program of ours -/
namespace Pam
open Go
noncomputable def kinds_Op (p1 : Int) : Option (Int × Int × Int) :=
  if p1 ≥ 1 then (if p1 ≤ 7 then (some (105, 105, 2)) else (if p1 = 8 then (some (105, 98, 2)) else (if p1 = 9 then (some (105, 98, 2)) else (if p1 ≥ 10 then (if p1 ≤ 12 then (some (98, 98, 2)) else (if p1 = 13 then (some (105, 105, 1)) else (if p1 = 14 then (some (98, 98, 1)) else (some (0, 0, 0))))) else (if p1 = 13 then (some (105, 105, 1)) else (if p1 = 14 then (some (98, 98, 1)) else (some (0, 0, 0)))))))) else (if p1 = 8 then (some (105, 98, 2)) else (if p1 = 9 then (some (105, 98, 2)) else (if p1 ≥ 10 then (if p1 ≤ 12 then (some (98, 98, 2)) else (if p1 = 13 then (some (105, 105, 1)) else (if p1 = 14 then (some (98, 98, 1)) else (some (0, 0, 0))))) else (if p1 = 13 then (some (105, 105, 1)) else (if p1 = 14 then (some (98, 98, 1)) else (some (0, 0, 0)))))))
end Pam

/- what sys_judge_same computes, read off the program by a program of ours -/
namespace Pam
open Go
noncomputable def sys_judge_same_j1 : Option Bool :=
  some true

noncomputable def sys_judge_same_l1 (p1 : List Int) (p2 : Tjudge) (x3 : Int) : Option (Int ⊕ (Unit ⊕ Bool)) :=
  if x3 < (p1.length : Int) then (if (0 ≤ x3 ∧ x3 < (p1.length : Int)) then (if (0 ≤ (p1.getD x3.toNat default) ∧ (p1.getD x3.toNat default) < (p2.system.vars.length : Int)) ∧ (0 ≤ 0 ∧ 0 < (p1.length : Int)) ∧ (0 ≤ (p1.getD 0 default) ∧ (p1.getD 0 default) < (p2.system.vars.length : Int)) then (if ((p2.system.vars.getD ((p1.getD x3.toNat default).toNat) default).elem) = ((p2.system.vars.getD ((p1.getD 0 default).toNat) default).elem) ∧ ((p2.system.vars.getD ((p1.getD x3.toNat default).toNat) default).n) = ((p2.system.vars.getD ((p1.getD 0 default).toNat) default).n) then (some (.inl (IntKind.wrap .i64 (x3 + 1)))) else (some (.inr (.inr false)))) else none) else none) else (some (.inr (.inl ())))

noncomputable def sys_judge_same (p1 : List Int) (p2 : Tjudge) : Option Bool :=
  (loop (fun x3 => sys_judge_same_l1 p1 p2 x3) 0).bind (Sum.elim (fun _ => sys_judge_same_j1) (fun z4 => some z4))
end Pam

/- what sys_scalar computes, read off the program by a program of ours -/
namespace Pam
open Go
noncomputable def sys_scalar (p1 : Int) : Option TVar :=
  some (TVar.mk p1 0)
end Pam

/- what sys_judge_same_2 computes, read off the program by a program of ours -/
namespace Pam
open Go
noncomputable def sys_judge_same_2_j1 : Option Bool :=
  some true

noncomputable def sys_judge_same_2_l1 (p1 : Tjudge) (p2 : List Int) (x3 : Int) : Option (Int ⊕ (Unit ⊕ Bool)) :=
  if x3 < (p2.length : Int) then (if (0 ≤ x3 ∧ x3 < (p2.length : Int)) then (if (0 ≤ (p2.getD x3.toNat default) ∧ (p2.getD x3.toNat default) < (p1.system.vars.length : Int)) ∧ (0 ≤ 0 ∧ 0 < (p2.length : Int)) ∧ (0 ≤ (p2.getD 0 default) ∧ (p2.getD 0 default) < (p1.system.vars.length : Int)) then (if ((p1.system.vars.getD ((p2.getD x3.toNat default).toNat) default).elem) = ((p1.system.vars.getD ((p2.getD 0 default).toNat) default).elem) ∧ ((p1.system.vars.getD ((p2.getD x3.toNat default).toNat) default).n) = ((p1.system.vars.getD ((p2.getD 0 default).toNat) default).n) then (some (.inl (IntKind.wrap .i64 (x3 + 1)))) else (some (.inr (.inr false)))) else none) else none) else (some (.inr (.inl ())))

noncomputable def sys_judge_same_2 (p1 : Tjudge) (p2 : List Int) : Option Bool :=
  (loop (fun x3 => sys_judge_same_2_l1 p1 p2 x3) 0).bind (Sum.elim (fun _ => sys_judge_same_2_j1) (fun z4 => some z4))
end Pam

/- what kinds_Folds computes, read off the program by a program of ours -/
namespace Pam
open Go
noncomputable def kinds_Folds (p1 : Int) : Option Bool :=
  (kinds_Op p1).bind fun y1 => if y1.2.2 = 2 then (some (y1.1 == y1.2.1)) else (some false)
end Pam

/- what sys_judge_elem computes, read off the program by a program of ours -/
namespace Pam
open Go
noncomputable def sys_judge_elem (p1 : Int) (p2 : Tjudge) : Option (TVar × Bool) :=
  if (0 ≤ p1 ∧ p1 < (p2.system.vars.length : Int)) then ((sys_scalar ((p2.system.vars.getD p1.toNat default).elem)).bind fun y1 => some ((y1), decide (((p2.system.vars.getD p1.toNat default).n) > 0))) else none
end Pam

/- what sys_judge_step_1_2 computes, read off the program by a program of ours -/
namespace Pam
open Go
noncomputable def sys_judge_step_1_2 (p1 : Int) (p2 : List Int) : Option Int :=
  if p1 > (p2.length : Int) then (some 0) else (if (0 ≤ (IntKind.wrap .i64 ((p2.length : Int) - p1)) ∧ (IntKind.wrap .i64 ((p2.length : Int) - p1)) < (p2.length : Int)) then (some (p2.getD ((IntKind.wrap .i64 ((p2.length : Int) - p1)).toNat) default)) else none)
end Pam

/- what sys_judge_step_2 computes, read off the program by a program of ours -/
namespace Pam
open Go
noncomputable def sys_judge_step_2_j1 (p1 : TPush) (p3 : Tjudge) (p4 : List Int) (b1 : Bool) : Option (Int × Int × Bool) :=
  if b1 = true then ((kinds_Op p1.k).bind fun y2 => if y2.2.2 = (IntKind.wrap .i64 ((IntKind.wrap .i64 (p1.op - 5)) + 1)) then ((sys_judge_step_1_2 1 p4).bind fun y3 => if y3 = y2.1 then (if y2.2.2 = 1 then (some (y2.2.2, y2.2.1, true)) else ((sys_judge_step_1_2 2 p4).bind fun y4 => some (y2.2.2, y2.2.1, (y4 == y2.1)))) else (some (y2.2.2, y2.2.1, false))) else (some (y2.2.2, y2.2.1, false))) else (if p1.op = 7 then ((sys_judge_step_1_2 1 p4).bind fun y5 => (sys_judge_step_1_2 3 p4).bind fun y6 => if y6 = 98 then ((sys_judge_step_1_2 1 p4).bind fun y7 => (sys_judge_step_1_2 2 p4).bind fun y8 => if y7 = y8 then ((sys_judge_step_1_2 1 p4).bind fun y9 => some (3, y5, (y9 != 0))) else (some (3, y5, false))) else (some (3, y5, false))) else (if p1.op = 8 then (if (0 ≤ p1.v ∧ p1.v < (p3.system.vars.length : Int)) then (if ((p3.system.vars.getD p1.v.toNat default).n) > 0 then ((sys_judge_step_1_2 1 p4).bind fun y10 => if y10 = ((p3.system.vars.getD p1.v.toNat default).elem) then ((sys_judge_step_1_2 2 p4).bind fun y11 => some (2, (p3.system.vars.getD p1.v.toNat default).elem, (y11 == 105))) else (some (2, (p3.system.vars.getD p1.v.toNat default).elem, false))) else (some (2, (p3.system.vars.getD p1.v.toNat default).elem, false))) else none) else (some (0, 0, false))))

noncomputable def sys_judge_step_2 (p1 : TPush) (p2 : Int) (p3 : Tjudge) (p4 : List Int) : Option (Int × Int × Bool) :=
  if p1.op = 1 then (if p1.k = 1 then (if p1.n = 0 then (some (0, 98, true)) else (some (0, 98, (p1.n == 1)))) else (some (0, 105, (p1.k == 0)))) else (if p1.op = 2 then (if (0 ≤ p1.v ∧ p1.v < (p3.system.vars.length : Int)) then (some (0, (p3.system.vars.getD p1.v.toNat default).elem, (((p3.system.vars.getD p1.v.toNat default).n) == 0))) else none) else (if p1.op = 3 then (if (0 ≤ p1.v ∧ p1.v < (p3.system.vars.length : Int)) then (if ((p3.system.vars.getD p1.v.toNat default).n) > 0 then (if p1.n ≥ 0 then (some (0, (p3.system.vars.getD p1.v.toNat default).elem, decide (p1.n ≤ (IntKind.wrap .i64 (((p3.system.vars.getD p1.v.toNat default).n) - p2))))) else (some (0, (p3.system.vars.getD p1.v.toNat default).elem, false))) else (some (0, (p3.system.vars.getD p1.v.toNat default).elem, false))) else none) else (if p1.op = 4 then (if p1.n ≥ (-1000000) then (some (0, 105, decide (p1.n ≤ 1000000))) else (some (0, 105, false))) else (if p1.op = 5 then (sys_judge_step_2_j1 p1 p3 p4 (p1.op == 5)) else (sys_judge_step_2_j1 p1 p3 p4 (p1.op == 6))))))
end Pam

/- what sys_judge_tree computes, read off the program by a program of ours -/
namespace Pam
open Go
noncomputable def sys_judge_tree_j1 (l3 : List Int) : Option (Int × Bool) :=
  if ¬ (l3.length : Int) = 1 then (some (0, false)) else (if (0 ≤ 0 ∧ 0 < (l3.length : Int)) then (some ((l3.getD 0 default), true)) else none)

noncomputable def sys_judge_tree_l1 (p1 : List TPush) (p2 : Int) (p3 : Tjudge) (l17 : List Int) (x19 : Int) : Option (((List Int) × Int) ⊕ ((List Int) ⊕ (Int × Bool))) :=
  if x19 < (p1.length : Int) then (if (0 ≤ x19 ∧ x19 < (p1.length : Int)) then ((sys_judge_step_2 (p1.getD x19.toNat default) p2 p3 l17).bind fun y20 => if y20.2.2 = true then (if (l17.length : Int) < y20.1 then (some (.inr (.inr (0, false)))) else (if (0 ≤ (IntKind.wrap .i64 ((l17.length : Int) - y20.1)) ∧ (IntKind.wrap .i64 ((l17.length : Int) - y20.1)) ≤ (l17.length : Int)) ∧ room (((IntKind.wrap .i64 ((l17.length : Int) - y20.1)).toNat) + 1) 1 then (some (.inl (((l17.take ((IntKind.wrap .i64 ((l17.length : Int) - y20.1)).toNat)) ++ (lit ([y20.2.1] : List Int))), (IntKind.wrap .i64 (x19 + 1))))) else none)) else (some (.inr (.inr (0, false))))) else none) else (some (.inr (.inl l17)))

noncomputable def sys_judge_tree (p1 : List TPush) (p2 : Int) (p3 : Tjudge) : Option (Int × Bool) :=
  (loop (fun (l17, x19) => sys_judge_tree_l1 p1 p2 p3 l17 x19) ([], 0)).bind (Sum.elim (fun z21 => sys_judge_tree_j1 z21) (fun z22 => some z22))
end Pam

/- what sys_judge_each computes, read off the program by a program of ours -/
namespace Pam
open Go
noncomputable def sys_judge_each_j2 (p1 : TRule) (p2 : TVar) (p4 : Tjudge) (x1 : Int) : Option Bool :=
  (sys_judge_tree p1.e x1 p4).bind fun y3 => if y3.2 = true then (some (y3.1 == p2.elem)) else (some false)

noncomputable def sys_judge_each_j1 (p1 : TRule) (p2 : TVar) (p4 : Tjudge) (x1 : Int) : Option Bool :=
  (kinds_Op p1.k).bind fun y2 => if ¬ p1.op = 14 then (if ¬ y2.1 = p2.elem then (some false) else (sys_judge_each_j2 p1 p2 p4 x1)) else (sys_judge_each_j2 p1 p2 p4 x1)

noncomputable def sys_judge_each (p1 : TRule) (p2 : TVar) (p3 : TVar) (p4 : Tjudge) : Option Bool :=
  if p1.op = 15 then (if p1.n < 1 then (some false) else (if p1.n > 300 then (some false) else ((kinds_Folds p1.k).bind fun y4 => if y4 = true then (if p3.elem = p2.elem ∧ p3.n = p2.n then (if p2.n > 0 then (some false) else (sys_judge_each_j1 p1 p2 p4 p1.n)) else (some false)) else (some false)))) else (if p1.op = 16 then ((kinds_Folds p1.k).bind fun y5 => if y5 = true then (if p2.n = 0 then (some false) else ((sys_scalar p2.elem).bind fun y6 => if p3.elem = ((y6).elem) ∧ p3.n = ((y6).n) then (sys_judge_each_j1 p1 p2 p4 (if 1 > p2.n then 1 else p2.n)) else (some false))) else (some false)) else (sys_judge_each_j1 p1 p2 p4 (if 1 > p2.n then 1 else p2.n)))
end Pam

/- what sys_judge_fits computes, read off the program by a program of ours -/
namespace Pam
open Go
noncomputable def sys_judge_fits_j3 (p1 : TRule) (p2 : Tjudge) (x1 : Int) (x2 : Int) (b10 : Bool) : Option Bool :=
  if b10 = true then (if (0 ≤ 0 ∧ 0 < (p1.a.length : Int)) then ((sys_judge_elem (p1.a.getD 0 default) p2).bind fun y11 => if y11.2 = true then (if (0 ≤ 1 ∧ 1 < (p1.a.length : Int)) ∧ (0 ≤ (p1.a.getD 1 default) ∧ (p1.a.getD 1 default) < (p2.system.vars.length : Int)) then ((sys_scalar 105).bind fun y12 => if ((p2.system.vars.getD ((p1.a.getD 1 default).toNat) default).elem) = ((y12).elem) ∧ ((p2.system.vars.getD ((p1.a.getD 1 default).toNat) default).n) = ((y12).n) then (if (0 ≤ 2 ∧ 2 < (p1.a.length : Int)) ∧ (0 ≤ (p1.a.getD 2 default) ∧ (p1.a.getD 2 default) < (p2.system.vars.length : Int)) then (if ((p2.system.vars.getD ((p1.a.getD 2 default).toNat) default).elem) = ((y11.1).elem) ∧ ((p2.system.vars.getD ((p1.a.getD 2 default).toNat) default).n) = ((y11.1).n) then (if p1.op = 9 then (if ((p2.system.vars.getD p1.out_.toNat default).elem) = ((y11.1).elem) ∧ ((p2.system.vars.getD p1.out_.toNat default).n) = ((y11.1).n) then (some true) else (if p1.op = 10 then (some ((((p2.system.vars.getD p1.out_.toNat default).elem) == x1) && (((p2.system.vars.getD p1.out_.toNat default).n) == x2))) else (some false))) else (if p1.op = 10 then (some ((((p2.system.vars.getD p1.out_.toNat default).elem) == x1) && (((p2.system.vars.getD p1.out_.toNat default).n) == x2))) else (some false))) else (some false)) else none) else (some false)) else none) else (some false)) else none) else (if p1.op = 11 then (if x2 > 0 then (if ((p2.system.vars.getD p1.out_.toNat default).n) > 0 then (if x1 = ((p2.system.vars.getD p1.out_.toNat default).elem) then (if p1.n ≥ 0 then (some (decide (p1.n ≤ (IntKind.wrap .i64 (x2 - ((p2.system.vars.getD p1.out_.toNat default).n)))))) else (some false)) else (some false)) else (some false)) else (some false)) else (if p1.op = 12 then (if (0 ≤ 1 ∧ 1 < (p1.a.length : Int)) ∧ (0 ≤ (p1.a.getD 1 default) ∧ (p1.a.getD 1 default) < (p2.system.vars.length : Int)) then (if x2 > 0 then (if ((p2.system.vars.getD ((p1.a.getD 1 default).toNat) default).n) > 0 then (if x1 = ((p2.system.vars.getD ((p1.a.getD 1 default).toNat) default).elem) then (some ((((p2.system.vars.getD p1.out_.toNat default).elem) == x1) && (((p2.system.vars.getD p1.out_.toNat default).n) == (IntKind.wrap .i64 (x2 + ((p2.system.vars.getD ((p1.a.getD 1 default).toNat) default).n)))))) else (some false)) else (some false)) else (some false)) else none) else (if p1.op = 13 then (if (0 ≤ 0 ∧ 0 < (p1.a.length : Int)) ∧ (0 ≤ 1 ∧ 1 < (p1.a.length : Int)) then ((sys_judge_same_2 p2 (lit ([(p1.a.getD 0 default), (p1.a.getD 1 default), p1.out_] : List Int))).bind fun y13 => some y13) else none) else ((sys_judge_each p1 (p2.system.vars.getD p1.out_.toNat default) (TVar.mk x1 x2) p2).bind fun y14 => some y14))))

noncomputable def sys_judge_fits_j2 (p1 : TRule) (p2 : Tjudge) (x1 : Int) (x2 : Int) (y3 : (Int × Int × Int)) (b7 : Bool) : Option Bool :=
  if b7 = true then (if (0 ≤ 1 ∧ 1 < (p1.a.length : Int)) ∧ (0 ≤ (p1.a.getD 1 default) ∧ (p1.a.getD 1 default) < (p2.system.vars.length : Int)) then ((kinds_Folds p1.k).bind fun y8 => if y8 = true then ((sys_scalar y3.1).bind fun y9 => if x1 = ((y9).elem) ∧ x2 = ((y9).n) then (if ((p2.system.vars.getD ((p1.a.getD 1 default).toNat) default).n) > 0 then (if ((p2.system.vars.getD ((p1.a.getD 1 default).toNat) default).elem) = y3.1 then (if p1.op = 6 then (if ((p2.system.vars.getD p1.out_.toNat default).elem) = x1 ∧ ((p2.system.vars.getD p1.out_.toNat default).n) = x2 then (some true) else (if p1.op = 7 then (some ((((p2.system.vars.getD p1.out_.toNat default).elem) == ((p2.system.vars.getD ((p1.a.getD 1 default).toNat) default).elem)) && (((p2.system.vars.getD p1.out_.toNat default).n) == ((p2.system.vars.getD ((p1.a.getD 1 default).toNat) default).n)))) else (some false))) else (if p1.op = 7 then (some ((((p2.system.vars.getD p1.out_.toNat default).elem) == ((p2.system.vars.getD ((p1.a.getD 1 default).toNat) default).elem)) && (((p2.system.vars.getD p1.out_.toNat default).n) == ((p2.system.vars.getD ((p1.a.getD 1 default).toNat) default).n)))) else (some false))) else (some false)) else (some false)) else (some false)) else (some false)) else none) else (if p1.op = 8 then (if x2 = 0 then (if ((p2.system.vars.getD p1.out_.toNat default).n) > 0 then (some (((p2.system.vars.getD p1.out_.toNat default).elem) == x1)) else (some false)) else (some false)) else (if p1.op = 9 then (sys_judge_fits_j3 p1 p2 x1 x2 (p1.op == 9)) else (sys_judge_fits_j3 p1 p2 x1 x2 (p1.op == 10))))

noncomputable def sys_judge_fits_j1 (p1 : TRule) (p2 : Tjudge) (x1 : Int) (x2 : Int) : Option Bool :=
  (kinds_Op p1.k).bind fun y3 => if p1.op = 1 then (if ((p2.system.vars.getD p1.out_.toNat default).n) = 0 then (if ((p2.system.vars.getD p1.out_.toNat default).elem) = 105 then (some true) else (if p1.n = 0 then (some true) else (some (p1.n == 1)))) else (some false)) else (if p1.op = 2 then (some ((x1 == ((p2.system.vars.getD p1.out_.toNat default).elem)) && (x2 == ((p2.system.vars.getD p1.out_.toNat default).n)))) else (if p1.op = 3 then (if y3.2.2 = 1 then (if x1 = y3.1 then (if ((p2.system.vars.getD p1.out_.toNat default).elem) = y3.2.1 then (some (((p2.system.vars.getD p1.out_.toNat default).n) == x2)) else (some false)) else (some false)) else (some false)) else (if p1.op = 4 then (if y3.2.2 = 2 then (if x1 = y3.1 then (if ((p2.system.vars.getD p1.out_.toNat default).elem) = y3.2.1 then (if ((p2.system.vars.getD p1.out_.toNat default).n) = x2 then ((sys_judge_same p1.a p2).bind fun y4 => some y4) else (some false)) else (some false)) else (some false)) else (some false)) else (if p1.op = 5 then ((sys_scalar 98).bind fun y5 => if x1 = ((y5).elem) ∧ x2 = ((y5).n) then (if (0 ≤ 1 ∧ 1 < (p1.a.length : Int)) ∧ (0 ≤ 2 ∧ 2 < (p1.a.length : Int)) then ((sys_judge_same_2 p2 (lit ([(p1.a.getD 1 default), (p1.a.getD 2 default), p1.out_] : List Int))).bind fun y6 => some y6) else none) else (some false)) else (if p1.op = 6 then (sys_judge_fits_j2 p1 p2 x1 x2 y3 (p1.op == 6)) else (sys_judge_fits_j2 p1 p2 x1 x2 y3 (p1.op == 7)))))))

noncomputable def sys_judge_fits (p1 : TRule) (p2 : Tjudge) : Option Bool :=
  if (0 ≤ p1.out_ ∧ p1.out_ < (p2.system.vars.length : Int)) then (if (p1.a.length : Int) > 0 then (if (0 ≤ 0 ∧ 0 < (p1.a.length : Int)) ∧ (0 ≤ (p1.a.getD 0 default) ∧ (p1.a.getD 0 default) < (p2.system.vars.length : Int)) then (sys_judge_fits_j1 p1 p2 ((p2.system.vars.getD ((p1.a.getD 0 default).toNat) default).elem) ((p2.system.vars.getD ((p1.a.getD 0 default).toNat) default).n)) else none) else (sys_judge_fits_j1 p1 p2 0 0)) else none
end Pam

/- what sys_judge_rule computes, read off the program by a program of ours -/
namespace Pam
open Go
noncomputable def sys_judge_rule_j4 (p1 : TRule) (p2 : Tjudge) (x7 : Int) : Option (Int × Int) :=
  if x7 = 0 then ((sys_judge_fits p1 (Tjudge.mk p2.system x7)).bind fun y8 => (sys_judge_fail (!y8) 10 (Tjudge.mk p2.system x7)).bind fun y9 => some (y9, y9)) else (some (x7, x7))

noncomputable def sys_judge_rule_l1 (p2 : Tjudge) (l6 : List Int) (x14 : Int) (x15 : Int) : Option ((Int × Int) ⊕ Int) :=
  if x15 < (l6.length : Int) then (if (0 ≤ x15 ∧ x15 < (l6.length : Int)) then ((sys_judge_is (l6.getD x15.toNat default) (Tjudge.mk p2.system x14)).bind fun y16 => (sys_judge_fail (!y16) 16 (Tjudge.mk p2.system x14)).bind fun y17 => some (.inl (y17, (IntKind.wrap .i64 (x15 + 1))))) else none) else (some (.inr x14))

noncomputable def sys_judge_rule_j3 (p1 : TRule) (p2 : Tjudge) (y5 : Int) (l6 : List Int) : Option (Int × Int) :=
  (loop (fun (x14, x15) => sys_judge_rule_l1 p2 l6 x14 x15) (y5, 0)).bind (fun z18 => sys_judge_rule_j4 p1 p2 z18)

noncomputable def sys_judge_rule_j2 (p1 : TRule) (p2 : Tjudge) (x4 : Int) : Option (Int × Int) :=
  (sys_judge_fail (decide ((p1.e.length : Int) > 24)) 7 (Tjudge.mk p2.system x4)).bind fun y5 => if ¬ y5 = 0 then (some (y5, y5)) else (if p1.op ≥ 14 then ((sys_Uses p1).bind fun y19 => sys_judge_rule_j3 p1 p2 y5 y19) else (sys_judge_rule_j3 p1 p2 y5 p1.a))

noncomputable def sys_judge_rule_j1 (p1 : TRule) (p2 : Tjudge) (x3 : Int) : Option (Int × Int) :=
  (sys_parts p1.op).bind fun y20 => if y20 < 0 then ((sys_judge_fail true 4 (Tjudge.mk p2.system x3)).bind fun y21 => sys_judge_rule_j2 p1 p2 y21) else ((sys_parts p1.op).bind fun y22 => (sys_judge_fail ((p1.a.length : Int) != y22) 4 (Tjudge.mk p2.system x3)).bind fun y23 => sys_judge_rule_j2 p1 p2 y23)

noncomputable def sys_judge_rule (p1 : TRule) (p2 : Tjudge) (p3 : List Bool) : Option (Int × Int) :=
  (sys_judge_is p1.out_ (Tjudge.mk p2.system 0)).bind fun y1 => (sys_judge_fail (!y1) 16 (Tjudge.mk p2.system 0)).bind fun y2 => if y2 = 0 then (if (0 ≤ p1.out_ ∧ p1.out_ < (p3.length : Int)) then ((sys_judge_fail (p3.getD p1.out_.toNat default) 8 (Tjudge.mk p2.system y2)).bind fun y24 => sys_judge_rule_j1 p1 p2 y24) else none) else ((sys_judge_fail false 8 (Tjudge.mk p2.system y2)).bind fun y25 => sys_judge_rule_j1 p1 p2 y25)
end Pam

/- what sys_Check computes, read off the program by a program of ours -/
namespace Pam
open Go
noncomputable def sys_Check_j4 : Option TFault :=
  some (TFault.mk 0 0)

noncomputable def sys_Check_l1 (p1 : TSystem) (l6 : List Bool) (x9 : Int) : Option (Int ⊕ (Unit ⊕ TFault)) :=
  if x9 < (p1.out_.length : Int) then (if (0 ≤ x9 ∧ x9 < (p1.out_.length : Int)) then (if (0 ≤ (p1.out_.getD x9.toNat default) ∧ (p1.out_.getD x9.toNat default) < (l6.length : Int)) then (if (l6.getD ((p1.out_.getD x9.toNat default).toNat) default) = true then (some (.inl (IntKind.wrap .i64 (x9 + 1)))) else (some (.inr (.inr (TFault.mk 9 (-1)))))) else none) else none) else (some (.inr (.inl ())))

noncomputable def sys_Check_j3 (p1 : TSystem) (l6 : List Bool) : Option TFault :=
  (loop (fun x9 => sys_Check_l1 p1 l6 x9) 0).bind (Sum.elim (fun _ => sys_Check_j4) (fun z10 => some z10))

noncomputable def sys_Check_j5 (x13 : Int) : Option (Int ⊕ (Unit ⊕ TFault)) :=
  some (.inl (IntKind.wrap .i64 (x13 + 1)))

noncomputable def sys_Check_l3 (l6 : List Bool) (x13 : Int) (l14 : List Int) (x17 : Int) : Option (Int ⊕ (Unit ⊕ TFault)) :=
  if x17 < (l14.length : Int) then (if (0 ≤ x17 ∧ x17 < (l14.length : Int)) then (if (0 ≤ (l14.getD x17.toNat default) ∧ (l14.getD x17.toNat default) < (l6.length : Int)) then (if (l6.getD ((l14.getD x17.toNat default).toNat) default) = true then (some (.inl (IntKind.wrap .i64 (x17 + 1)))) else (some (.inr (.inr (TFault.mk 9 x13))))) else none) else none) else (some (.inr (.inl ())))

noncomputable def sys_Check_j6 (l6 : List Bool) (x13 : Int) (l14 : List Int) : Option (Int ⊕ (Unit ⊕ TFault)) :=
  (loop (fun x17 => sys_Check_l3 l6 x13 l14 x17) 0).bind (Sum.elim (fun _ => sys_Check_j5 x13) (fun z18 => some (.inr (.inr z18))))

noncomputable def sys_Check_l2 (p1 : TSystem) (l6 : List Bool) (x13 : Int) : Option (Int ⊕ (Unit ⊕ TFault)) :=
  if x13 < (p1.rules.length : Int) then (if (0 ≤ x13 ∧ x13 < (p1.rules.length : Int)) then (if ((p1.rules.getD x13.toNat default).op) ≥ 14 then ((sys_Uses (p1.rules.getD x13.toNat default)).bind fun y19 => sys_Check_j6 l6 x13 y19) else (sys_Check_j6 l6 x13 ((p1.rules.getD x13.toNat default).a))) else none) else (some (.inr (.inl ())))

noncomputable def sys_Check_j2 (p1 : TSystem) (x5 : Int) (l6 : List Bool) : Option TFault :=
  (loop (fun x13 => sys_Check_l2 p1 l6 x13) 0).bind (Sum.elim (fun _ => sys_Check_j3 p1 l6) (fun z20 => some z20))

noncomputable def sys_Check_l4 (p1 : TSystem) (x30 : Int) (l31 : List Bool) (x32 : Int) : Option ((Int × (List Bool) × Int) ⊕ ((Int × (List Bool)) ⊕ TFault)) :=
  if x32 < (p1.rules.length : Int) then (if (0 ≤ x32 ∧ x32 < (p1.rules.length : Int)) then ((sys_judge_rule (p1.rules.getD x32.toNat default) (Tjudge.mk p1 x30) l31).bind fun y33 => if ¬ y33.1 = 0 then (some (.inr (.inr (TFault.mk y33.1 x32)))) else (if (0 ≤ (p1.rules.getD x32.toNat default).out_ ∧ (p1.rules.getD x32.toNat default).out_ < (l31.length : Int)) then (some (.inl (y33.2, (l31.set (((p1.rules.getD x32.toNat default).out_).toNat) true), (IntKind.wrap .i64 (x32 + 1))))) else none)) else none) else (some (.inr (.inl (x30, l31))))

noncomputable def sys_Check_j1 (p1 : TSystem) (l3 : List Bool) : Option TFault :=
  (loop (fun (x30, l31, x32) => sys_Check_l4 p1 x30 l31 x32) (0, l3, 0)).bind (Sum.elim (fun (z34, z35) => sys_Check_j2 p1 z34 z35) (fun z36 => some z36))

noncomputable def sys_Check_l5 (p1 : TSystem) (l44 : List Bool) (x45 : Int) : Option (((List Bool) × Int) ⊕ (List Bool)) :=
  if x45 < (p1.in_.length : Int) then (if (0 ≤ x45 ∧ x45 < (p1.in_.length : Int)) then (if (0 ≤ (p1.in_.getD x45.toNat default) ∧ (p1.in_.getD x45.toNat default) < (l44.length : Int)) then (some (.inl ((l44.set ((p1.in_.getD x45.toNat default).toNat) true), (IntKind.wrap .i64 (x45 + 1))))) else none) else none) else (some (.inr l44))

noncomputable def sys_Check (p1 : TSystem) : Option TFault :=
  (sys_judge_head (Tjudge.mk p1 0)).bind fun y1 => if ¬ ((y1).code) = 0 then (some (y1)) else (if (0 ≤ (p1.vars.length : Int) ∧ (p1.vars.length : Int) ≤ (p1.vars.length : Int)) ∧ room p1.vars.length 1 then ((loop (fun (l44, x45) => sys_Check_l5 p1 l44 x45) ((List.replicate p1.vars.length false), 0)).bind (fun z46 => sys_Check_j1 p1 z46)) else none)
end Pam

/- what sys_divide computes, read off the program by a program of ours -/
namespace Pam
open Go
noncomputable def sys_divide (p1 : Int) (p2 : Int) (p3 : Int) : Option Int :=
  if p3 = 0 then (some 0) else (if p1 = 4 then (if p3 ≠ 0 then (some (IntKind.wrap .i64 (p2.tdiv p3))) else none) else (if p3 ≠ 0 then (some (p2.tmod p3)) else none))
end Pam

/- what sys_truth computes, read off the program by a program of ours -/
namespace Pam
open Go
noncomputable def sys_truth (p1 : Bool) : Option Int :=
  if p1 = true then (some 1) else (some 0)
end Pam

/- what sys_Apply computes, read off the program by a program of ours -/
namespace Pam
open Go
noncomputable def sys_Apply_j1 (p1 : Int) (p2 : Int) (p3 : Int) (b1 : Bool) : Option Int :=
  if b1 = true then ((sys_divide p1 p2 p3).bind fun y2 => some y2) else (if p1 = 6 then (some (if p3 < p2 then p3 else p2)) else (if p1 = 7 then (some (if p3 > p2 then p3 else p2)) else (if p1 = 8 then ((sys_truth (decide (p2 < p3))).bind fun y3 => some y3) else (if p1 = 9 then ((sys_truth (p2 == p3)).bind fun y4 => some y4) else (if p1 = 10 then (if ¬ p2 = 0 then ((sys_truth (p3 != 0)).bind fun y5 => some y5) else ((sys_truth false).bind fun y6 => some y6)) else (if p1 = 11 then (if ¬ p2 = 0 then ((sys_truth true).bind fun y7 => some y7) else ((sys_truth (p3 != 0)).bind fun y8 => some y8)) else (if p1 = 12 then ((sys_truth (!((p2 != 0) == (p3 != 0)))).bind fun y9 => some y9) else (if p1 = 13 then (some (IntKind.wrap .i64 (0 - p2))) else (if p1 = 14 then ((sys_truth (p2 == 0)).bind fun y10 => some y10) else (some 0))))))))))

noncomputable def sys_Apply (p1 : Int) (p2 : Int) (p3 : Int) : Option Int :=
  if p1 = 1 then (some (IntKind.wrap .i64 (p2 + p3))) else (if p1 = 2 then (some (IntKind.wrap .i64 (p2 - p3))) else (if p1 = 3 then (some (IntKind.wrap .i64 (p2 * p3))) else (if p1 = 4 then (sys_Apply_j1 p1 p2 p3 (p1 == 4)) else (sys_Apply_j1 p1 p2 p3 (p1 == 5)))))
end Pam

/- what ref_SameInts computes, read off the program by a program of ours -/
namespace Pam
open Go
noncomputable def ref_SameInts_j1 : Option Bool :=
  some true

noncomputable def ref_SameInts_l1 (p1 : List Int) (p2 : List Int) (x3 : Int) : Option (Int ⊕ (Unit ⊕ Bool)) :=
  if x3 < (p1.length : Int) then (if (0 ≤ x3 ∧ x3 < (p1.length : Int)) ∧ (0 ≤ x3 ∧ x3 < (p2.length : Int)) then (if ¬ (p1.getD x3.toNat default) = (p2.getD x3.toNat default) then (some (.inr (.inr false))) else (some (.inl (IntKind.wrap .i64 (x3 + 1))))) else none) else (some (.inr (.inl ())))

noncomputable def ref_SameInts (p1 : List Int) (p2 : List Int) : Option Bool :=
  if ¬ (p1.length : Int) = (p2.length : Int) then (some false) else ((loop (fun x3 => ref_SameInts_l1 p1 p2 x3) 0).bind (Sum.elim (fun _ => ref_SameInts_j1) (fun z4 => some z4)))
end Pam

/- what law_sysBegun computes, read off the program by a program of ours -/
namespace Pam
open Go
noncomputable def law_sysBegun : Option Bool :=
  (sys_Apply 4 (-7) 2).bind fun y1 => if y1 = (-3) then ((sys_Uses (TRule.mk 14 0 0 0 (lit ([4] : List Int)) (lit ([(TPush.mk 3 0 3 0), (TPush.mk 1 0 9 0)] : List TPush)))).bind fun y2 => (ref_SameInts y2 (lit ([3, 4] : List Int))).bind fun y3 => if y3 = true then ((sys_Check (TSystem.mk [] [] (lit ([0] : List Int)) [])).bind fun y4 => some (((y4).code) == 16)) else (some false)) else (some false)
end Pam

/- what ref_Cells computes, read off the program by a program of ours -/
namespace Pam
open Go
noncomputable def ref_Cells (p1 : Int) : Option Int :=
  if p1 < 1 then (some 1) else (some p1)
end Pam

/- what ref_GreatSystem computes, read off the program by a program of ours -/
namespace Pam
open Go
noncomputable def ref_GreatSystem_j2 (p2 : Int) (x2 : Int) : Option Bool :=
  some (decide (x2 > (IntKind.wrap .i64 (100 * p2))))

noncomputable def ref_GreatSystem_j3 (p1 : TSystem) (x7 : Int) (x8 : Int) : Option ((Int × Int) ⊕ (Int ⊕ Bool)) :=
  some (.inl ((IntKind.wrap .i64 (x7 + (IntKind.wrap .i64 ((((p1.rules.getD x8.toNat default).a).length : Int) + (((p1.rules.getD x8.toNat default).e).length : Int))))), (IntKind.wrap .i64 (x8 + 1))))

noncomputable def ref_GreatSystem_l1 (p1 : TSystem) (x7 : Int) (x8 : Int) : Option ((Int × Int) ⊕ (Int ⊕ Bool)) :=
  if x8 < (p1.rules.length : Int) then (if (0 ≤ x8 ∧ x8 < (p1.rules.length : Int)) then (if (((p1.rules.getD x8.toNat default).a).length : Int) > 100 then (some (.inr (.inr true))) else (if (((p1.rules.getD x8.toNat default).e).length : Int) > 1000 then (some (.inr (.inr true))) else (if ((p1.rules.getD x8.toNat default).op) = 15 then (if ((p1.rules.getD x8.toNat default).n) > 1000 then (some (.inr (.inr true))) else (ref_GreatSystem_j3 p1 x7 x8)) else (ref_GreatSystem_j3 p1 x7 x8)))) else none) else (some (.inr (.inl x7)))

noncomputable def ref_GreatSystem_j1 (p1 : TSystem) (p2 : Int) (x1 : Int) : Option Bool :=
  (loop (fun (x7, x8) => ref_GreatSystem_l1 p1 x7 x8) (x1, 0)).bind (Sum.elim (fun z9 => ref_GreatSystem_j2 p2 z9) (fun z10 => some z10))

noncomputable def ref_GreatSystem_l2 (p1 : TSystem) (x15 : Int) (x16 : Int) : Option ((Int × Int) ⊕ (Int ⊕ Bool)) :=
  if x16 < (p1.vars.length : Int) then (if (0 ≤ x16 ∧ x16 < (p1.vars.length : Int)) then (if ((p1.vars.getD x16.toNat default).n) > 1000 then (some (.inr (.inr true))) else ((ref_Cells ((p1.vars.getD x16.toNat default).n)).bind fun y17 => some (.inl ((IntKind.wrap .i64 (x15 + y17)), (IntKind.wrap .i64 (x16 + 1)))))) else none) else (some (.inr (.inl x15)))

noncomputable def ref_GreatSystem (p1 : TSystem) (p2 : Int) : Option Bool :=
  if (p1.vars.length : Int) > p2 then (some true) else (if (p1.rules.length : Int) > p2 then (some true) else (if (p1.in_.length : Int) > p2 then (some true) else (if (p1.out_.length : Int) > p2 then (some true) else ((loop (fun (x15, x16) => ref_GreatSystem_l2 p1 x15 x16) (0, 0)).bind (Sum.elim (fun z18 => ref_GreatSystem_j1 p1 p2 z18) (fun z19 => some z19))))))
end Pam

/- what ref_copyRule computes, read off the program by a program of ours -/
namespace Pam
open Go
noncomputable def ref_copyRule (p1 : TRule) : Option TRule :=
  if room p1.a.length 8 then (if room p1.e.length 32 then (some p1) else none) else none
end Pam

/- what ref_CopySystem computes, read off the program by a program of ours -/
namespace Pam
open Go
noncomputable def ref_CopySystem_j1 (p1 : TSystem) (l3 : List TRule) : Option TSystem :=
  some (TSystem.mk p1.vars p1.in_ p1.out_ l3)

noncomputable def ref_CopySystem_l1 (p1 : TSystem) (l17 : List TRule) (x19 : Int) : Option (((List TRule) × Int) ⊕ (List TRule)) :=
  if x19 < (p1.rules.length : Int) then (if (0 ≤ x19 ∧ x19 < (p1.rules.length : Int)) then ((ref_copyRule (p1.rules.getD x19.toNat default)).bind fun y20 => if room (l17.length + 1) 80 then (some (.inl ((l17 ++ (lit ([(y20)] : List TRule))), (IntKind.wrap .i64 (x19 + 1))))) else none) else none) else (some (.inr l17))

noncomputable def ref_CopySystem (p1 : TSystem) : Option TSystem :=
  if room p1.vars.length 16 ∧ room p1.in_.length 8 ∧ room p1.out_.length 8 then ((loop (fun (l17, x19) => ref_CopySystem_l1 p1 l17 x19) ([], 0)).bind (fun z21 => ref_CopySystem_j1 p1 z21)) else none
end Pam

/- what ref_F computes, read off the program by a program of ours -/
namespace Pam
open Go
noncomputable def ref_F (p1 : Int) (p2 : Int) : Option TFault :=
  some (TFault.mk p1 p2)
end Pam

/- what ref_In computes, read off the program by a program of ours -/
namespace Pam
open Go
noncomputable def ref_In_j1 : Option Bool :=
  some false

noncomputable def ref_In_l1 (p1 : List Int) (p2 : Int) (x3 : Int) : Option (Int ⊕ (Unit ⊕ Bool)) :=
  if x3 < (p1.length : Int) then (if (0 ≤ x3 ∧ x3 < (p1.length : Int)) then (if (p1.getD x3.toNat default) = p2 then (some (.inr (.inr true))) else (some (.inl (IntKind.wrap .i64 (x3 + 1))))) else none) else (some (.inr (.inl ())))

noncomputable def ref_In (p1 : List Int) (p2 : Int) : Option Bool :=
  (loop (fun x3 => ref_In_l1 p1 p2 x3) 0).bind (Sum.elim (fun _ => ref_In_j1) (fun z4 => some z4))
end Pam

/- what ref_headOf computes, read off the program by a program of ours -/
namespace Pam
open Go
noncomputable def ref_headOf_j3 : Option TFault :=
  some (TFault.mk 0 0)

noncomputable def ref_headOf_l1 (p1 : TSystem) (x7 : Int) : Option (Int ⊕ (Unit ⊕ TFault)) :=
  if x7 < (p1.out_.length : Int) then (if (0 ≤ x7 ∧ x7 < (p1.out_.length : Int)) then (if (p1.out_.getD x7.toNat default) < 0 then ((ref_F 16 (-1)).bind fun y8 => some (.inr (.inr (y8)))) else (if (p1.out_.getD x7.toNat default) ≥ (p1.vars.length : Int) then ((ref_F 16 (-1)).bind fun y9 => some (.inr (.inr (y9)))) else (some (.inl (IntKind.wrap .i64 (x7 + 1)))))) else none) else (some (.inr (.inl ())))

noncomputable def ref_headOf_j2 (p1 : TSystem) : Option TFault :=
  (loop (fun x7 => ref_headOf_l1 p1 x7) 0).bind (Sum.elim (fun _ => ref_headOf_j3) (fun z10 => some z10))

noncomputable def ref_headOf_l2 (p1 : TSystem) (x13 : Int) : Option (Int ⊕ (Unit ⊕ TFault)) :=
  if x13 < (p1.in_.length : Int) then (if (0 ≤ x13 ∧ x13 < (p1.in_.length : Int)) then (if (p1.in_.getD x13.toNat default) < 0 then ((ref_F 16 (-1)).bind fun y14 => some (.inr (.inr (y14)))) else (if (p1.in_.getD x13.toNat default) ≥ (p1.vars.length : Int) then ((ref_F 16 (-1)).bind fun y15 => some (.inr (.inr (y15)))) else (if (0 ≤ x13 ∧ x13 ≤ (p1.in_.length : Int)) then ((ref_In (p1.in_.take x13.toNat) (p1.in_.getD x13.toNat default)).bind fun y16 => if y16 = true then ((ref_F 8 (-1)).bind fun y17 => some (.inr (.inr (y17)))) else (some (.inl (IntKind.wrap .i64 (x13 + 1))))) else none))) else none) else (some (.inr (.inl ())))

noncomputable def ref_headOf_j1 (p1 : TSystem) : Option TFault :=
  (loop (fun x13 => ref_headOf_l2 p1 x13) 0).bind (Sum.elim (fun _ => ref_headOf_j2 p1) (fun z18 => some z18))

noncomputable def ref_headOf_j4 (p1 : TSystem) (x21 : Int) : Option (Int ⊕ (Unit ⊕ TFault)) :=
  if (0 ≤ x21 ∧ x21 < (p1.vars.length : Int)) then (if ((p1.vars.getD x21.toNat default).n) < 0 then ((ref_F 13 (IntKind.wrap .i64 ((-2) - x21))).bind fun y22 => some (.inr (.inr (y22)))) else (if ((p1.vars.getD x21.toNat default).n) > 300 then ((ref_F 13 (IntKind.wrap .i64 ((-2) - x21))).bind fun y23 => some (.inr (.inr (y23)))) else (some (.inl (IntKind.wrap .i64 (x21 + 1)))))) else none

noncomputable def ref_headOf_l3 (p1 : TSystem) (x21 : Int) : Option (Int ⊕ (Unit ⊕ TFault)) :=
  if x21 < (p1.vars.length : Int) then (if (0 ≤ x21 ∧ x21 < (p1.vars.length : Int)) then (if ¬ ((p1.vars.getD x21.toNat default).elem) = 105 then (if ¬ ((p1.vars.getD x21.toNat default).elem) = 98 then ((ref_F 10 (IntKind.wrap .i64 ((-2) - x21))).bind fun y24 => some (.inr (.inr (y24)))) else (ref_headOf_j4 p1 x21)) else (ref_headOf_j4 p1 x21)) else none) else (some (.inr (.inl ())))

noncomputable def ref_headOf (p1 : TSystem) : Option TFault :=
  if (p1.vars.length : Int) > 400 then ((ref_F 7 (-1)).bind fun y1 => some (y1)) else (if (p1.in_.length : Int) > 400 then ((ref_F 7 (-1)).bind fun y2 => some (y2)) else (if (p1.out_.length : Int) > 400 then ((ref_F 7 (-1)).bind fun y3 => some (y3)) else (if (p1.rules.length : Int) > 400 then ((ref_F 7 (-1)).bind fun y4 => some (y4)) else ((loop (fun x21 => ref_headOf_l3 p1 x21) 0).bind (Sum.elim (fun _ => ref_headOf_j1 p1) (fun z25 => some z25))))))
end Pam

/- what ref_made computes, read off the program by a program of ours -/
namespace Pam
open Go
noncomputable def ref_made_j1 (l3 : List Int) : Option (List Int) :=
  some l3

noncomputable def ref_made_l1 (p1 : TSystem) (p2 : Int) (l17 : List Int) (x19 : Int) : Option (((List Int) × Int) ⊕ (List Int)) :=
  if x19 < p2 then (if (0 ≤ x19 ∧ x19 < (p1.rules.length : Int)) ∧ room (l17.length + 1) 8 then (some (.inl ((l17 ++ (lit ([(p1.rules.getD x19.toNat default).out_] : List Int))), (IntKind.wrap .i64 (x19 + 1))))) else none) else (some (.inr l17))

noncomputable def ref_made (p1 : TSystem) (p2 : Int) : Option (List Int) :=
  (loop (fun (l17, x19) => ref_made_l1 p1 p2 l17 x19) ([], 0)).bind (fun z20 => ref_made_j1 z20)
end Pam

/- what ref_partsOf computes, read off the program by a program of ours -/
namespace Pam
open Go
noncomputable def ref_partsOf (p1 : Int) : Option Int :=
  if p1 < 0 then (some (-1)) else (if p1 ≥ (17 : Int) then (some (-1)) else (if (0 ≤ p1 ∧ p1 < (17 : Int)) then (some ((lit ([(-1), 0, 1, 1, 2, 3, 2, 2, 1, 3, 3, 1, 2, 2, 0, 1, 1] : List Int)).getD p1.toNat default)) else none))
end Pam

/- what ref_insert computes, read off the program by a program of ours -/
namespace Pam
open Go
noncomputable def ref_insert_j1 (p2 : Int) (l3 : List Int) (b5 : Bool) : Option (List Int) :=
  if b5 = true then (some l3) else (if room (l3.length + 1) 8 then (some (l3 ++ (lit ([p2] : List Int)))) else none)

noncomputable def ref_insert_j2 (p1 : List Int) (x23 : Int) (l26 : List Int) (b28 : Bool) : Option (((List Int) × Bool × Int) ⊕ ((List Int) × Bool)) :=
  if (0 ≤ x23 ∧ x23 < (p1.length : Int)) ∧ room (l26.length + 1) 8 then (some (.inl ((l26 ++ (lit ([(p1.getD x23.toNat default)] : List Int))), b28, (IntKind.wrap .i64 (x23 + 1))))) else none

noncomputable def ref_insert_l1 (p1 : List Int) (p2 : Int) (l20 : List Int) (b22 : Bool) (x23 : Int) : Option (((List Int) × Bool × Int) ⊕ ((List Int) × Bool)) :=
  if x23 < (p1.length : Int) then (if b22 = true then (ref_insert_j2 p1 x23 l20 b22) else (if (0 ≤ x23 ∧ x23 < (p1.length : Int)) then (if (p1.getD x23.toNat default) ≥ p2 then (if (p1.getD x23.toNat default) > p2 then (if room (l20.length + 1) 8 then (ref_insert_j2 p1 x23 (l20 ++ (lit ([p2] : List Int))) true) else none) else (ref_insert_j2 p1 x23 l20 true)) else (ref_insert_j2 p1 x23 l20 b22)) else none)) else (some (.inr (l20, b22)))

noncomputable def ref_insert (p1 : List Int) (p2 : Int) : Option (List Int) :=
  (loop (fun (l20, b22, x23) => ref_insert_l1 p1 p2 l20 b22 x23) ([], false, 0)).bind (fun (z29, z30) => ref_insert_j1 p2 z29 z30)
end Pam

/- what ref_named computes, read off the program by a program of ours -/
namespace Pam
open Go
noncomputable def ref_named (p1 : TPush) : Option Bool :=
  if p1.op = 2 then (some true) else (if p1.op = 3 then (some true) else (some (p1.op == 8)))
end Pam

/- what ref_Uses computes, read off the program by a program of ours -/
namespace Pam
open Go
noncomputable def ref_Uses_j2 (l2 : List Int) : Option (List Int) :=
  some l2

noncomputable def ref_Uses_l1 (p1 : TRule) (l7 : List Int) (x8 : Int) : Option (((List Int) × Int) ⊕ (List Int)) :=
  if x8 < (p1.e.length : Int) then (if (0 ≤ x8 ∧ x8 < (p1.e.length : Int)) then ((ref_named (p1.e.getD x8.toNat default)).bind fun y9 => if y9 = true then ((ref_insert l7 ((p1.e.getD x8.toNat default).v)).bind fun y10 => some (.inl (y10, (IntKind.wrap .i64 (x8 + 1))))) else (some (.inl (l7, (IntKind.wrap .i64 (x8 + 1)))))) else none) else (some (.inr l7))

noncomputable def ref_Uses_j1 (p1 : TRule) (l1 : List Int) : Option (List Int) :=
  (loop (fun (l7, x8) => ref_Uses_l1 p1 l7 x8) (l1, 0)).bind (fun z11 => ref_Uses_j2 z11)

noncomputable def ref_Uses_l2 (p1 : TRule) (l18 : List Int) (x19 : Int) : Option (((List Int) × Int) ⊕ (List Int)) :=
  if x19 < (p1.a.length : Int) then (if (0 ≤ x19 ∧ x19 < (p1.a.length : Int)) then ((ref_insert l18 (p1.a.getD x19.toNat default)).bind fun y20 => some (.inl (y20, (IntKind.wrap .i64 (x19 + 1))))) else none) else (some (.inr l18))

noncomputable def ref_Uses (p1 : TRule) : Option (List Int) :=
  (loop (fun (l18, x19) => ref_Uses_l2 p1 l18 x19) ([], 0)).bind (fun z21 => ref_Uses_j1 p1 z21)
end Pam

/- what ref_used computes, read off the program by a program of ours -/
namespace Pam
open Go
noncomputable def ref_used_j1 (p1 : TRule) (l1 : List TPush) : Option (List Int) :=
  (ref_Uses (TRule.mk p1.op p1.k p1.out_ p1.n p1.a l1)).bind fun y2 => some y2

noncomputable def ref_used (p1 : TRule) : Option (List Int) :=
  if p1.op < 14 then (ref_used_j1 p1 []) else (ref_used_j1 p1 p1.e)
end Pam

/- what ref_OpOf computes, read off the program by a program of ours -/
namespace Pam
open Go
noncomputable def ref_OpOf_j1 (p1 : Int) (x1 : Int) : Option (Int × Int × Int) :=
  if (0 ≤ p1 ∧ p1 < (([63, 105, 105, 105, 105, 105, 105, 105, 105, 105, 98, 98, 98, 105, 98] : List UInt8).length : Int)) ∧ (0 ≤ p1 ∧ p1 < (([63, 105, 105, 105, 105, 105, 105, 105, 98, 98, 98, 98, 98, 105, 98] : List UInt8).length : Int)) then (some (((([63, 105, 105, 105, 105, 105, 105, 105, 105, 105, 98, 98, 98, 105, 98] : List UInt8).getD p1.toNat 0).toNat : Int), ((([63, 105, 105, 105, 105, 105, 105, 105, 98, 98, 98, 98, 98, 105, 98] : List UInt8).getD p1.toNat 0).toNat : Int), x1)) else none

noncomputable def ref_OpOf (p1 : Int) : Option (Int × Int × Int) :=
  if p1 < 1 then (some (0, 0, 0)) else (if p1 > 14 then (some (0, 0, 0)) else (if p1 ≥ 13 then (ref_OpOf_j1 p1 1) else (ref_OpOf_j1 p1 2)))
end Pam

/- what ref_Folds computes, read off the program by a program of ours -/
namespace Pam
open Go
noncomputable def ref_Folds (p1 : Int) : Option Bool :=
  (ref_OpOf p1).bind fun y1 => if y1.2.2 = 2 then (some (y1.1 == y1.2.1)) else (some false)
end Pam

/- what ref_small6 computes, read off the program by a program of ours -/
namespace Pam
open Go
noncomputable def ref_small6 (p1 : Int) : Option Bool :=
  if p1 ≥ (-1000000) then (some (decide (p1 ≤ 1000000))) else (some false)
end Pam

/- what ref_Tree computes, read off the program by a program of ours -/
namespace Pam
open Go
noncomputable def ref_Tree_j1 (l3 : List Int) : Option Int :=
  if ¬ (l3.length : Int) = 1 then (some 0) else (if (0 ≤ 0 ∧ 0 < (l3.length : Int)) then (some (l3.getD 0 default)) else none)

noncomputable def ref_Tree_l1 (p1 : TSystem) (p2 : List TPush) (p3 : Int) (l17 : List Int) (x19 : Int) : Option (((List Int) × Int) ⊕ ((List Int) ⊕ Int)) :=
  if x19 < (p2.length : Int) then (if (0 ≤ x19 ∧ x19 < (p2.length : Int)) then (if ((p2.getD x19.toNat default).op) = 1 then (if ((p2.getD x19.toNat default).k) = 0 then (if room (l17.length + 1) 1 then (some (.inl ((l17 ++ (lit ([105] : List Int))), (IntKind.wrap .i64 (x19 + 1))))) else none) else (if ((p2.getD x19.toNat default).k) = 1 then (if ((p2.getD x19.toNat default).n) = 0 then (if room (l17.length + 1) 1 then (some (.inl ((l17 ++ (lit ([98] : List Int))), (IntKind.wrap .i64 (x19 + 1))))) else none) else (if ((p2.getD x19.toNat default).n) = 1 then (if room (l17.length + 1) 1 then (some (.inl ((l17 ++ (lit ([98] : List Int))), (IntKind.wrap .i64 (x19 + 1))))) else none) else (some (.inr (.inr 0))))) else (some (.inr (.inr 0))))) else (if ((p2.getD x19.toNat default).op) = 2 then (if (0 ≤ (p2.getD x19.toNat default).v ∧ (p2.getD x19.toNat default).v < (p1.vars.length : Int)) then (if ¬ ((p1.vars.getD (((p2.getD x19.toNat default).v).toNat) default).n) = 0 then (some (.inr (.inr 0))) else (if room (l17.length + 1) 1 then (some (.inl ((l17 ++ (lit ([(p1.vars.getD (((p2.getD x19.toNat default).v).toNat) default).elem] : List Int))), (IntKind.wrap .i64 (x19 + 1))))) else none)) else none) else (if ((p2.getD x19.toNat default).op) = 3 then (if (0 ≤ (p2.getD x19.toNat default).v ∧ (p2.getD x19.toNat default).v < (p1.vars.length : Int)) then (if ((p1.vars.getD (((p2.getD x19.toNat default).v).toNat) default).n) = 0 then (some (.inr (.inr 0))) else (if ((p2.getD x19.toNat default).n) < 0 then (some (.inr (.inr 0))) else (if ((p1.vars.getD (((p2.getD x19.toNat default).v).toNat) default).n) < p3 then (some (.inr (.inr 0))) else (if ((p2.getD x19.toNat default).n) > (IntKind.wrap .i64 (((p1.vars.getD (((p2.getD x19.toNat default).v).toNat) default).n) - p3)) then (some (.inr (.inr 0))) else (if room (l17.length + 1) 1 then (some (.inl ((l17 ++ (lit ([(p1.vars.getD (((p2.getD x19.toNat default).v).toNat) default).elem] : List Int))), (IntKind.wrap .i64 (x19 + 1))))) else none))))) else none) else (if ((p2.getD x19.toNat default).op) = 4 then ((ref_small6 ((p2.getD x19.toNat default).n)).bind fun y20 => if y20 = true then (if room (l17.length + 1) 1 then (some (.inl ((l17 ++ (lit ([105] : List Int))), (IntKind.wrap .i64 (x19 + 1))))) else none) else (some (.inr (.inr 0)))) else (if ((p2.getD x19.toNat default).op) = 5 then ((ref_OpOf ((p2.getD x19.toNat default).k)).bind fun y21 => if ¬ y21.2.2 = 1 then (some (.inr (.inr 0))) else (if (l17.length : Int) < 1 then (some (.inr (.inr 0))) else (if (0 ≤ (IntKind.wrap .i64 ((l17.length : Int) - 1)) ∧ (IntKind.wrap .i64 ((l17.length : Int) - 1)) < (l17.length : Int)) then (if ¬ (l17.getD ((IntKind.wrap .i64 ((l17.length : Int) - 1)).toNat) default) = y21.1 then (some (.inr (.inr 0))) else (some (.inl ((l17.set ((IntKind.wrap .i64 ((l17.length : Int) - 1)).toNat) y21.2.1), (IntKind.wrap .i64 (x19 + 1)))))) else none))) else (if ((p2.getD x19.toNat default).op) = 6 then ((ref_OpOf ((p2.getD x19.toNat default).k)).bind fun y22 => if ¬ y22.2.2 = 2 then (some (.inr (.inr 0))) else (if (l17.length : Int) < 2 then (some (.inr (.inr 0))) else (if (0 ≤ (IntKind.wrap .i64 ((l17.length : Int) - 1)) ∧ (IntKind.wrap .i64 ((l17.length : Int) - 1)) < (l17.length : Int)) then (if ¬ (l17.getD ((IntKind.wrap .i64 ((l17.length : Int) - 1)).toNat) default) = y22.1 then (some (.inr (.inr 0))) else (if (0 ≤ (IntKind.wrap .i64 ((l17.length : Int) - 2)) ∧ (IntKind.wrap .i64 ((l17.length : Int) - 2)) < (l17.length : Int)) then (if ¬ (l17.getD ((IntKind.wrap .i64 ((l17.length : Int) - 2)).toNat) default) = y22.1 then (some (.inr (.inr 0))) else (if (0 ≤ (IntKind.wrap .i64 ((l17.length : Int) - 2)) ∧ (IntKind.wrap .i64 ((l17.length : Int) - 2)) ≤ (l17.length : Int)) ∧ room (((IntKind.wrap .i64 ((l17.length : Int) - 2)).toNat) + 1) 1 then (some (.inl (((l17.take ((IntKind.wrap .i64 ((l17.length : Int) - 2)).toNat)) ++ (lit ([y22.2.1] : List Int))), (IntKind.wrap .i64 (x19 + 1))))) else none)) else none)) else none))) else (if ((p2.getD x19.toNat default).op) = 7 then (if (l17.length : Int) < 3 then (some (.inr (.inr 0))) else (if (0 ≤ (IntKind.wrap .i64 ((l17.length : Int) - 3)) ∧ (IntKind.wrap .i64 ((l17.length : Int) - 3)) < (l17.length : Int)) then (if ¬ (l17.getD ((IntKind.wrap .i64 ((l17.length : Int) - 3)).toNat) default) = 98 then (some (.inr (.inr 0))) else (if (0 ≤ (IntKind.wrap .i64 ((l17.length : Int) - 2)) ∧ (IntKind.wrap .i64 ((l17.length : Int) - 2)) < (l17.length : Int)) ∧ (0 ≤ (IntKind.wrap .i64 ((l17.length : Int) - 1)) ∧ (IntKind.wrap .i64 ((l17.length : Int) - 1)) < (l17.length : Int)) then (if ¬ (l17.getD ((IntKind.wrap .i64 ((l17.length : Int) - 2)).toNat) default) = (l17.getD ((IntKind.wrap .i64 ((l17.length : Int) - 1)).toNat) default) then (some (.inr (.inr 0))) else (if (0 ≤ (IntKind.wrap .i64 ((l17.length : Int) - 3)) ∧ (IntKind.wrap .i64 ((l17.length : Int) - 3)) ≤ (l17.length : Int)) ∧ room (((IntKind.wrap .i64 ((l17.length : Int) - 3)).toNat) + 1) 1 then (some (.inl (((l17.take ((IntKind.wrap .i64 ((l17.length : Int) - 3)).toNat)) ++ (lit ([(l17.getD ((IntKind.wrap .i64 ((l17.length : Int) - 1)).toNat) default)] : List Int))), (IntKind.wrap .i64 (x19 + 1))))) else none)) else none)) else none)) else (if ((p2.getD x19.toNat default).op) = 8 then (if (0 ≤ (p2.getD x19.toNat default).v ∧ (p2.getD x19.toNat default).v < (p1.vars.length : Int)) then (if ((p1.vars.getD (((p2.getD x19.toNat default).v).toNat) default).n) = 0 then (some (.inr (.inr 0))) else (if (l17.length : Int) < 2 then (some (.inr (.inr 0))) else (if (0 ≤ (IntKind.wrap .i64 ((l17.length : Int) - 2)) ∧ (IntKind.wrap .i64 ((l17.length : Int) - 2)) < (l17.length : Int)) then (if ¬ (l17.getD ((IntKind.wrap .i64 ((l17.length : Int) - 2)).toNat) default) = 105 then (some (.inr (.inr 0))) else (if (0 ≤ (IntKind.wrap .i64 ((l17.length : Int) - 1)) ∧ (IntKind.wrap .i64 ((l17.length : Int) - 1)) < (l17.length : Int)) then (if ¬ (l17.getD ((IntKind.wrap .i64 ((l17.length : Int) - 1)).toNat) default) = ((p1.vars.getD (((p2.getD x19.toNat default).v).toNat) default).elem) then (some (.inr (.inr 0))) else (if (0 ≤ (IntKind.wrap .i64 ((l17.length : Int) - 2)) ∧ (IntKind.wrap .i64 ((l17.length : Int) - 2)) ≤ (l17.length : Int)) ∧ room (((IntKind.wrap .i64 ((l17.length : Int) - 2)).toNat) + 1) 1 then (some (.inl (((l17.take ((IntKind.wrap .i64 ((l17.length : Int) - 2)).toNat)) ++ (lit ([(p1.vars.getD (((p2.getD x19.toNat default).v).toNat) default).elem] : List Int))), (IntKind.wrap .i64 (x19 + 1))))) else none)) else none)) else none))) else none) else (some (.inr (.inr 0))))))))))) else none) else (some (.inr (.inl l17)))

noncomputable def ref_Tree (p1 : TSystem) (p2 : List TPush) (p3 : Int) : Option Int :=
  (loop (fun (l17, x19) => ref_Tree_l1 p1 p2 p3 l17 x19) ([], 0)).bind (Sum.elim (fun z23 => ref_Tree_j1 z23) (fun z24 => some z24))
end Pam

/- what ref_typesFit computes, read off the program by a program of ours -/
namespace Pam
open Go
noncomputable def ref_typesFit_j1 (p1 : TSystem) (p2 : TRule) (l2 : List TVar) : Option Bool :=
  (ref_OpOf p2.k).bind fun y3 => if p2.op = 1 then (if ((p1.vars.getD p2.out_.toNat default).elem) = 105 ∧ ((p1.vars.getD p2.out_.toNat default).n) = 0 then (some true) else (if ((p1.vars.getD p2.out_.toNat default).elem) = 98 ∧ ((p1.vars.getD p2.out_.toNat default).n) = 0 then (if p2.n = 0 then (some true) else (some (p2.n == 1))) else (some false))) else (if p2.op = 2 then (if (0 ≤ 0 ∧ 0 < (3 : Int)) ∧ 0 < l2.length then (some ((((l2.getD 0 default).elem) == ((p1.vars.getD p2.out_.toNat default).elem)) && (((l2.getD 0 default).n) == ((p1.vars.getD p2.out_.toNat default).n)))) else none) else (if p2.op = 3 then (if y3.2.2 = 1 then (if (0 ≤ 0 ∧ 0 < (3 : Int)) ∧ 0 < l2.length then (if ((l2.getD 0 default).elem) = y3.1 then (some ((((p1.vars.getD p2.out_.toNat default).elem) == y3.2.1) && (((p1.vars.getD p2.out_.toNat default).n) == ((l2.getD 0 default).n)))) else (some false)) else none) else (some false)) else (if p2.op = 4 then (if y3.2.2 = 2 then (if (0 ≤ 0 ∧ 0 < (3 : Int)) ∧ 0 < l2.length then (if ((l2.getD 0 default).elem) = y3.1 then (if (0 ≤ 1 ∧ 1 < (3 : Int)) ∧ 1 < l2.length then (if ((l2.getD 1 default).elem) = ((l2.getD 0 default).elem) ∧ ((l2.getD 1 default).n) = ((l2.getD 0 default).n) then (some ((((p1.vars.getD p2.out_.toNat default).elem) == y3.2.1) && (((p1.vars.getD p2.out_.toNat default).n) == ((l2.getD 0 default).n)))) else (some false)) else none) else (some false)) else none) else (some false)) else (if p2.op = 5 then (if (0 ≤ 0 ∧ 0 < (3 : Int)) ∧ 0 < l2.length then (if ((l2.getD 0 default).elem) = 98 ∧ ((l2.getD 0 default).n) = 0 then (if (0 ≤ 1 ∧ 1 < (3 : Int)) ∧ 1 < l2.length then (if ((l2.getD 1 default).elem) = ((p1.vars.getD p2.out_.toNat default).elem) ∧ ((l2.getD 1 default).n) = ((p1.vars.getD p2.out_.toNat default).n) then (if (0 ≤ 2 ∧ 2 < (3 : Int)) ∧ 2 < l2.length then (some ((((l2.getD 2 default).elem) == ((p1.vars.getD p2.out_.toNat default).elem)) && (((l2.getD 2 default).n) == ((p1.vars.getD p2.out_.toNat default).n)))) else none) else (some false)) else none) else (some false)) else none) else (if p2.op = 6 then ((ref_Folds p2.k).bind fun y4 => if y4 = true then (if (0 ≤ 0 ∧ 0 < (3 : Int)) ∧ 0 < l2.length then (if ((l2.getD 0 default).elem) = y3.1 ∧ ((l2.getD 0 default).n) = 0 then (if (0 ≤ 1 ∧ 1 < (3 : Int)) ∧ 1 < l2.length then (if ((l2.getD 1 default).n) > 0 then (if ((l2.getD 1 default).elem) = y3.1 then (some ((((p1.vars.getD p2.out_.toNat default).elem) == ((l2.getD 0 default).elem)) && (((p1.vars.getD p2.out_.toNat default).n) == ((l2.getD 0 default).n)))) else (some false)) else (some false)) else none) else (some false)) else none) else (some false)) else (if p2.op = 7 then ((ref_Folds p2.k).bind fun y5 => if y5 = true then (if (0 ≤ 0 ∧ 0 < (3 : Int)) ∧ 0 < l2.length then (if ((l2.getD 0 default).elem) = y3.1 ∧ ((l2.getD 0 default).n) = 0 then (if (0 ≤ 1 ∧ 1 < (3 : Int)) ∧ 1 < l2.length then (if ((l2.getD 1 default).n) > 0 then (if ((l2.getD 1 default).elem) = y3.1 then (some ((((p1.vars.getD p2.out_.toNat default).elem) == ((l2.getD 1 default).elem)) && (((p1.vars.getD p2.out_.toNat default).n) == ((l2.getD 1 default).n)))) else (some false)) else (some false)) else none) else (some false)) else none) else (some false)) else (if p2.op = 8 then (if (0 ≤ 0 ∧ 0 < (3 : Int)) ∧ 0 < l2.length then (if ((l2.getD 0 default).n) = 0 then (if ((p1.vars.getD p2.out_.toNat default).n) > 0 then (some (((p1.vars.getD p2.out_.toNat default).elem) == ((l2.getD 0 default).elem))) else (some false)) else (some false)) else none) else (if p2.op = 9 then (if (0 ≤ 0 ∧ 0 < (3 : Int)) ∧ 0 < l2.length then (if ((l2.getD 0 default).n) > 0 then (if (0 ≤ 1 ∧ 1 < (3 : Int)) ∧ 1 < l2.length then (if ((l2.getD 1 default).elem) = 105 ∧ ((l2.getD 1 default).n) = 0 then (if (0 ≤ 2 ∧ 2 < (3 : Int)) ∧ 2 < l2.length then (if ((l2.getD 2 default).elem) = ((l2.getD 0 default).elem) ∧ ((l2.getD 2 default).n) = 0 then (some ((((p1.vars.getD p2.out_.toNat default).elem) == ((l2.getD 2 default).elem)) && (((p1.vars.getD p2.out_.toNat default).n) == ((l2.getD 2 default).n)))) else (some false)) else none) else (some false)) else none) else (some false)) else none) else (if p2.op = 10 then (if (0 ≤ 0 ∧ 0 < (3 : Int)) ∧ 0 < l2.length then (if ((l2.getD 0 default).n) > 0 then (if (0 ≤ 1 ∧ 1 < (3 : Int)) ∧ 1 < l2.length then (if ((l2.getD 1 default).elem) = 105 ∧ ((l2.getD 1 default).n) = 0 then (if (0 ≤ 2 ∧ 2 < (3 : Int)) ∧ 2 < l2.length then (if ((l2.getD 2 default).elem) = ((l2.getD 0 default).elem) ∧ ((l2.getD 2 default).n) = 0 then (some ((((p1.vars.getD p2.out_.toNat default).elem) == ((l2.getD 0 default).elem)) && (((p1.vars.getD p2.out_.toNat default).n) == ((l2.getD 0 default).n)))) else (some false)) else none) else (some false)) else none) else (some false)) else none) else (if p2.op = 11 then (if ((p1.vars.getD p2.out_.toNat default).n) > 0 then (if (0 ≤ 0 ∧ 0 < (3 : Int)) ∧ 0 < l2.length then (if ((l2.getD 0 default).n) > 0 then (if ((p1.vars.getD p2.out_.toNat default).elem) = ((l2.getD 0 default).elem) then (if p2.n ≥ 0 then (if ((p1.vars.getD p2.out_.toNat default).n) ≤ ((l2.getD 0 default).n) then (some (decide (p2.n ≤ (IntKind.wrap .i64 (((l2.getD 0 default).n) - ((p1.vars.getD p2.out_.toNat default).n)))))) else (some false)) else (some false)) else (some false)) else (some false)) else none) else (some false)) else (if p2.op = 12 then (if (0 ≤ 0 ∧ 0 < (3 : Int)) ∧ 0 < l2.length then (if ((l2.getD 0 default).n) > 0 then (if (0 ≤ 1 ∧ 1 < (3 : Int)) ∧ 1 < l2.length then (if ((l2.getD 1 default).n) > 0 then (if ((l2.getD 0 default).elem) = ((l2.getD 1 default).elem) then (some ((((p1.vars.getD p2.out_.toNat default).elem) == ((l2.getD 0 default).elem)) && (((p1.vars.getD p2.out_.toNat default).n) == (IntKind.wrap .i64 (((l2.getD 0 default).n) + ((l2.getD 1 default).n)))))) else (some false)) else (some false)) else none) else (some false)) else none) else (if p2.op = 13 then (if (0 ≤ 0 ∧ 0 < (3 : Int)) ∧ 0 < l2.length then (if ((l2.getD 0 default).elem) = ((p1.vars.getD p2.out_.toNat default).elem) ∧ ((l2.getD 0 default).n) = ((p1.vars.getD p2.out_.toNat default).n) then (if (0 ≤ 1 ∧ 1 < (3 : Int)) ∧ 1 < l2.length then (some ((((l2.getD 1 default).elem) == ((p1.vars.getD p2.out_.toNat default).elem)) && (((l2.getD 1 default).n) == ((p1.vars.getD p2.out_.toNat default).n)))) else none) else (some false)) else none) else (if p2.op = 14 then ((ref_Cells ((p1.vars.getD p2.out_.toNat default).n)).bind fun y6 => (ref_Tree p1 p2.e y6).bind fun y7 => some (y7 == ((p1.vars.getD p2.out_.toNat default).elem))) else (if p2.op = 15 then ((ref_Folds p2.k).bind fun y8 => if y8 = true then (if ((p1.vars.getD p2.out_.toNat default).elem) = y3.1 ∧ ((p1.vars.getD p2.out_.toNat default).n) = 0 then (if (0 ≤ 0 ∧ 0 < (3 : Int)) ∧ 0 < l2.length then (if ((l2.getD 0 default).elem) = ((p1.vars.getD p2.out_.toNat default).elem) ∧ ((l2.getD 0 default).n) = ((p1.vars.getD p2.out_.toNat default).n) then (if p2.n ≥ 1 then (if p2.n ≤ 300 then ((ref_Tree p1 p2.e p2.n).bind fun y9 => some (y9 == y3.1)) else (some false)) else (some false)) else (some false)) else none) else (some false)) else (some false)) else ((ref_Folds p2.k).bind fun y10 => if y10 = true then (if ((p1.vars.getD p2.out_.toNat default).n) > 0 then (if ((p1.vars.getD p2.out_.toNat default).elem) = y3.1 then (if (0 ≤ 0 ∧ 0 < (3 : Int)) ∧ 0 < l2.length then (if ((l2.getD 0 default).elem) = y3.1 ∧ ((l2.getD 0 default).n) = 0 then ((ref_Tree p1 p2.e ((p1.vars.getD p2.out_.toNat default).n)).bind fun y11 => some (y11 == y3.1)) else (some false)) else none) else (some false)) else (some false)) else (some false))))))))))))))))

noncomputable def ref_typesFit_l1 (p1 : TSystem) (p2 : TRule) (l19 : List TVar) (x20 : Int) : Option (((List TVar) × Int) ⊕ (List TVar)) :=
  if x20 < (p2.a.length : Int) then (if (0 ≤ x20 ∧ x20 < (p2.a.length : Int)) ∧ (0 ≤ (p2.a.getD x20.toNat default) ∧ (p2.a.getD x20.toNat default) < (p1.vars.length : Int)) ∧ (0 ≤ x20 ∧ x20 < (3 : Int)) ∧ x20.toNat < l19.length then (some (.inl ((l19.set x20.toNat (p1.vars.getD ((p2.a.getD x20.toNat default).toNat) default)), (IntKind.wrap .i64 (x20 + 1))))) else none) else (some (.inr l19))

noncomputable def ref_typesFit (p1 : TSystem) (p2 : TRule) : Option Bool :=
  if (0 ≤ p2.out_ ∧ p2.out_ < (p1.vars.length : Int)) then ((loop (fun (l19, x20) => ref_typesFit_l1 p1 p2 l19 x20) ((List.replicate 3 (TVar.mk 0 0)), 0)).bind (fun z21 => ref_typesFit_j1 p1 p2 z21)) else none
end Pam

/- what ref_SysFault computes, read off the program by a program of ours -/
namespace Pam
open Go
noncomputable def ref_SysFault_j3 : Option TFault :=
  some (TFault.mk 0 0)

noncomputable def ref_SysFault_l1 (p1 : TSystem) (y2 : (List Int)) (x5 : Int) : Option (Int ⊕ (Unit ⊕ TFault)) :=
  if x5 < (p1.out_.length : Int) then (if (0 ≤ x5 ∧ x5 < (p1.out_.length : Int)) then ((ref_In p1.in_ (p1.out_.getD x5.toNat default)).bind fun y6 => if y6 = true then (some (.inl (IntKind.wrap .i64 (x5 + 1)))) else ((ref_In y2 (p1.out_.getD x5.toNat default)).bind fun y7 => if y7 = true then (some (.inl (IntKind.wrap .i64 (x5 + 1)))) else ((ref_F 9 (-1)).bind fun y8 => some (.inr (.inr (y8)))))) else none) else (some (.inr (.inl ())))

noncomputable def ref_SysFault_j2 (p1 : TSystem) (y2 : (List Int)) : Option TFault :=
  (loop (fun x5 => ref_SysFault_l1 p1 y2 x5) 0).bind (Sum.elim (fun _ => ref_SysFault_j3) (fun z9 => some z9))

noncomputable def ref_SysFault_j4 (x12 : Int) : Option (Int ⊕ (Unit ⊕ TFault)) :=
  some (.inl (IntKind.wrap .i64 (x12 + 1)))

noncomputable def ref_SysFault_l3 (p1 : TSystem) (y2 : (List Int)) (x12 : Int) (y13 : (List Int)) (x16 : Int) : Option (Int ⊕ (Unit ⊕ TFault)) :=
  if x16 < (y13.length : Int) then (if (0 ≤ x16 ∧ x16 < (y13.length : Int)) then ((ref_In p1.in_ (y13.getD x16.toNat default)).bind fun y17 => if y17 = true then (some (.inl (IntKind.wrap .i64 (x16 + 1)))) else ((ref_In y2 (y13.getD x16.toNat default)).bind fun y18 => if y18 = true then (some (.inl (IntKind.wrap .i64 (x16 + 1)))) else ((ref_F 9 x12).bind fun y19 => some (.inr (.inr (y19)))))) else none) else (some (.inr (.inl ())))

noncomputable def ref_SysFault_l2 (p1 : TSystem) (y2 : (List Int)) (x12 : Int) : Option (Int ⊕ (Unit ⊕ TFault)) :=
  if x12 < (p1.rules.length : Int) then (if (0 ≤ x12 ∧ x12 < (p1.rules.length : Int)) then ((ref_used (p1.rules.getD x12.toNat default)).bind fun y13 => (loop (fun x16 => ref_SysFault_l3 p1 y2 x12 y13 x16) 0).bind (Sum.elim (fun _ => ref_SysFault_j4 x12) (fun z20 => some (.inr (.inr z20))))) else none) else (some (.inr (.inl ())))

noncomputable def ref_SysFault_j1 (p1 : TSystem) : Option TFault :=
  (ref_made p1 (p1.rules.length : Int)).bind fun y2 => (loop (fun x12 => ref_SysFault_l2 p1 y2 x12) 0).bind (Sum.elim (fun _ => ref_SysFault_j2 p1 y2) (fun z21 => some z21))

noncomputable def ref_SysFault_j5 (x24 : Int) : Option (Int ⊕ (Unit ⊕ TFault)) :=
  some (.inl (IntKind.wrap .i64 (x24 + 1)))

noncomputable def ref_SysFault_j6 (p1 : TSystem) (x24 : Int) : Option (Int ⊕ (Unit ⊕ TFault)) :=
  (ref_typesFit p1 (p1.rules.getD x24.toNat default)).bind fun y38 => if y38 = true then (ref_SysFault_j5 x24) else ((ref_F 10 x24).bind fun y39 => some (.inr (.inr (y39))))

noncomputable def ref_SysFault_l5 (p1 : TSystem) (x24 : Int) (y37 : (List Int)) (x42 : Int) : Option (Int ⊕ (Unit ⊕ TFault)) :=
  if x42 < (y37.length : Int) then (if (0 ≤ x42 ∧ x42 < (y37.length : Int)) then (if (y37.getD x42.toNat default) < 0 then ((ref_F 16 x24).bind fun y43 => some (.inr (.inr (y43)))) else (if (y37.getD x42.toNat default) ≥ (p1.vars.length : Int) then ((ref_F 16 x24).bind fun y44 => some (.inr (.inr (y44)))) else (some (.inl (IntKind.wrap .i64 (x42 + 1)))))) else none) else (some (.inr (.inl ())))

noncomputable def ref_SysFault_l4 (p1 : TSystem) (x24 : Int) : Option (Int ⊕ (Unit ⊕ TFault)) :=
  if x24 < (p1.rules.length : Int) then (if (0 ≤ x24 ∧ x24 < (p1.rules.length : Int)) then (if ((p1.rules.getD x24.toNat default).out_) < 0 then ((ref_F 16 x24).bind fun y25 => some (.inr (.inr (y25)))) else (if ((p1.rules.getD x24.toNat default).out_) ≥ (p1.vars.length : Int) then ((ref_F 16 x24).bind fun y26 => some (.inr (.inr (y26)))) else ((ref_In p1.in_ ((p1.rules.getD x24.toNat default).out_)).bind fun y27 => if y27 = true then ((ref_F 8 x24).bind fun y28 => some (.inr (.inr (y28)))) else ((ref_made p1 x24).bind fun y29 => (ref_In y29 ((p1.rules.getD x24.toNat default).out_)).bind fun y30 => if y30 = true then ((ref_F 8 x24).bind fun y31 => some (.inr (.inr (y31)))) else ((ref_partsOf ((p1.rules.getD x24.toNat default).op)).bind fun y32 => if y32 < 0 then ((ref_F 4 x24).bind fun y33 => some (.inr (.inr (y33)))) else ((ref_partsOf ((p1.rules.getD x24.toNat default).op)).bind fun y34 => if ¬ y34 = (((p1.rules.getD x24.toNat default).a).length : Int) then ((ref_F 4 x24).bind fun y35 => some (.inr (.inr (y35)))) else (if (((p1.rules.getD x24.toNat default).e).length : Int) > 24 then ((ref_F 7 x24).bind fun y36 => some (.inr (.inr (y36)))) else ((ref_used (p1.rules.getD x24.toNat default)).bind fun y37 => (loop (fun x42 => ref_SysFault_l5 p1 x24 y37 x42) 0).bind (Sum.elim (fun _ => ref_SysFault_j6 p1 x24) (fun z45 => some (.inr (.inr z45)))))))))))) else none) else (some (.inr (.inl ())))

noncomputable def ref_SysFault (p1 : TSystem) : Option TFault :=
  (ref_headOf p1).bind fun y1 => if ¬ ((y1).code) = 0 then (some (y1)) else ((loop (fun x24 => ref_SysFault_l4 p1 x24) 0).bind (Sum.elim (fun _ => ref_SysFault_j1 p1) (fun z46 => some z46)))
end Pam

/- what law_SysChecks computes, read off the program by a program of ours -/
namespace Pam
open Go
noncomputable def law_SysChecks (p1 : TSystem) : Option Bool :=
  (law_sysBegun ).bind fun y1 => if y1 = true then ((ref_GreatSystem p1 450).bind fun y2 => if y2 = true then (some true) else ((ref_CopySystem p1).bind fun y3 => (sys_Check (y3)).bind fun y4 => (ref_SysFault p1).bind fun y5 => some ((((y4).code) == ((y5).code)) && (((y4).at_) == ((y5).at_))))) else (some false)
end Pam

/- what slices_Clone_int_int_2 computes, read off the program by a program of ours -/
namespace Pam
open Go
noncomputable def slices_Clone_int_int_2 (p1 : List Int) : Option (List Int) :=
  if p1.length = 0 then (some []) else (if room p1.length 8 then (some p1) else none)
end Pam

/- what sys_Uses_2 computes, read off the program by a program of ours -/
namespace Pam
open Go
noncomputable def sys_Uses_2_j1 (l4 : List Int) : Option (List Int) :=
  (slices_Sort_int_int l4).bind fun y6 => (slices_Compact_int_int l4.length y6).bind fun y7 => some y7

noncomputable def sys_Uses_2_j2 (p6 : List TPush) (l20 : List Int) (x22 : Int) (b25 : Bool) : Option (((List Int) × Int) ⊕ (List Int)) :=
  if b25 = true then (if room (l20.length + 1) 8 then (some (.inl ((l20 ++ (lit ([(p6.getD x22.toNat default).v] : List Int))), (IntKind.wrap .i64 (x22 + 1))))) else none) else (some (.inl (l20, (IntKind.wrap .i64 (x22 + 1)))))

noncomputable def sys_Uses_2_l1 (p6 : List TPush) (l20 : List Int) (x22 : Int) : Option (((List Int) × Int) ⊕ (List Int)) :=
  if x22 < (p6.length : Int) then (if (0 ≤ x22 ∧ x22 < (p6.length : Int)) then (if ((p6.getD x22.toNat default).op) = 2 then (sys_Uses_2_j2 p6 l20 x22 (((p6.getD x22.toNat default).op) == 2)) else (if ((p6.getD x22.toNat default).op) = 3 then (sys_Uses_2_j2 p6 l20 x22 (((p6.getD x22.toNat default).op) == 3)) else (sys_Uses_2_j2 p6 l20 x22 (((p6.getD x22.toNat default).op) == 8)))) else none) else (some (.inr l20))

noncomputable def sys_Uses_2 (p1 : Int) (p2 : Int) (p3 : Int) (p4 : Int) (p5 : List Int) (p6 : List TPush) : Option (List Int) :=
  (slices_Clone_int_int_2 p5).bind fun y1 => (loop (fun (l20, x22) => sys_Uses_2_l1 p6 l20 x22) (y1, 0)).bind (fun z26 => sys_Uses_2_j1 z26)
end Pam

/- what ref_Apply computes, read off the program by a program of ours -/
namespace Pam
open Go
noncomputable def ref_Apply_j1 (b1 : Bool) : Option Int :=
  if b1 = true then (some 1) else (some 0)

noncomputable def ref_Apply (p1 : Int) (p2 : Int) (p3 : Int) : Option Int :=
  if p1 = 1 then (some (IntKind.wrap .i64 (p2 + p3))) else (if p1 = 2 then (some (IntKind.wrap .i64 (p2 - p3))) else (if p1 = 3 then (some (IntKind.wrap .i64 (p2 * p3))) else (if p1 = 13 then (some (IntKind.wrap .i64 (0 - p2))) else (if p1 = 4 then (if p3 = 0 then (some 0) else (if p3 = (-1) then (some (IntKind.wrap .i64 (0 - p2))) else (if p3 ≠ 0 then (some (IntKind.wrap .i64 (p2.tdiv p3))) else none))) else (if p1 = 5 then (if p3 = 0 then (some 0) else (if p3 = (-1) then (some 0) else (if p3 ≠ 0 then (some (IntKind.wrap .i64 (p2 - (IntKind.wrap .i64 ((IntKind.wrap .i64 (p2.tdiv p3)) * p3))))) else none))) else (if p1 = 6 then (if p3 < p2 then (some p3) else (some p2)) else (if p1 = 7 then (if p3 > p2 then (some p3) else (some p2)) else (if p1 = 8 then (ref_Apply_j1 (decide (p2 < p3))) else (if p1 = 9 then (ref_Apply_j1 (p2 == p3)) else (if p1 = 10 then (if ¬ p2 = 0 then (ref_Apply_j1 (p3 != 0)) else (ref_Apply_j1 false)) else (if p1 = 11 then (if ¬ p2 = 0 then (ref_Apply_j1 true) else (ref_Apply_j1 (p3 != 0))) else (if p1 = 12 then (ref_Apply_j1 (!((p2 == 0) == (p3 == 0)))) else (if p1 = 14 then (ref_Apply_j1 (p2 == 0)) else (ref_Apply_j1 false))))))))))))))
end Pam

/- what ref_SameInts_2 computes, read off the program by a program of ours -/
namespace Pam
open Go
noncomputable def ref_SameInts_2_j1 : Option Bool :=
  some true

noncomputable def ref_SameInts_2_l1 (p1 : List Int) (p2 : List Int) (x3 : Int) : Option (Int ⊕ (Unit ⊕ Bool)) :=
  if x3 < (p2.length : Int) then (if (0 ≤ x3 ∧ x3 < (p2.length : Int)) ∧ (0 ≤ x3 ∧ x3 < (p1.length : Int)) then (if ¬ (p2.getD x3.toNat default) = (p1.getD x3.toNat default) then (some (.inr (.inr false))) else (some (.inl (IntKind.wrap .i64 (x3 + 1))))) else none) else (some (.inr (.inl ())))

noncomputable def ref_SameInts_2 (p1 : List Int) (p2 : List Int) : Option Bool :=
  if ¬ (p2.length : Int) = (p1.length : Int) then (some false) else ((loop (fun x3 => ref_SameInts_2_l1 p1 p2 x3) 0).bind (Sum.elim (fun _ => ref_SameInts_2_j1) (fun z4 => some z4)))
end Pam

/- what ref_samePush computes, read off the program by a program of ours -/
namespace Pam
open Go
noncomputable def ref_samePush_j1 : Option Bool :=
  some true

noncomputable def ref_samePush_l1 (p1 : List TPush) (p2 : List TPush) (x3 : Int) : Option (Int ⊕ (Unit ⊕ Bool)) :=
  if x3 < (p2.length : Int) then (if (0 ≤ x3 ∧ x3 < (p2.length : Int)) ∧ (0 ≤ x3 ∧ x3 < (p1.length : Int)) then (if ((p2.getD x3.toNat default).op) = ((p1.getD x3.toNat default).op) ∧ ((p2.getD x3.toNat default).k) = ((p1.getD x3.toNat default).k) ∧ ((p2.getD x3.toNat default).v) = ((p1.getD x3.toNat default).v) ∧ ((p2.getD x3.toNat default).n) = ((p1.getD x3.toNat default).n) then (some (.inl (IntKind.wrap .i64 (x3 + 1)))) else (some (.inr (.inr false)))) else none) else (some (.inr (.inl ())))

noncomputable def ref_samePush (p1 : List TPush) (p2 : List TPush) : Option Bool :=
  if ¬ (p2.length : Int) = (p1.length : Int) then (some false) else ((loop (fun x3 => ref_samePush_l1 p1 p2 x3) 0).bind (Sum.elim (fun _ => ref_samePush_j1) (fun z4 => some z4)))
end Pam
