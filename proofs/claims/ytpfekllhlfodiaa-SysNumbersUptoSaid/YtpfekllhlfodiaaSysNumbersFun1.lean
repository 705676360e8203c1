/- what sys_divide computes, read off the program by a program of ours -/
import Derived.Test.YtpfekllhlfodiaaSysNumbersData1
import Derived.Test.YtpfekllhlfodiaaBase3
set_option linter.all false
namespace Pam
open Go
noncomputable def sys_divide (p1 : Int) (p2 : Int) (p3 : Int) : Option Int :=
  if p3 = 0 then (some 0) else (if p1 = 4 then (if p3 ≠ 0 then (some (IntKind.wrap .i64 (p2.tdiv p3))) else none) else (if p3 ≠ 0 then (some (p2.tmod p3)) else none))
end Pam

/- what sys_truth computes, read off the program by a program of ours -/
namespace Pam
open Go
noncomputable def sys_truth (p1 : Bool) : Option Int :=
  if p1 = true then (some 1) else (some 0)
end Pam

/- what sys_Apply computes, read off the program by a program of ours -/
namespace Pam
open Go
noncomputable def sys_Apply_j1 (p1 : Int) (p2 : Int) (p3 : Int) (b1 : Bool) : Option Int :=
  if b1 = true then ((sys_divide p1 p2 p3).bind fun y2 => some y2) else (if p1 = 6 then (some (if p3 < p2 then p3 else p2)) else (if p1 = 7 then (some (if p3 > p2 then p3 else p2)) else (if p1 = 8 then ((sys_truth (decide (p2 < p3))).bind fun y3 => some y3) else (if p1 = 9 then ((sys_truth (p2 == p3)).bind fun y4 => some y4) else (if p1 = 10 then (if ¬ p2 = 0 then ((sys_truth (p3 != 0)).bind fun y5 => some y5) else ((sys_truth false).bind fun y6 => some y6)) else (if p1 = 11 then (if ¬ p2 = 0 then ((sys_truth true).bind fun y7 => some y7) else ((sys_truth (p3 != 0)).bind fun y8 => some y8)) else (if p1 = 12 then ((sys_truth (!((p2 != 0) == (p3 != 0)))).bind fun y9 => some y9) else (if p1 = 13 then (some (IntKind.wrap .i64 (0 - p2))) else (if p1 = 14 then ((sys_truth (p2 == 0)).bind fun y10 => some y10) else (some 0))))))))))

noncomputable def sys_Apply (p1 : Int) (p2 : Int) (p3 : Int) : Option Int :=
  if p1 = 1 then (some (IntKind.wrap .i64 (p2 + p3))) else (if p1 = 2 then (some (IntKind.wrap .i64 (p2 - p3))) else (if p1 = 3 then (some (IntKind.wrap .i64 (p2 * p3))) else (if p1 = 4 then (sys_Apply_j1 p1 p2 p3 (p1 == 4)) else (sys_Apply_j1 p1 p2 p3 (p1 == 5)))))
end Pam

/- what slices_Clone_int_int computes, read off the program by a program of ours -/
namespace Pam
open Go
noncomputable def slices_Clone_int_int (p1 : List Int) : Option (List Int) :=
  if p1 = [] then (some []) else (if room p1.length 8 then (some p1) else none)
end Pam

/- what slices_Sort_int_int computes, read off the program by a program of ours -/
namespace Pam
open Go
noncomputable def slices_Sort_int_int (p1 : List Int) : Option (List Int) :=
  if p1.length ≤ 140737488355328 then some (sortI p1) else none
end Pam

/- what slices_Compact_int_int computes, read off the program by a program of ours -/
namespace Pam
open Go
noncomputable def slices_Compact_int_int (p0 : Nat) (p1 : List Int) : Option (List Int) :=
  if p0 = p1.length ∧ p1.length ≤ 140737488355328 then some (Go.Lib.compact p1) else none
end Pam

/- what sys_Uses computes, read off the program by a program of ours -/
namespace Pam
open Go
noncomputable def sys_Uses_j1 (l4 : List Int) : Option (List Int) :=
  (slices_Sort_int_int l4).bind fun y6 => (slices_Compact_int_int l4.length y6).bind fun y7 => some y7

noncomputable def sys_Uses_j2 (p1 : TRule) (l20 : List Int) (x22 : Int) (b25 : Bool) : Option (((List Int) × Int) ⊕ (List Int)) :=
  if b25 = true then (if room (l20.length + 1) 8 then (some (.inl ((l20 ++ (lit ([(p1.e.getD x22.toNat default).v] : List Int))), (IntKind.wrap .i64 (x22 + 1))))) else none) else (some (.inl (l20, (IntKind.wrap .i64 (x22 + 1)))))

noncomputable def sys_Uses_l1 (p1 : TRule) (l20 : List Int) (x22 : Int) : Option (((List Int) × Int) ⊕ (List Int)) :=
  if x22 < (p1.e.length : Int) then (if (0 ≤ x22 ∧ x22 < (p1.e.length : Int)) then (if ((p1.e.getD x22.toNat default).op) = 2 then (sys_Uses_j2 p1 l20 x22 (((p1.e.getD x22.toNat default).op) == 2)) else (if ((p1.e.getD x22.toNat default).op) = 3 then (sys_Uses_j2 p1 l20 x22 (((p1.e.getD x22.toNat default).op) == 3)) else (sys_Uses_j2 p1 l20 x22 (((p1.e.getD x22.toNat default).op) == 8)))) else none) else (some (.inr l20))

noncomputable def sys_Uses (p1 : TRule) : Option (List Int) :=
  (slices_Clone_int_int p1.a).bind fun y1 => (loop (fun (l20, x22) => sys_Uses_l1 p1 l20 x22) (y1, 0)).bind (fun z26 => sys_Uses_j1 z26)
end Pam

/- what ref_SameInts computes, read off the program by a program of ours -/
namespace Pam
open Go
noncomputable def ref_SameInts_j1 : Option Bool :=
  some true

noncomputable def ref_SameInts_l1 (p1 : List Int) (p2 : List Int) (x3 : Int) : Option (Int ⊕ (Unit ⊕ Bool)) :=
  if x3 < (p1.length : Int) then (if (0 ≤ x3 ∧ x3 < (p1.length : Int)) ∧ (0 ≤ x3 ∧ x3 < (p2.length : Int)) then (if ¬ (p1.getD x3.toNat default) = (p2.getD x3.toNat default) then (some (.inr (.inr false))) else (some (.inl (IntKind.wrap .i64 (x3 + 1))))) else none) else (some (.inr (.inl ())))

noncomputable def ref_SameInts (p1 : List Int) (p2 : List Int) : Option Bool :=
  if ¬ (p1.length : Int) = (p2.length : Int) then (some false) else ((loop (fun x3 => ref_SameInts_l1 p1 p2 x3) 0).bind (Sum.elim (fun _ => ref_SameInts_j1) (fun z4 => some z4)))
end Pam

/- what sys_judge_is computes, read off the program by a program of ours -/
namespace Pam
open Go
noncomputable def sys_judge_is (p1 : Int) (p2 : Tjudge) : Option Bool :=
  if p1 ≥ 0 then (some (decide (p1 < (p2.system.vars.length : Int)))) else (some false)
end Pam

/- what slices_Index_int_int computes, read off the program by a program of ours -/
namespace Pam
open Go
noncomputable def slices_Index_int_int_j1 : Option Int :=
  some (-1)

noncomputable def slices_Index_int_int_l1 (p1 : List Int) (p2 : Int) (x3 : Int) : Option (Int ⊕ (Unit ⊕ Int)) :=
  if x3 < (p1.length : Int) then (if (0 ≤ x3 ∧ x3 < (p1.length : Int)) then (if p2 = (p1.getD x3.toNat default) then (some (.inr (.inr x3))) else (some (.inl (IntKind.wrap .i64 (x3 + 1))))) else none) else (some (.inr (.inl ())))

noncomputable def slices_Index_int_int (p1 : List Int) (p2 : Int) : Option Int :=
  (loop (fun x3 => slices_Index_int_int_l1 p1 p2 x3) 0).bind (Sum.elim (fun _ => slices_Index_int_int_j1) (fun z4 => some z4))
end Pam

/- what slices_Contains_int_int computes, read off the program by a program of ours -/
namespace Pam
open Go
noncomputable def slices_Contains_int_int (p1 : List Int) (p2 : Int) : Option Bool :=
  (slices_Index_int_int p1 p2).bind fun y1 => some (decide (y1 ≥ 0))
end Pam

/- what sys_judge_head computes, read off the program by a program of ours -/
namespace Pam
open Go
noncomputable def sys_judge_head_j4 : Option TFault :=
  some (TFault.mk 0 0)

noncomputable def sys_judge_head_l1 (p1 : Tjudge) (x4 : Int) : Option (Int ⊕ (Unit ⊕ TFault)) :=
  if x4 < (p1.system.out_.length : Int) then (if (0 ≤ x4 ∧ x4 < (p1.system.out_.length : Int)) then ((sys_judge_is (p1.system.out_.getD x4.toNat default) p1).bind fun y5 => if y5 = true then (some (.inl (IntKind.wrap .i64 (x4 + 1)))) else (some (.inr (.inr (TFault.mk 16 (-1)))))) else none) else (some (.inr (.inl ())))

noncomputable def sys_judge_head_j3 (p1 : Tjudge) : Option TFault :=
  (loop (fun x4 => sys_judge_head_l1 p1 x4) 0).bind (Sum.elim (fun _ => sys_judge_head_j4) (fun z6 => some z6))

noncomputable def sys_judge_head_l2 (p1 : Tjudge) (x9 : Int) : Option (Int ⊕ (Unit ⊕ TFault)) :=
  if x9 < (p1.system.in_.length : Int) then (if (0 ≤ x9 ∧ x9 < (p1.system.in_.length : Int)) then ((sys_judge_is (p1.system.in_.getD x9.toNat default) p1).bind fun y10 => if y10 = true then (if (0 ≤ x9 ∧ x9 ≤ (p1.system.in_.length : Int)) then ((slices_Contains_int_int (p1.system.in_.take x9.toNat) (p1.system.in_.getD x9.toNat default)).bind fun y11 => if y11 = true then (some (.inr (.inr (TFault.mk 8 (-1))))) else (some (.inl (IntKind.wrap .i64 (x9 + 1))))) else none) else (some (.inr (.inr (TFault.mk 16 (-1)))))) else none) else (some (.inr (.inl ())))

noncomputable def sys_judge_head_j2 (p1 : Tjudge) : Option TFault :=
  (loop (fun x9 => sys_judge_head_l2 p1 x9) 0).bind (Sum.elim (fun _ => sys_judge_head_j3 p1) (fun z12 => some z12))

noncomputable def sys_judge_head_j6 (x15 : Int) (b17 : Bool) : Option (Int ⊕ (Unit ⊕ TFault)) :=
  if b17 = true then (some (.inr (.inr (TFault.mk 13 (IntKind.wrap .i64 ((-2) - x15)))))) else (some (.inl (IntKind.wrap .i64 (x15 + 1))))

noncomputable def sys_judge_head_j5 (p1 : Tjudge) (x15 : Int) (b16 : Bool) : Option (Int ⊕ (Unit ⊕ TFault)) :=
  if b16 = true then (some (.inr (.inr (TFault.mk 10 (IntKind.wrap .i64 ((-2) - x15)))))) else (if ((p1.system.vars.getD x15.toNat default).n) < 0 then (sys_judge_head_j6 x15 true) else (sys_judge_head_j6 x15 (decide (((p1.system.vars.getD x15.toNat default).n) > 300))))

noncomputable def sys_judge_head_l3 (p1 : Tjudge) (x15 : Int) : Option (Int ⊕ (Unit ⊕ TFault)) :=
  if x15 < (p1.system.vars.length : Int) then (if (0 ≤ x15 ∧ x15 < (p1.system.vars.length : Int)) then (if ¬ ((p1.system.vars.getD x15.toNat default).elem) = 105 then (sys_judge_head_j5 p1 x15 (((p1.system.vars.getD x15.toNat default).elem) != 98)) else (sys_judge_head_j5 p1 x15 false)) else none) else (some (.inr (.inl ())))

noncomputable def sys_judge_head_j1 (p1 : Tjudge) (b1 : Bool) : Option TFault :=
  if b1 = true then (some (TFault.mk 7 (-1))) else ((loop (fun x15 => sys_judge_head_l3 p1 x15) 0).bind (Sum.elim (fun _ => sys_judge_head_j2 p1) (fun z18 => some z18)))

noncomputable def sys_judge_head (p1 : Tjudge) : Option TFault :=
  if (p1.system.vars.length : Int) > 400 then (sys_judge_head_j1 p1 true) else (if (p1.system.rules.length : Int) > 400 then (sys_judge_head_j1 p1 true) else (if (p1.system.in_.length : Int) > 400 then (sys_judge_head_j1 p1 true) else (sys_judge_head_j1 p1 (decide ((p1.system.out_.length : Int) > 400)))))
end Pam

/- what sys_Check0 computes, read off the program by a program of ours -/
namespace Pam
open Go
noncomputable def sys_Check0_j4 : Option TFault :=
  some (TFault.mk 0 0)

noncomputable def sys_Check0_l1 (p1 : TSystem) (l3 : List Bool) (x6 : Int) : Option (Int ⊕ (Unit ⊕ TFault)) :=
  if x6 < (p1.out_.length : Int) then (if (0 ≤ x6 ∧ x6 < (p1.out_.length : Int)) then (if (0 ≤ (p1.out_.getD x6.toNat default) ∧ (p1.out_.getD x6.toNat default) < (l3.length : Int)) then (if (l3.getD ((p1.out_.getD x6.toNat default).toNat) default) = true then (some (.inl (IntKind.wrap .i64 (x6 + 1)))) else (some (.inr (.inr (TFault.mk 9 (-1)))))) else none) else none) else (some (.inr (.inl ())))

noncomputable def sys_Check0_j3 (p1 : TSystem) (l3 : List Bool) : Option TFault :=
  (loop (fun x6 => sys_Check0_l1 p1 l3 x6) 0).bind (Sum.elim (fun _ => sys_Check0_j4) (fun z7 => some z7))

noncomputable def sys_Check0_j5 (x10 : Int) : Option (Int ⊕ (Unit ⊕ TFault)) :=
  some (.inl (IntKind.wrap .i64 (x10 + 1)))

noncomputable def sys_Check0_l3 (l3 : List Bool) (x10 : Int) (l11 : List Int) (x14 : Int) : Option (Int ⊕ (Unit ⊕ TFault)) :=
  if x14 < (l11.length : Int) then (if (0 ≤ x14 ∧ x14 < (l11.length : Int)) then (if (0 ≤ (l11.getD x14.toNat default) ∧ (l11.getD x14.toNat default) < (l3.length : Int)) then (if (l3.getD ((l11.getD x14.toNat default).toNat) default) = true then (some (.inl (IntKind.wrap .i64 (x14 + 1)))) else (some (.inr (.inr (TFault.mk 9 x10))))) else none) else none) else (some (.inr (.inl ())))

noncomputable def sys_Check0_j6 (l3 : List Bool) (x10 : Int) (l11 : List Int) : Option (Int ⊕ (Unit ⊕ TFault)) :=
  (loop (fun x14 => sys_Check0_l3 l3 x10 l11 x14) 0).bind (Sum.elim (fun _ => sys_Check0_j5 x10) (fun z15 => some (.inr (.inr z15))))

noncomputable def sys_Check0_l2 (p1 : TSystem) (l3 : List Bool) (x10 : Int) : Option (Int ⊕ (Unit ⊕ TFault)) :=
  if x10 < (p1.rules.length : Int) then (if (0 ≤ x10 ∧ x10 < (p1.rules.length : Int)) then (if ((p1.rules.getD x10.toNat default).op) ≥ 14 then ((sys_Uses (p1.rules.getD x10.toNat default)).bind fun y16 => sys_Check0_j6 l3 x10 y16) else (sys_Check0_j6 l3 x10 ((p1.rules.getD x10.toNat default).a))) else none) else (some (.inr (.inl ())))

noncomputable def sys_Check0_j2 (p1 : TSystem) (l3 : List Bool) : Option TFault :=
  (loop (fun x10 => sys_Check0_l2 p1 l3 x10) 0).bind (Sum.elim (fun _ => sys_Check0_j3 p1 l3) (fun z17 => some z17))

noncomputable def sys_Check0_l4 (p1 : TSystem) : Option (Unit ⊕ Unit) :=
  if 0 < (p1.rules.length : Int) then (if (0 ≤ 0 ∧ 0 < (p1.rules.length : Int)) then none else none) else (some (.inr ()))

noncomputable def sys_Check0_j1 (p1 : TSystem) (l3 : List Bool) : Option TFault :=
  (loop (fun _ => sys_Check0_l4 p1) ()).bind (fun _ => sys_Check0_j2 p1 l3)

noncomputable def sys_Check0_l5 (p1 : TSystem) (l25 : List Bool) (x26 : Int) : Option (((List Bool) × Int) ⊕ (List Bool)) :=
  if x26 < (p1.in_.length : Int) then (if (0 ≤ x26 ∧ x26 < (p1.in_.length : Int)) then (if (0 ≤ (p1.in_.getD x26.toNat default) ∧ (p1.in_.getD x26.toNat default) < (l25.length : Int)) then (some (.inl ((l25.set ((p1.in_.getD x26.toNat default).toNat) true), (IntKind.wrap .i64 (x26 + 1))))) else none) else none) else (some (.inr l25))

noncomputable def sys_Check0 (p1 : TSystem) : Option TFault :=
  (sys_judge_head (Tjudge.mk p1 0)).bind fun y1 => if ¬ ((y1).code) = 0 then (some (y1)) else (if (0 ≤ (p1.vars.length : Int) ∧ (p1.vars.length : Int) ≤ (p1.vars.length : Int)) ∧ room p1.vars.length 1 then ((loop (fun (l25, x26) => sys_Check0_l5 p1 l25 x26) ((List.replicate p1.vars.length false), 0)).bind (fun z27 => sys_Check0_j1 p1 z27)) else none)
end Pam

/- what law_sysBegun0 computes, read off the program by a program of ours -/
namespace Pam
open Go
noncomputable def law_sysBegun0 : Option Bool :=
  (sys_Apply 4 (-7) 2).bind fun y1 => if y1 = (-3) then ((sys_Uses (TRule.mk 14 0 0 0 (lit ([4] : List Int)) (lit ([(TPush.mk 3 0 3 0), (TPush.mk 1 0 9 0)] : List TPush)))).bind fun y2 => (ref_SameInts y2 (lit ([3, 4] : List Int))).bind fun y3 => if y3 = true then ((sys_Check0 (TSystem.mk [] [] (lit ([0] : List Int)) [])).bind fun y4 => some (((y4).code) == 16)) else (some false)) else (some false)
end Pam

/- what law_SysNumbers_1 computes, read off the program by a program of ours -/
namespace Pam
open Go
noncomputable def law_SysNumbers_1 (p1 : Int) (p2 : Int) (p3 : Int) : Option Int :=
  (sys_Apply p1 p2 p3).bind fun y1 => some y1
end Pam

/- what law_SysNumbers computes, read off the program by a program of ours -/
namespace Pam
open Go
noncomputable def law_SysNumbers_j5 (p1 : Int) (p2 : Int) (b12 : Bool) : Option Bool :=
  if b12 = true then (some false) else ((law_SysNumbers_1 8 p1 p2).bind fun y13 => (law_SysNumbers_1 9 p1 p2).bind fun y14 => (sys_Apply 8 p2 p1).bind fun y15 => if (IntKind.wrap .i64 ((IntKind.wrap .i64 (y13 + y14)) + y15)) = 1 then (some ((y14 == 1) == (p1 == p2))) else (some false))

noncomputable def law_SysNumbers_j4 (p1 : Int) (p2 : Int) (b9 : Bool) : Option Bool :=
  if b9 = true then (some false) else ((sys_Apply 14 p1 0).bind fun y10 => (sys_Apply 14 p2 0).bind fun y11 => if ¬ y10 = 0 then (if ¬ y10 = 1 then (law_SysNumbers_j5 p1 p2 true) else ((law_SysNumbers_1 10 p1 p2).bind fun y16 => if ¬ y16 = (IntKind.wrap .i64 ((IntKind.wrap .i64 (1 - y10)) * (IntKind.wrap .i64 (1 - y11)))) then (law_SysNumbers_j5 p1 p2 true) else ((law_SysNumbers_1 11 p1 p2).bind fun y17 => if ¬ y17 = (IntKind.wrap .i64 (1 - (IntKind.wrap .i64 (y10 * y11)))) then (law_SysNumbers_j5 p1 p2 true) else ((law_SysNumbers_1 12 p1 p2).bind fun y18 => law_SysNumbers_j5 p1 p2 (y18 != (IntKind.wrap .i64 ((IntKind.wrap .i64 ((IntKind.wrap .i64 (1 - y10)) * y11)) + (IntKind.wrap .i64 (y10 * (IntKind.wrap .i64 (1 - y11))))))))))) else ((law_SysNumbers_1 10 p1 p2).bind fun y19 => if ¬ y19 = (IntKind.wrap .i64 ((IntKind.wrap .i64 (1 - y10)) * (IntKind.wrap .i64 (1 - y11)))) then (law_SysNumbers_j5 p1 p2 true) else ((law_SysNumbers_1 11 p1 p2).bind fun y20 => if ¬ y20 = (IntKind.wrap .i64 (1 - (IntKind.wrap .i64 (y10 * y11)))) then (law_SysNumbers_j5 p1 p2 true) else ((law_SysNumbers_1 12 p1 p2).bind fun y21 => law_SysNumbers_j5 p1 p2 (y21 != (IntKind.wrap .i64 ((IntKind.wrap .i64 ((IntKind.wrap .i64 (1 - y10)) * y11)) + (IntKind.wrap .i64 (y10 * (IntKind.wrap .i64 (1 - y11)))))))))))

noncomputable def law_SysNumbers_j3 (p1 : Int) (p2 : Int) (b8 : Bool) : Option Bool :=
  if b8 = true then (some false) else ((law_SysNumbers_1 1 p1 p2).bind fun y22 => (sys_Apply 2 y22 p2).bind fun y23 => if ¬ y23 = p1 then (law_SysNumbers_j4 p1 p2 true) else ((sys_Apply 13 p1 0).bind fun y24 => (sys_Apply 13 y24 0).bind fun y25 => if ¬ y25 = p1 then (law_SysNumbers_j4 p1 p2 true) else ((sys_Apply 13 p1 0).bind fun y26 => (sys_Apply 1 p1 y26).bind fun y27 => law_SysNumbers_j4 p1 p2 (y27 != 0))))

noncomputable def law_SysNumbers_j2 (p1 : Int) (p2 : Int) (b5 : Bool) : Option Bool :=
  if b5 = true then (some false) else ((law_SysNumbers_1 6 p1 p2).bind fun y6 => (law_SysNumbers_1 7 p1 p2).bind fun y7 => if y6 > y7 then (law_SysNumbers_j3 p1 p2 true) else (if ¬ y6 = p1 then (if ¬ y6 = p2 then (law_SysNumbers_j3 p1 p2 true) else (if ¬ y7 = p1 then (if ¬ y7 = p2 then (law_SysNumbers_j3 p1 p2 true) else (if y6 = p1 then (if y6 = p2 then (law_SysNumbers_j3 p1 p2 true) else (law_SysNumbers_j3 p1 p2 false)) else (if y6 = p2 then (law_SysNumbers_j3 p1 p2 true) else (law_SysNumbers_j3 p1 p2 false)))) else (if y6 = p1 then (if ¬ y7 = p2 then (law_SysNumbers_j3 p1 p2 true) else (if y6 = p2 then (law_SysNumbers_j3 p1 p2 false) else (law_SysNumbers_j3 p1 p2 false))) else (if y6 = p2 then (law_SysNumbers_j3 p1 p2 false) else (law_SysNumbers_j3 p1 p2 false))))) else (if ¬ y7 = p1 then (if ¬ y7 = p2 then (law_SysNumbers_j3 p1 p2 true) else (if y6 = p1 then (if y6 = p2 then (law_SysNumbers_j3 p1 p2 true) else (law_SysNumbers_j3 p1 p2 false)) else (if y6 = p2 then (law_SysNumbers_j3 p1 p2 true) else (law_SysNumbers_j3 p1 p2 false)))) else (if y6 = p1 then (if ¬ y7 = p2 then (law_SysNumbers_j3 p1 p2 true) else (if y6 = p2 then (law_SysNumbers_j3 p1 p2 false) else (law_SysNumbers_j3 p1 p2 false))) else (if y6 = p2 then (law_SysNumbers_j3 p1 p2 false) else (law_SysNumbers_j3 p1 p2 false))))))

noncomputable def law_SysNumbers_j1 (p1 : Int) (p2 : Int) (y3 : Int) (b4 : Bool) : Option Bool :=
  if b4 = true then (some false) else (if p2 > 0 then (if y3 ≥ p2 then (law_SysNumbers_j2 p1 p2 true) else (if y3 ≤ (IntKind.wrap .i64 (0 - p2)) then (law_SysNumbers_j2 p1 p2 true) else (if ¬ y3 = 0 then (law_SysNumbers_j2 p1 p2 (!((decide (y3 < 0)) == (decide (p1 < 0))))) else (law_SysNumbers_j2 p1 p2 false)))) else (if ¬ y3 = 0 then (law_SysNumbers_j2 p1 p2 (!((decide (y3 < 0)) == (decide (p1 < 0))))) else (law_SysNumbers_j2 p1 p2 false)))

noncomputable def law_SysNumbers (p1 : Int) (p2 : Int) : Option Bool :=
  (law_sysBegun0 ).bind fun y1 => if y1 = true then ((law_SysNumbers_1 4 p1 p2).bind fun y2 => (law_SysNumbers_1 5 p1 p2).bind fun y3 => if p2 = 0 then (if ¬ y2 = 0 then (law_SysNumbers_j1 p1 p2 y3 true) else (if ¬ y3 = 0 then (law_SysNumbers_j1 p1 p2 y3 true) else (if ¬ p2 = 0 then (law_SysNumbers_j1 p1 p2 y3 ((IntKind.wrap .i64 ((IntKind.wrap .i64 (y2 * p2)) + y3)) != p1)) else (law_SysNumbers_j1 p1 p2 y3 false)))) else (if ¬ p2 = 0 then (law_SysNumbers_j1 p1 p2 y3 ((IntKind.wrap .i64 ((IntKind.wrap .i64 (y2 * p2)) + y3)) != p1)) else (law_SysNumbers_j1 p1 p2 y3 false))) else (some false)
end Pam

/- what slices_Clone_int_int_2 computes, read off the program by a program of ours -/
namespace Pam
open Go
noncomputable def slices_Clone_int_int_2 (p1 : List Int) : Option (List Int) :=
  if p1.length = 0 then (some []) else (if room p1.length 8 then (some p1) else none)
end Pam

/- what sys_Uses_2 computes, read off the program by a program of ours -/
namespace Pam
open Go
noncomputable def sys_Uses_2_j1 (l4 : List Int) : Option (List Int) :=
  (slices_Sort_int_int l4).bind fun y6 => (slices_Compact_int_int l4.length y6).bind fun y7 => some y7

noncomputable def sys_Uses_2_j2 (p6 : List TPush) (l20 : List Int) (x22 : Int) (b25 : Bool) : Option (((List Int) × Int) ⊕ (List Int)) :=
  if b25 = true then (if room (l20.length + 1) 8 then (some (.inl ((l20 ++ (lit ([(p6.getD x22.toNat default).v] : List Int))), (IntKind.wrap .i64 (x22 + 1))))) else none) else (some (.inl (l20, (IntKind.wrap .i64 (x22 + 1)))))

noncomputable def sys_Uses_2_l1 (p6 : List TPush) (l20 : List Int) (x22 : Int) : Option (((List Int) × Int) ⊕ (List Int)) :=
  if x22 < (p6.length : Int) then (if (0 ≤ x22 ∧ x22 < (p6.length : Int)) then (if ((p6.getD x22.toNat default).op) = 2 then (sys_Uses_2_j2 p6 l20 x22 (((p6.getD x22.toNat default).op) == 2)) else (if ((p6.getD x22.toNat default).op) = 3 then (sys_Uses_2_j2 p6 l20 x22 (((p6.getD x22.toNat default).op) == 3)) else (sys_Uses_2_j2 p6 l20 x22 (((p6.getD x22.toNat default).op) == 8)))) else none) else (some (.inr l20))

noncomputable def sys_Uses_2 (p1 : Int) (p2 : Int) (p3 : Int) (p4 : Int) (p5 : List Int) (p6 : List TPush) : Option (List Int) :=
  (slices_Clone_int_int_2 p5).bind fun y1 => (loop (fun (l20, x22) => sys_Uses_2_l1 p6 l20 x22) (y1, 0)).bind (fun z26 => sys_Uses_2_j1 z26)
end Pam

/- what ref_insert computes, read off the program by a program of ours -/
namespace Pam
open Go
noncomputable def ref_insert_j1 (p2 : Int) (l3 : List Int) (b5 : Bool) : Option (List Int) :=
  if b5 = true then (some l3) else (if room (l3.length + 1) 8 then (some (l3 ++ (lit ([p2] : List Int)))) else none)

noncomputable def ref_insert_j2 (p1 : List Int) (x23 : Int) (l26 : List Int) (b28 : Bool) : Option (((List Int) × Bool × Int) ⊕ ((List Int) × Bool)) :=
  if (0 ≤ x23 ∧ x23 < (p1.length : Int)) ∧ room (l26.length + 1) 8 then (some (.inl ((l26 ++ (lit ([(p1.getD x23.toNat default)] : List Int))), b28, (IntKind.wrap .i64 (x23 + 1))))) else none

noncomputable def ref_insert_j3 (p1 : List Int) (p2 : Int) (l20 : List Int) (b22 : Bool) (x23 : Int) (b31 : Bool) : Option (((List Int) × Bool × Int) ⊕ ((List Int) × Bool)) :=
  if b31 = true then (if (0 ≤ x23 ∧ x23 < (p1.length : Int)) then (if (p1.getD x23.toNat default) > p2 then (if room (l20.length + 1) 8 then (ref_insert_j2 p1 x23 (l20 ++ (lit ([p2] : List Int))) true) else none) else (ref_insert_j2 p1 x23 l20 true)) else none) else (ref_insert_j2 p1 x23 l20 b22)

noncomputable def ref_insert_l1 (p1 : List Int) (p2 : Int) (l20 : List Int) (b22 : Bool) (x23 : Int) : Option (((List Int) × Bool × Int) ⊕ ((List Int) × Bool)) :=
  if x23 < (p1.length : Int) then (if b22 = true then (ref_insert_j3 p1 p2 l20 b22 x23 false) else (if (0 ≤ x23 ∧ x23 < (p1.length : Int)) then (ref_insert_j3 p1 p2 l20 b22 x23 (decide ((p1.getD x23.toNat default) ≥ p2))) else none)) else (some (.inr (l20, b22)))

noncomputable def ref_insert (p1 : List Int) (p2 : Int) : Option (List Int) :=
  (loop (fun (l20, b22, x23) => ref_insert_l1 p1 p2 l20 b22 x23) ([], false, 0)).bind (fun (z32, z33) => ref_insert_j1 p2 z32 z33)
end Pam

/- what ref_named computes, read off the program by a program of ours -/
namespace Pam
open Go
noncomputable def ref_named (p1 : TPush) : Option Bool :=
  if p1.op = 2 then (some true) else (if p1.op = 3 then (some true) else (some (p1.op == 8)))
end Pam

/- what ref_Uses computes, read off the program by a program of ours -/
namespace Pam
open Go
noncomputable def ref_Uses_j2 (l2 : List Int) : Option (List Int) :=
  some l2

noncomputable def ref_Uses_l1 (p1 : TRule) (l7 : List Int) (x8 : Int) : Option (((List Int) × Int) ⊕ (List Int)) :=
  if x8 < (p1.e.length : Int) then (if (0 ≤ x8 ∧ x8 < (p1.e.length : Int)) then ((ref_named (p1.e.getD x8.toNat default)).bind fun y9 => if y9 = true then ((ref_insert l7 ((p1.e.getD x8.toNat default).v)).bind fun y10 => some (.inl (y10, (IntKind.wrap .i64 (x8 + 1))))) else (some (.inl (l7, (IntKind.wrap .i64 (x8 + 1)))))) else none) else (some (.inr l7))

noncomputable def ref_Uses_j1 (p1 : TRule) (l1 : List Int) : Option (List Int) :=
  (loop (fun (l7, x8) => ref_Uses_l1 p1 l7 x8) (l1, 0)).bind (fun z11 => ref_Uses_j2 z11)

noncomputable def ref_Uses_l2 (p1 : TRule) (l18 : List Int) (x19 : Int) : Option (((List Int) × Int) ⊕ (List Int)) :=
  if x19 < (p1.a.length : Int) then (if (0 ≤ x19 ∧ x19 < (p1.a.length : Int)) then ((ref_insert l18 (p1.a.getD x19.toNat default)).bind fun y20 => some (.inl (y20, (IntKind.wrap .i64 (x19 + 1))))) else none) else (some (.inr l18))

noncomputable def ref_Uses (p1 : TRule) : Option (List Int) :=
  (loop (fun (l18, x19) => ref_Uses_l2 p1 l18 x19) ([], 0)).bind (fun z21 => ref_Uses_j1 p1 z21)
end Pam

/- what ref_Apply computes, read off the program by a program of ours -/
namespace Pam
open Go
noncomputable def ref_Apply_j1 (b1 : Bool) : Option Int :=
  if b1 = true then (some 1) else (some 0)

noncomputable def ref_Apply_j2 (p2 : Int) (p3 : Int) (b2 : Bool) : Option Int :=
  if b2 = true then (some 0) else (if p3 ≠ 0 then (some (IntKind.wrap .i64 (p2 - (IntKind.wrap .i64 ((IntKind.wrap .i64 (p2.tdiv p3)) * p3))))) else none)

noncomputable def ref_Apply (p1 : Int) (p2 : Int) (p3 : Int) : Option Int :=
  if p1 = 1 then (some (IntKind.wrap .i64 (p2 + p3))) else (if p1 = 2 then (some (IntKind.wrap .i64 (p2 - p3))) else (if p1 = 3 then (some (IntKind.wrap .i64 (p2 * p3))) else (if p1 = 13 then (some (IntKind.wrap .i64 (0 - p2))) else (if p1 = 4 then (if p3 = 0 then (some 0) else (if p3 = (-1) then (some (IntKind.wrap .i64 (0 - p2))) else (if p3 ≠ 0 then (some (IntKind.wrap .i64 (p2.tdiv p3))) else none))) else (if p1 = 5 then (if p3 = 0 then (ref_Apply_j2 p2 p3 true) else (ref_Apply_j2 p2 p3 (p3 == (-1)))) else (if p1 = 6 then (if p3 < p2 then (some p3) else (some p2)) else (if p1 = 7 then (if p3 > p2 then (some p3) else (some p2)) else (if p1 = 8 then (ref_Apply_j1 (decide (p2 < p3))) else (if p1 = 9 then (ref_Apply_j1 (p2 == p3)) else (if p1 = 10 then (if ¬ p2 = 0 then (ref_Apply_j1 (p3 != 0)) else (ref_Apply_j1 false)) else (if p1 = 11 then (if ¬ p2 = 0 then (ref_Apply_j1 true) else (ref_Apply_j1 (p3 != 0))) else (if p1 = 12 then (ref_Apply_j1 (!((p2 == 0) == (p3 == 0)))) else (if p1 = 14 then (ref_Apply_j1 (p2 == 0)) else (ref_Apply_j1 false))))))))))))))
end Pam

/- what ref_SameInts_2 computes, read off the program by a program of ours -/
namespace Pam
open Go
noncomputable def ref_SameInts_2_j1 : Option Bool :=
  some true

noncomputable def ref_SameInts_2_l1 (p1 : List Int) (p2 : List Int) (x3 : Int) : Option (Int ⊕ (Unit ⊕ Bool)) :=
  if x3 < (p2.length : Int) then (if (0 ≤ x3 ∧ x3 < (p2.length : Int)) ∧ (0 ≤ x3 ∧ x3 < (p1.length : Int)) then (if ¬ (p2.getD x3.toNat default) = (p1.getD x3.toNat default) then (some (.inr (.inr false))) else (some (.inl (IntKind.wrap .i64 (x3 + 1))))) else none) else (some (.inr (.inl ())))

noncomputable def ref_SameInts_2 (p1 : List Int) (p2 : List Int) : Option Bool :=
  if ¬ (p2.length : Int) = (p1.length : Int) then (some false) else ((loop (fun x3 => ref_SameInts_2_l1 p1 p2 x3) 0).bind (Sum.elim (fun _ => ref_SameInts_2_j1) (fun z4 => some z4)))
end Pam

/- what ref_samePush computes, read off the program by a program of ours -/
namespace Pam
open Go
noncomputable def ref_samePush_j1 : Option Bool :=
  some true

noncomputable def ref_samePush_l1 (p1 : List TPush) (p2 : List TPush) (x3 : Int) : Option (Int ⊕ (Unit ⊕ Bool)) :=
  if x3 < (p2.length : Int) then (if (0 ≤ x3 ∧ x3 < (p2.length : Int)) ∧ (0 ≤ x3 ∧ x3 < (p1.length : Int)) then (if ((p2.getD x3.toNat default).op) = ((p1.getD x3.toNat default).op) ∧ ((p2.getD x3.toNat default).k) = ((p1.getD x3.toNat default).k) ∧ ((p2.getD x3.toNat default).v) = ((p1.getD x3.toNat default).v) ∧ ((p2.getD x3.toNat default).n) = ((p1.getD x3.toNat default).n) then (some (.inl (IntKind.wrap .i64 (x3 + 1)))) else (some (.inr (.inr false)))) else none) else (some (.inr (.inl ())))

noncomputable def ref_samePush (p1 : List TPush) (p2 : List TPush) : Option Bool :=
  if ¬ (p2.length : Int) = (p1.length : Int) then (some false) else ((loop (fun x3 => ref_samePush_l1 p1 p2 x3) 0).bind (Sum.elim (fun _ => ref_samePush_j1) (fun z4 => some z4)))
end Pam
