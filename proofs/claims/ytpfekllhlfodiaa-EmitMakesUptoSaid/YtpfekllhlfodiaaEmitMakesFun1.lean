/- what slices_Grow_int_int computes, read off the program by a program of ours -/
import Derived.Test.YtpfekllhlfodiaaEmitMakesData1
set_option linter.all false
namespace Pam
open Go
noncomputable def slices_Grow_int_int (p1 : Int) : Option (List Int) :=
  if p1 < 0 then none else (if (IntKind.wrap .i64 (p1 - (IntKind.wrap .i64 (0 - 0)))) > 0 then (if 0 ≤ (IntKind.wrap .i64 (p1 - (IntKind.wrap .i64 (0 - 0)))) ∧ room ((IntKind.wrap .i64 (p1 - (IntKind.wrap .i64 (0 - 0)))).toNat) 8 then (if (0 ≤ 0 ∧ 0 ≤ ((IntKind.wrap .i64 (p1 - (IntKind.wrap .i64 (0 - 0)))).toNat : Int)) then (some ((List.replicate ((IntKind.wrap .i64 (p1 - (IntKind.wrap .i64 (0 - 0)))).toNat) 0).take 0)) else none) else none) else (some []))
end Pam

/- what slices_Concat_int_int computes, read off the program by a program of ours -/
namespace Pam
open Go
noncomputable def slices_Concat_int_int_j2 (l5 : List Int) : Option (List Int) :=
  some l5

noncomputable def slices_Concat_int_int_l1 (p1 : List (List Int)) (l19 : List Int) (x21 : Int) : Option (((List Int) × Int) ⊕ (List Int)) :=
  if x21 < (p1.length : Int) then (if (0 ≤ x21 ∧ x21 < (p1.length : Int)) then (if room (l19.length + ((p1.getD x21.toNat default).length)) 8 then (some (.inl ((l19 ++ (p1.getD x21.toNat default)), (IntKind.wrap .i64 (x21 + 1))))) else none) else none) else (some (.inr l19))

noncomputable def slices_Concat_int_int_j1 (p1 : List (List Int)) (x1 : Int) : Option (List Int) :=
  (slices_Grow_int_int x1).bind fun y2 => (loop (fun (l19, x21) => slices_Concat_int_int_l1 p1 l19 x21) (y2, 0)).bind (fun z22 => slices_Concat_int_int_j2 z22)

noncomputable def slices_Concat_int_int_l2 (p1 : List (List Int)) (x27 : Int) (x28 : Int) : Option ((Int × Int) ⊕ Int) :=
  if x28 < (p1.length : Int) then (if (0 ≤ x28 ∧ x28 < (p1.length : Int)) then (if (IntKind.wrap .i64 (x27 + ((p1.getD x28.toNat default).length : Int))) < 0 then none else (some (.inl ((IntKind.wrap .i64 (x27 + ((p1.getD x28.toNat default).length : Int))), (IntKind.wrap .i64 (x28 + 1)))))) else none) else (some (.inr x27))

noncomputable def slices_Concat_int_int (p1 : List (List Int)) : Option (List Int) :=
  (loop (fun (x27, x28) => slices_Concat_int_int_l2 p1 x27 x28) (0, 0)).bind (fun z29 => slices_Concat_int_int_j1 p1 z29)
end Pam

/- what loop_inside computes, read off the program by a program of ours -/
namespace Pam
open Go
noncomputable def loop_inside (p1 : TLoops) (p2 : Int) (p3 : Int) : Option Bool :=
  if p2 ≥ 0 then (if p3 ≥ 1 then (if p3 ≤ p1.cells then (some (decide (p2 ≤ (IntKind.wrap .i64 (p1.cells - p3))))) else (some false)) else (some false)) else (some false)
end Pam

/- what kinds_Op computes, read off the program by a program of ours -/
namespace Pam
open Go
noncomputable def kinds_Op (p1 : Int) : Option (Int × Int × Int) :=
  if p1 ≥ 1 then (if p1 ≤ 7 then (some (105, 105, 2)) else (if p1 = 8 then (some (105, 98, 2)) else (if p1 = 9 then (some (105, 98, 2)) else (if p1 ≥ 10 then (if p1 ≤ 12 then (some (98, 98, 2)) else (if p1 = 13 then (some (105, 105, 1)) else (if p1 = 14 then (some (98, 98, 1)) else (some (0, 0, 0))))) else (if p1 = 13 then (some (105, 105, 1)) else (if p1 = 14 then (some (98, 98, 1)) else (some (0, 0, 0)))))))) else (if p1 = 8 then (some (105, 98, 2)) else (if p1 = 9 then (some (105, 98, 2)) else (if p1 ≥ 10 then (if p1 ≤ 12 then (some (98, 98, 2)) else (if p1 = 13 then (some (105, 105, 1)) else (if p1 = 14 then (some (98, 98, 1)) else (some (0, 0, 0))))) else (if p1 = 13 then (some (105, 105, 1)) else (if p1 = 14 then (some (98, 98, 1)) else (some (0, 0, 0)))))))
end Pam

/- what loop_step computes, read off the program by a program of ours -/
namespace Pam
open Go
noncomputable def loop_step_j1 (p1 : TLoops) (p2 : TPush) (b3 : Bool) : Option (Int × Bool) :=
  if b3 = true then ((kinds_Op p2.k).bind fun y4 => some (y4.2.2, (y4.2.2 == (IntKind.wrap .i64 ((IntKind.wrap .i64 (p2.op - 5)) + 1))))) else (if p2.op = 7 then (some (3, true)) else (if p2.op = 8 then ((loop_inside p1 p2.v p2.n).bind fun y5 => some (2, y5)) else (some (0, false))))

noncomputable def loop_step (p1 : TLoops) (p2 : TPush) (p3 : Int) : Option (Int × Bool) :=
  if p2.op = 1 then (some (0, true)) else (if p2.op = 2 then ((loop_inside p1 p2.v 1).bind fun y1 => some (0, y1)) else (if p2.op = 3 then ((loop_inside p1 p2.v p3).bind fun y2 => some (0, y2)) else (if p2.op = 4 then (if p2.n ≥ (-1000000000000000000) then (some (0, decide (p2.n ≤ 1000000000000000000))) else (some (0, false))) else (if p2.op = 5 then (loop_step_j1 p1 p2 (p2.op == 5)) else (loop_step_j1 p1 p2 (p2.op == 6))))))
end Pam

/- what loop_tree computes, read off the program by a program of ours -/
namespace Pam
open Go
noncomputable def loop_tree_j1 (p2 : List TPush) (x1 : Int) : Option Bool :=
  if x1 = 1 then (some (decide ((p2.length : Int) ≤ 24))) else (some false)

noncomputable def loop_tree_l1 (p1 : TLoops) (p2 : List TPush) (p3 : Int) (x6 : Int) (x7 : Int) : Option ((Int × Int) ⊕ (Int ⊕ Bool)) :=
  if x7 < (p2.length : Int) then (if (0 ≤ x7 ∧ x7 < (p2.length : Int)) then ((loop_step p1 (p2.getD x7.toNat default) p3).bind fun y8 => if y8.2 = true then (if x6 < y8.1 then (some (.inr (.inr false))) else (some (.inl ((IntKind.wrap .i64 (x6 + (IntKind.wrap .i64 (1 - y8.1)))), (IntKind.wrap .i64 (x7 + 1)))))) else (some (.inr (.inr false)))) else none) else (some (.inr (.inl x6)))

noncomputable def loop_tree (p1 : TLoops) (p2 : List TPush) (p3 : Int) : Option Bool :=
  (loop (fun (x6, x7) => loop_tree_l1 p1 p2 p3 x6 x7) (0, 0)).bind (Sum.elim (fun z9 => loop_tree_j1 p2 z9) (fun z10 => some z10))
end Pam

/- what loop_fits computes, read off the program by a program of ours -/
namespace Pam
open Go
noncomputable def loop_fits_j2 (p1 : TLoops) (p2 : TLoop) (y1 : (Int × Int × Int)) (x5 : Int) : Option Bool :=
  if p2.n ≥ 1 then (if p2.n ≤ 300 then ((loop_inside p1 p2.to x5).bind fun y6 => if y6 = true then ((loop_tree p1 p2.e p2.n).bind fun y7 => if y7 = true then (if p2.op = 2 then (some true) else (if y1.2.2 = 2 then ((loop_tree p1 p2.f 1).bind fun y8 => some y8) else (some false))) else (some false)) else (some false)) else (some false)) else (some false)

noncomputable def loop_fits_j1 (p1 : TLoops) (p2 : TLoop) (y1 : (Int × Int × Int)) (b4 : Bool) : Option Bool :=
  if b4 = true then (if p2.op = 3 then (loop_fits_j2 p1 p2 y1 1) else (loop_fits_j2 p1 p2 y1 p2.n)) else (some false)

noncomputable def loop_fits (p1 : TLoops) (p2 : TLoop) : Option Bool :=
  (kinds_Op p2.k).bind fun y1 => if p2.op = 1 then ((loop_inside p1 p2.to 1).bind fun y2 => if y2 = true then ((loop_tree p1 p2.e 1).bind fun y3 => some y3) else (some false)) else (if p2.op = 2 then (loop_fits_j1 p1 p2 y1 (p2.op == 2)) else (if p2.op = 4 then (loop_fits_j1 p1 p2 y1 (p2.op == 4)) else (loop_fits_j1 p1 p2 y1 (p2.op == 3))))
end Pam

/- what loop_Check computes, read off the program by a program of ours -/
namespace Pam
open Go
noncomputable def loop_Check_j2 : Option TFault :=
  some (TFault.mk 0 0)

noncomputable def loop_Check_l1 (p1 : TLoops) (x3 : Int) : Option (Int ⊕ (Unit ⊕ TFault)) :=
  if x3 < (p1.steps.length : Int) then (if (0 ≤ x3 ∧ x3 < (p1.steps.length : Int)) then ((loop_fits p1 (p1.steps.getD x3.toNat default)).bind fun y4 => if y4 = true then (some (.inl (IntKind.wrap .i64 (x3 + 1)))) else (some (.inr (.inr (TFault.mk 4 x3))))) else none) else (some (.inr (.inl ())))

noncomputable def loop_Check_j1 (p1 : TLoops) : Option TFault :=
  (loop (fun x3 => loop_Check_l1 p1 x3) 0).bind (Sum.elim (fun _ => loop_Check_j2) (fun z5 => some z5))

noncomputable def loop_Check_l2 (p1 : TLoops) (y6 : (List Int)) (x9 : Int) : Option (Int ⊕ (Unit ⊕ TFault)) :=
  if x9 < (y6.length : Int) then (if (0 ≤ x9 ∧ x9 < (y6.length : Int)) then ((loop_inside p1 (y6.getD x9.toNat default) 1).bind fun y10 => if y10 = true then (some (.inl (IntKind.wrap .i64 (x9 + 1)))) else (some (.inr (.inr (TFault.mk 16 (-1)))))) else none) else (some (.inr (.inl ())))

noncomputable def loop_Check (p1 : TLoops) : Option TFault :=
  if p1.cells < 1 then (some (TFault.mk 13 (-1))) else (if p1.cells > 6000 then (some (TFault.mk 13 (-1))) else (if (p1.put.length : Int) > 6000 then (some (TFault.mk 7 (-1))) else (if (p1.get.length : Int) > 120000 then (some (TFault.mk 7 (-1))) else (if (p1.steps.length : Int) > 1200 then (some (TFault.mk 7 (-1))) else ((slices_Concat_int_int (lit ([p1.put, p1.get] : List (List Int)))).bind fun y6 => (loop (fun x9 => loop_Check_l2 p1 y6 x9) 0).bind (Sum.elim (fun _ => loop_Check_j1 p1) (fun z11 => some z11)))))))
end Pam

/- what emit_emitter_put computes, read off the program by a program of ours -/
namespace Pam
open Go
noncomputable def emit_emitter_put_l1 (p1 : List TIns) (x15 : Int) (l16 : List TIns) (x18 : Int) : Option ((Int × (List TIns) × Int) ⊕ (Int × (List TIns))) :=
  if x18 < (p1.length : Int) then (if (0 ≤ x18 ∧ x18 < (p1.length : Int)) then (if room (l16.length + 1) 48 then (some (.inl ((if (IntKind.wrap .i64 (((p1.getD x18.toNat default).r_) + 1)) > x15 then (IntKind.wrap .i64 (((p1.getD x18.toNat default).r_) + 1)) else x15), (l16 ++ (lit ([(p1.getD x18.toNat default)] : List TIns))), (IntKind.wrap .i64 (x18 + 1))))) else none) else none) else (some (.inr (x15, l16)))

noncomputable def emit_emitter_put (p1 : List TIns) (p2 : Int) (p3 : List TIns) : Option (Int × (List TIns)) :=
  (loop (fun (x15, l16, x18) => emit_emitter_put_l1 p1 x15 l16 x18) (p2, p3, 0)).bind (fun z19 => some z19)
end Pam

/- what emit_emitter_arr computes, read off the program by a program of ours -/
namespace Pam
open Go
noncomputable def emit_emitter_arr (p1 : TPush) (p2 : Int) (p3 : Int) (p4 : Int) (p5 : List TIns) : Option (Int × (List TIns)) :=
  if p3 = 0 then ((emit_emitter_put (lit ([(TIns.mk 2 0 p2 0 0 p1.v)] : List TIns)) p4 p5).bind fun y1 => some (y1.1, y1.2)) else ((emit_emitter_put (lit ([(TIns.mk 3 0 p2 0 p3 p1.v)] : List TIns)) p4 p5).bind fun y3 => some (y3.1, y3.2))
end Pam

/- what emit_emitter_index computes, read off the program by a program of ours -/
namespace Pam
open Go
noncomputable def emit_emitter_index (p1 : TPush) (p2 : Int) (p3 : Int) (p4 : Int) (p5 : List TIns) : Option (Int × (List TIns)) :=
  if p3 = 0 then ((emit_emitter_put (lit ([(TIns.mk 1 0 p2 0 0 p1.n)] : List TIns)) p4 p5).bind fun y1 => some (y1.1, y1.2)) else ((emit_emitter_put (lit ([(TIns.mk 1 0 p2 0 0 p1.n), (TIns.mk 7 1 p2 p2 0 0)] : List TIns)) p4 p5).bind fun y3 => some (y3.1, y3.2))
end Pam

/- what emit_emitter_pick computes, read off the program by a program of ours -/
namespace Pam
open Go
noncomputable def emit_emitter_pick (p1 : TPush) (p2 : Int) (p3 : Int) (p4 : List TIns) : Option (Int × (List TIns)) :=
  (emit_emitter_put (lit ([(TIns.mk 1 0 (IntKind.wrap .i64 (p2 + 2)) 0 0 0), (TIns.mk 7 8 (IntKind.wrap .i64 (p2 + 3)) p2 (IntKind.wrap .i64 (p2 + 2)) 0), (TIns.mk 6 14 (IntKind.wrap .i64 (p2 + 3)) (IntKind.wrap .i64 (p2 + 3)) 0 0), (TIns.mk 1 0 (IntKind.wrap .i64 (p2 + 4)) 0 0 p1.n), (TIns.mk 7 8 (IntKind.wrap .i64 (p2 + 4)) p2 (IntKind.wrap .i64 (p2 + 4)) 0), (TIns.mk 7 10 (IntKind.wrap .i64 (p2 + 3)) (IntKind.wrap .i64 (p2 + 3)) (IntKind.wrap .i64 (p2 + 4)) 0), (TIns.mk 9 0 (IntKind.wrap .i64 (p2 + 4)) (IntKind.wrap .i64 (p2 + 3)) 0 0), (TIns.mk 8 0 (IntKind.wrap .i64 (p2 + 4)) p2 (IntKind.wrap .i64 (p2 + 2)) 0), (TIns.mk 3 0 (IntKind.wrap .i64 (p2 + 4)) (IntKind.wrap .i64 (p2 + 4)) p1.n p1.v), (TIns.mk 8 0 (IntKind.wrap .i64 (p2 + 3)) (IntKind.wrap .i64 (p2 + 4)) (IntKind.wrap .i64 (p2 + 1)) 0), (TIns.mk 9 0 p2 (IntKind.wrap .i64 (p2 + 3)) 0 0)] : List TIns)) p3 p4).bind fun y1 => some (y1.1, y1.2)
end Pam

/- what emit_emitter_tree computes, read off the program by a program of ours -/
namespace Pam
open Go
noncomputable def emit_emitter_tree_l1 (p1 : List TPush) (p3 : Int) (x17 : Int) (l18 : List TIns) (x20 : Int) (x21 : Int) : Option ((Int × (List TIns) × Int × Int) ⊕ (Int × (List TIns))) :=
  if x21 < (p1.length : Int) then (if (0 ≤ x21 ∧ x21 < (p1.length : Int)) then (if ((p1.getD x21.toNat default).op) = 1 then ((emit_emitter_put (lit ([(TIns.mk 1 0 x20 0 0 ((p1.getD x21.toNat default).n))] : List TIns)) x17 l18).bind fun y22 => some (.inl (y22.1, y22.2, (IntKind.wrap .i64 (x20 + 1)), (IntKind.wrap .i64 (x21 + 1))))) else (if ((p1.getD x21.toNat default).op) = 2 then ((emit_emitter_put (lit ([(TIns.mk 2 0 x20 0 0 ((p1.getD x21.toNat default).v))] : List TIns)) x17 l18).bind fun y24 => some (.inl (y24.1, y24.2, (IntKind.wrap .i64 (x20 + 1)), (IntKind.wrap .i64 (x21 + 1))))) else (if ((p1.getD x21.toNat default).op) = 3 then ((emit_emitter_arr (p1.getD x21.toNat default) x20 p3 x17 l18).bind fun y26 => some (.inl (y26.1, y26.2, (IntKind.wrap .i64 (x20 + 1)), (IntKind.wrap .i64 (x21 + 1))))) else (if ((p1.getD x21.toNat default).op) = 4 then ((emit_emitter_index (p1.getD x21.toNat default) x20 p3 x17 l18).bind fun y28 => some (.inl (y28.1, y28.2, (IntKind.wrap .i64 (x20 + 1)), (IntKind.wrap .i64 (x21 + 1))))) else (if ((p1.getD x21.toNat default).op) = 5 then ((emit_emitter_put (lit ([(TIns.mk 6 ((p1.getD x21.toNat default).k) (IntKind.wrap .i64 (x20 - 1)) (IntKind.wrap .i64 (x20 - 1)) 0 0)] : List TIns)) x17 l18).bind fun y30 => some (.inl (y30.1, y30.2, (IntKind.wrap .i64 ((IntKind.wrap .i64 (x20 - 1)) + 1)), (IntKind.wrap .i64 (x21 + 1))))) else (if ((p1.getD x21.toNat default).op) = 6 then ((emit_emitter_put (lit ([(TIns.mk 7 ((p1.getD x21.toNat default).k) (IntKind.wrap .i64 (x20 - 2)) (IntKind.wrap .i64 (x20 - 2)) (IntKind.wrap .i64 ((IntKind.wrap .i64 (x20 - 2)) + 1)) 0)] : List TIns)) x17 l18).bind fun y32 => some (.inl (y32.1, y32.2, (IntKind.wrap .i64 ((IntKind.wrap .i64 (x20 - 2)) + 1)), (IntKind.wrap .i64 (x21 + 1))))) else (if ((p1.getD x21.toNat default).op) = 7 then ((emit_emitter_put (lit ([(TIns.mk 8 0 (IntKind.wrap .i64 (x20 - 3)) (IntKind.wrap .i64 ((IntKind.wrap .i64 (x20 - 3)) + 1)) (IntKind.wrap .i64 ((IntKind.wrap .i64 (x20 - 3)) + 2)) 0)] : List TIns)) x17 l18).bind fun y34 => some (.inl (y34.1, y34.2, (IntKind.wrap .i64 ((IntKind.wrap .i64 (x20 - 3)) + 1)), (IntKind.wrap .i64 (x21 + 1))))) else (if ((p1.getD x21.toNat default).op) = 8 then ((emit_emitter_pick (p1.getD x21.toNat default) (IntKind.wrap .i64 (x20 - 2)) x17 l18).bind fun y36 => some (.inl (y36.1, y36.2, (IntKind.wrap .i64 ((IntKind.wrap .i64 (x20 - 2)) + 1)), (IntKind.wrap .i64 (x21 + 1))))) else (some (.inl (x17, l18, (IntKind.wrap .i64 (x20 + 1)), (IntKind.wrap .i64 (x21 + 1))))))))))))) else none) else (some (.inr (x17, l18)))

noncomputable def emit_emitter_tree (p1 : List TPush) (p2 : Int) (p3 : Int) (p4 : Int) (p5 : List TIns) : Option (Int × (List TIns)) :=
  (loop (fun (x17, l18, x20, x21) => emit_emitter_tree_l1 p1 p3 x17 l18 x20 x21) (p4, p5, p2, 0)).bind (fun z38 => some z38)
end Pam

/- what emit_emitter_step computes, read off the program by a program of ours -/
namespace Pam
open Go
noncomputable def emit_emitter_step_j3 (p1 : TLoop) (x22 : Int) (l23 : List TIns) : Option (Int × (List TIns)) :=
  (emit_emitter_put (lit ([(TIns.mk 11 0 0 0 0 0)] : List TIns)) x22 l23).bind fun y25 => if p1.op = 3 then ((emit_emitter_put (lit ([(TIns.mk 4 0 1 0 0 p1.to)] : List TIns)) y25.1 y25.2).bind fun y27 => some (y27.1, y27.2)) else (some (y25.1, y25.2))

noncomputable def emit_emitter_step_j2 (p1 : TLoop) (x16 : Int) (l17 : List TIns) (x19 : Int) : Option (Int × (List TIns)) :=
  if ¬ p1.op = 3 then ((emit_emitter_put (lit ([(TIns.mk 5 0 x19 0 p1.n p1.to)] : List TIns)) x16 l17).bind fun y29 => emit_emitter_step_j3 p1 y29.1 y29.2) else (emit_emitter_step_j3 p1 x16 l17)

noncomputable def emit_emitter_step_j1 (p1 : TLoop) (x7 : Int) (l8 : List TIns) : Option (Int × (List TIns)) :=
  (emit_emitter_put (lit ([(TIns.mk 10 0 0 0 0 p1.n)] : List TIns)) x7 l8).bind fun y10 => (emit_emitter_tree p1.e 2 p1.n y10.1 y10.2).bind fun y12 => if ¬ p1.op = 2 then ((emit_emitter_put (lit ([(TIns.mk 7 p1.k 1 1 2 0)] : List TIns)) y12.1 y12.2).bind fun y31 => emit_emitter_step_j2 p1 y31.1 y31.2 1) else (emit_emitter_step_j2 p1 y12.1 y12.2 2)

noncomputable def emit_emitter_step (p1 : TLoop) (p2 : Int) (p3 : List TIns) : Option (Int × (List TIns)) :=
  if p1.op = 1 then ((emit_emitter_tree p1.e 2 0 p2 p3).bind fun y1 => (emit_emitter_put (lit ([(TIns.mk 4 0 2 0 0 p1.to)] : List TIns)) y1.1 y1.2).bind fun y3 => some (y3.1, y3.2)) else (if ¬ p1.op = 2 then ((emit_emitter_tree p1.f 2 0 p2 p3).bind fun y33 => (emit_emitter_put (lit ([(TIns.mk 9 0 1 2 0 0)] : List TIns)) y33.1 y33.2).bind fun y35 => emit_emitter_step_j1 p1 y35.1 y35.2) else (emit_emitter_step_j1 p1 p2 p3))
end Pam

/- what code_Cost computes, read off the program by a program of ours -/
namespace Pam
open Go
noncomputable def code_Cost_j1 (x1 : Int) (x2 : Int) : Option Int :=
  if x2 > 0 then (some 0) else (some x1)

noncomputable def code_Cost_l1 (p1 : List TIns) (x11 : Int) (x12 : Int) (x13 : Int) (x14 : Int) : Option ((Int × Int × Int × Int) ⊕ ((Int × Int) ⊕ Int)) :=
  if x14 < (p1.length : Int) then (if (0 ≤ x14 ∧ x14 < (p1.length : Int)) then (if ((p1.getD x14.toNat default).op) = 10 then (if x12 > 1 then (some (.inr (.inr 0))) else (if x13 > 0 then (some (.inr (.inr 0))) else (if ((p1.getD x14.toNat default).n) < 1 then (some (.inr (.inr 0))) else (if ((p1.getD x14.toNat default).n) > 300 then (some (.inr (.inr 0))) else (some (.inl ((IntKind.wrap .i64 (x11 + x12)), (p1.getD x14.toNat default).n, 1, (IntKind.wrap .i64 (x14 + 1))))))))) else (if ((p1.getD x14.toNat default).op) = 11 then (if x13 = 0 then (some (.inr (.inr 0))) else (some (.inl ((IntKind.wrap .i64 (x11 + x12)), 1, 0, (IntKind.wrap .i64 (x14 + 1)))))) else (some (.inl ((IntKind.wrap .i64 (x11 + x12)), x12, x13, (IntKind.wrap .i64 (x14 + 1))))))) else none) else (some (.inr (.inl (x11, x13))))

noncomputable def code_Cost (p1 : List TIns) : Option Int :=
  (loop (fun (x11, x12, x13, x14) => code_Cost_l1 p1 x11 x12 x13 x14) (0, 1, 0, 0)).bind (Sum.elim (fun (z15, z16) => code_Cost_j1 z15 z16) (fun z17 => some z17))
end Pam

/- what code_judge_reg_1 computes, read off the program by a program of ours -/
namespace Pam
open Go
noncomputable def code_judge_reg_1 (p1 : Int) (p2 : Tjudge_code) : Option Bool :=
  if p1 < 0 then (some true) else (some (decide (p1 ≥ p2.m_.regs)))
end Pam

/- what slices_IndexFunc_int_int computes, read off the program by a program of ours -/
namespace Pam
open Go
noncomputable def slices_IndexFunc_int_int_j1 : Option Int :=
  some (-1)

noncomputable def slices_IndexFunc_int_int_l1 (p1 : List Int) (p2 : Tjudge_code) (x3 : Int) : Option (Int ⊕ (Unit ⊕ Int)) :=
  if x3 < (p1.length : Int) then (if (0 ≤ x3 ∧ x3 < (p1.length : Int)) then ((code_judge_reg_1 (p1.getD x3.toNat default) p2).bind fun y4 => if y4 = true then (some (.inr (.inr x3))) else (some (.inl (IntKind.wrap .i64 (x3 + 1))))) else none) else (some (.inr (.inl ())))

noncomputable def slices_IndexFunc_int_int (p1 : List Int) (p2 : Tjudge_code) : Option Int :=
  (loop (fun x3 => slices_IndexFunc_int_int_l1 p1 p2 x3) 0).bind (Sum.elim (fun _ => slices_IndexFunc_int_int_j1) (fun z5 => some z5))
end Pam

/- what slices_ContainsFunc_int_int computes, read off the program by a program of ours -/
namespace Pam
open Go
noncomputable def slices_ContainsFunc_int_int (p1 : List Int) (p2 : Tjudge_code) : Option Bool :=
  (slices_IndexFunc_int_int p1 p2).bind fun y1 => some (decide (y1 ≥ 0))
end Pam

/- what code_judge_reg computes, read off the program by a program of ours -/
namespace Pam
open Go
noncomputable def code_judge_reg (p1 : Tjudge_code) (p2 : List Int) : Option Bool :=
  (slices_ContainsFunc_int_int p2 p1).bind fun y1 => some (!y1)
end Pam

/- what code_judge_cells computes, read off the program by a program of ours -/
namespace Pam
open Go
noncomputable def code_judge_cells (p1 : Tjudge_code) (p2 : Int) (p3 : Int) : Option Bool :=
  if p3 ≥ 1 then (if p3 ≤ p1.m_.cells then (if p2 ≥ 0 then (some (decide (p2 ≤ (IntKind.wrap .i64 (p1.m_.cells - p3))))) else (some false)) else (some false)) else (some false)
end Pam

/- what code_judge_fits computes, read off the program by a program of ours -/
namespace Pam
open Go
noncomputable def code_judge_fits_j2 (p1 : Tjudge_code) (p2 : TIns) (y1 : (Int × Int × Int)) (b6 : Bool) : Option Bool :=
  if b6 = true then ((code_judge_reg p1 (lit ([p2.r_, p2.a] : List Int))).bind fun y7 => if y7 = true then ((code_judge_cells p1 p2.n p2.b).bind fun y8 => some y8) else (some false)) else (if p2.op = 6 then ((code_judge_reg p1 (lit ([p2.r_, p2.a] : List Int))).bind fun y9 => if y9 = true then (some (y1.2.2 == 1)) else (some false)) else (if p2.op = 7 then ((code_judge_reg p1 (lit ([p2.r_, p2.a, p2.b] : List Int))).bind fun y10 => if y10 = true then (some (y1.2.2 == 2)) else (some false)) else (if p2.op = 8 then ((code_judge_reg p1 (lit ([p2.r_, p2.a, p2.b] : List Int))).bind fun y11 => some y11) else (if p2.op = 9 then ((code_judge_reg p1 (lit ([p2.r_, p2.a] : List Int))).bind fun y12 => some y12) else (if p2.op = 10 then ((code_judge_reg p1 (lit ([p2.r_] : List Int))).bind fun y13 => if y13 = true then (if p2.n ≥ 1 then (some (decide (p2.n ≤ 300))) else (some false)) else (some false)) else (some (p2.op == 11)))))))

noncomputable def code_judge_fits_j1 (p1 : Tjudge_code) (p2 : TIns) (y1 : (Int × Int × Int)) (b3 : Bool) : Option Bool :=
  if b3 = true then ((code_judge_reg p1 (lit ([p2.r_] : List Int))).bind fun y4 => if y4 = true then ((code_judge_cells p1 p2.n 1).bind fun y5 => some y5) else (some false)) else (if p2.op = 3 then (code_judge_fits_j2 p1 p2 y1 (p2.op == 3)) else (code_judge_fits_j2 p1 p2 y1 (p2.op == 5)))

noncomputable def code_judge_fits (p1 : Tjudge_code) (p2 : TIns) : Option Bool :=
  (kinds_Op p2.k).bind fun y1 => if p2.op = 1 then ((code_judge_reg p1 (lit ([p2.r_] : List Int))).bind fun y2 => some y2) else (if p2.op = 2 then (code_judge_fits_j1 p1 p2 y1 (p2.op == 2)) else (code_judge_fits_j1 p1 p2 y1 (p2.op == 4)))
end Pam

/- what code_Cost_2 computes, read off the program by a program of ours -/
namespace Pam
open Go
noncomputable def code_Cost_2_j1 (x1 : Int) (x2 : Int) : Option Int :=
  if x2 > 0 then (some 0) else (some x1)

noncomputable def code_Cost_2_l1 (p1 : List TIns) (x11 : Int) (x12 : Int) (x13 : Int) (x14 : Int) : Option ((Int × Int × Int × Int) ⊕ ((Int × Int) ⊕ Int)) :=
  if x14 < (p1.length : Int) then (if (0 ≤ x14 ∧ x14 < (p1.length : Int)) then (if ((p1.getD x14.toNat default).op) = 10 then (if x12 > 1 then (some (.inr (.inr 0))) else (if x13 > 0 then (some (.inr (.inr 0))) else (if ((p1.getD x14.toNat default).n) < 1 then (some (.inr (.inr 0))) else (if ((p1.getD x14.toNat default).n) > 300 then (some (.inr (.inr 0))) else (some (.inl ((IntKind.wrap .i64 (x11 + x12)), (p1.getD x14.toNat default).n, 1, (IntKind.wrap .i64 (x14 + 1))))))))) else (if ((p1.getD x14.toNat default).op) = 11 then (if x13 = 0 then (some (.inr (.inr 0))) else (some (.inl ((IntKind.wrap .i64 (x11 + x12)), 1, 0, (IntKind.wrap .i64 (x14 + 1)))))) else (some (.inl ((IntKind.wrap .i64 (x11 + x12)), x12, x13, (IntKind.wrap .i64 (x14 + 1))))))) else none) else (some (.inr (.inl (x11, x13))))

noncomputable def code_Cost_2 (p1 : List TIns) : Option Int :=
  (loop (fun (x11, x12, x13, x14) => code_Cost_2_l1 p1 x11 x12 x13 x14) (0, 1, 0, 0)).bind (Sum.elim (fun (z15, z16) => code_Cost_2_j1 z15 z16) (fun z17 => some z17))
end Pam

/- what code_Check computes, read off the program by a program of ours -/
namespace Pam
open Go
noncomputable def code_Check_j2 (p1 : TImage) : Option TFault :=
  (code_Cost_2 p1.code).bind fun y1 => if y1 = 0 then (if (p1.code.length : Int) > 0 then (some (TFault.mk 18 (-1))) else (if ¬ y1 = p1.cost then (some (TFault.mk 18 (-1))) else (some (TFault.mk 0 0)))) else (if ¬ y1 = p1.cost then (some (TFault.mk 18 (-1))) else (some (TFault.mk 0 0)))

noncomputable def code_Check_l1 (p1 : TImage) (x4 : Int) : Option (Int ⊕ (Unit ⊕ TFault)) :=
  if x4 < (p1.code.length : Int) then (if (0 ≤ x4 ∧ x4 < (p1.code.length : Int)) then ((code_judge_fits (Tjudge_code.mk p1) (p1.code.getD x4.toNat default)).bind fun y5 => if y5 = true then (some (.inl (IntKind.wrap .i64 (x4 + 1)))) else (some (.inr (.inr (TFault.mk 4 x4))))) else none) else (some (.inr (.inl ())))

noncomputable def code_Check_j1 (p1 : TImage) : Option TFault :=
  (loop (fun x4 => code_Check_l1 p1 x4) 0).bind (Sum.elim (fun _ => code_Check_j2 p1) (fun z6 => some z6))

noncomputable def code_Check_j3 (x9 : Int) : Option (Int ⊕ (Unit ⊕ TFault)) :=
  some (.inl (IntKind.wrap .i64 (x9 + 1)))

noncomputable def code_Check_l3 (p1 : TImage) (x9 : Int) (x12 : Int) : Option (Int ⊕ (Unit ⊕ TFault)) :=
  if x12 < (((lit ([p1.put, p1.bools, p1.get] : List (List Int))).getD x9.toNat default).length : Int) then (if (0 ≤ x12 ∧ x12 < (((lit ([p1.put, p1.bools, p1.get] : List (List Int))).getD x9.toNat default).length : Int)) then (if (((lit ([p1.put, p1.bools, p1.get] : List (List Int))).getD x9.toNat default).getD x12.toNat default) < 0 then (some (.inr (.inr (TFault.mk 16 (-1))))) else (if (((lit ([p1.put, p1.bools, p1.get] : List (List Int))).getD x9.toNat default).getD x12.toNat default) ≥ p1.cells then (some (.inr (.inr (TFault.mk 16 (-1))))) else (some (.inl (IntKind.wrap .i64 (x12 + 1)))))) else none) else (some (.inr (.inl ())))

noncomputable def code_Check_l2 (p1 : TImage) (x9 : Int) : Option (Int ⊕ (Unit ⊕ TFault)) :=
  if x9 < (3 : Int) then (if (0 ≤ x9 ∧ x9 < (3 : Int)) then ((loop (fun x12 => code_Check_l3 p1 x9 x12) 0).bind (Sum.elim (fun _ => code_Check_j3 x9) (fun z13 => some (.inr (.inr z13))))) else none) else (some (.inr (.inl ())))

noncomputable def code_Check (p1 : TImage) : Option TFault :=
  if p1.cells < 1 then (some (TFault.mk 13 (-1))) else (if p1.cells > 6000 then (some (TFault.mk 13 (-1))) else (if p1.regs < 1 then (some (TFault.mk 13 (-1))) else (if p1.regs > 40 then (some (TFault.mk 13 (-1))) else (if (p1.put.length : Int) > 6000 then (some (TFault.mk 7 (-1))) else (if (p1.bools.length : Int) > 6000 then (some (TFault.mk 7 (-1))) else (if (p1.get.length : Int) > 120000 then (some (TFault.mk 7 (-1))) else (if (p1.code.length : Int) > 200000 then (some (TFault.mk 7 (-1))) else ((loop (fun x9 => code_Check_l2 p1 x9) 0).bind (Sum.elim (fun _ => code_Check_j1 p1) (fun z14 => some z14))))))))))
end Pam

/- what emit_Make computes, read off the program by a program of ours -/
namespace Pam
open Go
noncomputable def emit_Make_j1 (p1 : TLoops) (x4 : Int) (l5 : List TIns) : Option (TImage × TFault) :=
  (code_Cost l5).bind fun y7 => if room p1.put.length 8 ∧ room p1.get.length 8 then ((code_Check (TImage.mk p1.cells x4 y7 p1.put [] p1.get l5)).bind fun y8 => if ¬ ((y8).code) = 0 then (some ((TImage.mk 0 0 0 [] [] [] []), (y8))) else (some ((TImage.mk p1.cells x4 y7 p1.put [] p1.get l5), (TFault.mk 0 0)))) else none

noncomputable def emit_Make_l1 (p1 : TLoops) (x23 : Int) (l24 : List TIns) (x26 : Int) : Option ((Int × (List TIns) × Int) ⊕ ((Int × (List TIns)) ⊕ (TImage × TFault))) :=
  if x26 < (p1.steps.length : Int) then (if (0 ≤ x26 ∧ x26 < (p1.steps.length : Int)) then ((emit_emitter_step (p1.steps.getD x26.toNat default) x23 l24).bind fun y27 => if (y27.2.length : Int) > 200000 then (some (.inr (.inr ((TImage.mk 0 0 0 [] [] [] []), (TFault.mk 7 x26))))) else (if y27.1 > 40 then (some (.inr (.inr ((TImage.mk 0 0 0 [] [] [] []), (TFault.mk 7 x26))))) else (some (.inl (y27.1, y27.2, (IntKind.wrap .i64 (x26 + 1))))))) else none) else (some (.inr (.inl (x23, l24))))

noncomputable def emit_Make (p1 : TLoops) : Option (TImage × TFault) :=
  (loop_Check p1).bind fun y1 => if ¬ ((y1).code) = 0 then (some ((TImage.mk 0 0 0 [] [] [] []), (y1))) else ((loop (fun (x23, l24, x26) => emit_Make_l1 p1 x23 l24 x26) (3, [], 0)).bind (Sum.elim (fun (z29, z30) => emit_Make_j1 p1 z29 z30) (fun z31 => some z31)))
end Pam

/- what law_emitBegun computes, read off the program by a program of ours -/
namespace Pam
open Go
noncomputable def law_emitBegun : Option Bool :=
  (emit_Make (TLoops.mk 6 (lit ([1] : List Int)) (lit ([5] : List Int)) (lit ([(TLoop.mk 1 0 0 5 [] (lit ([(TPush.mk 2 0 1 0), (TPush.mk 1 0 0 2), (TPush.mk 6 1 0 0)] : List TPush)))] : List TLoop)))).bind fun y1 => if ((y1.2).code) = 0 then (if ((y1.1).cost) = 4 then (if ((y1.1).regs) = 4 then (some ((((y1.1).code).length : Int) == 4)) else (some false)) else (some false)) else (some false)
end Pam

/- what ref_GreatLoops computes, read off the program by a program of ours -/
namespace Pam
open Go
noncomputable def ref_GreatLoops_j1 (x1 : Int) : Option Bool :=
  some (decide (x1 > 20000))

noncomputable def ref_GreatLoops_l1 (p1 : TLoops) (x6 : Int) (x7 : Int) : Option ((Int × Int) ⊕ (Int ⊕ Bool)) :=
  if x7 < (p1.steps.length : Int) then (if (0 ≤ x7 ∧ x7 < (p1.steps.length : Int)) then (if (((p1.steps.getD x7.toNat default).e).length : Int) > 1000 then (some (.inr (.inr true))) else (if (((p1.steps.getD x7.toNat default).f).length : Int) > 1000 then (some (.inr (.inr true))) else (some (.inl ((IntKind.wrap .i64 (x6 + (IntKind.wrap .i64 ((((p1.steps.getD x7.toNat default).e).length : Int) + (((p1.steps.getD x7.toNat default).f).length : Int))))), (IntKind.wrap .i64 (x7 + 1))))))) else none) else (some (.inr (.inl x6)))

noncomputable def ref_GreatLoops (p1 : TLoops) : Option Bool :=
  if (p1.put.length : Int) > 7000 then (some true) else (if (p1.get.length : Int) > 130000 then (some true) else (if (p1.steps.length : Int) > 1300 then (some true) else ((loop (fun (x6, x7) => ref_GreatLoops_l1 p1 x6 x7) (0, 0)).bind (Sum.elim (fun z8 => ref_GreatLoops_j1 z8) (fun z9 => some z9)))))
end Pam

/- what ref_CopyLoops computes, read off the program by a program of ours -/
namespace Pam
open Go
noncomputable def ref_CopyLoops_j1 (p1 : TLoops) (l3 : List TLoop) : Option TLoops :=
  some (TLoops.mk p1.cells p1.put p1.get l3)

noncomputable def ref_CopyLoops_l1 (p1 : TLoops) (l17 : List TLoop) (x19 : Int) : Option (((List TLoop) × Int) ⊕ (List TLoop)) :=
  if x19 < (p1.steps.length : Int) then (if (0 ≤ x19 ∧ x19 < (p1.steps.length : Int)) then (if room (((p1.steps.getD x19.toNat default).e).length) 32 ∧ room (((p1.steps.getD x19.toNat default).f).length) 32 then (if room (l17.length + 1) 80 then (some (.inl ((l17 ++ (lit ([(p1.steps.getD x19.toNat default)] : List TLoop))), (IntKind.wrap .i64 (x19 + 1))))) else none) else none) else none) else (some (.inr l17))

noncomputable def ref_CopyLoops (p1 : TLoops) : Option TLoops :=
  if room p1.put.length 8 ∧ room p1.get.length 8 then ((loop (fun (l17, x19) => ref_CopyLoops_l1 p1 l17 x19) ([], 0)).bind (fun z20 => ref_CopyLoops_j1 p1 z20)) else none
end Pam

/- what emit_Make_2 computes, read off the program by a program of ours -/
namespace Pam
open Go
noncomputable def emit_Make_2_j1 (p1 : TLoops) (p2 : List Int) (x4 : Int) (l5 : List TIns) : Option (TImage × TFault) :=
  (code_Cost l5).bind fun y7 => if room p1.put.length 8 ∧ room p1.get.length 8 ∧ room p2.length 8 then ((code_Check (TImage.mk p1.cells x4 y7 p1.put p2 p1.get l5)).bind fun y8 => if ¬ ((y8).code) = 0 then (some ((TImage.mk 0 0 0 [] [] [] []), (y8))) else (some ((TImage.mk p1.cells x4 y7 p1.put p2 p1.get l5), (TFault.mk 0 0)))) else none

noncomputable def emit_Make_2_l1 (p1 : TLoops) (x23 : Int) (l24 : List TIns) (x26 : Int) : Option ((Int × (List TIns) × Int) ⊕ ((Int × (List TIns)) ⊕ (TImage × TFault))) :=
  if x26 < (p1.steps.length : Int) then (if (0 ≤ x26 ∧ x26 < (p1.steps.length : Int)) then ((emit_emitter_step (p1.steps.getD x26.toNat default) x23 l24).bind fun y27 => if (y27.2.length : Int) > 200000 then (some (.inr (.inr ((TImage.mk 0 0 0 [] [] [] []), (TFault.mk 7 x26))))) else (if y27.1 > 40 then (some (.inr (.inr ((TImage.mk 0 0 0 [] [] [] []), (TFault.mk 7 x26))))) else (some (.inl (y27.1, y27.2, (IntKind.wrap .i64 (x26 + 1))))))) else none) else (some (.inr (.inl (x23, l24))))

noncomputable def emit_Make_2 (p1 : TLoops) (p2 : List Int) : Option (TImage × TFault) :=
  (loop_Check p1).bind fun y1 => if ¬ ((y1).code) = 0 then (some ((TImage.mk 0 0 0 [] [] [] []), (y1))) else ((loop (fun (x23, l24, x26) => emit_Make_2_l1 p1 x23 l24 x26) (3, [], 0)).bind (Sum.elim (fun (z29, z30) => emit_Make_2_j1 p1 p2 z29 z30) (fun z31 => some z31)))
end Pam

/- what ref_F computes, read off the program by a program of ours -/
namespace Pam
open Go
noncomputable def ref_F (p1 : Int) (p2 : Int) : Option TFault :=
  some (TFault.mk p1 p2)
end Pam

/- what ref_there computes, read off the program by a program of ours -/
namespace Pam
open Go
noncomputable def ref_there (p1 : TLoops) (p2 : Int) (p3 : Int) : Option Bool :=
  if p2 ≥ 0 then (if p2 < p1.cells then (if p3 ≥ 1 then (some (decide (p3 ≤ (IntKind.wrap .i64 (p1.cells - p2))))) else (some false)) else (some false)) else (some false)
end Pam

/- what ref_OpOf computes, read off the program by a program of ours -/
namespace Pam
open Go
noncomputable def ref_OpOf_j1 (p1 : Int) (x1 : Int) : Option (Int × Int × Int) :=
  if (0 ≤ p1 ∧ p1 < (([63, 105, 105, 105, 105, 105, 105, 105, 105, 105, 98, 98, 98, 105, 98] : List UInt8).length : Int)) ∧ (0 ≤ p1 ∧ p1 < (([63, 105, 105, 105, 105, 105, 105, 105, 98, 98, 98, 98, 98, 105, 98] : List UInt8).length : Int)) then (some (((([63, 105, 105, 105, 105, 105, 105, 105, 105, 105, 98, 98, 98, 105, 98] : List UInt8).getD p1.toNat 0).toNat : Int), ((([63, 105, 105, 105, 105, 105, 105, 105, 98, 98, 98, 98, 98, 105, 98] : List UInt8).getD p1.toNat 0).toNat : Int), x1)) else none

noncomputable def ref_OpOf (p1 : Int) : Option (Int × Int × Int) :=
  if p1 < 1 then (some (0, 0, 0)) else (if p1 > 14 then (some (0, 0, 0)) else (if p1 ≥ 13 then (ref_OpOf_j1 p1 1) else (ref_OpOf_j1 p1 2)))
end Pam

/- what ref_plainTree computes, read off the program by a program of ours -/
namespace Pam
open Go
noncomputable def ref_plainTree_j1 (p2 : List TPush) (x1 : Int) : Option Bool :=
  if x1 = 1 then (some (decide ((p2.length : Int) ≤ 24))) else (some false)

noncomputable def ref_plainTree_l1 (p1 : TLoops) (p2 : List TPush) (p3 : Int) (x6 : Int) (x7 : Int) : Option ((Int × Int) ⊕ (Int ⊕ Bool)) :=
  if x7 < (p2.length : Int) then (if (0 ≤ x7 ∧ x7 < (p2.length : Int)) then ((ref_OpOf ((p2.getD x7.toNat default).k)).bind fun y8 => if ((p2.getD x7.toNat default).op) = 1 then (some (.inl ((IntKind.wrap .i64 (x6 + 1)), (IntKind.wrap .i64 (x7 + 1))))) else (if ((p2.getD x7.toNat default).op) = 2 then ((ref_there p1 ((p2.getD x7.toNat default).v) 1).bind fun y9 => if y9 = true then (some (.inl ((IntKind.wrap .i64 (x6 + 1)), (IntKind.wrap .i64 (x7 + 1))))) else (some (.inr (.inr false)))) else (if ((p2.getD x7.toNat default).op) = 3 then ((ref_there p1 ((p2.getD x7.toNat default).v) p3).bind fun y10 => if y10 = true then (some (.inl ((IntKind.wrap .i64 (x6 + 1)), (IntKind.wrap .i64 (x7 + 1))))) else (some (.inr (.inr false)))) else (if ((p2.getD x7.toNat default).op) = 4 then (if ((p2.getD x7.toNat default).n) < (-1000000000000000000) then (some (.inr (.inr false))) else (if ((p2.getD x7.toNat default).n) > 1000000000000000000 then (some (.inr (.inr false))) else (some (.inl ((IntKind.wrap .i64 (x6 + 1)), (IntKind.wrap .i64 (x7 + 1))))))) else (if ((p2.getD x7.toNat default).op) = 5 then (if ¬ y8.2.2 = 1 then (some (.inr (.inr false))) else (if x6 < 1 then (some (.inr (.inr false))) else (some (.inl (x6, (IntKind.wrap .i64 (x7 + 1))))))) else (if ((p2.getD x7.toNat default).op) = 6 then (if ¬ y8.2.2 = 2 then (some (.inr (.inr false))) else (if x6 < 2 then (some (.inr (.inr false))) else (some (.inl ((IntKind.wrap .i64 (x6 - 1)), (IntKind.wrap .i64 (x7 + 1))))))) else (if ((p2.getD x7.toNat default).op) = 7 then (if x6 < 3 then (some (.inr (.inr false))) else (some (.inl ((IntKind.wrap .i64 (x6 - 2)), (IntKind.wrap .i64 (x7 + 1)))))) else (if ((p2.getD x7.toNat default).op) = 8 then ((ref_there p1 ((p2.getD x7.toNat default).v) ((p2.getD x7.toNat default).n)).bind fun y11 => if y11 = true then (if x6 < 2 then (some (.inr (.inr false))) else (some (.inl ((IntKind.wrap .i64 (x6 - 1)), (IntKind.wrap .i64 (x7 + 1)))))) else (some (.inr (.inr false)))) else (some (.inr (.inr false))))))))))) else none) else (some (.inr (.inl x6)))

noncomputable def ref_plainTree (p1 : TLoops) (p2 : List TPush) (p3 : Int) : Option Bool :=
  (loop (fun (x6, x7) => ref_plainTree_l1 p1 p2 p3 x6 x7) (0, 0)).bind (Sum.elim (fun z12 => ref_plainTree_j1 p2 z12) (fun z13 => some z13))
end Pam

/- what ref_loopOK computes, read off the program by a program of ours -/
namespace Pam
open Go
noncomputable def ref_loopOK_j1 (p1 : TLoops) (p2 : TLoop) (x4 : Int) : Option Bool :=
  (ref_OpOf p2.k).bind fun y5 => (ref_there p1 p2.to x4).bind fun y6 => if y6 = true then (if p2.op = 2 then (some true) else (if y5.2.2 = 2 then ((ref_plainTree p1 p2.f 1).bind fun y7 => some y7) else (some false))) else (some false)

noncomputable def ref_loopOK (p1 : TLoops) (p2 : TLoop) : Option Bool :=
  if p2.op = 1 then ((ref_there p1 p2.to 1).bind fun y1 => if y1 = true then ((ref_plainTree p1 p2.e 1).bind fun y2 => some y2) else (some false)) else (if p2.op < 1 then (some false) else (if p2.op > 4 then (some false) else (if p2.n < 1 then (some false) else (if p2.n > 300 then (some false) else ((ref_plainTree p1 p2.e p2.n).bind fun y3 => if y3 = true then (if p2.op = 3 then (ref_loopOK_j1 p1 p2 1) else (ref_loopOK_j1 p1 p2 p2.n)) else (some false))))))
end Pam

/- what ref_LoopsFault computes, read off the program by a program of ours -/
namespace Pam
open Go
noncomputable def ref_LoopsFault_j3 : Option TFault :=
  some (TFault.mk 0 0)

noncomputable def ref_LoopsFault_l1 (p1 : TLoops) (x8 : Int) : Option (Int ⊕ (Unit ⊕ TFault)) :=
  if x8 < (p1.steps.length : Int) then (if (0 ≤ x8 ∧ x8 < (p1.steps.length : Int)) then ((ref_loopOK p1 (p1.steps.getD x8.toNat default)).bind fun y9 => if y9 = true then (some (.inl (IntKind.wrap .i64 (x8 + 1)))) else ((ref_F 4 x8).bind fun y10 => some (.inr (.inr (y10))))) else none) else (some (.inr (.inl ())))

noncomputable def ref_LoopsFault_j2 (p1 : TLoops) : Option TFault :=
  (loop (fun x8 => ref_LoopsFault_l1 p1 x8) 0).bind (Sum.elim (fun _ => ref_LoopsFault_j3) (fun z11 => some z11))

noncomputable def ref_LoopsFault_l2 (p1 : TLoops) (x14 : Int) : Option (Int ⊕ (Unit ⊕ TFault)) :=
  if x14 < (p1.get.length : Int) then (if (0 ≤ x14 ∧ x14 < (p1.get.length : Int)) then ((ref_there p1 (p1.get.getD x14.toNat default) 1).bind fun y15 => if y15 = true then (some (.inl (IntKind.wrap .i64 (x14 + 1)))) else ((ref_F 16 (-1)).bind fun y16 => some (.inr (.inr (y16))))) else none) else (some (.inr (.inl ())))

noncomputable def ref_LoopsFault_j1 (p1 : TLoops) : Option TFault :=
  (loop (fun x14 => ref_LoopsFault_l2 p1 x14) 0).bind (Sum.elim (fun _ => ref_LoopsFault_j2 p1) (fun z17 => some z17))

noncomputable def ref_LoopsFault_l3 (p1 : TLoops) (x20 : Int) : Option (Int ⊕ (Unit ⊕ TFault)) :=
  if x20 < (p1.put.length : Int) then (if (0 ≤ x20 ∧ x20 < (p1.put.length : Int)) then ((ref_there p1 (p1.put.getD x20.toNat default) 1).bind fun y21 => if y21 = true then (some (.inl (IntKind.wrap .i64 (x20 + 1)))) else ((ref_F 16 (-1)).bind fun y22 => some (.inr (.inr (y22))))) else none) else (some (.inr (.inl ())))

noncomputable def ref_LoopsFault (p1 : TLoops) : Option TFault :=
  if p1.cells < 1 then ((ref_F 13 (-1)).bind fun y1 => some (y1)) else (if p1.cells > 6000 then ((ref_F 13 (-1)).bind fun y2 => some (y2)) else (if (p1.put.length : Int) > 6000 then ((ref_F 7 (-1)).bind fun y3 => some (y3)) else (if (p1.get.length : Int) > 120000 then ((ref_F 7 (-1)).bind fun y4 => some (y4)) else (if (p1.steps.length : Int) > 1200 then ((ref_F 7 (-1)).bind fun y5 => some (y5)) else ((loop (fun x20 => ref_LoopsFault_l3 p1 x20) 0).bind (Sum.elim (fun _ => ref_LoopsFault_j1 p1) (fun z23 => some z23)))))))
end Pam

/- what ref_emitting_put computes, read off the program by a program of ours -/
namespace Pam
open Go
noncomputable def ref_emitting_put (p1 : Int) (p2 : Int) (p3 : Int) (p4 : Int) (p5 : Int) (p6 : Int) (p7 : List TIns) : Option (List TIns) :=
  if room (p7.length + 1) 48 then (some (p7 ++ (lit ([(TIns.mk p1 p2 p3 p4 p5 p6)] : List TIns)))) else none
end Pam

/- what ref_emitting_tree computes, read off the program by a program of ours -/
namespace Pam
open Go
noncomputable def ref_emitting_tree_l1 (p1 : List TPush) (p3 : Int) (l15 : List TIns) (x17 : Int) (x18 : Int) : Option (((List TIns) × Int × Int) ⊕ (List TIns)) :=
  if x18 < (p1.length : Int) then (if (0 ≤ x18 ∧ x18 < (p1.length : Int)) then (if ((p1.getD x18.toNat default).op) = 1 then ((ref_emitting_put 1 0 x17 0 0 ((p1.getD x18.toNat default).n) l15).bind fun y19 => some (.inl (y19, (IntKind.wrap .i64 (x17 + 1)), (IntKind.wrap .i64 (x18 + 1))))) else (if ((p1.getD x18.toNat default).op) = 2 then ((ref_emitting_put 2 0 x17 0 0 ((p1.getD x18.toNat default).v) l15).bind fun y21 => some (.inl (y21, (IntKind.wrap .i64 (x17 + 1)), (IntKind.wrap .i64 (x18 + 1))))) else (if ((p1.getD x18.toNat default).op) = 3 then (if p3 = 0 then ((ref_emitting_put 2 0 x17 0 0 ((p1.getD x18.toNat default).v) l15).bind fun y23 => some (.inl (y23, (IntKind.wrap .i64 (x17 + 1)), (IntKind.wrap .i64 (x18 + 1))))) else ((ref_emitting_put 3 0 x17 0 p3 ((p1.getD x18.toNat default).v) l15).bind fun y25 => some (.inl (y25, (IntKind.wrap .i64 (x17 + 1)), (IntKind.wrap .i64 (x18 + 1)))))) else (if ((p1.getD x18.toNat default).op) = 4 then ((ref_emitting_put 1 0 x17 0 0 ((p1.getD x18.toNat default).n) l15).bind fun y27 => if p3 > 0 then ((ref_emitting_put 7 1 x17 x17 0 0 y27).bind fun y29 => some (.inl (y29, (IntKind.wrap .i64 (x17 + 1)), (IntKind.wrap .i64 (x18 + 1))))) else (some (.inl (y27, (IntKind.wrap .i64 (x17 + 1)), (IntKind.wrap .i64 (x18 + 1)))))) else (if ((p1.getD x18.toNat default).op) = 5 then ((ref_emitting_put 6 ((p1.getD x18.toNat default).k) (IntKind.wrap .i64 (x17 - 1)) (IntKind.wrap .i64 (x17 - 1)) 0 0 l15).bind fun y31 => some (.inl (y31, x17, (IntKind.wrap .i64 (x18 + 1))))) else (if ((p1.getD x18.toNat default).op) = 6 then ((ref_emitting_put 7 ((p1.getD x18.toNat default).k) (IntKind.wrap .i64 (x17 - 2)) (IntKind.wrap .i64 (x17 - 2)) (IntKind.wrap .i64 (x17 - 1)) 0 l15).bind fun y33 => some (.inl (y33, (IntKind.wrap .i64 (x17 - 1)), (IntKind.wrap .i64 (x18 + 1))))) else (if ((p1.getD x18.toNat default).op) = 7 then ((ref_emitting_put 8 0 (IntKind.wrap .i64 (x17 - 3)) (IntKind.wrap .i64 (x17 - 2)) (IntKind.wrap .i64 (x17 - 1)) 0 l15).bind fun y35 => some (.inl (y35, (IntKind.wrap .i64 (x17 - 2)), (IntKind.wrap .i64 (x18 + 1))))) else (if ((p1.getD x18.toNat default).op) = 8 then ((ref_emitting_put 1 0 x17 0 0 0 l15).bind fun y37 => (ref_emitting_put 7 8 (IntKind.wrap .i64 (x17 + 1)) (IntKind.wrap .i64 (x17 - 2)) x17 0 y37).bind fun y39 => (ref_emitting_put 6 14 (IntKind.wrap .i64 (x17 + 1)) (IntKind.wrap .i64 (x17 + 1)) 0 0 y39).bind fun y41 => (ref_emitting_put 1 0 (IntKind.wrap .i64 (x17 + 2)) 0 0 ((p1.getD x18.toNat default).n) y41).bind fun y43 => (ref_emitting_put 7 8 (IntKind.wrap .i64 (x17 + 2)) (IntKind.wrap .i64 (x17 - 2)) (IntKind.wrap .i64 (x17 + 2)) 0 y43).bind fun y45 => (ref_emitting_put 7 10 (IntKind.wrap .i64 (x17 + 1)) (IntKind.wrap .i64 (x17 + 1)) (IntKind.wrap .i64 (x17 + 2)) 0 y45).bind fun y47 => (ref_emitting_put 9 0 (IntKind.wrap .i64 (x17 + 2)) (IntKind.wrap .i64 (x17 + 1)) 0 0 y47).bind fun y49 => (ref_emitting_put 8 0 (IntKind.wrap .i64 (x17 + 2)) (IntKind.wrap .i64 (x17 - 2)) x17 0 y49).bind fun y51 => (ref_emitting_put 3 0 (IntKind.wrap .i64 (x17 + 2)) (IntKind.wrap .i64 (x17 + 2)) ((p1.getD x18.toNat default).n) ((p1.getD x18.toNat default).v) y51).bind fun y53 => (ref_emitting_put 8 0 (IntKind.wrap .i64 (x17 + 1)) (IntKind.wrap .i64 (x17 + 2)) (IntKind.wrap .i64 (x17 - 1)) 0 y53).bind fun y55 => (ref_emitting_put 9 0 (IntKind.wrap .i64 (x17 - 2)) (IntKind.wrap .i64 (x17 + 1)) 0 0 y55).bind fun y57 => some (.inl (y57, (IntKind.wrap .i64 (x17 - 1)), (IntKind.wrap .i64 (x18 + 1))))) else (some (.inl (l15, x17, (IntKind.wrap .i64 (x18 + 1))))))))))))) else none) else (some (.inr l15))

noncomputable def ref_emitting_tree (p1 : List TPush) (p2 : Int) (p3 : Int) (p4 : List TIns) : Option (List TIns) :=
  (loop (fun (l15, x17, x18) => ref_emitting_tree_l1 p1 p3 l15 x17 x18) (p4, p2, 0)).bind (fun z59 => some z59)
end Pam

/- what ref_emitting_step computes, read off the program by a program of ours -/
namespace Pam
open Go
noncomputable def ref_emitting_step_j2 (p1 : TLoop) (l15 : List TIns) : Option (List TIns) :=
  (ref_emitting_put 11 0 0 0 0 0 l15).bind fun y17 => if p1.op = 3 then ((ref_emitting_put 4 0 1 0 0 p1.to y17).bind fun y19 => some y19) else (some y17)

noncomputable def ref_emitting_step_j1 (p1 : TLoop) (l7 : List TIns) : Option (List TIns) :=
  (ref_emitting_put 10 0 0 0 0 p1.n l7).bind fun y9 => (ref_emitting_tree p1.e 2 p1.n y9).bind fun y11 => if p1.op = 2 then ((ref_emitting_put 5 0 2 0 p1.n p1.to y11).bind fun y21 => ref_emitting_step_j2 p1 y21) else (if p1.op = 3 then ((ref_emitting_put 7 p1.k 1 1 2 0 y11).bind fun y23 => ref_emitting_step_j2 p1 y23) else (if p1.op = 4 then ((ref_emitting_put 7 p1.k 1 1 2 0 y11).bind fun y25 => (ref_emitting_put 5 0 1 0 p1.n p1.to y25).bind fun y27 => ref_emitting_step_j2 p1 y27) else (ref_emitting_step_j2 p1 y11)))

noncomputable def ref_emitting_step (p1 : TLoop) (p2 : List TIns) : Option (List TIns) :=
  if p1.op = 1 then ((ref_emitting_tree p1.e 2 0 p2).bind fun y1 => (ref_emitting_put 4 0 2 0 0 p1.to y1).bind fun y3 => some y3) else (if p1.op = 3 then ((ref_emitting_tree p1.f 2 0 p2).bind fun y29 => (ref_emitting_put 9 0 1 2 0 0 y29).bind fun y31 => ref_emitting_step_j1 p1 y31) else (if p1.op = 4 then ((ref_emitting_tree p1.f 2 0 p2).bind fun y33 => (ref_emitting_put 9 0 1 2 0 0 y33).bind fun y35 => ref_emitting_step_j1 p1 y35) else (ref_emitting_step_j1 p1 p2)))
end Pam

/- what ref_CostOf computes, read off the program by a program of ours -/
namespace Pam
open Go
noncomputable def ref_CostOf_j1 (x1 : Int) : Option Int :=
  some x1

noncomputable def ref_CostOf_j2 (x8 : Int) (x9 : Int) : Option ((Int × Int) ⊕ (Int ⊕ Int)) :=
  some (.inl (x8, (IntKind.wrap .i64 (x9 + 1))))

noncomputable def ref_CostOf_j3 (p1 : List TIns) (x6 : Int) (x7 : Int) (x10 : Int) : Option ((Int × Int) ⊕ (Int ⊕ Int)) :=
  if x10 = (p1.length : Int) then (some (.inr (.inr 0))) else (if ((p1.getD x7.toNat default).n) < 1 then (some (.inr (.inr 0))) else (if ((p1.getD x7.toNat default).n) > 300 then (some (.inr (.inr 0))) else (ref_CostOf_j2 (IntKind.wrap .i64 ((IntKind.wrap .i64 (x6 + 1)) + (IntKind.wrap .i64 (((p1.getD x7.toNat default).n) * (IntKind.wrap .i64 (x10 - x7)))))) x10)))

noncomputable def ref_CostOf_l2 (p1 : List TIns) (x13 : Int) : Option (Int ⊕ (Int ⊕ Int)) :=
  if x13 < (p1.length : Int) then (if (0 ≤ x13 ∧ x13 < (p1.length : Int)) then (if ¬ ((p1.getD x13.toNat default).op) = 11 then (if ((p1.getD x13.toNat default).op) = 10 then (some (.inr (.inr 0))) else (some (.inl (IntKind.wrap .i64 (x13 + 1))))) else (some (.inr (.inl x13)))) else none) else (some (.inr (.inl x13)))

noncomputable def ref_CostOf_l1 (p1 : List TIns) (x6 : Int) (x7 : Int) : Option ((Int × Int) ⊕ (Int ⊕ Int)) :=
  if x7 < (p1.length : Int) then (if (0 ≤ x7 ∧ x7 < (p1.length : Int)) then (if ((p1.getD x7.toNat default).op) = 11 then (some (.inr (.inr 0))) else (if ¬ ((p1.getD x7.toNat default).op) = 10 then (ref_CostOf_j2 (IntKind.wrap .i64 (x6 + 1)) x7) else ((loop (fun x13 => ref_CostOf_l2 p1 x13) (IntKind.wrap .i64 (x7 + 1))).bind (Sum.elim (fun z14 => ref_CostOf_j3 p1 x6 x7 z14) (fun z15 => some (.inr (.inr z15))))))) else none) else (some (.inr (.inl x6)))

noncomputable def ref_CostOf (p1 : List TIns) : Option Int :=
  (loop (fun (x6, x7) => ref_CostOf_l1 p1 x6 x7) (0, 0)).bind (Sum.elim (fun z16 => ref_CostOf_j1 z16) (fun z17 => some z17))
end Pam

/- what ref_regsOK computes, read off the program by a program of ours -/
namespace Pam
open Go
noncomputable def ref_regsOK_j1 : Option Bool :=
  some true

noncomputable def ref_regsOK_l1 (p1 : TImage) (p2 : List Int) (x3 : Int) : Option (Int ⊕ (Unit ⊕ Bool)) :=
  if x3 < (p2.length : Int) then (if (0 ≤ x3 ∧ x3 < (p2.length : Int)) then (if (p2.getD x3.toNat default) < 0 then (some (.inr (.inr false))) else (if (p2.getD x3.toNat default) ≥ p1.regs then (some (.inr (.inr false))) else (some (.inl (IntKind.wrap .i64 (x3 + 1)))))) else none) else (some (.inr (.inl ())))

noncomputable def ref_regsOK (p1 : TImage) (p2 : List Int) : Option Bool :=
  (loop (fun x3 => ref_regsOK_l1 p1 p2 x3) 0).bind (Sum.elim (fun _ => ref_regsOK_j1) (fun z4 => some z4))
end Pam

/- what ref_insOK computes, read off the program by a program of ours -/
namespace Pam
open Go
noncomputable def ref_insOK_j2 (p1 : TImage) (p2 : TIns) (y1 : (Int × Int × Int)) (b5 : Bool) : Option Bool :=
  if b5 = true then ((ref_regsOK p1 (lit ([p2.r_, p2.a] : List Int))).bind fun y6 => if y6 = true then (if p2.n ≥ 0 then (if p2.n < p1.cells then (if p2.b ≥ 1 then (some (decide (p2.b ≤ (IntKind.wrap .i64 (p1.cells - p2.n))))) else (some false)) else (some false)) else (some false)) else (some false)) else (if p2.op = 6 then ((ref_regsOK p1 (lit ([p2.r_, p2.a] : List Int))).bind fun y7 => if y7 = true then (some (y1.2.2 == 1)) else (some false)) else (if p2.op = 7 then ((ref_regsOK p1 (lit ([p2.r_, p2.a, p2.b] : List Int))).bind fun y8 => if y8 = true then (some (y1.2.2 == 2)) else (some false)) else (if p2.op = 8 then ((ref_regsOK p1 (lit ([p2.r_, p2.a, p2.b] : List Int))).bind fun y9 => some y9) else (if p2.op = 9 then ((ref_regsOK p1 (lit ([p2.r_, p2.a] : List Int))).bind fun y10 => some y10) else (if p2.op = 10 then ((ref_regsOK p1 (lit ([p2.r_] : List Int))).bind fun y11 => if y11 = true then (if p2.n ≥ 1 then (some (decide (p2.n ≤ 300))) else (some false)) else (some false)) else (some (p2.op == 11)))))))

noncomputable def ref_insOK_j1 (p1 : TImage) (p2 : TIns) (y1 : (Int × Int × Int)) (b3 : Bool) : Option Bool :=
  if b3 = true then ((ref_regsOK p1 (lit ([p2.r_] : List Int))).bind fun y4 => if y4 = true then (if p2.n ≥ 0 then (some (decide (p2.n < p1.cells))) else (some false)) else (some false)) else (if p2.op = 3 then (ref_insOK_j2 p1 p2 y1 (p2.op == 3)) else (ref_insOK_j2 p1 p2 y1 (p2.op == 5)))

noncomputable def ref_insOK (p1 : TImage) (p2 : TIns) : Option Bool :=
  (ref_OpOf p2.k).bind fun y1 => if p2.op = 1 then ((ref_regsOK p1 (lit ([p2.r_] : List Int))).bind fun y2 => some y2) else (if p2.op = 2 then (ref_insOK_j1 p1 p2 y1 (p2.op == 2)) else (ref_insOK_j1 p1 p2 y1 (p2.op == 4)))
end Pam

/- what ref_CostOf_2 computes, read off the program by a program of ours -/
namespace Pam
open Go
noncomputable def ref_CostOf_2_j1 (x1 : Int) : Option Int :=
  some x1

noncomputable def ref_CostOf_2_j2 (x8 : Int) (x9 : Int) : Option ((Int × Int) ⊕ (Int ⊕ Int)) :=
  some (.inl (x8, (IntKind.wrap .i64 (x9 + 1))))

noncomputable def ref_CostOf_2_j3 (p1 : List TIns) (x6 : Int) (x7 : Int) (x10 : Int) : Option ((Int × Int) ⊕ (Int ⊕ Int)) :=
  if x10 = (p1.length : Int) then (some (.inr (.inr 0))) else (if ((p1.getD x7.toNat default).n) < 1 then (some (.inr (.inr 0))) else (if ((p1.getD x7.toNat default).n) > 300 then (some (.inr (.inr 0))) else (ref_CostOf_2_j2 (IntKind.wrap .i64 ((IntKind.wrap .i64 (x6 + 1)) + (IntKind.wrap .i64 (((p1.getD x7.toNat default).n) * (IntKind.wrap .i64 (x10 - x7)))))) x10)))

noncomputable def ref_CostOf_2_l2 (p1 : List TIns) (x13 : Int) : Option (Int ⊕ (Int ⊕ Int)) :=
  if x13 < (p1.length : Int) then (if (0 ≤ x13 ∧ x13 < (p1.length : Int)) then (if ¬ ((p1.getD x13.toNat default).op) = 11 then (if ((p1.getD x13.toNat default).op) = 10 then (some (.inr (.inr 0))) else (some (.inl (IntKind.wrap .i64 (x13 + 1))))) else (some (.inr (.inl x13)))) else none) else (some (.inr (.inl x13)))

noncomputable def ref_CostOf_2_l1 (p1 : List TIns) (x6 : Int) (x7 : Int) : Option ((Int × Int) ⊕ (Int ⊕ Int)) :=
  if x7 < (p1.length : Int) then (if (0 ≤ x7 ∧ x7 < (p1.length : Int)) then (if ((p1.getD x7.toNat default).op) = 11 then (some (.inr (.inr 0))) else (if ¬ ((p1.getD x7.toNat default).op) = 10 then (ref_CostOf_2_j2 (IntKind.wrap .i64 (x6 + 1)) x7) else ((loop (fun x13 => ref_CostOf_2_l2 p1 x13) (IntKind.wrap .i64 (x7 + 1))).bind (Sum.elim (fun z14 => ref_CostOf_2_j3 p1 x6 x7 z14) (fun z15 => some (.inr (.inr z15))))))) else none) else (some (.inr (.inl x6)))

noncomputable def ref_CostOf_2 (p1 : List TIns) : Option Int :=
  (loop (fun (x6, x7) => ref_CostOf_2_l1 p1 x6 x7) (0, 0)).bind (Sum.elim (fun z16 => ref_CostOf_2_j1 z16) (fun z17 => some z17))
end Pam

/- what ref_ImageFault computes, read off the program by a program of ours -/
namespace Pam
open Go
noncomputable def ref_ImageFault_j2 (p1 : TImage) : Option TFault :=
  (ref_CostOf_2 p1.code).bind fun y9 => if ¬ p1.cost = y9 then ((ref_F 18 (-1)).bind fun y10 => some (y10)) else (if y9 = 0 then (if (p1.code.length : Int) > 0 then ((ref_F 18 (-1)).bind fun y11 => some (y11)) else (some (TFault.mk 0 0))) else (some (TFault.mk 0 0)))

noncomputable def ref_ImageFault_l1 (p1 : TImage) (x14 : Int) : Option (Int ⊕ (Unit ⊕ TFault)) :=
  if x14 < (p1.code.length : Int) then (if (0 ≤ x14 ∧ x14 < (p1.code.length : Int)) then ((ref_insOK p1 (p1.code.getD x14.toNat default)).bind fun y15 => if y15 = true then (some (.inl (IntKind.wrap .i64 (x14 + 1)))) else ((ref_F 4 x14).bind fun y16 => some (.inr (.inr (y16))))) else none) else (some (.inr (.inl ())))

noncomputable def ref_ImageFault_j1 (p1 : TImage) : Option TFault :=
  (loop (fun x14 => ref_ImageFault_l1 p1 x14) 0).bind (Sum.elim (fun _ => ref_ImageFault_j2 p1) (fun z17 => some z17))

noncomputable def ref_ImageFault_j3 (x20 : Int) : Option (Int ⊕ (Unit ⊕ TFault)) :=
  some (.inl (IntKind.wrap .i64 (x20 + 1)))

noncomputable def ref_ImageFault_l3 (p1 : TImage) (x20 : Int) (x23 : Int) : Option (Int ⊕ (Unit ⊕ TFault)) :=
  if (0 ≤ x20 ∧ x20 < (3 : Int)) then (if x23 < (((lit ([p1.put, p1.bools, p1.get] : List (List Int))).getD x20.toNat default).length : Int) then (if (0 ≤ x23 ∧ x23 < (((lit ([p1.put, p1.bools, p1.get] : List (List Int))).getD x20.toNat default).length : Int)) then (if (((lit ([p1.put, p1.bools, p1.get] : List (List Int))).getD x20.toNat default).getD x23.toNat default) < 0 then ((ref_F 16 (-1)).bind fun y24 => some (.inr (.inr (y24)))) else (if (((lit ([p1.put, p1.bools, p1.get] : List (List Int))).getD x20.toNat default).getD x23.toNat default) ≥ p1.cells then ((ref_F 16 (-1)).bind fun y25 => some (.inr (.inr (y25)))) else (some (.inl (IntKind.wrap .i64 (x23 + 1)))))) else none) else (some (.inr (.inl ())))) else none

noncomputable def ref_ImageFault_l2 (p1 : TImage) (x20 : Int) : Option (Int ⊕ (Unit ⊕ TFault)) :=
  if x20 < 3 then ((loop (fun x23 => ref_ImageFault_l3 p1 x20 x23) 0).bind (Sum.elim (fun _ => ref_ImageFault_j3 x20) (fun z26 => some (.inr (.inr z26))))) else (some (.inr (.inl ())))

noncomputable def ref_ImageFault (p1 : TImage) : Option TFault :=
  if p1.cells < 1 then ((ref_F 13 (-1)).bind fun y1 => some (y1)) else (if p1.cells > 6000 then ((ref_F 13 (-1)).bind fun y2 => some (y2)) else (if p1.regs < 1 then ((ref_F 13 (-1)).bind fun y3 => some (y3)) else (if p1.regs > 40 then ((ref_F 13 (-1)).bind fun y4 => some (y4)) else (if (p1.put.length : Int) > 6000 then ((ref_F 7 (-1)).bind fun y5 => some (y5)) else (if (p1.bools.length : Int) > 6000 then ((ref_F 7 (-1)).bind fun y6 => some (y6)) else (if (p1.get.length : Int) > 120000 then ((ref_F 7 (-1)).bind fun y7 => some (y7)) else (if (p1.code.length : Int) > 200000 then ((ref_F 7 (-1)).bind fun y8 => some (y8)) else ((loop (fun x20 => ref_ImageFault_l2 p1 x20) 0).bind (Sum.elim (fun _ => ref_ImageFault_j1 p1) (fun z27 => some z27))))))))))
end Pam

/- what ref_Emitted computes, read off the program by a program of ours -/
namespace Pam
open Go
noncomputable def ref_Emitted_j1 (p1 : TLoops) (p2 : List Int) (l4 : List TIns) (x6 : Int) : Option (TImage × TFault) :=
  (ref_CostOf l4).bind fun y7 => (ref_ImageFault (TImage.mk p1.cells x6 y7 p1.put p2 p1.get l4)).bind fun y8 => if ¬ ((y8).code) = 0 then (some ((TImage.mk 0 0 0 [] [] [] []), (y8))) else (some ((TImage.mk p1.cells x6 y7 p1.put p2 p1.get l4), (TFault.mk 0 0)))

noncomputable def ref_Emitted_j2 (x26 : Int) (l29 : List TIns) (x31 : Int) : Option (((List TIns) × Int × Int) ⊕ (((List TIns) × Int) ⊕ (TImage × TFault))) :=
  some (.inl (l29, x31, (IntKind.wrap .i64 (x26 + 1))))

noncomputable def ref_Emitted_j3 (x26 : Int) (y32 : (List TIns)) (x36 : Int) : Option (((List TIns) × Int × Int) ⊕ (((List TIns) × Int) ⊕ (TImage × TFault))) :=
  if (y32.length : Int) > 200000 then ((ref_F 7 x26).bind fun y37 => some (.inr (.inr ((TImage.mk 0 0 0 [] [] [] []), (y37))))) else (if x36 > 40 then ((ref_F 7 x26).bind fun y38 => some (.inr (.inr ((TImage.mk 0 0 0 [] [] [] []), (y38))))) else (ref_Emitted_j2 x26 y32 x36))

noncomputable def ref_Emitted_l2 (y32 : (List TIns)) (x51 : Int) (x52 : Int) : Option ((Int × Int) ⊕ Int) :=
  if x52 < (y32.length : Int) then (if (0 ≤ x52 ∧ x52 < (y32.length : Int)) then (if (IntKind.wrap .i64 (((y32.getD x52.toNat default).r_) + 1)) > x51 then (some (.inl ((IntKind.wrap .i64 (((y32.getD x52.toNat default).r_) + 1)), (IntKind.wrap .i64 (x52 + 1))))) else (some (.inl (x51, (IntKind.wrap .i64 (x52 + 1)))))) else none) else (some (.inr x51))

noncomputable def ref_Emitted_l1 (p1 : TLoops) (l23 : List TIns) (x25 : Int) (x26 : Int) : Option (((List TIns) × Int × Int) ⊕ (((List TIns) × Int) ⊕ (TImage × TFault))) :=
  if x26 < (p1.steps.length : Int) then (if (0 ≤ x26 ∧ x26 < (p1.steps.length : Int)) then ((ref_emitting_step (p1.steps.getD x26.toNat default) l23).bind fun y32 => (loop (fun (x51, x52) => ref_Emitted_l2 y32 x51 x52) (x25, (l23.length : Int))).bind (fun z53 => ref_Emitted_j3 x26 y32 z53)) else none) else (some (.inr (.inl (l23, x25))))

noncomputable def ref_Emitted (p1 : TLoops) (p2 : List Int) : Option (TImage × TFault) :=
  (ref_LoopsFault p1).bind fun y1 => if ¬ ((y1).code) = 0 then (some ((TImage.mk 0 0 0 [] [] [] []), (y1))) else ((loop (fun (l23, x25, x26) => ref_Emitted_l1 p1 l23 x25 x26) ([], 3, 0)).bind (Sum.elim (fun (z54, z55) => ref_Emitted_j1 p1 p2 z54 z55) (fun z56 => some z56)))
end Pam

/- what ref_SameInts computes, read off the program by a program of ours -/
namespace Pam
open Go
noncomputable def ref_SameInts_j1 : Option Bool :=
  some true

noncomputable def ref_SameInts_l1 (p1 : List Int) (p2 : List Int) (x3 : Int) : Option (Int ⊕ (Unit ⊕ Bool)) :=
  if x3 < (p1.length : Int) then (if (0 ≤ x3 ∧ x3 < (p1.length : Int)) ∧ (0 ≤ x3 ∧ x3 < (p2.length : Int)) then (if ¬ (p1.getD x3.toNat default) = (p2.getD x3.toNat default) then (some (.inr (.inr false))) else (some (.inl (IntKind.wrap .i64 (x3 + 1))))) else none) else (some (.inr (.inl ())))

noncomputable def ref_SameInts (p1 : List Int) (p2 : List Int) : Option Bool :=
  if ¬ (p1.length : Int) = (p2.length : Int) then (some false) else ((loop (fun x3 => ref_SameInts_l1 p1 p2 x3) 0).bind (Sum.elim (fun _ => ref_SameInts_j1) (fun z4 => some z4)))
end Pam

/- what ref_SameImage computes, read off the program by a program of ours -/
namespace Pam
open Go
noncomputable def ref_SameImage_j1 : Option Bool :=
  some true

noncomputable def ref_SameImage_l1 (p1 : TImage) (p2 : TImage) (x6 : Int) : Option (Int ⊕ (Unit ⊕ Bool)) :=
  if x6 < (p1.code.length : Int) then (if (0 ≤ x6 ∧ x6 < (p1.code.length : Int)) ∧ (0 ≤ x6 ∧ x6 < (p2.code.length : Int)) then (if ((p1.code.getD x6.toNat default).op) = ((p2.code.getD x6.toNat default).op) ∧ ((p1.code.getD x6.toNat default).k) = ((p2.code.getD x6.toNat default).k) ∧ ((p1.code.getD x6.toNat default).r_) = ((p2.code.getD x6.toNat default).r_) ∧ ((p1.code.getD x6.toNat default).a) = ((p2.code.getD x6.toNat default).a) ∧ ((p1.code.getD x6.toNat default).b) = ((p2.code.getD x6.toNat default).b) ∧ ((p1.code.getD x6.toNat default).n) = ((p2.code.getD x6.toNat default).n) then (some (.inl (IntKind.wrap .i64 (x6 + 1)))) else (some (.inr (.inr false)))) else none) else (some (.inr (.inl ())))

noncomputable def ref_SameImage (p1 : TImage) (p2 : TImage) : Option Bool :=
  if ¬ p1.cells = p2.cells then (some false) else (if ¬ p1.regs = p2.regs then (some false) else (if ¬ p1.cost = p2.cost then (some false) else ((ref_SameInts p1.put p2.put).bind fun y1 => if y1 = true then ((ref_SameInts p1.bools p2.bools).bind fun y2 => if y2 = true then ((ref_SameInts p1.get p2.get).bind fun y3 => if y3 = true then (if ¬ (p1.code.length : Int) = (p2.code.length : Int) then (some false) else ((loop (fun x6 => ref_SameImage_l1 p1 p2 x6) 0).bind (Sum.elim (fun _ => ref_SameImage_j1) (fun z7 => some z7)))) else (some false)) else (some false)) else (some false))))
end Pam

/- what ref_samePush computes, read off the program by a program of ours -/
namespace Pam
open Go
noncomputable def ref_samePush_j1 : Option Bool :=
  some true

noncomputable def ref_samePush_l1 (p1 : List TPush) (p2 : List TPush) (x3 : Int) : Option (Int ⊕ (Unit ⊕ Bool)) :=
  if x3 < (p1.length : Int) then (if (0 ≤ x3 ∧ x3 < (p1.length : Int)) ∧ (0 ≤ x3 ∧ x3 < (p2.length : Int)) then (if ((p1.getD x3.toNat default).op) = ((p2.getD x3.toNat default).op) ∧ ((p1.getD x3.toNat default).k) = ((p2.getD x3.toNat default).k) ∧ ((p1.getD x3.toNat default).v) = ((p2.getD x3.toNat default).v) ∧ ((p1.getD x3.toNat default).n) = ((p2.getD x3.toNat default).n) then (some (.inl (IntKind.wrap .i64 (x3 + 1)))) else (some (.inr (.inr false)))) else none) else (some (.inr (.inl ())))

noncomputable def ref_samePush (p1 : List TPush) (p2 : List TPush) : Option Bool :=
  if ¬ (p1.length : Int) = (p2.length : Int) then (some false) else ((loop (fun x3 => ref_samePush_l1 p1 p2 x3) 0).bind (Sum.elim (fun _ => ref_samePush_j1) (fun z4 => some z4)))
end Pam

/- what ref_SameLoops computes, read off the program by a program of ours -/
namespace Pam
open Go
noncomputable def ref_SameLoops_j1 : Option Bool :=
  some true

noncomputable def ref_SameLoops_l1 (p1 : TLoops) (p2 : TLoops) (x5 : Int) : Option (Int ⊕ (Unit ⊕ Bool)) :=
  if x5 < (p1.steps.length : Int) then (if (0 ≤ x5 ∧ x5 < (p1.steps.length : Int)) ∧ (0 ≤ x5 ∧ x5 < (p2.steps.length : Int)) then (if ¬ ((p1.steps.getD x5.toNat default).op) = ((p2.steps.getD x5.toNat default).op) then (some (.inr (.inr false))) else (if ¬ ((p1.steps.getD x5.toNat default).k) = ((p2.steps.getD x5.toNat default).k) then (some (.inr (.inr false))) else (if ¬ ((p1.steps.getD x5.toNat default).n) = ((p2.steps.getD x5.toNat default).n) then (some (.inr (.inr false))) else (if ¬ ((p1.steps.getD x5.toNat default).to) = ((p2.steps.getD x5.toNat default).to) then (some (.inr (.inr false))) else ((ref_samePush ((p1.steps.getD x5.toNat default).e) ((p2.steps.getD x5.toNat default).e)).bind fun y6 => if y6 = true then ((ref_samePush ((p1.steps.getD x5.toNat default).f) ((p2.steps.getD x5.toNat default).f)).bind fun y7 => if y7 = true then (some (.inl (IntKind.wrap .i64 (x5 + 1)))) else (some (.inr (.inr false)))) else (some (.inr (.inr false)))))))) else none) else (some (.inr (.inl ())))

noncomputable def ref_SameLoops (p1 : TLoops) (p2 : TLoops) : Option Bool :=
  if ¬ p1.cells = p2.cells then (some false) else ((ref_SameInts p1.put p2.put).bind fun y1 => if y1 = true then ((ref_SameInts p1.get p2.get).bind fun y2 => if y2 = true then (if ¬ (p1.steps.length : Int) = (p2.steps.length : Int) then (some false) else ((loop (fun x5 => ref_SameLoops_l1 p1 p2 x5) 0).bind (Sum.elim (fun _ => ref_SameLoops_j1) (fun z8 => some z8)))) else (some false)) else (some false))
end Pam

/- what law_EmitMakes computes, read off the program by a program of ours -/
namespace Pam
open Go
noncomputable def law_EmitMakes (p1 : TLoops) (p2 : List Int) : Option Bool :=
  (law_emitBegun ).bind fun y1 => if y1 = true then ((ref_GreatLoops p1).bind fun y2 => if y2 = true then (some true) else (if (p2.length : Int) > 7000 then (some true) else ((ref_CopyLoops p1).bind fun y3 => if room p2.length 8 then ((emit_Make_2 (y3) p2).bind fun y4 => (ref_Emitted p1 p2).bind fun y5 => if ((y4.2).code) = ((y5.2).code) ∧ ((y4.2).at_) = ((y5.2).at_) then ((ref_SameImage (y4.1) (y5.1)).bind fun y6 => if y6 = true then ((ref_SameLoops (y3) p1).bind fun y7 => if y7 = true then ((ref_SameInts p2 p2).bind fun y8 => some y8) else (some false)) else (some false)) else (some false)) else none))) else (some false)
end Pam
