/- what ref_Cells computes, read off the program by a program of ours -/
import Derived.Test.YthafkijdkbmdgaaDaData1
import Derived.Test.YthafkijdkbmdgaaDBase3
set_option linter.all false
namespace Pam
open Go
noncomputable def ie (p1:Int):Option Int :=
  if p1 < 1 then (some 1) else (some p1)
noncomputable def dQ (p2:Int) (x2:Int):Option Bool :=
  some (decide (x2 > (IntKind.wrap .i64 (100 * p2))))
noncomputable def dR (p1:ae) (x7:Int) (x8:Int):Option ((Int×Int) ⊕ (Int ⊕ Bool)) :=
  some (.inl ((IntKind.wrap .i64 (x7 + (IntKind.wrap .i64 ((((p1.rules.getD x8.toNat default).a).length:Int) + (((p1.rules.getD x8.toNat default).e).length:Int))))),(IntKind.wrap .i64 (x8 + 1))))
noncomputable def cC (p1:ae) (x7:Int) (x8:Int):Option ((Int×Int) ⊕ (Int ⊕ Bool)) :=
  if x8 < (p1.rules.length:Int) then (if (0 ≤ x8∧x8 < (p1.rules.length:Int)) then (if (((p1.rules.getD x8.toNat default).a).length:Int) > 100 then (some (.inr (.inr true))) else (if (((p1.rules.getD x8.toNat default).e).length:Int) > 1000 then (some (.inr (.inr true))) else (if ((p1.rules.getD x8.toNat default).op) = 15 then (if ((p1.rules.getD x8.toNat default).n) > 1000 then (some (.inr (.inr true))) else (dR p1 x7 x8)) else (dR p1 x7 x8)))) else none) else (some (.inr (.inl x7)))
noncomputable def dm (p1:ae) (p2:Int) (x1:Int):Option Bool :=
  (aZ (fun (x7,x8)=>cC p1 x7 x8) (x1,0)).bind (Sum.elim (fun z9=>dQ p2 z9) (fun z10=>some z10))
noncomputable def cD (p1:ae) (x15:Int) (x16:Int):Option ((Int×Int) ⊕ (Int ⊕ Bool)) :=
  if x16 < (p1.vars.length:Int) then (if (0 ≤ x16∧x16 < (p1.vars.length:Int)) then (if ((p1.vars.getD x16.toNat default).n) > 1000 then (some (.inr (.inr true))) else ((ie ((p1.vars.getD x16.toNat default).n)).bind fun y17=>some (.inl ((IntKind.wrap .i64 (x15 + y17)),(IntKind.wrap .i64 (x16 + 1)))))) else none) else (some (.inr (.inl x15)))
noncomputable def gT (p1:ae) (p2:Int):Option Bool :=
  if (p1.vars.length:Int) > p2 then (some true) else (if (p1.rules.length:Int) > p2 then (some true) else (if (p1.in_.length:Int) > p2 then (some true) else (if (p1.out_.length:Int) > p2 then (some true) else ((aZ (fun (x15,x16)=>cD p1 x15 x16) (0,0)).bind (Sum.elim (fun z18=>dm p1 p2 z18) (fun z19=>some z19))))))
noncomputable def gm:Option Bool :=
  some false
noncomputable def gn (p1:List (List Int)) (x3:Int):Option (Int ⊕ (Unit ⊕ Bool)) :=
  if x3 < (p1.length:Int) then (if (0 ≤ x3∧x3 < (p1.length:Int)) then (if ((p1.getD x3.toNat default).length:Int) > 10000 then (some (.inr (.inr true))) else (some (.inl (IntKind.wrap .i64 (x3 + 1))))) else none) else (some (.inr (.inl ())))
noncomputable def i7 (p1:List (List Int)):Option Bool :=
  if (p1.length:Int) > 60 then (some true) else ((aZ (fun x3=>gn p1 x3) 0).bind (Sum.elim (fun _=>gm) (fun z4=>some z4)))
noncomputable def bH (p1:List Int):Option (List Int) :=
  if p1 = [] then (some []) else (if dg p1.length 8 then (some p1) else none)
noncomputable def cN (p1:List ay):Option (List ay) :=
  if p1 = [] then (some []) else (if dg p1.length 32 then (some p1) else none)
noncomputable def mG (p1:af):Option af :=
  (bH p1.a).bind fun y1=>(cN p1.e).bind fun y2=>some (af.mk p1.op p1.k p1.out_ p1.n y1 y2)
noncomputable def dh (p1:List ao):Option (List ao) :=
  if p1 = [] then (some []) else (if dg p1.length 16 then (some p1) else none)
noncomputable def eE (p1:List Int):Option (List Int) :=
  if p1.length ≤ 140737488355328 then some (nG p1) else none
noncomputable def dx (p0:Nat) (p1:List Int):Option (List Int) :=
  if p0 = p1.length∧p1.length ≤ 140737488355328 then some (Go.Lib.compact p1) else none
noncomputable def jq (l4:List Int):Option (List Int) :=
  (eE l4).bind fun y6=>(dx l4.length y6).bind fun y7=>some y7
noncomputable def gH (p1:af) (l20:List Int) (x22:Int) (b25:Bool):Option (((List Int)×Int) ⊕ (List Int)) :=
  if b25 = true then (if dg (l20.length + 1) 8 then (some (.inl ((l20 ++ (lit ([(p1.e.getD x22.toNat default).v]:List Int))),(IntKind.wrap .i64 (x22 + 1))))) else none) else (some (.inl (l20,(IntKind.wrap .i64 (x22 + 1)))))
noncomputable def fE (p1:af) (l20:List Int) (x22:Int):Option (((List Int)×Int) ⊕ (List Int)) :=
  if x22 < (p1.e.length:Int) then (if (0 ≤ x22∧x22 < (p1.e.length:Int)) then (if ((p1.e.getD x22.toNat default).op) = 2 then (gH p1 l20 x22 (((p1.e.getD x22.toNat default).op) == 2)) else (if ((p1.e.getD x22.toNat default).op) = 3 then (gH p1 l20 x22 (((p1.e.getD x22.toNat default).op) == 3)) else (gH p1 l20 x22 (((p1.e.getD x22.toNat default).op) == 8)))) else none) else (some (.inr l20))
noncomputable def lG (p1:af):Option (List Int) :=
  (bH p1.a).bind fun y1=>(aZ (fun (l20,x22)=>fE p1 l20 x22) (y1,0)).bind (fun z26=>jq z26)
noncomputable def fF (p1:Int) (p2:aB):Option Bool :=
  if p1 ≥ 0 then (some (decide (p1 < (p2.system.vars.length:Int)))) else (some false)
noncomputable def dr:Option Int :=
  some (-1)
noncomputable def dt (p1:List Int) (p2:Int) (x3:Int):Option (Int ⊕ (Unit ⊕ Int)) :=
  if x3 < (p1.length:Int) then (if (0 ≤ x3∧x3 < (p1.length:Int)) then (if p2 = (p1.getD x3.toNat default) then (some (.inr (.inr x3))) else (some (.inl (IntKind.wrap .i64 (x3 + 1))))) else none) else (some (.inr (.inl ())))
noncomputable def ed (p1:List Int) (p2:Int):Option Int :=
  (aZ (fun x3=>dt p1 p2 x3) 0).bind (Sum.elim (fun _=>dr) (fun z4=>some z4))
noncomputable def du (p1:List Int) (p2:Int):Option Bool :=
  (ed p1 p2).bind fun y1=>some (decide (y1 ≥ 0))
noncomputable def fG:Option aw :=
  some (aw.mk 0 0)
noncomputable def fH (p1:aB) (x3:Int):Option (Int ⊕ (Unit ⊕ aw)) :=
  if x3 < (p1.system.out_.length:Int) then (if (0 ≤ x3∧x3 < (p1.system.out_.length:Int)) then ((fF (p1.system.out_.getD x3.toNat default) p1).bind fun y4=>if y4 = true then (some (.inl (IntKind.wrap .i64 (x3 + 1)))) else (some (.inr (.inr (aw.mk 16 (-1)))))) else none) else (some (.inr (.inl ())))
noncomputable def dy (p1:aB):Option aw :=
  (aZ (fun x3=>fH p1 x3) 0).bind (Sum.elim (fun _=>fG) (fun z5=>some z5))
noncomputable def fI (p1:aB) (x8:Int):Option (Int ⊕ (Unit ⊕ aw)) :=
  if x8 < (p1.system.in_.length:Int) then (if (0 ≤ x8∧x8 < (p1.system.in_.length:Int)) then ((fF (p1.system.in_.getD x8.toNat default) p1).bind fun y9=>if y9 = true then (if (0 ≤ x8∧x8 ≤ (p1.system.in_.length:Int)) then ((du (p1.system.in_.take x8.toNat) (p1.system.in_.getD x8.toNat default)).bind fun y10=>if y10 = true then (some (.inr (.inr (aw.mk 8 (-1))))) else (some (.inl (IntKind.wrap .i64 (x8 + 1))))) else none) else (some (.inr (.inr (aw.mk 16 (-1)))))) else none) else (some (.inr (.inl ())))
noncomputable def cX (p1:aB):Option aw :=
  (aZ (fun x8=>fI p1 x8) 0).bind (Sum.elim (fun _=>dy p1) (fun z11=>some z11))
noncomputable def dz (p1:aB) (x14:Int):Option (Int ⊕ (Unit ⊕ aw)) :=
  if ((p1.system.vars.getD x14.toNat default).n) < 0 then (some (.inr (.inr (aw.mk 13 (IntKind.wrap .i64 ((-2) - x14)))))) else (if ((p1.system.vars.getD x14.toNat default).n) > 300 then (some (.inr (.inr (aw.mk 13 (IntKind.wrap .i64 ((-2) - x14)))))) else (some (.inl (IntKind.wrap .i64 (x14 + 1)))))
noncomputable def eh (p1:aB) (x14:Int):Option (Int ⊕ (Unit ⊕ aw)) :=
  if x14 < (p1.system.vars.length:Int) then (if (0 ≤ x14∧x14 < (p1.system.vars.length:Int)) then (if ¬ ((p1.system.vars.getD x14.toNat default).elem) = 105 then (if ¬ ((p1.system.vars.getD x14.toNat default).elem) = 98 then (some (.inr (.inr (aw.mk 10 (IntKind.wrap .i64 ((-2) - x14)))))) else (dz p1 x14)) else (dz p1 x14)) else none) else (some (.inr (.inl ())))
noncomputable def iv (p1:aB):Option aw :=
  if (p1.system.vars.length:Int) > 400 then (some (aw.mk 7 (-1))) else (if (p1.system.rules.length:Int) > 400 then (some (aw.mk 7 (-1))) else (if (p1.system.in_.length:Int) > 400 then (some (aw.mk 7 (-1))) else (if (p1.system.out_.length:Int) > 400 then (some (aw.mk 7 (-1))) else ((aZ (fun x14=>eh p1 x14) 0).bind (Sum.elim (fun _=>cX p1) (fun z15=>some z15))))))
noncomputable def bQ (p1:Bool) (p2:Int) (p3:aB):Option Int :=
  if p1 = true then (if p3.code = 0 then (some p2) else (some p3.code)) else (some p3.code)
noncomputable def lj (p1:Int):Option Int :=
  if p1 < 1 then (some (-1)) else (if p1 > 16 then (some (-1)) else (if (0 ≤ p1∧p1 < (17:Int)) then (some ((lit ([0,0,1,1,2,3,2,2,1,3,3,1,2,2,0,1,1]:List Int)).getD p1.toNat 0)) else none))
noncomputable def ky (p1:Int):Option (Int×Int×Int) :=
  if p1 ≥ 1 then (if p1 ≤ 7 then (some (105,105,2)) else (if p1 = 8 then (some (105,98,2)) else (if p1 = 9 then (some (105,98,2)) else (if p1 ≥ 10 then (if p1 ≤ 12 then (some (98,98,2)) else (if p1 = 13 then (some (105,105,1)) else (if p1 = 14 then (some (98,98,1)) else (some (0,0,0))))) else (if p1 = 13 then (some (105,105,1)) else (if p1 = 14 then (some (98,98,1)) else (some (0,0,0)))))))) else (if p1 = 8 then (some (105,98,2)) else (if p1 = 9 then (some (105,98,2)) else (if p1 ≥ 10 then (if p1 ≤ 12 then (some (98,98,2)) else (if p1 = 13 then (some (105,105,1)) else (if p1 = 14 then (some (98,98,1)) else (some (0,0,0))))) else (if p1 = 13 then (some (105,105,1)) else (if p1 = 14 then (some (98,98,1)) else (some (0,0,0)))))))
noncomputable def fJ:Option Bool :=
  some true
noncomputable def fK (p1:List Int) (p2:aB) (x3:Int):Option (Int ⊕ (Unit ⊕ Bool)) :=
  if x3 < (p1.length:Int) then (if (0 ≤ x3∧x3 < (p1.length:Int)) then (if (0 ≤ (p1.getD x3.toNat default)∧(p1.getD x3.toNat default) < (p2.system.vars.length:Int))∧(0 ≤ 0∧0 < (p1.length:Int))∧(0 ≤ (p1.getD 0 default)∧(p1.getD 0 default) < (p2.system.vars.length:Int)) then (if ((p2.system.vars.getD ((p1.getD x3.toNat default).toNat) default).elem) = ((p2.system.vars.getD ((p1.getD 0 default).toNat) default).elem)∧((p2.system.vars.getD ((p1.getD x3.toNat default).toNat) default).n) = ((p2.system.vars.getD ((p1.getD 0 default).toNat) default).n) then (some (.inl (IntKind.wrap .i64 (x3 + 1)))) else (some (.inr (.inr false)))) else none) else none) else (some (.inr (.inl ())))
noncomputable def iw (p1:List Int) (p2:aB):Option Bool :=
  (aZ (fun x3=>fK p1 p2 x3) 0).bind (Sum.elim (fun _=>fJ) (fun z4=>some z4))
noncomputable def gL (p1:Int):Option ao :=
  some (ao.mk p1 0)
noncomputable def eF:Option Bool :=
  some true
noncomputable def eG (p1:aB) (p2:List Int) (x3:Int):Option (Int ⊕ (Unit ⊕ Bool)) :=
  if x3 < (p2.length:Int) then (if (0 ≤ x3∧x3 < (p2.length:Int)) then (if (0 ≤ (p2.getD x3.toNat default)∧(p2.getD x3.toNat default) < (p1.system.vars.length:Int))∧(0 ≤ 0∧0 < (p2.length:Int))∧(0 ≤ (p2.getD 0 default)∧(p2.getD 0 default) < (p1.system.vars.length:Int)) then (if ((p1.system.vars.getD ((p2.getD x3.toNat default).toNat) default).elem) = ((p1.system.vars.getD ((p2.getD 0 default).toNat) default).elem)∧((p1.system.vars.getD ((p2.getD x3.toNat default).toNat) default).n) = ((p1.system.vars.getD ((p2.getD 0 default).toNat) default).n) then (some (.inl (IntKind.wrap .i64 (x3 + 1)))) else (some (.inr (.inr false)))) else none) else none) else (some (.inr (.inl ())))
noncomputable def eZ (p1:aB) (p2:List Int):Option Bool :=
  (aZ (fun x3=>eG p1 p2 x3) 0).bind (Sum.elim (fun _=>eF) (fun z4=>some z4))
noncomputable def ix (p1:Int):Option Bool :=
  (ky p1).bind fun y1=>if y1.2.2 = 2 then (some (y1.1 == y1.2.1)) else (some false)
noncomputable def iy (p1:Int) (p2:aB):Option (ao×Bool) :=
  if (0 ≤ p1∧p1 < (p2.system.vars.length:Int)) then ((gL ((p2.system.vars.getD p1.toNat default).elem)).bind fun y1=>some ((y1),decide (((p2.system.vars.getD p1.toNat default).n) > 0))) else none
noncomputable def bz (p1:Int) (p2:List Int):Option Int :=
  if p1 > (p2.length:Int) then (some 0) else (if (0 ≤ (IntKind.wrap .i64 ((p2.length:Int) - p1))∧(IntKind.wrap .i64 ((p2.length:Int) - p1)) < (p2.length:Int)) then (some (p2.getD ((IntKind.wrap .i64 ((p2.length:Int) - p1)).toNat) default)) else none)
noncomputable def cb (p1:ay) (p3:aB) (p4:List Int) (b1:Bool):Option (Int×Int×Bool) :=
  if b1 = true then ((ky p1.k).bind fun y2=>if y2.2.2 = (IntKind.wrap .i64 ((IntKind.wrap .i64 (p1.op - 5)) + 1)) then ((bz 1 p4).bind fun y3=>if y3 = y2.1 then (if y2.2.2 = 1 then (some (y2.2.2,y2.2.1,true)) else ((bz 2 p4).bind fun y4=>some (y2.2.2,y2.2.1,(y4 == y2.1)))) else (some (y2.2.2,y2.2.1,false))) else (some (y2.2.2,y2.2.1,false))) else (if p1.op = 7 then ((bz 1 p4).bind fun y5=>(bz 3 p4).bind fun y6=>if y6 = 98 then ((bz 1 p4).bind fun y7=>(bz 2 p4).bind fun y8=>if y7 = y8 then ((bz 1 p4).bind fun y9=>some (3,y5,(y9 != 0))) else (some (3,y5,false))) else (some (3,y5,false))) else (if p1.op = 8 then (if (0 ≤ p1.v∧p1.v < (p3.system.vars.length:Int)) then (if ((p3.system.vars.getD p1.v.toNat default).n) > 0 then ((bz 1 p4).bind fun y10=>if y10 = ((p3.system.vars.getD p1.v.toNat default).elem) then ((bz 2 p4).bind fun y11=>some (2,(p3.system.vars.getD p1.v.toNat default).elem,(y11 == 105))) else (some (2,(p3.system.vars.getD p1.v.toNat default).elem,false))) else (some (2,(p3.system.vars.getD p1.v.toNat default).elem,false))) else none) else (some (0,0,false))))
noncomputable def aP (p1:ay) (p2:Int) (p3:aB) (p4:List Int):Option (Int×Int×Bool) :=
  if p1.op = 1 then (if p1.k = 1 then (if p1.n = 0 then (some (0,98,true)) else (some (0,98,(p1.n == 1)))) else (some (0,105,(p1.k == 0)))) else (if p1.op = 2 then (if (0 ≤ p1.v∧p1.v < (p3.system.vars.length:Int)) then (some (0,(p3.system.vars.getD p1.v.toNat default).elem,(((p3.system.vars.getD p1.v.toNat default).n) == 0))) else none) else (if p1.op = 3 then (if (0 ≤ p1.v∧p1.v < (p3.system.vars.length:Int)) then (if ((p3.system.vars.getD p1.v.toNat default).n) > 0 then (if p1.n ≥ 0 then (some (0,(p3.system.vars.getD p1.v.toNat default).elem,decide (p1.n ≤ (IntKind.wrap .i64 (((p3.system.vars.getD p1.v.toNat default).n) - p2))))) else (some (0,(p3.system.vars.getD p1.v.toNat default).elem,false))) else (some (0,(p3.system.vars.getD p1.v.toNat default).elem,false))) else none) else (if p1.op = 4 then (if p1.n ≥ (-1000000) then (some (0,105,decide (p1.n ≤ 1000000))) else (some (0,105,false))) else (if p1.op = 5 then (cb p1 p3 p4 (p1.op == 5)) else (cb p1 p3 p4 (p1.op == 6))))))
noncomputable def cI (l3:List Int):Option (Int×Bool) :=
  if ¬ (l3.length:Int) = 1 then (some (0,false)) else (if (0 ≤ 0∧0 < (l3.length:Int)) then (some ((l3.getD 0 default),true)) else none)
noncomputable def bo (p1:List ay) (p2:Int) (p3:aB) (l17:List Int) (x19:Int):Option (((List Int)×Int) ⊕ ((List Int) ⊕ (Int×Bool))) :=
  if x19 < (p1.length:Int) then (if (0 ≤ x19∧x19 < (p1.length:Int)) then ((aP (p1.getD x19.toNat default) p2 p3 l17).bind fun y20=>if y20.2.2 = true then (if (l17.length:Int) < y20.1 then (some (.inr (.inr (0,false)))) else (if (0 ≤ (IntKind.wrap .i64 ((l17.length:Int) - y20.1))∧(IntKind.wrap .i64 ((l17.length:Int) - y20.1)) ≤ (l17.length:Int))∧dg (((IntKind.wrap .i64 ((l17.length:Int) - y20.1)).toNat) + 1) 1 then (some (.inl (((l17.take ((IntKind.wrap .i64 ((l17.length:Int) - y20.1)).toNat)) ++ (lit ([y20.2.1]:List Int))),(IntKind.wrap .i64 (x19 + 1))))) else none)) else (some (.inr (.inr (0,false))))) else none) else (some (.inr (.inl l17)))
noncomputable def iz (p1:List ay) (p2:Int) (p3:aB):Option (Int×Bool) :=
  (aZ (fun (l17,x19)=>bo p1 p2 p3 l17 x19) ([],0)).bind (Sum.elim (fun z21=>cI z21) (fun z22=>some z22))
noncomputable def dA (p1:af) (p2:ao) (p4:aB) (x1:Int):Option Bool :=
  (iz p1.e x1 p4).bind fun y3=>if y3.2 = true then (some (y3.1 == p2.elem)) else (some false)
noncomputable def cJ (p1:af) (p2:ao) (p4:aB) (x1:Int):Option Bool :=
  (ky p1.k).bind fun y2=>if ¬ p1.op = 14 then (if ¬ y2.1 = p2.elem then (some false) else (dA p1 p2 p4 x1)) else (dA p1 p2 p4 x1)
noncomputable def gq (p1:af) (p2:ao) (p3:ao) (p4:aB):Option Bool :=
  if p1.op = 15 then (if p1.n < 1 then (some false) else (if p1.n > 300 then (some false) else ((ix p1.k).bind fun y4=>if y4 = true then (if p3.elem = p2.elem∧p3.n = p2.n then (if p2.n > 0 then (some false) else (cJ p1 p2 p4 p1.n)) else (some false)) else (some false)))) else (if p1.op = 16 then ((ix p1.k).bind fun y5=>if y5 = true then (if p2.n = 0 then (some false) else ((gL p2.elem).bind fun y6=>if p3.elem = ((y6).elem)∧p3.n = ((y6).n) then (cJ p1 p2 p4 (if 1 > p2.n then 1 else p2.n)) else (some false))) else (some false)) else (cJ p1 p2 p4 (if 1 > p2.n then 1 else p2.n)))
noncomputable def aU (p1:af) (p2:aB) (x1:Int) (x2:Int) (b10:Bool):Option Bool :=
  if b10 = true then (if (0 ≤ 0∧0 < (p1.a.length:Int)) then ((iy (p1.a.getD 0 default) p2).bind fun y11=>if y11.2 = true then (if (0 ≤ 1∧1 < (p1.a.length:Int))∧(0 ≤ (p1.a.getD 1 default)∧(p1.a.getD 1 default) < (p2.system.vars.length:Int)) then ((gL 105).bind fun y12=>if ((p2.system.vars.getD ((p1.a.getD 1 default).toNat) default).elem) = ((y12).elem)∧((p2.system.vars.getD ((p1.a.getD 1 default).toNat) default).n) = ((y12).n) then (if (0 ≤ 2∧2 < (p1.a.length:Int))∧(0 ≤ (p1.a.getD 2 default)∧(p1.a.getD 2 default) < (p2.system.vars.length:Int)) then (if ((p2.system.vars.getD ((p1.a.getD 2 default).toNat) default).elem) = ((y11.1).elem)∧((p2.system.vars.getD ((p1.a.getD 2 default).toNat) default).n) = ((y11.1).n) then (if p1.op = 9 then (if ((p2.system.vars.getD p1.out_.toNat default).elem) = ((y11.1).elem)∧((p2.system.vars.getD p1.out_.toNat default).n) = ((y11.1).n) then (some true) else (if p1.op = 10 then (some ((((p2.system.vars.getD p1.out_.toNat default).elem) == x1) && (((p2.system.vars.getD p1.out_.toNat default).n) == x2))) else (some false))) else (if p1.op = 10 then (some ((((p2.system.vars.getD p1.out_.toNat default).elem) == x1) && (((p2.system.vars.getD p1.out_.toNat default).n) == x2))) else (some false))) else (some false)) else none) else (some false)) else none) else (some false)) else none) else (if p1.op = 11 then (if x2 > 0 then (if ((p2.system.vars.getD p1.out_.toNat default).n) > 0 then (if x1 = ((p2.system.vars.getD p1.out_.toNat default).elem) then (if p1.n ≥ 0 then (some (decide (p1.n ≤ (IntKind.wrap .i64 (x2 - ((p2.system.vars.getD p1.out_.toNat default).n)))))) else (some false)) else (some false)) else (some false)) else (some false)) else (if p1.op = 12 then (if (0 ≤ 1∧1 < (p1.a.length:Int))∧(0 ≤ (p1.a.getD 1 default)∧(p1.a.getD 1 default) < (p2.system.vars.length:Int)) then (if x2 > 0 then (if ((p2.system.vars.getD ((p1.a.getD 1 default).toNat) default).n) > 0 then (if x1 = ((p2.system.vars.getD ((p1.a.getD 1 default).toNat) default).elem) then (some ((((p2.system.vars.getD p1.out_.toNat default).elem) == x1) && (((p2.system.vars.getD p1.out_.toNat default).n) == (IntKind.wrap .i64 (x2 + ((p2.system.vars.getD ((p1.a.getD 1 default).toNat) default).n)))))) else (some false)) else (some false)) else (some false)) else none) else (if p1.op = 13 then (if (0 ≤ 0∧0 < (p1.a.length:Int))∧(0 ≤ 1∧1 < (p1.a.length:Int)) then ((eZ p2 (lit ([(p1.a.getD 0 default),(p1.a.getD 1 default),p1.out_]:List Int))).bind fun y13=>some y13) else none) else ((gq p1 (p2.system.vars.getD p1.out_.toNat default) (ao.mk x1 x2) p2).bind fun y14=>some y14))))
noncomputable def aV (p1:af) (p2:aB) (x1:Int) (x2:Int) (y3:(Int×Int×Int)) (b7:Bool):Option Bool :=
  if b7 = true then (if (0 ≤ 1∧1 < (p1.a.length:Int))∧(0 ≤ (p1.a.getD 1 default)∧(p1.a.getD 1 default) < (p2.system.vars.length:Int)) then ((ix p1.k).bind fun y8=>if y8 = true then ((gL y3.1).bind fun y9=>if x1 = ((y9).elem)∧x2 = ((y9).n) then (if ((p2.system.vars.getD ((p1.a.getD 1 default).toNat) default).n) > 0 then (if ((p2.system.vars.getD ((p1.a.getD 1 default).toNat) default).elem) = y3.1 then (if p1.op = 6 then (if ((p2.system.vars.getD p1.out_.toNat default).elem) = x1∧((p2.system.vars.getD p1.out_.toNat default).n) = x2 then (some true) else (if p1.op = 7 then (some ((((p2.system.vars.getD p1.out_.toNat default).elem) == ((p2.system.vars.getD ((p1.a.getD 1 default).toNat) default).elem)) && (((p2.system.vars.getD p1.out_.toNat default).n) == ((p2.system.vars.getD ((p1.a.getD 1 default).toNat) default).n)))) else (some false))) else (if p1.op = 7 then (some ((((p2.system.vars.getD p1.out_.toNat default).elem) == ((p2.system.vars.getD ((p1.a.getD 1 default).toNat) default).elem)) && (((p2.system.vars.getD p1.out_.toNat default).n) == ((p2.system.vars.getD ((p1.a.getD 1 default).toNat) default).n)))) else (some false))) else (some false)) else (some false)) else (some false)) else (some false)) else none) else (if p1.op = 8 then (if x2 = 0 then (if ((p2.system.vars.getD p1.out_.toNat default).n) > 0 then (some (((p2.system.vars.getD p1.out_.toNat default).elem) == x1)) else (some false)) else (some false)) else (if p1.op = 9 then (aU p1 p2 x1 x2 (p1.op == 9)) else (aU p1 p2 x1 x2 (p1.op == 10))))
noncomputable def aW (p1:af) (p2:aB) (x1:Int) (x2:Int):Option Bool :=
  (ky p1.k).bind fun y3=>if p1.op = 1 then (if ((p2.system.vars.getD p1.out_.toNat default).n) = 0 then (if ((p2.system.vars.getD p1.out_.toNat default).elem) = 105 then (some true) else (if p1.n = 0 then (some true) else (some (p1.n == 1)))) else (some false)) else (if p1.op = 2 then (some ((x1 == ((p2.system.vars.getD p1.out_.toNat default).elem)) && (x2 == ((p2.system.vars.getD p1.out_.toNat default).n)))) else (if p1.op = 3 then (if y3.2.2 = 1 then (if x1 = y3.1 then (if ((p2.system.vars.getD p1.out_.toNat default).elem) = y3.2.1 then (some (((p2.system.vars.getD p1.out_.toNat default).n) == x2)) else (some false)) else (some false)) else (some false)) else (if p1.op = 4 then (if y3.2.2 = 2 then (if x1 = y3.1 then (if ((p2.system.vars.getD p1.out_.toNat default).elem) = y3.2.1 then (if ((p2.system.vars.getD p1.out_.toNat default).n) = x2 then ((iw p1.a p2).bind fun y4=>some y4) else (some false)) else (some false)) else (some false)) else (some false)) else (if p1.op = 5 then ((gL 98).bind fun y5=>if x1 = ((y5).elem)∧x2 = ((y5).n) then (if (0 ≤ 1∧1 < (p1.a.length:Int))∧(0 ≤ 2∧2 < (p1.a.length:Int)) then ((eZ p2 (lit ([(p1.a.getD 1 default),(p1.a.getD 2 default),p1.out_]:List Int))).bind fun y6=>some y6) else none) else (some false)) else (if p1.op = 6 then (aV p1 p2 x1 x2 y3 (p1.op == 6)) else (aV p1 p2 x1 x2 y3 (p1.op == 7)))))))
noncomputable def aH (p1:af) (p2:aB):Option Bool :=
  if (0 ≤ p1.out_∧p1.out_ < (p2.system.vars.length:Int)) then (if (p1.a.length:Int) > 0 then (if (0 ≤ 0∧0 < (p1.a.length:Int))∧(0 ≤ (p1.a.getD 0 default)∧(p1.a.getD 0 default) < (p2.system.vars.length:Int)) then (aW p1 p2 ((p2.system.vars.getD ((p1.a.getD 0 default).toNat) default).elem) ((p2.system.vars.getD ((p1.a.getD 0 default).toNat) default).n)) else none) else (aW p1 p2 0 0)) else none
noncomputable def eo (p1:af) (p2:aB) (x7:Int):Option (Int×Int) :=
  if x7 = 0 then ((aH p1 (aB.mk p2.system x7)).bind fun y8=>(bQ (!y8) 10 (aB.mk p2.system x7)).bind fun y9=>some (y9,y9)) else (some (x7,x7))
noncomputable def cz (p2:aB) (l6:List Int) (x14:Int) (x15:Int):Option ((Int×Int) ⊕ Int) :=
  if x15 < (l6.length:Int) then (if (0 ≤ x15∧x15 < (l6.length:Int)) then ((fF (l6.getD x15.toNat default) (aB.mk p2.system x14)).bind fun y16=>(bQ (!y16) 16 (aB.mk p2.system x14)).bind fun y17=>some (.inl (y17,(IntKind.wrap .i64 (x15 + 1))))) else none) else (some (.inr x14))
noncomputable def dB (p1:af) (p2:aB) (y5:Int) (l6:List Int):Option (Int×Int) :=
  (aZ (fun (x14,x15)=>cz p2 l6 x14 x15) (y5,0)).bind (fun z18=>eo p1 p2 z18)
noncomputable def cY (p1:af) (p2:aB) (x4:Int):Option (Int×Int) :=
  (bQ (decide ((p1.e.length:Int) > 24)) 7 (aB.mk p2.system x4)).bind fun y5=>if ¬ y5 = 0 then (some (y5,y5)) else (if p1.op ≥ 14 then ((lG p1).bind fun y19=>dB p1 p2 y5 y19) else (dB p1 p2 y5 p1.a))
noncomputable def cZ (p1:af) (p2:aB) (x3:Int):Option (Int×Int) :=
  (lj p1.op).bind fun y20=>if y20 < 0 then ((bQ true 4 (aB.mk p2.system x3)).bind fun y21=>cY p1 p2 y21) else ((lj p1.op).bind fun y22=>(bQ ((p1.a.length:Int) != y22) 4 (aB.mk p2.system x3)).bind fun y23=>cY p1 p2 y23)
noncomputable def iA (p1:af) (p2:aB) (p3:List Bool):Option (Int×Int) :=
  (fF p1.out_ (aB.mk p2.system 0)).bind fun y1=>(bQ (!y1) 16 (aB.mk p2.system 0)).bind fun y2=>if y2 = 0 then (if (0 ≤ p1.out_∧p1.out_ < (p3.length:Int)) then ((bQ (p3.getD p1.out_.toNat default) 8 (aB.mk p2.system y2)).bind fun y24=>cZ p1 p2 y24) else none) else ((bQ false 8 (aB.mk p2.system y2)).bind fun y25=>cZ p1 p2 y25)
noncomputable def jK:Option aw :=
  some (aw.mk 0 0)
noncomputable def iR (p1:ae) (l6:List Bool) (x9:Int):Option (Int ⊕ (Unit ⊕ aw)) :=
  if x9 < (p1.out_.length:Int) then (if (0 ≤ x9∧x9 < (p1.out_.length:Int)) then (if (0 ≤ (p1.out_.getD x9.toNat default)∧(p1.out_.getD x9.toNat default) < (l6.length:Int)) then (if (l6.getD ((p1.out_.getD x9.toNat default).toNat) default) = true then (some (.inl (IntKind.wrap .i64 (x9 + 1)))) else (some (.inr (.inr (aw.mk 9 (-1)))))) else none) else none) else (some (.inr (.inl ())))
noncomputable def iS (p1:ae) (l6:List Bool):Option aw :=
  (aZ (fun x9=>iR p1 l6 x9) 0).bind (Sum.elim (fun _=>jK) (fun z10=>some z10))
noncomputable def iT (x13:Int):Option (Int ⊕ (Unit ⊕ aw)) :=
  some (.inl (IntKind.wrap .i64 (x13 + 1)))
noncomputable def jL (l6:List Bool) (x13:Int) (l14:List Int) (x17:Int):Option (Int ⊕ (Unit ⊕ aw)) :=
  if x17 < (l14.length:Int) then (if (0 ≤ x17∧x17 < (l14.length:Int)) then (if (0 ≤ (l14.getD x17.toNat default)∧(l14.getD x17.toNat default) < (l6.length:Int)) then (if (l6.getD ((l14.getD x17.toNat default).toNat) default) = true then (some (.inl (IntKind.wrap .i64 (x17 + 1)))) else (some (.inr (.inr (aw.mk 9 x13))))) else none) else none) else (some (.inr (.inl ())))
noncomputable def gM (l6:List Bool) (x13:Int) (l14:List Int):Option (Int ⊕ (Unit ⊕ aw)) :=
  (aZ (fun x17=>jL l6 x13 l14 x17) 0).bind (Sum.elim (fun _=>iT x13) (fun z18=>some (.inr (.inr z18))))
noncomputable def iU (p1:ae) (l6:List Bool) (x13:Int):Option (Int ⊕ (Unit ⊕ aw)) :=
  if x13 < (p1.rules.length:Int) then (if (0 ≤ x13∧x13 < (p1.rules.length:Int)) then (if ((p1.rules.getD x13.toNat default).op) ≥ 14 then ((lG (p1.rules.getD x13.toNat default)).bind fun y19=>gM l6 x13 y19) else (gM l6 x13 ((p1.rules.getD x13.toNat default).a))) else none) else (some (.inr (.inl ())))
noncomputable def gN (p1:ae) (x5:Int) (l6:List Bool):Option aw :=
  (aZ (fun x13=>iU p1 l6 x13) 0).bind (Sum.elim (fun _=>iS p1 l6) (fun z20=>some z20))
noncomputable def d2 (p1:ae) (x30:Int) (l31:List Bool) (x32:Int):Option ((Int×(List Bool)×Int) ⊕ ((Int×(List Bool)) ⊕ aw)) :=
  if x32 < (p1.rules.length:Int) then (if (0 ≤ x32∧x32 < (p1.rules.length:Int)) then ((iA (p1.rules.getD x32.toNat default) (aB.mk p1 x30) l31).bind fun y33=>if ¬ y33.1 = 0 then (some (.inr (.inr (aw.mk y33.1 x32)))) else (if (0 ≤ (p1.rules.getD x32.toNat default).out_∧(p1.rules.getD x32.toNat default).out_ < (l31.length:Int)) then (some (.inl (y33.2,(l31.set (((p1.rules.getD x32.toNat default).out_).toNat) true),(IntKind.wrap .i64 (x32 + 1))))) else none)) else none) else (some (.inr (.inl (x30,l31))))
noncomputable def gO (p1:ae) (l3:List Bool):Option aw :=
  (aZ (fun (x30,l31,x32)=>d2 p1 x30 l31 x32) (0,l3,0)).bind (Sum.elim (fun (z34,z35)=>gN p1 z34 z35) (fun z36=>some z36))
noncomputable def d3 (p1:ae) (l44:List Bool) (x45:Int):Option (((List Bool)×Int) ⊕ (List Bool)) :=
  if x45 < (p1.in_.length:Int) then (if (0 ≤ x45∧x45 < (p1.in_.length:Int)) then (if (0 ≤ (p1.in_.getD x45.toNat default)∧(p1.in_.getD x45.toNat default) < (l44.length:Int)) then (some (.inl ((l44.set ((p1.in_.getD x45.toNat default).toNat) true),(IntKind.wrap .i64 (x45 + 1))))) else none) else none) else (some (.inr l44))
noncomputable def mH (p1:ae):Option aw :=
  (iv (aB.mk p1 0)).bind fun y1=>if ¬ ((y1).code) = 0 then (some (y1)) else (if (0 ≤ (p1.vars.length:Int)∧(p1.vars.length:Int) ≤ (p1.vars.length:Int))∧dg p1.vars.length 1 then ((aZ (fun (l44,x45)=>d3 p1 l44 x45) ((List.replicate p1.vars.length false),0)).bind (fun z46=>gO p1 z46)) else none)
noncomputable def iB (l5:List Bool):Option ((List Bool)×aw) :=
  some (l5,(aw.mk 0 0))
noncomputable def dC (p1:ae) (l3:List (Int×Int)) (l22:List Bool) (l23:List Int) (l27:List ay):Option (((List Bool)×(List Int)) ⊕ (List Bool)) :=
  (lG (af.mk ((p1.rules.getD (((dK l3 (l23.getD 0 default)).getD 0).toNat) default).op) ((p1.rules.getD (((dK l3 (l23.getD 0 default)).getD 0).toNat) default).k) ((p1.rules.getD (((dK l3 (l23.getD 0 default)).getD 0).toNat) default).out_) ((p1.rules.getD (((dK l3 (l23.getD 0 default)).getD 0).toNat) default).n) ((p1.rules.getD (((dK l3 (l23.getD 0 default)).getD 0).toNat) default).a) l27)).bind fun y28=>if dg (l23.length + y28.length) 8 then (if (0 ≤ 1∧1 ≤ (l23.length + y28.length:Int)) then (some (.inl ((l22.set (((dK l3 (l23.getD 0 default)).getD 0).toNat) true),((l23 ++ y28).drop 1)))) else none) else none
noncomputable def cw (p1:ae) (l3:List (Int×Int)) (l22:List Bool) (l23:List Int):Option (((List Bool)×(List Int)) ⊕ (List Bool)) :=
  if (l23.length:Int) > 0 then (if (0 ≤ 0∧0 < (l23.length:Int))∧(-9223372036854775808 ≤ (l23.getD 0 default)∧(l23.getD 0 default) ≤ 9223372036854775807) then (if ((dK l3 (l23.getD 0 default)).isSome) = true then (if (0 ≤ ((dK l3 (l23.getD 0 default)).getD 0)∧((dK l3 (l23.getD 0 default)).getD 0) < (l22.length:Int)) then (if (l22.getD (((dK l3 (l23.getD 0 default)).getD 0).toNat) default) = true then (if (0 ≤ 1∧1 ≤ (l23.length:Int)) then (some (.inl (l22,(l23.drop 1)))) else none) else (if (0 ≤ ((dK l3 (l23.getD 0 default)).getD 0)∧((dK l3 (l23.getD 0 default)).getD 0) < (p1.rules.length:Int)) then (if ((p1.rules.getD (((dK l3 (l23.getD 0 default)).getD 0).toNat) default).op) < 14 then (dC p1 l3 l22 l23 []) else (dC p1 l3 l22 l23 ((p1.rules.getD (((dK l3 (l23.getD 0 default)).getD 0).toNat) default).e))) else none)) else none) else (if (0 ≤ 1∧1 ≤ (l23.length:Int)) then (some (.inl (l22,(l23.drop 1)))) else none)) else none) else (some (.inr l22))
noncomputable def gu (p1:ae) (l3:List (Int×Int)):Option ((List Bool)×aw) :=
  if (0 ≤ (p1.rules.length:Int)∧(p1.rules.length:Int) ≤ (p1.rules.length:Int))∧dg p1.rules.length 1 then ((bH p1.out_).bind fun y6=>(aZ (fun (l22,l23)=>cw p1 l3 l22 l23) ((List.replicate p1.rules.length false),y6)).bind (fun z29=>iB z29)) else none
noncomputable def dD (p1:ae) (l37:List (Int×Int)) (x38:Int):Option (((List (Int×Int))×Int) ⊕ (List (Int×Int))) :=
  if x38 < (p1.rules.length:Int) then (if (0 ≤ x38∧x38 < (p1.rules.length:Int)) then (if (-9223372036854775808 ≤ (p1.rules.getD x38.toNat default).out_∧(p1.rules.getD x38.toNat default).out_ ≤ 9223372036854775807)∧l37.length < 1000000 then (some (.inl (((((p1.rules.getD x38.toNat default).out_,x38):Int×Int) :: l37),(IntKind.wrap .i64 (x38 + 1))))) else none) else none) else (some (.inr l37))
noncomputable def kz (p1:ae):Option ((List Bool)×aw) :=
  (mH p1).bind fun y1=>if ¬ ((y1).code) = 0 then (some ([],(y1))) else ((aZ (fun (l37,x38)=>dD p1 l37 x38) (([]:List (Int×Int)),0)).bind (fun z39=>gu p1 z39))
noncomputable def jM (y2:(List ao)) (y3:(List Int)) (y4:(List Int)) (l7:List af):Option (ae×aw) :=
  some ((ae.mk y2 y3 y4 l7),(aw.mk 0 0))
noncomputable def eR (p1:ae) (y1:((List Bool)×aw)) (l21:List af) (x23:Int):Option (((List af)×Int) ⊕ (List af)) :=
  if x23 < (p1.rules.length:Int) then (if (0 ≤ x23∧x23 < (p1.rules.length:Int)) then (if (0 ≤ x23∧x23 < (y1.1.length:Int)) then (if (y1.1.getD x23.toNat default) = true then ((mG (p1.rules.getD x23.toNat default)).bind fun y24=>if dg (l21.length + 1) 80 then (some (.inl ((l21 ++ (lit ([(y24)]:List af))),(IntKind.wrap .i64 (x23 + 1))))) else none) else (some (.inl (l21,(IntKind.wrap .i64 (x23 + 1)))))) else none) else none) else (some (.inr l21))
noncomputable def jr (p1:ae):Option (ae×aw) :=
  (kz p1).bind fun y1=>if ¬ ((y1.2).code) = 0 then (some ((ae.mk [] [] [] []),(y1.2))) else ((dh p1.vars).bind fun y2=>(bH p1.in_).bind fun y3=>(bH p1.out_).bind fun y4=>(aZ (fun (l21,x23)=>eR p1 y1 l21 x23) ([],0)).bind (fun z25=>jM y2 y3 y4 z25))
noncomputable def i8:Option Bool :=
  (jr (ae.mk (lit ([(ao.mk 105 0),(ao.mk 105 0)]:List ao)) [] (lit ([0]:List Int)) (lit ([(af.mk 1 0 0 1 [] []),(af.mk 2 0 1 0 (lit ([0]:List Int)) [])]:List af)))).bind fun y1=>if ((y1.2).code) = 0 then (if (((y1.1).rules).length:Int) = 1 then (if (0 ≤ 0∧0 < (((y1.1).rules).length:Int)) then (some (((((y1.1).rules).getD 0 default).n) == 1)) else none) else (some false)) else (some false)
noncomputable def gU:Option Bool :=
  some true
noncomputable def gV (p1:List Int) (p2:List Int) (x3:Int):Option (Int ⊕ (Unit ⊕ Bool)) :=
  if x3 < (p1.length:Int) then (if (0 ≤ x3∧x3 < (p1.length:Int))∧(0 ≤ x3∧x3 < (p2.length:Int)) then (if ¬ (p1.getD x3.toNat default) = (p2.getD x3.toNat default) then (some (.inr (.inr false))) else (some (.inl (IntKind.wrap .i64 (x3 + 1))))) else none) else (some (.inr (.inl ())))
noncomputable def gP (p1:List Int) (p2:List Int):Option Bool :=
  if ¬ (p1.length:Int) = (p2.length:Int) then (some false) else ((aZ (fun x3=>gV p1 p2 x3) 0).bind (Sum.elim (fun _=>gU) (fun z4=>some z4)))
noncomputable def gW:Option Bool :=
  some true
noncomputable def gX (p1:List ay) (p2:List ay) (x3:Int):Option (Int ⊕ (Unit ⊕ Bool)) :=
  if x3 < (p1.length:Int) then (if (0 ≤ x3∧x3 < (p1.length:Int))∧(0 ≤ x3∧x3 < (p2.length:Int)) then (if ((p1.getD x3.toNat default).op) = ((p2.getD x3.toNat default).op)∧((p1.getD x3.toNat default).k) = ((p2.getD x3.toNat default).k)∧((p1.getD x3.toNat default).v) = ((p2.getD x3.toNat default).v)∧((p1.getD x3.toNat default).n) = ((p2.getD x3.toNat default).n) then (some (.inl (IntKind.wrap .i64 (x3 + 1)))) else (some (.inr (.inr false)))) else none) else (some (.inr (.inl ())))
noncomputable def jN (p1:List ay) (p2:List ay):Option Bool :=
  if ¬ (p1.length:Int) = (p2.length:Int) then (some false) else ((aZ (fun x3=>gX p1 p2 x3) 0).bind (Sum.elim (fun _=>gW) (fun z4=>some z4)))
noncomputable def jO (p1:af) (p2:af):Option Bool :=
  if p1.op = p2.op then (if p1.k = p2.k then (if p1.out_ = p2.out_ then (if p1.n = p2.n then ((gP p1.a p2.a).bind fun y1=>if y1 = true then ((jN p1.e p2.e).bind fun y2=>some y2) else (some false)) else (some false)) else (some false)) else (some false)) else (some false)
noncomputable def fL:Option Bool :=
  some true
noncomputable def fM (p1:ae) (p2:ae) (x5:Int):Option (Int ⊕ (Unit ⊕ Bool)) :=
  if x5 < (p1.rules.length:Int) then (if (0 ≤ x5∧x5 < (p1.rules.length:Int))∧(0 ≤ x5∧x5 < (p2.rules.length:Int)) then ((jO (p1.rules.getD x5.toNat default) (p2.rules.getD x5.toNat default)).bind fun y6=>if y6 = true then (some (.inl (IntKind.wrap .i64 (x5 + 1)))) else (some (.inr (.inr false)))) else none) else (some (.inr (.inl ())))
noncomputable def et (p1:ae) (p2:ae):Option Bool :=
  (aZ (fun x5=>fM p1 p2 x5) 0).bind (Sum.elim (fun _=>fL) (fun z7=>some z7))
noncomputable def fN (p1:ae) (p2:ae) (x10:Int):Option (Int ⊕ (Unit ⊕ Bool)) :=
  if x10 < (p1.vars.length:Int) then (if (0 ≤ x10∧x10 < (p1.vars.length:Int))∧(0 ≤ x10∧x10 < (p2.vars.length:Int)) then (if ((p1.vars.getD x10.toNat default).elem) = ((p2.vars.getD x10.toNat default).elem)∧((p1.vars.getD x10.toNat default).n) = ((p2.vars.getD x10.toNat default).n) then (some (.inl (IntKind.wrap .i64 (x10 + 1)))) else (some (.inr (.inr false)))) else none) else (some (.inr (.inl ())))
noncomputable def iC (p1:ae) (p2:ae):Option Bool :=
  if ¬ (p1.vars.length:Int) = (p2.vars.length:Int) then (some false) else (if ¬ (p1.rules.length:Int) = (p2.rules.length:Int) then (some false) else ((gP p1.in_ p2.in_).bind fun y1=>if y1 = true then ((gP p1.out_ p2.out_).bind fun y2=>if y2 = true then ((aZ (fun x10=>fN p1 p2 x10) 0).bind (Sum.elim (fun _=>et p1 p2) (fun z11=>some z11))) else (some false)) else (some false)))
noncomputable def iV (p1:af):Option af :=
  if dg p1.a.length 8 then (if dg p1.e.length 32 then (some p1) else none) else none
noncomputable def eV (p1:Int) (p2:Int):Option aw :=
  some (aw.mk p1 p2)
noncomputable def mI:Option Bool :=
  some false
noncomputable def mJ (p1:List Int) (p2:Int) (x3:Int):Option (Int ⊕ (Unit ⊕ Bool)) :=
  if x3 < (p1.length:Int) then (if (0 ≤ x3∧x3 < (p1.length:Int)) then (if (p1.getD x3.toNat default) = p2 then (some (.inr (.inr true))) else (some (.inl (IntKind.wrap .i64 (x3 + 1))))) else none) else (some (.inr (.inl ())))
noncomputable def j9 (p1:List Int) (p2:Int):Option Bool :=
  (aZ (fun x3=>mJ p1 p2 x3) 0).bind (Sum.elim (fun _=>mI) (fun z4=>some z4))
noncomputable def i9:Option aw :=
  some (aw.mk 0 0)
noncomputable def ja (p1:ae) (x7:Int):Option (Int ⊕ (Unit ⊕ aw)) :=
  if x7 < (p1.out_.length:Int) then (if (0 ≤ x7∧x7 < (p1.out_.length:Int)) then (if (p1.out_.getD x7.toNat default) < 0 then ((eV 16 (-1)).bind fun y8=>some (.inr (.inr (y8)))) else (if (p1.out_.getD x7.toNat default) ≥ (p1.vars.length:Int) then ((eV 16 (-1)).bind fun y9=>some (.inr (.inr (y9)))) else (some (.inl (IntKind.wrap .i64 (x7 + 1)))))) else none) else (some (.inr (.inl ())))
noncomputable def fV (p1:ae):Option aw :=
  (aZ (fun x7=>ja p1 x7) 0).bind (Sum.elim (fun _=>i9) (fun z10=>some z10))
noncomputable def jb (p1:ae) (x13:Int):Option (Int ⊕ (Unit ⊕ aw)) :=
  if x13 < (p1.in_.length:Int) then (if (0 ≤ x13∧x13 < (p1.in_.length:Int)) then (if (p1.in_.getD x13.toNat default) < 0 then ((eV 16 (-1)).bind fun y14=>some (.inr (.inr (y14)))) else (if (p1.in_.getD x13.toNat default) ≥ (p1.vars.length:Int) then ((eV 16 (-1)).bind fun y15=>some (.inr (.inr (y15)))) else (if (0 ≤ x13∧x13 ≤ (p1.in_.length:Int)) then ((j9 (p1.in_.take x13.toNat) (p1.in_.getD x13.toNat default)).bind fun y16=>if y16 = true then ((eV 8 (-1)).bind fun y17=>some (.inr (.inr (y17)))) else (some (.inl (IntKind.wrap .i64 (x13 + 1))))) else none))) else none) else (some (.inr (.inl ())))
noncomputable def eW (p1:ae):Option aw :=
  (aZ (fun x13=>jb p1 x13) 0).bind (Sum.elim (fun _=>fV p1) (fun z18=>some z18))
noncomputable def fW (p1:ae) (x21:Int):Option (Int ⊕ (Unit ⊕ aw)) :=
  if (0 ≤ x21∧x21 < (p1.vars.length:Int)) then (if ((p1.vars.getD x21.toNat default).n) < 0 then ((eV 13 (IntKind.wrap .i64 ((-2) - x21))).bind fun y22=>some (.inr (.inr (y22)))) else (if ((p1.vars.getD x21.toNat default).n) > 300 then ((eV 13 (IntKind.wrap .i64 ((-2) - x21))).bind fun y23=>some (.inr (.inr (y23)))) else (some (.inl (IntKind.wrap .i64 (x21 + 1)))))) else none
noncomputable def ig (p1:ae) (x21:Int):Option (Int ⊕ (Unit ⊕ aw)) :=
  if x21 < (p1.vars.length:Int) then (if (0 ≤ x21∧x21 < (p1.vars.length:Int)) then (if ¬ ((p1.vars.getD x21.toNat default).elem) = 105 then (if ¬ ((p1.vars.getD x21.toNat default).elem) = 98 then ((eV 10 (IntKind.wrap .i64 ((-2) - x21))).bind fun y24=>some (.inr (.inr (y24)))) else (fW p1 x21)) else (fW p1 x21)) else none) else (some (.inr (.inl ())))
noncomputable def lH (p1:ae):Option aw :=
  if (p1.vars.length:Int) > 400 then ((eV 7 (-1)).bind fun y1=>some (y1)) else (if (p1.in_.length:Int) > 400 then ((eV 7 (-1)).bind fun y2=>some (y2)) else (if (p1.out_.length:Int) > 400 then ((eV 7 (-1)).bind fun y3=>some (y3)) else (if (p1.rules.length:Int) > 400 then ((eV 7 (-1)).bind fun y4=>some (y4)) else ((aZ (fun x21=>ig p1 x21) 0).bind (Sum.elim (fun _=>eW p1) (fun z25=>some z25))))))
noncomputable def kA (l3:List Int):Option (List Int) :=
  some l3
noncomputable def fO (p1:ae) (p2:Int) (l17:List Int) (x19:Int):Option (((List Int)×Int) ⊕ (List Int)) :=
  if x19 < p2 then (if (0 ≤ x19∧x19 < (p1.rules.length:Int))∧dg (l17.length + 1) 8 then (some (.inl ((l17 ++ (lit ([(p1.rules.getD x19.toNat default).out_]:List Int))),(IntKind.wrap .i64 (x19 + 1))))) else none) else (some (.inr l17))
noncomputable def mK (p1:ae) (p2:Int):Option (List Int) :=
  (aZ (fun (l17,x19)=>fO p1 p2 l17 x19) ([],0)).bind (fun z20=>kA z20)
noncomputable def js (p1:Int):Option Int :=
  if p1 < 0 then (some (-1)) else (if p1 ≥ (17:Int) then (some (-1)) else (if (0 ≤ p1∧p1 < (17:Int)) then (some ((lit ([(-1),0,1,1,2,3,2,2,1,3,3,1,2,2,0,1,1]:List Int)).getD p1.toNat default)) else none))
noncomputable def fX (p2:Int) (l3:List Int) (b5:Bool):Option (List Int) :=
  if b5 = true then (some l3) else (if dg (l3.length + 1) 8 then (some (l3 ++ (lit ([p2]:List Int)))) else none)
noncomputable def d4 (p1:List Int) (x23:Int) (l26:List Int) (b28:Bool):Option (((List Int)×Bool×Int) ⊕ ((List Int)×Bool)) :=
  if (0 ≤ x23∧x23 < (p1.length:Int))∧dg (l26.length + 1) 8 then (some (.inl ((l26 ++ (lit ([(p1.getD x23.toNat default)]:List Int))),b28,(IntKind.wrap .i64 (x23 + 1))))) else none
noncomputable def d5 (p1:List Int) (p2:Int) (l20:List Int) (b22:Bool) (x23:Int):Option (((List Int)×Bool×Int) ⊕ ((List Int)×Bool)) :=
  if x23 < (p1.length:Int) then (if b22 = true then (d4 p1 x23 l20 b22) else (if (0 ≤ x23∧x23 < (p1.length:Int)) then (if (p1.getD x23.toNat default) ≥ p2 then (if (p1.getD x23.toNat default) > p2 then (if dg (l20.length + 1) 8 then (d4 p1 x23 (l20 ++ (lit ([p2]:List Int))) true) else none) else (d4 p1 x23 l20 true)) else (d4 p1 x23 l20 b22)) else none)) else (some (.inr (l20,b22)))
noncomputable def ka (p1:List Int) (p2:Int):Option (List Int) :=
  (aZ (fun (l20,b22,x23)=>d5 p1 p2 l20 b22 x23) ([],false,0)).bind (fun (z29,z30)=>fX p2 z29 z30)
noncomputable def mL (p1:ay):Option Bool :=
  if p1.op = 2 then (some true) else (if p1.op = 3 then (some true) else (some (p1.op == 8)))
noncomputable def jt (l2:List Int):Option (List Int) :=
  some l2
noncomputable def fP (p1:af) (l7:List Int) (x8:Int):Option (((List Int)×Int) ⊕ (List Int)) :=
  if x8 < (p1.e.length:Int) then (if (0 ≤ x8∧x8 < (p1.e.length:Int)) then ((mL (p1.e.getD x8.toNat default)).bind fun y9=>if y9 = true then ((ka l7 ((p1.e.getD x8.toNat default).v)).bind fun y10=>some (.inl (y10,(IntKind.wrap .i64 (x8 + 1))))) else (some (.inl (l7,(IntKind.wrap .i64 (x8 + 1)))))) else none) else (some (.inr l7))
noncomputable def iD (p1:af) (l1:List Int):Option (List Int) :=
  (aZ (fun (l7,x8)=>fP p1 l7 x8) (l1,0)).bind (fun z11=>jt z11)
noncomputable def fQ (p1:af) (l18:List Int) (x19:Int):Option (((List Int)×Int) ⊕ (List Int)) :=
  if x19 < (p1.a.length:Int) then (if (0 ≤ x19∧x19 < (p1.a.length:Int)) then ((ka l18 (p1.a.getD x19.toNat default)).bind fun y20=>some (.inl (y20,(IntKind.wrap .i64 (x19 + 1))))) else none) else (some (.inr l18))
noncomputable def n5 (p1:af):Option (List Int) :=
  (aZ (fun (l18,x19)=>fQ p1 l18 x19) ([],0)).bind (fun z21=>iD p1 z21)
noncomputable def iE (p1:af) (l1:List ay):Option (List Int) :=
  (n5 (af.mk p1.op p1.k p1.out_ p1.n p1.a l1)).bind fun y2=>some y2
noncomputable def lI (p1:af):Option (List Int) :=
  if p1.op < 14 then (iE p1 []) else (iE p1 p1.e)
noncomputable def kB (p1:Int) (x1:Int):Option (Int×Int×Int) :=
  if (0 ≤ p1∧p1 < (([63,105,105,105,105,105,105,105,105,105,98,98,98,105,98]:List UInt8).length:Int))∧(0 ≤ p1∧p1 < (([63,105,105,105,105,105,105,105,98,98,98,98,98,105,98]:List UInt8).length:Int)) then (some (((([63,105,105,105,105,105,105,105,105,105,98,98,98,105,98]:List UInt8).getD p1.toNat 0).toNat:Int),((([63,105,105,105,105,105,105,105,98,98,98,98,98,105,98]:List UInt8).getD p1.toNat 0).toNat:Int),x1)) else none
noncomputable def kC (p1:Int):Option (Int×Int×Int) :=
  if p1 < 1 then (some (0,0,0)) else (if p1 > 14 then (some (0,0,0)) else (if p1 ≥ 13 then (kB p1 1) else (kB p1 2)))
noncomputable def ju (p1:Int):Option Bool :=
  (kC p1).bind fun y1=>if y1.2.2 = 2 then (some (y1.1 == y1.2.1)) else (some false)
noncomputable def lJ (p1:Int):Option Bool :=
  if p1 ≥ (-1000000) then (some (decide (p1 ≤ 1000000))) else (some false)
noncomputable def fR (l3:List Int):Option Int :=
  if ¬ (l3.length:Int) = 1 then (some 0) else (if (0 ≤ 0∧0 < (l3.length:Int)) then (some (l3.getD 0 default)) else none)
noncomputable def eX (p1:ae) (p2:List ay) (p3:Int) (l17:List Int) (x19:Int):Option (((List Int)×Int) ⊕ ((List Int) ⊕ Int)) :=
  if x19 < (p2.length:Int) then (if (0 ≤ x19∧x19 < (p2.length:Int)) then (if ((p2.getD x19.toNat default).op) = 1 then (if ((p2.getD x19.toNat default).k) = 0 then (if dg (l17.length + 1) 1 then (some (.inl ((l17 ++ (lit ([105]:List Int))),(IntKind.wrap .i64 (x19 + 1))))) else none) else (if ((p2.getD x19.toNat default).k) = 1 then (if ((p2.getD x19.toNat default).n) = 0 then (if dg (l17.length + 1) 1 then (some (.inl ((l17 ++ (lit ([98]:List Int))),(IntKind.wrap .i64 (x19 + 1))))) else none) else (if ((p2.getD x19.toNat default).n) = 1 then (if dg (l17.length + 1) 1 then (some (.inl ((l17 ++ (lit ([98]:List Int))),(IntKind.wrap .i64 (x19 + 1))))) else none) else (some (.inr (.inr 0))))) else (some (.inr (.inr 0))))) else (if ((p2.getD x19.toNat default).op) = 2 then (if (0 ≤ (p2.getD x19.toNat default).v∧(p2.getD x19.toNat default).v < (p1.vars.length:Int)) then (if ¬ ((p1.vars.getD (((p2.getD x19.toNat default).v).toNat) default).n) = 0 then (some (.inr (.inr 0))) else (if dg (l17.length + 1) 1 then (some (.inl ((l17 ++ (lit ([(p1.vars.getD (((p2.getD x19.toNat default).v).toNat) default).elem]:List Int))),(IntKind.wrap .i64 (x19 + 1))))) else none)) else none) else (if ((p2.getD x19.toNat default).op) = 3 then (if (0 ≤ (p2.getD x19.toNat default).v∧(p2.getD x19.toNat default).v < (p1.vars.length:Int)) then (if ((p1.vars.getD (((p2.getD x19.toNat default).v).toNat) default).n) = 0 then (some (.inr (.inr 0))) else (if ((p2.getD x19.toNat default).n) < 0 then (some (.inr (.inr 0))) else (if ((p1.vars.getD (((p2.getD x19.toNat default).v).toNat) default).n) < p3 then (some (.inr (.inr 0))) else (if ((p2.getD x19.toNat default).n) > (IntKind.wrap .i64 (((p1.vars.getD (((p2.getD x19.toNat default).v).toNat) default).n) - p3)) then (some (.inr (.inr 0))) else (if dg (l17.length + 1) 1 then (some (.inl ((l17 ++ (lit ([(p1.vars.getD (((p2.getD x19.toNat default).v).toNat) default).elem]:List Int))),(IntKind.wrap .i64 (x19 + 1))))) else none))))) else none) else (if ((p2.getD x19.toNat default).op) = 4 then ((lJ ((p2.getD x19.toNat default).n)).bind fun y20=>if y20 = true then (if dg (l17.length + 1) 1 then (some (.inl ((l17 ++ (lit ([105]:List Int))),(IntKind.wrap .i64 (x19 + 1))))) else none) else (some (.inr (.inr 0)))) else (if ((p2.getD x19.toNat default).op) = 5 then ((kC ((p2.getD x19.toNat default).k)).bind fun y21=>if ¬ y21.2.2 = 1 then (some (.inr (.inr 0))) else (if (l17.length:Int) < 1 then (some (.inr (.inr 0))) else (if (0 ≤ (IntKind.wrap .i64 ((l17.length:Int) - 1))∧(IntKind.wrap .i64 ((l17.length:Int) - 1)) < (l17.length:Int)) then (if ¬ (l17.getD ((IntKind.wrap .i64 ((l17.length:Int) - 1)).toNat) default) = y21.1 then (some (.inr (.inr 0))) else (some (.inl ((l17.set ((IntKind.wrap .i64 ((l17.length:Int) - 1)).toNat) y21.2.1),(IntKind.wrap .i64 (x19 + 1)))))) else none))) else (if ((p2.getD x19.toNat default).op) = 6 then ((kC ((p2.getD x19.toNat default).k)).bind fun y22=>if ¬ y22.2.2 = 2 then (some (.inr (.inr 0))) else (if (l17.length:Int) < 2 then (some (.inr (.inr 0))) else (if (0 ≤ (IntKind.wrap .i64 ((l17.length:Int) - 1))∧(IntKind.wrap .i64 ((l17.length:Int) - 1)) < (l17.length:Int)) then (if ¬ (l17.getD ((IntKind.wrap .i64 ((l17.length:Int) - 1)).toNat) default) = y22.1 then (some (.inr (.inr 0))) else (if (0 ≤ (IntKind.wrap .i64 ((l17.length:Int) - 2))∧(IntKind.wrap .i64 ((l17.length:Int) - 2)) < (l17.length:Int)) then (if ¬ (l17.getD ((IntKind.wrap .i64 ((l17.length:Int) - 2)).toNat) default) = y22.1 then (some (.inr (.inr 0))) else (if (0 ≤ (IntKind.wrap .i64 ((l17.length:Int) - 2))∧(IntKind.wrap .i64 ((l17.length:Int) - 2)) ≤ (l17.length:Int))∧dg (((IntKind.wrap .i64 ((l17.length:Int) - 2)).toNat) + 1) 1 then (some (.inl (((l17.take ((IntKind.wrap .i64 ((l17.length:Int) - 2)).toNat)) ++ (lit ([y22.2.1]:List Int))),(IntKind.wrap .i64 (x19 + 1))))) else none)) else none)) else none))) else (if ((p2.getD x19.toNat default).op) = 7 then (if (l17.length:Int) < 3 then (some (.inr (.inr 0))) else (if (0 ≤ (IntKind.wrap .i64 ((l17.length:Int) - 3))∧(IntKind.wrap .i64 ((l17.length:Int) - 3)) < (l17.length:Int)) then (if ¬ (l17.getD ((IntKind.wrap .i64 ((l17.length:Int) - 3)).toNat) default) = 98 then (some (.inr (.inr 0))) else (if (0 ≤ (IntKind.wrap .i64 ((l17.length:Int) - 2))∧(IntKind.wrap .i64 ((l17.length:Int) - 2)) < (l17.length:Int))∧(0 ≤ (IntKind.wrap .i64 ((l17.length:Int) - 1))∧(IntKind.wrap .i64 ((l17.length:Int) - 1)) < (l17.length:Int)) then (if ¬ (l17.getD ((IntKind.wrap .i64 ((l17.length:Int) - 2)).toNat) default) = (l17.getD ((IntKind.wrap .i64 ((l17.length:Int) - 1)).toNat) default) then (some (.inr (.inr 0))) else (if (0 ≤ (IntKind.wrap .i64 ((l17.length:Int) - 3))∧(IntKind.wrap .i64 ((l17.length:Int) - 3)) ≤ (l17.length:Int))∧dg (((IntKind.wrap .i64 ((l17.length:Int) - 3)).toNat) + 1) 1 then (some (.inl (((l17.take ((IntKind.wrap .i64 ((l17.length:Int) - 3)).toNat)) ++ (lit ([(l17.getD ((IntKind.wrap .i64 ((l17.length:Int) - 1)).toNat) default)]:List Int))),(IntKind.wrap .i64 (x19 + 1))))) else none)) else none)) else none)) else (if ((p2.getD x19.toNat default).op) = 8 then (if (0 ≤ (p2.getD x19.toNat default).v∧(p2.getD x19.toNat default).v < (p1.vars.length:Int)) then (if ((p1.vars.getD (((p2.getD x19.toNat default).v).toNat) default).n) = 0 then (some (.inr (.inr 0))) else (if (l17.length:Int) < 2 then (some (.inr (.inr 0))) else (if (0 ≤ (IntKind.wrap .i64 ((l17.length:Int) - 2))∧(IntKind.wrap .i64 ((l17.length:Int) - 2)) < (l17.length:Int)) then (if ¬ (l17.getD ((IntKind.wrap .i64 ((l17.length:Int) - 2)).toNat) default) = 105 then (some (.inr (.inr 0))) else (if (0 ≤ (IntKind.wrap .i64 ((l17.length:Int) - 1))∧(IntKind.wrap .i64 ((l17.length:Int) - 1)) < (l17.length:Int)) then (if ¬ (l17.getD ((IntKind.wrap .i64 ((l17.length:Int) - 1)).toNat) default) = ((p1.vars.getD (((p2.getD x19.toNat default).v).toNat) default).elem) then (some (.inr (.inr 0))) else (if (0 ≤ (IntKind.wrap .i64 ((l17.length:Int) - 2))∧(IntKind.wrap .i64 ((l17.length:Int) - 2)) ≤ (l17.length:Int))∧dg (((IntKind.wrap .i64 ((l17.length:Int) - 2)).toNat) + 1) 1 then (some (.inl (((l17.take ((IntKind.wrap .i64 ((l17.length:Int) - 2)).toNat)) ++ (lit ([(p1.vars.getD (((p2.getD x19.toNat default).v).toNat) default).elem]:List Int))),(IntKind.wrap .i64 (x19 + 1))))) else none)) else none)) else none))) else none) else (some (.inr (.inr 0))))))))))) else none) else (some (.inr (.inl l17)))
noncomputable def jP (p1:ae) (p2:List ay) (p3:Int):Option Int :=
  (aZ (fun (l17,x19)=>eX p1 p2 p3 l17 x19) ([],0)).bind (Sum.elim (fun z23=>fR z23) (fun z24=>some z24))
noncomputable def aE (p1:ae) (p2:af) (l2:List ao):Option Bool :=
  (kC p2.k).bind fun y3=>if p2.op = 1 then (if ((p1.vars.getD p2.out_.toNat default).elem) = 105∧((p1.vars.getD p2.out_.toNat default).n) = 0 then (some true) else (if ((p1.vars.getD p2.out_.toNat default).elem) = 98∧((p1.vars.getD p2.out_.toNat default).n) = 0 then (if p2.n = 0 then (some true) else (some (p2.n == 1))) else (some false))) else (if p2.op = 2 then (if (0 ≤ 0∧0 < (3:Int))∧0 < l2.length then (some ((((l2.getD 0 default).elem) == ((p1.vars.getD p2.out_.toNat default).elem)) && (((l2.getD 0 default).n) == ((p1.vars.getD p2.out_.toNat default).n)))) else none) else (if p2.op = 3 then (if y3.2.2 = 1 then (if (0 ≤ 0∧0 < (3:Int))∧0 < l2.length then (if ((l2.getD 0 default).elem) = y3.1 then (some ((((p1.vars.getD p2.out_.toNat default).elem) == y3.2.1) && (((p1.vars.getD p2.out_.toNat default).n) == ((l2.getD 0 default).n)))) else (some false)) else none) else (some false)) else (if p2.op = 4 then (if y3.2.2 = 2 then (if (0 ≤ 0∧0 < (3:Int))∧0 < l2.length then (if ((l2.getD 0 default).elem) = y3.1 then (if (0 ≤ 1∧1 < (3:Int))∧1 < l2.length then (if ((l2.getD 1 default).elem) = ((l2.getD 0 default).elem)∧((l2.getD 1 default).n) = ((l2.getD 0 default).n) then (some ((((p1.vars.getD p2.out_.toNat default).elem) == y3.2.1) && (((p1.vars.getD p2.out_.toNat default).n) == ((l2.getD 0 default).n)))) else (some false)) else none) else (some false)) else none) else (some false)) else (if p2.op = 5 then (if (0 ≤ 0∧0 < (3:Int))∧0 < l2.length then (if ((l2.getD 0 default).elem) = 98∧((l2.getD 0 default).n) = 0 then (if (0 ≤ 1∧1 < (3:Int))∧1 < l2.length then (if ((l2.getD 1 default).elem) = ((p1.vars.getD p2.out_.toNat default).elem)∧((l2.getD 1 default).n) = ((p1.vars.getD p2.out_.toNat default).n) then (if (0 ≤ 2∧2 < (3:Int))∧2 < l2.length then (some ((((l2.getD 2 default).elem) == ((p1.vars.getD p2.out_.toNat default).elem)) && (((l2.getD 2 default).n) == ((p1.vars.getD p2.out_.toNat default).n)))) else none) else (some false)) else none) else (some false)) else none) else (if p2.op = 6 then ((ju p2.k).bind fun y4=>if y4 = true then (if (0 ≤ 0∧0 < (3:Int))∧0 < l2.length then (if ((l2.getD 0 default).elem) = y3.1∧((l2.getD 0 default).n) = 0 then (if (0 ≤ 1∧1 < (3:Int))∧1 < l2.length then (if ((l2.getD 1 default).n) > 0 then (if ((l2.getD 1 default).elem) = y3.1 then (some ((((p1.vars.getD p2.out_.toNat default).elem) == ((l2.getD 0 default).elem)) && (((p1.vars.getD p2.out_.toNat default).n) == ((l2.getD 0 default).n)))) else (some false)) else (some false)) else none) else (some false)) else none) else (some false)) else (if p2.op = 7 then ((ju p2.k).bind fun y5=>if y5 = true then (if (0 ≤ 0∧0 < (3:Int))∧0 < l2.length then (if ((l2.getD 0 default).elem) = y3.1∧((l2.getD 0 default).n) = 0 then (if (0 ≤ 1∧1 < (3:Int))∧1 < l2.length then (if ((l2.getD 1 default).n) > 0 then (if ((l2.getD 1 default).elem) = y3.1 then (some ((((p1.vars.getD p2.out_.toNat default).elem) == ((l2.getD 1 default).elem)) && (((p1.vars.getD p2.out_.toNat default).n) == ((l2.getD 1 default).n)))) else (some false)) else (some false)) else none) else (some false)) else none) else (some false)) else (if p2.op = 8 then (if (0 ≤ 0∧0 < (3:Int))∧0 < l2.length then (if ((l2.getD 0 default).n) = 0 then (if ((p1.vars.getD p2.out_.toNat default).n) > 0 then (some (((p1.vars.getD p2.out_.toNat default).elem) == ((l2.getD 0 default).elem))) else (some false)) else (some false)) else none) else (if p2.op = 9 then (if (0 ≤ 0∧0 < (3:Int))∧0 < l2.length then (if ((l2.getD 0 default).n) > 0 then (if (0 ≤ 1∧1 < (3:Int))∧1 < l2.length then (if ((l2.getD 1 default).elem) = 105∧((l2.getD 1 default).n) = 0 then (if (0 ≤ 2∧2 < (3:Int))∧2 < l2.length then (if ((l2.getD 2 default).elem) = ((l2.getD 0 default).elem)∧((l2.getD 2 default).n) = 0 then (some ((((p1.vars.getD p2.out_.toNat default).elem) == ((l2.getD 2 default).elem)) && (((p1.vars.getD p2.out_.toNat default).n) == ((l2.getD 2 default).n)))) else (some false)) else none) else (some false)) else none) else (some false)) else none) else (if p2.op = 10 then (if (0 ≤ 0∧0 < (3:Int))∧0 < l2.length then (if ((l2.getD 0 default).n) > 0 then (if (0 ≤ 1∧1 < (3:Int))∧1 < l2.length then (if ((l2.getD 1 default).elem) = 105∧((l2.getD 1 default).n) = 0 then (if (0 ≤ 2∧2 < (3:Int))∧2 < l2.length then (if ((l2.getD 2 default).elem) = ((l2.getD 0 default).elem)∧((l2.getD 2 default).n) = 0 then (some ((((p1.vars.getD p2.out_.toNat default).elem) == ((l2.getD 0 default).elem)) && (((p1.vars.getD p2.out_.toNat default).n) == ((l2.getD 0 default).n)))) else (some false)) else none) else (some false)) else none) else (some false)) else none) else (if p2.op = 11 then (if ((p1.vars.getD p2.out_.toNat default).n) > 0 then (if (0 ≤ 0∧0 < (3:Int))∧0 < l2.length then (if ((l2.getD 0 default).n) > 0 then (if ((p1.vars.getD p2.out_.toNat default).elem) = ((l2.getD 0 default).elem) then (if p2.n ≥ 0 then (if ((p1.vars.getD p2.out_.toNat default).n) ≤ ((l2.getD 0 default).n) then (some (decide (p2.n ≤ (IntKind.wrap .i64 (((l2.getD 0 default).n) - ((p1.vars.getD p2.out_.toNat default).n)))))) else (some false)) else (some false)) else (some false)) else (some false)) else none) else (some false)) else (if p2.op = 12 then (if (0 ≤ 0∧0 < (3:Int))∧0 < l2.length then (if ((l2.getD 0 default).n) > 0 then (if (0 ≤ 1∧1 < (3:Int))∧1 < l2.length then (if ((l2.getD 1 default).n) > 0 then (if ((l2.getD 0 default).elem) = ((l2.getD 1 default).elem) then (some ((((p1.vars.getD p2.out_.toNat default).elem) == ((l2.getD 0 default).elem)) && (((p1.vars.getD p2.out_.toNat default).n) == (IntKind.wrap .i64 (((l2.getD 0 default).n) + ((l2.getD 1 default).n)))))) else (some false)) else (some false)) else none) else (some false)) else none) else (if p2.op = 13 then (if (0 ≤ 0∧0 < (3:Int))∧0 < l2.length then (if ((l2.getD 0 default).elem) = ((p1.vars.getD p2.out_.toNat default).elem)∧((l2.getD 0 default).n) = ((p1.vars.getD p2.out_.toNat default).n) then (if (0 ≤ 1∧1 < (3:Int))∧1 < l2.length then (some ((((l2.getD 1 default).elem) == ((p1.vars.getD p2.out_.toNat default).elem)) && (((l2.getD 1 default).n) == ((p1.vars.getD p2.out_.toNat default).n)))) else none) else (some false)) else none) else (if p2.op = 14 then ((ie ((p1.vars.getD p2.out_.toNat default).n)).bind fun y6=>(jP p1 p2.e y6).bind fun y7=>some (y7 == ((p1.vars.getD p2.out_.toNat default).elem))) else (if p2.op = 15 then ((ju p2.k).bind fun y8=>if y8 = true then (if ((p1.vars.getD p2.out_.toNat default).elem) = y3.1∧((p1.vars.getD p2.out_.toNat default).n) = 0 then (if (0 ≤ 0∧0 < (3:Int))∧0 < l2.length then (if ((l2.getD 0 default).elem) = ((p1.vars.getD p2.out_.toNat default).elem)∧((l2.getD 0 default).n) = ((p1.vars.getD p2.out_.toNat default).n) then (if p2.n ≥ 1 then (if p2.n ≤ 300 then ((jP p1 p2.e p2.n).bind fun y9=>some (y9 == y3.1)) else (some false)) else (some false)) else (some false)) else none) else (some false)) else (some false)) else ((ju p2.k).bind fun y10=>if y10 = true then (if ((p1.vars.getD p2.out_.toNat default).n) > 0 then (if ((p1.vars.getD p2.out_.toNat default).elem) = y3.1 then (if (0 ≤ 0∧0 < (3:Int))∧0 < l2.length then (if ((l2.getD 0 default).elem) = y3.1∧((l2.getD 0 default).n) = 0 then ((jP p1 p2.e ((p1.vars.getD p2.out_.toNat default).n)).bind fun y11=>some (y11 == y3.1)) else (some false)) else none) else (some false)) else (some false)) else (some false))))))))))))))))
noncomputable def cq (p1:ae) (p2:af) (l19:List ao) (x20:Int):Option (((List ao)×Int) ⊕ (List ao)) :=
  if x20 < (p2.a.length:Int) then (if (0 ≤ x20∧x20 < (p2.a.length:Int))∧(0 ≤ (p2.a.getD x20.toNat default)∧(p2.a.getD x20.toNat default) < (p1.vars.length:Int))∧(0 ≤ x20∧x20 < (3:Int))∧x20.toNat < l19.length then (some (.inl ((l19.set x20.toNat (p1.vars.getD ((p2.a.getD x20.toNat default).toNat) default)),(IntKind.wrap .i64 (x20 + 1))))) else none) else (some (.inr l19))
noncomputable def aD (p1:ae) (p2:af):Option Bool :=
  if (0 ≤ p2.out_∧p2.out_ < (p1.vars.length:Int)) then ((aZ (fun (l19,x20)=>cq p1 p2 l19 x20) ((List.replicate 3 (ao.mk 0 0)),0)).bind (fun z21=>aE p1 p2 z21)) else none
noncomputable def gY:Option aw :=
  some (aw.mk 0 0)
noncomputable def fd (p1:ae) (y2:(List Int)) (x5:Int):Option (Int ⊕ (Unit ⊕ aw)) :=
  if x5 < (p1.out_.length:Int) then (if (0 ≤ x5∧x5 < (p1.out_.length:Int)) then ((j9 p1.in_ (p1.out_.getD x5.toNat default)).bind fun y6=>if y6 = true then (some (.inl (IntKind.wrap .i64 (x5 + 1)))) else ((j9 y2 (p1.out_.getD x5.toNat default)).bind fun y7=>if y7 = true then (some (.inl (IntKind.wrap .i64 (x5 + 1)))) else ((eV 9 (-1)).bind fun y8=>some (.inr (.inr (y8)))))) else none) else (some (.inr (.inl ())))
noncomputable def fe (p1:ae) (y2:(List Int)):Option aw :=
  (aZ (fun x5=>fd p1 y2 x5) 0).bind (Sum.elim (fun _=>gY) (fun z9=>some z9))
noncomputable def ff (x12:Int):Option (Int ⊕ (Unit ⊕ aw)) :=
  some (.inl (IntKind.wrap .i64 (x12 + 1)))
noncomputable def gZ (p1:ae) (y2:(List Int)) (x12:Int) (y13:(List Int)) (x16:Int):Option (Int ⊕ (Unit ⊕ aw)) :=
  if x16 < (y13.length:Int) then (if (0 ≤ x16∧x16 < (y13.length:Int)) then ((j9 p1.in_ (y13.getD x16.toNat default)).bind fun y17=>if y17 = true then (some (.inl (IntKind.wrap .i64 (x16 + 1)))) else ((j9 y2 (y13.getD x16.toNat default)).bind fun y18=>if y18 = true then (some (.inl (IntKind.wrap .i64 (x16 + 1)))) else ((eV 9 x12).bind fun y19=>some (.inr (.inr (y19)))))) else none) else (some (.inr (.inl ())))
noncomputable def fg (p1:ae) (y2:(List Int)) (x12:Int):Option (Int ⊕ (Unit ⊕ aw)) :=
  if x12 < (p1.rules.length:Int) then (if (0 ≤ x12∧x12 < (p1.rules.length:Int)) then ((lI (p1.rules.getD x12.toNat default)).bind fun y13=>(aZ (fun x16=>gZ p1 y2 x12 y13 x16) 0).bind (Sum.elim (fun _=>ff x12) (fun z20=>some (.inr (.inr z20))))) else none) else (some (.inr (.inl ())))
noncomputable def fh (p1:ae):Option aw :=
  (mK p1 (p1.rules.length:Int)).bind fun y2=>(aZ (fun x12=>fg p1 y2 x12) 0).bind (Sum.elim (fun _=>fe p1 y2) (fun z21=>some z21))
noncomputable def hQ (x24:Int):Option (Int ⊕ (Unit ⊕ aw)) :=
  some (.inl (IntKind.wrap .i64 (x24 + 1)))
noncomputable def fj (p1:ae) (x24:Int):Option (Int ⊕ (Unit ⊕ aw)) :=
  (aD p1 (p1.rules.getD x24.toNat default)).bind fun y38=>if y38 = true then (hQ x24) else ((eV 10 x24).bind fun y39=>some (.inr (.inr (y39))))
noncomputable def hU (p1:ae) (x24:Int) (y37:(List Int)) (x42:Int):Option (Int ⊕ (Unit ⊕ aw)) :=
  if x42 < (y37.length:Int) then (if (0 ≤ x42∧x42 < (y37.length:Int)) then (if (y37.getD x42.toNat default) < 0 then ((eV 16 x24).bind fun y43=>some (.inr (.inr (y43)))) else (if (y37.getD x42.toNat default) ≥ (p1.vars.length:Int) then ((eV 16 x24).bind fun y44=>some (.inr (.inr (y44)))) else (some (.inl (IntKind.wrap .i64 (x42 + 1)))))) else none) else (some (.inr (.inl ())))
noncomputable def fm (p1:ae) (x24:Int):Option (Int ⊕ (Unit ⊕ aw)) :=
  if x24 < (p1.rules.length:Int) then (if (0 ≤ x24∧x24 < (p1.rules.length:Int)) then (if ((p1.rules.getD x24.toNat default).out_) < 0 then ((eV 16 x24).bind fun y25=>some (.inr (.inr (y25)))) else (if ((p1.rules.getD x24.toNat default).out_) ≥ (p1.vars.length:Int) then ((eV 16 x24).bind fun y26=>some (.inr (.inr (y26)))) else ((j9 p1.in_ ((p1.rules.getD x24.toNat default).out_)).bind fun y27=>if y27 = true then ((eV 8 x24).bind fun y28=>some (.inr (.inr (y28)))) else ((mK p1 x24).bind fun y29=>(j9 y29 ((p1.rules.getD x24.toNat default).out_)).bind fun y30=>if y30 = true then ((eV 8 x24).bind fun y31=>some (.inr (.inr (y31)))) else ((js ((p1.rules.getD x24.toNat default).op)).bind fun y32=>if y32 < 0 then ((eV 4 x24).bind fun y33=>some (.inr (.inr (y33)))) else ((js ((p1.rules.getD x24.toNat default).op)).bind fun y34=>if ¬ y34 = (((p1.rules.getD x24.toNat default).a).length:Int) then ((eV 4 x24).bind fun y35=>some (.inr (.inr (y35)))) else (if (((p1.rules.getD x24.toNat default).e).length:Int) > 24 then ((eV 7 x24).bind fun y36=>some (.inr (.inr (y36)))) else ((lI (p1.rules.getD x24.toNat default)).bind fun y37=>(aZ (fun x42=>hU p1 x24 y37 x42) 0).bind (Sum.elim (fun _=>fj p1 x24) (fun z45=>some (.inr (.inr z45)))))))))))) else none) else (some (.inr (.inl ())))
noncomputable def jQ (p1:ae):Option aw :=
  (lH p1).bind fun y1=>if ¬ ((y1).code) = 0 then (some (y1)) else ((aZ (fun x24=>fm p1 x24) 0).bind (Sum.elim (fun _=>fh p1) (fun z46=>some z46)))
noncomputable def kD:Option Bool :=
  some false
noncomputable def kE (p1:Int) (p2:List Int) (x3:Int):Option (Int ⊕ (Unit ⊕ Bool)) :=
  if x3 < (p2.length:Int) then (if (0 ≤ x3∧x3 < (p2.length:Int)) then (if (p2.getD x3.toNat default) = p1 then (some (.inr (.inr true))) else (some (.inl (IntKind.wrap .i64 (x3 + 1))))) else none) else (some (.inr (.inl ())))
noncomputable def n6 (p1:Int) (p2:List Int):Option Bool :=
  (aZ (fun x3=>kE p1 p2 x3) 0).bind (Sum.elim (fun _=>kD) (fun z4=>some z4))
noncomputable def gQ (p1:af):Option (List Int) :=
  (lI p1).bind fun y1=>some y1
noncomputable def mM (p1:af):Option (List Int) :=
  if p1.op = 13 then (if (p1.a.length:Int) = 2 then (if (0 ≤ 0∧0 < (p1.a.length:Int)) then (some (lit ([(p1.a.getD 0 default)]:List Int))) else none) else (gQ p1)) else (gQ p1)
noncomputable def jR:Option Bool :=
  some true
noncomputable def jS (x4:Int):Option (Int ⊕ (Unit ⊕ Bool)) :=
  some (.inl (IntKind.wrap .i64 (x4 + 1)))
noncomputable def gR (x4:Int) (b6:Bool):Option (Int ⊕ (Unit ⊕ Bool)) :=
  if b6 = true then (jS x4) else (some (.inr (.inr false)))
noncomputable def d6 (p1:ae) (p3:List Int) (y1:(List Int)) (x4:Int) (b11:Bool) (x12:Int):Option ((Bool×Int) ⊕ Bool) :=
  if x12 < (p3.length:Int) then (if b11 = true then (some (.inl (true,(IntKind.wrap .i64 (x12 + 1))))) else (if (0 ≤ x12∧x12 < (p3.length:Int))∧(0 ≤ (p3.getD x12.toNat default)∧(p3.getD x12.toNat default) < (p1.rules.length:Int)) then (some (.inl ((((p1.rules.getD ((p3.getD x12.toNat default).toNat) default).out_) == (y1.getD x4.toNat default)),(IntKind.wrap .i64 (x12 + 1))))) else none)) else (some (.inr b11))
noncomputable def jT (p1:ae) (p3:List Int) (y1:(List Int)) (x4:Int):Option (Int ⊕ (Unit ⊕ Bool)) :=
  if x4 < (y1.length:Int) then (if (0 ≤ x4∧x4 < (y1.length:Int)) then ((j9 p1.in_ (y1.getD x4.toNat default)).bind fun y5=>(aZ (fun (b11,x12)=>d6 p1 p3 y1 x4 b11 x12) (y5,0)).bind (fun z13=>gR x4 z13)) else none) else (some (.inr (.inl ())))
noncomputable def mN (p1:ae) (p2:af) (p3:List Int):Option Bool :=
  (mM p2).bind fun y1=>(aZ (fun x4=>jT p1 p3 y1 x4) 0).bind (Sum.elim (fun _=>jR) (fun z14=>some z14))
noncomputable def jU (l3:List Int):Option (List Int) :=
  some l3
noncomputable def d7 (p1:ae) (l17:List Int) (x30:Int):Option (Int ⊕ ((List Int)×Bool)) :=
  if x30 < (p1.rules.length:Int) then ((n6 x30 l17).bind fun y31=>if y31 = true then (some (.inl (IntKind.wrap .i64 (x30 + 1)))) else (if (0 ≤ x30∧x30 < (p1.rules.length:Int)) then ((mN p1 (p1.rules.getD x30.toNat default) l17).bind fun y32=>if y32 = true then (if dg (l17.length + 1) 8 then (some (.inr ((l17 ++ (lit ([x30]:List Int))),true))) else none) else (some (.inl (IntKind.wrap .i64 (x30 + 1))))) else none)) else (some (.inr (l17,false)))
noncomputable def eT (p1:ae) (l17:List Int) (b19:Bool):Option (((List Int)×Bool) ⊕ (List Int)) :=
  if b19 = true then ((aZ (fun x30=>d7 p1 l17 x30) 0).bind (fun (z33,z34)=>some (.inl (z33,z34)))) else (some (.inr l17))
noncomputable def mO (p1:ae):Option (List Int) :=
  (aZ (fun (l17,b19)=>eT p1 l17 b19) ([],true)).bind (fun z35=>jU z35)
noncomputable def dG (p1:ae) (l3:List af):Option ((List ao)×(List Int)×(List Int)×(List af)) :=
  some (p1.vars,p1.in_,p1.out_,l3)
noncomputable def cn (p1:ae) (l17:List af) (x19:Int):Option (((List af)×Int) ⊕ (List af)) :=
  if x19 < (p1.rules.length:Int) then (if (0 ≤ x19∧x19 < (p1.rules.length:Int)) then ((iV (p1.rules.getD x19.toNat default)).bind fun y20=>if dg (l17.length + 1) 80 then (some (.inl ((l17 ++ (lit ([(y20)]:List af))),(IntKind.wrap .i64 (x19 + 1))))) else none) else none) else (some (.inr l17))
noncomputable def gv (p1:ae):Option ((List ao)×(List Int)×(List Int)×(List af)) :=
  if dg p1.vars.length 16∧dg p1.in_.length 8∧dg p1.out_.length 8 then ((aZ (fun (l17,x19)=>cn p1 l17 x19) ([],0)).bind (fun z21=>dG p1 z21)) else none
noncomputable def kF (y3:((List ao)×(List Int)×(List Int)×(List af))) (l5:List af):Option (ae×aw) :=
  some ((ae.mk y3.1 y3.2.1 y3.2.2.1 l5),(aw.mk 0 0))
noncomputable def eY (p1:ae) (y2:(List Int)) (l13:List af) (x14:Int):Option (((List af)×Int) ⊕ (List af)) :=
  if x14 < (y2.length:Int) then (if (0 ≤ x14∧x14 < (y2.length:Int))∧(0 ≤ (y2.getD x14.toNat default)∧(y2.getD x14.toNat default) < (p1.rules.length:Int)) then ((iV (p1.rules.getD ((y2.getD x14.toNat default).toNat) default)).bind fun y15=>if (0 ≤ x14∧x14 < (l13.length:Int)) then (some (.inl ((l13.set x14.toNat (y15)),(IntKind.wrap .i64 (x14 + 1))))) else none) else none) else (some (.inr l13))
noncomputable def kG (p1:ae) (y2:(List Int)):Option (ae×aw) :=
  (gv p1).bind fun y3=>(aZ (fun (l13,x14)=>eY p1 y2 l13 x14) (y3.2.2.2,0)).bind (fun z16=>kF y3 z16)
noncomputable def gI (y2:(List Int)) (x19:Int):Option (Int ⊕ (ae×aw)) :=
  (j9 y2 x19).bind fun y20=>if y20 = true then (some (.inl (IntKind.wrap .i64 (x19 + 1)))) else ((eV 15 x19).bind fun y21=>some (.inr ((ae.mk [] [] [] []),(y21))))
noncomputable def lK (p1:ae):Option (ae×aw) :=
  (jQ p1).bind fun y1=>if ¬ ((y1).code) = 0 then (some ((ae.mk [] [] [] []),(y1))) else ((mO p1).bind fun y2=>if (y2.length:Int) < (p1.rules.length:Int) then ((aZ (fun x19=>gI y2 x19) 0).bind (fun z22=>some z22)) else (kG p1 y2))
noncomputable def gw:Option Bool :=
  some true
noncomputable def gC (p1:List Int) (p2:List Int) (x3:Int):Option (Int ⊕ (Unit ⊕ Bool)) :=
  if x3 < (p1.length:Int) then (if (0 ≤ x3∧x3 < (p1.length:Int))∧(0 ≤ x3∧x3 < (p2.length:Int)) then (if ¬ (p1.getD x3.toNat default) = (p2.getD x3.toNat default) then (some (.inr (.inr false))) else (some (.inl (IntKind.wrap .i64 (x3 + 1))))) else none) else (some (.inr (.inl ())))
noncomputable def jc (p1:List Int) (p2:List Int):Option Bool :=
  if ¬ (p1.length:Int) = (p2.length:Int) then (some false) else ((aZ (fun x3=>gC p1 p2 x3) 0).bind (Sum.elim (fun _=>gw) (fun z4=>some z4)))
noncomputable def ll (p1:ae):Option ((List ao)×(List Int)×(List Int)×(List af)×Int×(List (List Int))×(List (List Int))) :=
  if (0 ≤ (p1.rules.length:Int)∧(p1.rules.length:Int) ≤ (p1.rules.length:Int))∧dg p1.rules.length 24 then (some (p1.vars,p1.in_,p1.out_,p1.rules,0,(List.replicate p1.rules.length []),[])) else none
noncomputable def iF (x1:Int):Option Int :=
  some x1
noncomputable def dE (p1:ae) (p2:List Int) (x6:Int) (x7:Int):Option ((Int×Int) ⊕ Int) :=
  if x7 < (p2.length:Int) then (if (0 ≤ x7∧x7 < (p2.length:Int))∧(0 ≤ (p2.getD x7.toNat default)∧(p2.getD x7.toNat default) < (p1.vars.length:Int)) then ((ie ((p1.vars.getD ((p2.getD x7.toNat default).toNat) default).n)).bind fun y8=>some (.inl ((IntKind.wrap .i64 (x6 + y8)),(IntKind.wrap .i64 (x7 + 1))))) else none) else (some (.inr x6))
noncomputable def kH (p1:ae) (p2:List Int):Option Int :=
  (aZ (fun (x6,x7)=>dE p1 p2 x6 x7) (0,0)).bind (fun z9=>iF z9)
noncomputable def hY:Option aw :=
  some (aw.mk 0 0)
noncomputable def fo (x8:Int) (x9:Int):Option ((Int×Int) ⊕ (Unit ⊕ aw)) :=
  some (.inl (x9,(IntKind.wrap .i64 (x8 + 1))))
noncomputable def cM (p1:ae) (p2:List Int) (x8:Int) (x14:Int) (x15:Int):Option ((Int×Int) ⊕ (Int ⊕ aw)) :=
  (ie ((p1.vars.getD ((p1.in_.getD x8.toNat default).toNat) default).n)).bind fun y16=>if x15 < y16 then (if ((p1.vars.getD ((p1.in_.getD x8.toNat default).toNat) default).elem) = 98 then (if (0 ≤ x14∧x14 < (p2.length:Int)) then (if ¬ (p2.getD x14.toNat default) = 0 then (if ¬ (p2.getD x14.toNat default) = 1 then ((eV 17 x14).bind fun y17=>some (.inr (.inr (y17)))) else (some (.inl ((IntKind.wrap .i64 (x14 + 1)),(IntKind.wrap .i64 (x15 + 1)))))) else (some (.inl ((IntKind.wrap .i64 (x14 + 1)),(IntKind.wrap .i64 (x15 + 1)))))) else none) else (some (.inl ((IntKind.wrap .i64 (x14 + 1)),(IntKind.wrap .i64 (x15 + 1)))))) else (some (.inr (.inl x14)))
noncomputable def di (p1:ae) (p2:List Int) (x7:Int) (x8:Int):Option ((Int×Int) ⊕ (Unit ⊕ aw)) :=
  if x8 < (p1.in_.length:Int) then (if (0 ≤ x8∧x8 < (p1.in_.length:Int))∧(0 ≤ (p1.in_.getD x8.toNat default)∧(p1.in_.getD x8.toNat default) < (p1.vars.length:Int)) then ((aZ (fun (x14,x15)=>cM p1 p2 x8 x14 x15) (x7,0)).bind (Sum.elim (fun z18=>fo x8 z18) (fun z19=>some (.inr (.inr z19))))) else none) else (some (.inr (.inl ())))
noncomputable def jV (p1:ae) (p2:List Int):Option aw :=
  (kH p1 p1.in_).bind fun y1=>if ¬ (p2.length:Int) = y1 then ((eV 17 (-1)).bind fun y2=>some (y2)) else ((aZ (fun (x7,x8)=>di p1 p2 x7 x8) (0,0)).bind (Sum.elim (fun _=>hY) (fun z20=>some z20)))
noncomputable def bf (b1:Bool):Option Int :=
  if b1 = true then (some 1) else (some 0)
noncomputable def bi (p1:Int) (p2:Int) (p3:Int):Option Int :=
  if p1 = 1 then (some (IntKind.wrap .i64 (p2 + p3))) else (if p1 = 2 then (some (IntKind.wrap .i64 (p2 - p3))) else (if p1 = 3 then (some (IntKind.wrap .i64 (p2 * p3))) else (if p1 = 13 then (some (IntKind.wrap .i64 (0 - p2))) else (if p1 = 4 then (if p3 = 0 then (some 0) else (if p3 = (-1) then (some (IntKind.wrap .i64 (0 - p2))) else (if p3 ≠ 0 then (some (IntKind.wrap .i64 (p2.tdiv p3))) else none))) else (if p1 = 5 then (if p3 = 0 then (some 0) else (if p3 = (-1) then (some 0) else (if p3 ≠ 0 then (some (IntKind.wrap .i64 (p2 - (IntKind.wrap .i64 ((IntKind.wrap .i64 (p2.tdiv p3)) * p3))))) else none))) else (if p1 = 6 then (if p3 < p2 then (some p3) else (some p2)) else (if p1 = 7 then (if p3 > p2 then (some p3) else (some p2)) else (if p1 = 8 then (bf (decide (p2 < p3))) else (if p1 = 9 then (bf (p2 == p3)) else (if p1 = 10 then (if ¬ p2 = 0 then (bf (p3 != 0)) else (bf false)) else (if p1 = 11 then (if ¬ p2 = 0 then (bf true) else (bf (p3 != 0))) else (if p1 = 12 then (bf (!((p2 == 0) == (p3 == 0)))) else (if p1 = 14 then (bf (p2 == 0)) else (bf false))))))))))))))
noncomputable def kb (p1:List Int) (p2:Int) (p3:Int):Option Int :=
  if p2 ≥ 0 then (if p2 < (p1.length:Int) then (if (0 ≤ p2∧p2 < (p1.length:Int)) then (some (p1.getD p2.toNat default)) else none) else (some p3)) else (some p3)
noncomputable def bO (rc_ref_Meaning_of:Int→(List ao)→(List Int)→(List Int)→(List af)→Nat→Nat→Int→(List (List Int))→(List (List Int))→Option ((List Int)×(List (List Int)))) (rcf:(List ay)→Int→Int→(List ao)→(List Int)→(List Int)→(List af)→Nat→Nat→Int→(List (List Int))→(List (List Int))→Option (Int×Int×(List (List Int)))) (p1:List ay) (p2:Int) (p3:Int) (p4:List ao) (p5:List Int) (p6:List Int) (p7:List af) (p8:Nat) (p9:Nat) (p10:Int) (p11:List (List Int)) (p12:List (List Int)):Option (Int×Int×(List (List Int))) :=
  if (0 ≤ p2∧p2 < (p1.length:Int)) then (if ((p1.getD p2.toNat default).op) = 1 then (some ((p1.getD p2.toNat default).n,(IntKind.wrap .i64 (p2 - 1)),p12)) else (if ((p1.getD p2.toNat default).op) = 2 then ((rc_ref_Meaning_of ((p1.getD p2.toNat default).v) p4 p5 p6 p7 p8 p9 p10 p11 p12).bind fun y1=>if (0 ≤ 0∧0 < (y1.1.length:Int)) then (some ((y1.1.getD 0 default),(IntKind.wrap .i64 (p2 - 1)),y1.2)) else none) else (if ((p1.getD p2.toNat default).op) = 3 then ((rc_ref_Meaning_of ((p1.getD p2.toNat default).v) p4 p5 p6 p7 p8 p9 p10 p11 p12).bind fun y2=>if (0 ≤ (IntKind.wrap .i64 (p3 + ((p1.getD p2.toNat default).n)))∧(IntKind.wrap .i64 (p3 + ((p1.getD p2.toNat default).n))) < (y2.1.length:Int)) then (some ((y2.1.getD ((IntKind.wrap .i64 (p3 + ((p1.getD p2.toNat default).n))).toNat) default),(IntKind.wrap .i64 (p2 - 1)),y2.2)) else none) else (if ((p1.getD p2.toNat default).op) = 4 then (some ((IntKind.wrap .i64 (p3 + ((p1.getD p2.toNat default).n))),(IntKind.wrap .i64 (p2 - 1)),p12)) else (if ((p1.getD p2.toNat default).op) = 5 then ((rcf p1 (IntKind.wrap .i64 (p2 - 1)) p3 p4 p5 p6 p7 p8 p9 p10 p11 p12).bind fun y3=>(bi ((p1.getD p2.toNat default).k) y3.1 0).bind fun y4=>some (y4,y3.2.1,y3.2.2)) else ((rcf p1 (IntKind.wrap .i64 (p2 - 1)) p3 p4 p5 p6 p7 p8 p9 p10 p11 p12).bind fun y5=>(rcf p1 y5.2.1 p3 p4 p5 p6 p7 p8 p9 p10 p11 y5.2.2).bind fun y6=>if ((p1.getD p2.toNat default).op) = 6 then ((bi ((p1.getD p2.toNat default).k) y6.1 y5.1).bind fun y7=>some (y7,y6.2.1,y6.2.2)) else (if ((p1.getD p2.toNat default).op) = 8 then ((rc_ref_Meaning_of ((p1.getD p2.toNat default).v) p4 p5 p6 p7 p8 p9 p10 p11 y6.2.2).bind fun y8=>(kb y8.1 y6.1 y5.1).bind fun y9=>some (y9,y6.2.1,y8.2)) else ((rcf p1 y6.2.1 p3 p4 p5 p6 p7 p8 p9 p10 p11 y6.2.2).bind fun y10=>if ¬ y10.1 = 0 then (some (y6.1,y10.2.1,y10.2.2)) else (some (y5.1,y10.2.1,y10.2.2)))))))))) else none
noncomputable def ce (rc_ref_Meaning_of:Int→(List ao)→(List Int)→(List Int)→(List af)→Nat→Nat→Int→(List (List Int))→(List (List Int))→Option ((List Int)×(List (List Int)))):Nat→(List ay)→Int→Int→(List ao)→(List Int)→(List Int)→(List af)→Nat→Nat→Int→(List (List Int))→(List (List Int))→Option (Int×Int×(List (List Int)))
  | 0=>fun _ _ _ _ _ _ _ _ _ _ _ _=>none
  | n + 1=>bO rc_ref_Meaning_of (ce rc_ref_Meaning_of n)
noncomputable def kc (fuel:Nat) (rc_ref_Meaning_of:Int→(List ao)→(List Int)→(List Int)→(List af)→Nat→Nat→Int→(List (List Int))→(List (List Int))→Option ((List Int)×(List (List Int)))) (p1:List ay) (p2:Int) (p3:Int) (p4:List ao) (p5:List Int) (p6:List Int) (p7:List af) (p8:Nat) (p9:Nat) (p10:Int) (p11:List (List Int)) (p12:List (List Int)):Option (Int×Int×(List (List Int))):=ce rc_ref_Meaning_of fuel p1 p2 p3 p4 p5 p6 p7 p8 p9 p10 p11 p12
noncomputable def dS (fuel:Nat) (rc_ref_Meaning_of:Int→(List ao)→(List Int)→(List Int)→(List af)→Nat→Nat→Int→(List (List Int))→(List (List Int))→Option ((List Int)×(List (List Int)))) (p1:List ay) (p2:Int) (p3:List ao) (p4:List Int) (p5:List Int) (p6:List af) (p7:Nat) (p8:Nat) (p9:Int) (p10:List (List Int)) (p11:List (List Int)):Option (Int×(List (List Int))) :=
  (kc fuel rc_ref_Meaning_of p1 (IntKind.wrap .i64 ((p1.length:Int) - 1)) p2 p3 p4 p5 p6 p7 p8 p9 p10 p11).bind fun y1=>some (y1.1,y1.2.2)
noncomputable def eH (l14:List (List Int)) (l16:List Int):Option ((List Int)×(List (List Int))) :=
  some (l16,l14)
noncomputable def a8 (fuel:Nat) (rc_ref_Meaning_of:Int→(List ao)→(List Int)→(List Int)→(List af)→Nat→Nat→Int→(List (List Int))→(List (List Int))→Option ((List Int)×(List (List Int)))) (p1:Int) (p2:List ao) (p3:List Int) (p4:List Int) (p5:List af) (p6:Nat) (p7:Nat) (p8:Int) (p9:List (List Int)) (y1:Int) (l6:List (List Int)) (l42:List (List Int)) (l44:List Int) (x46:Int):Option (((List (List Int))×(List Int)×Int) ⊕ ((List (List Int))×(List Int))) :=
  if x46 < y1 then (if ((p5.getD p1.toNat default).op) = 1 then (if dg (l44.length + 1) 8 then (some (.inl (l42,(l44 ++ (lit ([(p5.getD p1.toNat default).n]:List Int))),(IntKind.wrap .i64 (x46 + 1))))) else none) else (if ((p5.getD p1.toNat default).op) = 2 then (if (0 ≤ 0∧0 < (l6.length:Int))∧(0 ≤ x46∧x46 < ((l6.getD 0 default).length:Int)) then (if dg (l44.length + 1) 8 then (some (.inl (l42,(l44 ++ (lit ([((l6.getD 0 default).getD x46.toNat default)]:List Int))),(IntKind.wrap .i64 (x46 + 1))))) else none) else none) else (if ((p5.getD p1.toNat default).op) = 3 then (if (0 ≤ 0∧0 < (l6.length:Int))∧(0 ≤ x46∧x46 < ((l6.getD 0 default).length:Int)) then ((bi ((p5.getD p1.toNat default).k) ((l6.getD 0 default).getD x46.toNat default) 0).bind fun y47=>if dg (l44.length + 1) 8 then (some (.inl (l42,(l44 ++ (lit ([y47]:List Int))),(IntKind.wrap .i64 (x46 + 1))))) else none) else none) else (if ((p5.getD p1.toNat default).op) = 4 then (if (0 ≤ 0∧0 < (l6.length:Int))∧(0 ≤ x46∧x46 < ((l6.getD 0 default).length:Int))∧(0 ≤ 1∧1 < (l6.length:Int))∧(0 ≤ x46∧x46 < ((l6.getD 1 default).length:Int)) then ((bi ((p5.getD p1.toNat default).k) ((l6.getD 0 default).getD x46.toNat default) ((l6.getD 1 default).getD x46.toNat default)).bind fun y48=>if dg (l44.length + 1) 8 then (some (.inl (l42,(l44 ++ (lit ([y48]:List Int))),(IntKind.wrap .i64 (x46 + 1))))) else none) else none) else (if ((p5.getD p1.toNat default).op) = 8 then (if (0 ≤ 0∧0 < (l6.length:Int))∧(0 ≤ 0∧0 < ((l6.getD 0 default).length:Int)) then (if dg (l44.length + 1) 8 then (some (.inl (l42,(l44 ++ (lit ([((l6.getD 0 default).getD 0 default)]:List Int))),(IntKind.wrap .i64 (x46 + 1))))) else none) else none) else (if ((p5.getD p1.toNat default).op) = 10 then (if (0 ≤ 0∧0 < (l6.length:Int))∧(0 ≤ x46∧x46 < ((l6.getD 0 default).length:Int)) then (if (0 ≤ 1∧1 < (l6.length:Int))∧(0 ≤ 0∧0 < ((l6.getD 1 default).length:Int)) then (if ((l6.getD 1 default).getD 0 default) = x46 then (if (0 ≤ 2∧2 < (l6.length:Int))∧(0 ≤ 0∧0 < ((l6.getD 2 default).length:Int)) then (if dg (l44.length + 1) 8 then (some (.inl (l42,(l44 ++ (lit ([((l6.getD 2 default).getD 0 default)]:List Int))),(IntKind.wrap .i64 (x46 + 1))))) else none) else none) else (if dg (l44.length + 1) 8 then (some (.inl (l42,(l44 ++ (lit ([((l6.getD 0 default).getD x46.toNat default)]:List Int))),(IntKind.wrap .i64 (x46 + 1))))) else none)) else none) else none) else (if ((p5.getD p1.toNat default).op) = 11 then (if (0 ≤ 0∧0 < (l6.length:Int))∧(0 ≤ (IntKind.wrap .i64 (x46 + ((p5.getD p1.toNat default).n)))∧(IntKind.wrap .i64 (x46 + ((p5.getD p1.toNat default).n))) < ((l6.getD 0 default).length:Int)) then (if dg (l44.length + 1) 8 then (some (.inl (l42,(l44 ++ (lit ([((l6.getD 0 default).getD ((IntKind.wrap .i64 (x46 + ((p5.getD p1.toNat default).n))).toNat) default)]:List Int))),(IntKind.wrap .i64 (x46 + 1))))) else none) else none) else (if ((p5.getD p1.toNat default).op) = 14 then ((dS fuel rc_ref_Meaning_of ((p5.getD p1.toNat default).e) x46 p2 p3 p4 p5 p6 p7 p8 p9 l42).bind fun y49=>if dg (l44.length + 1) 8 then (some (.inl (y49.2,(l44 ++ (lit ([y49.1]:List Int))),(IntKind.wrap .i64 (x46 + 1))))) else none) else (if dg (l44.length + 1) 8 then (some (.inl (l42,(l44 ++ (lit ([0]:List Int))),(IntKind.wrap .i64 (x46 + 1))))) else none))))))))) else (some (.inr (l42,l44)))
noncomputable def eI (fuel:Nat) (rc_ref_Meaning_of:Int→(List ao)→(List Int)→(List Int)→(List af)→Nat→Nat→Int→(List (List Int))→(List (List Int))→Option ((List Int)×(List (List Int)))) (p1:Int) (p2:List ao) (p3:List Int) (p4:List Int) (p5:List af) (p6:Nat) (p7:Nat) (p8:Int) (p9:List (List Int)) (y1:Int) (l5:List (List Int)) (l6:List (List Int)):Option ((List Int)×(List (List Int))) :=
  (aZ (fun (l42,l44,x46)=>a8 fuel rc_ref_Meaning_of p1 p2 p3 p4 p5 p6 p7 p8 p9 y1 l6 l42 l44 x46) (l5,[],0)).bind (fun (z50,z51)=>eH z50 z51)
noncomputable def dH (p1:Int) (p5:List af) (x61:Int) (l66:List (List Int)) (l68:List Int):Option ((List Int)×(List (List Int))) :=
  if ((p5.getD p1.toNat default).op) = 6 then (if (0 ≤ (IntKind.wrap .i64 (x61 - 1))∧(IntKind.wrap .i64 (x61 - 1)) ≤ (l68.length:Int)) then (some (((l68.drop ((IntKind.wrap .i64 (x61 - 1)).toNat)).take (l68.length - ((IntKind.wrap .i64 (x61 - 1)).toNat))),l66)) else none) else (if ((p5.getD p1.toNat default).op) = 15 then (if (0 ≤ (IntKind.wrap .i64 (x61 - 1))∧(IntKind.wrap .i64 (x61 - 1)) ≤ (l68.length:Int)) then (some (((l68.drop ((IntKind.wrap .i64 (x61 - 1)).toNat)).take (l68.length - ((IntKind.wrap .i64 (x61 - 1)).toNat))),l66)) else none) else (some (l68,l66)))
noncomputable def co (p1:Int) (p5:List af) (l98:List Int) (x100:Int) (x101:Int) (l105:List (List Int)) (x108:Int):Option (((List (List Int))×(List Int)×Int×Int) ⊕ ((List (List Int))×(List Int))) :=
  (bi ((p5.getD p1.toNat default).k) x100 x108).bind fun y109=>if dg (l98.length + 1) 8 then (some (.inl (l105,(l98 ++ (lit ([y109]:List Int))),y109,(IntKind.wrap .i64 (x101 + 1))))) else none
noncomputable def bp (fuel:Nat) (rc_ref_Meaning_of:Int→(List ao)→(List Int)→(List Int)→(List af)→Nat→Nat→Int→(List (List Int))→(List (List Int))→Option ((List Int)×(List (List Int)))) (p1:Int) (p2:List ao) (p3:List Int) (p4:List Int) (p5:List af) (p6:Nat) (p7:Nat) (p8:Int) (p9:List (List Int)) (l6:List (List Int)) (x61:Int) (l96:List (List Int)) (l98:List Int) (x100:Int) (x101:Int):Option (((List (List Int))×(List Int)×Int×Int) ⊕ ((List (List Int))×(List Int))) :=
  if x101 < x61 then (if ((p5.getD p1.toNat default).op) = 6 then (if (0 ≤ 1∧1 < (l6.length:Int))∧(0 ≤ x101∧x101 < ((l6.getD 1 default).length:Int)) then (co p1 p5 l98 x100 x101 l96 ((l6.getD 1 default).getD x101.toNat default)) else none) else (if ((p5.getD p1.toNat default).op) = 7 then (if (0 ≤ 1∧1 < (l6.length:Int))∧(0 ≤ x101∧x101 < ((l6.getD 1 default).length:Int)) then (co p1 p5 l98 x100 x101 l96 ((l6.getD 1 default).getD x101.toNat default)) else none) else ((dS fuel rc_ref_Meaning_of ((p5.getD p1.toNat default).e) x101 p2 p3 p4 p5 p6 p7 p8 p9 l96).bind fun y110=>co p1 p5 l98 x100 x101 y110.2 y110.1))) else (some (.inr (l96,l98)))
noncomputable def cS (fuel:Nat) (rc_ref_Meaning_of:Int→(List ao)→(List Int)→(List Int)→(List af)→Nat→Nat→Int→(List (List Int))→(List (List Int))→Option ((List Int)×(List (List Int)))) (p1:Int) (p2:List ao) (p3:List Int) (p4:List Int) (p5:List af) (p6:Nat) (p7:Nat) (p8:Int) (p9:List (List Int)) (l5:List (List Int)) (l6:List (List Int)) (x61:Int):Option ((List Int)×(List (List Int))) :=
  if (0 ≤ 0∧0 < (l6.length:Int))∧(0 ≤ 0∧0 < ((l6.getD 0 default).length:Int)) then ((aZ (fun (l96,l98,x100,x101)=>bp fuel rc_ref_Meaning_of p1 p2 p3 p4 p5 p6 p7 p8 p9 l6 x61 l96 l98 x100 x101) (l5,[],((l6.getD 0 default).getD 0 default),0)).bind (fun (z111,z112)=>dH p1 p5 x61 z111 z112)) else none
noncomputable def cp (fuel:Nat) (rc_ref_Meaning_of:Int→(List ao)→(List Int)→(List Int)→(List af)→Nat→Nat→Int→(List (List Int))→(List (List Int))→Option ((List Int)×(List (List Int)))) (p1:Int) (p2:List ao) (p3:List Int) (p4:List Int) (p5:List af) (p6:Nat) (p7:Nat) (p8:Int) (p9:List (List Int)) (l5:List (List Int)) (l6:List (List Int)) (x58:Int):Option ((List Int)×(List (List Int))) :=
  if ((p5.getD p1.toNat default).op) = 15 then (cS fuel rc_ref_Meaning_of p1 p2 p3 p4 p5 p6 p7 p8 p9 l5 l6 ((p5.getD p1.toNat default).n)) else (cS fuel rc_ref_Meaning_of p1 p2 p3 p4 p5 p6 p7 p8 p9 l5 l6 x58)
noncomputable def bC (fuel:Nat) (rc_ref_Meaning_of:Int→(List ao)→(List Int)→(List Int)→(List af)→Nat→Nat→Int→(List (List Int))→(List (List Int))→Option ((List Int)×(List (List Int)))) (p1:Int) (p2:List ao) (p3:List Int) (p4:List Int) (p5:List af) (p6:Nat) (p7:Nat) (p8:Int) (p9:List (List Int)) (y1:Int) (l5:List (List Int)) (l6:List (List Int)) (b55:Bool):Option ((List Int)×(List (List Int))) :=
  if b55 = true then (if ((p5.getD p1.toNat default).op) = 6 then (if (0 ≤ 1∧1 < (l6.length:Int)) then (cp fuel rc_ref_Meaning_of p1 p2 p3 p4 p5 p6 p7 p8 p9 l5 l6 ((l6.getD 1 default).length:Int)) else none) else (cp fuel rc_ref_Meaning_of p1 p2 p3 p4 p5 p6 p7 p8 p9 l5 l6 y1)) else (eI fuel rc_ref_Meaning_of p1 p2 p3 p4 p5 p6 p7 p8 p9 y1 l5 l6)
noncomputable def bh (fuel:Nat) (rc_ref_Meaning_of:Int→(List ao)→(List Int)→(List Int)→(List af)→Nat→Nat→Int→(List (List Int))→(List (List Int))→Option ((List Int)×(List (List Int)))) (p1:Int) (p2:List ao) (p3:List Int) (p4:List Int) (p5:List af) (p6:Nat) (p7:Nat) (p8:Int) (p9:List (List Int)) (y1:Int) (l5:List (List Int)) (l6:List (List Int)):Option ((List Int)×(List (List Int))) :=
  if ((p5.getD p1.toNat default).op) = 13 then (if p8 > 0 then (if (0 ≤ p1∧p1 < (p6:Int))∧p1.toNat < p9.length then (if (p9.getD p1.toNat default) = [] then (some ([],l5)) else (some ((p9.getD p1.toNat default),l5))) else none) else (if (0 ≤ 0∧0 < (l6.length:Int))∧dg ((l6.getD 0 default).length) 8 then (some ((l6.getD 0 default),l5)) else none)) else (if ((p5.getD p1.toNat default).op) = 5 then (if (0 ≤ 0∧0 < (l6.length:Int))∧(0 ≤ 0∧0 < ((l6.getD 0 default).length:Int)) then (if ((l6.getD 0 default).getD 0 default) = 0 then (if (0 ≤ 2∧2 < (l6.length:Int))∧dg ((l6.getD 2 default).length) 8 then (some ((l6.getD 2 default),l5)) else none) else (if (0 ≤ 1∧1 < (l6.length:Int))∧dg ((l6.getD 1 default).length) 8 then (some ((l6.getD 1 default),l5)) else none)) else none) else (if ((p5.getD p1.toNat default).op) = 12 then (if (0 ≤ 0∧0 < (l6.length:Int))∧dg ((l6.getD 0 default).length) 8∧(0 ≤ 1∧1 < (l6.length:Int))∧dg (((l6.getD 0 default).length) + ((l6.getD 1 default).length)) 8 then (some (((l6.getD 0 default) ++ (l6.getD 1 default)),l5)) else none) else (if ((p5.getD p1.toNat default).op) = 9 then (if (0 ≤ 0∧0 < (l6.length:Int))∧(0 ≤ 1∧1 < (l6.length:Int))∧(0 ≤ 0∧0 < ((l6.getD 1 default).length:Int))∧(0 ≤ 2∧2 < (l6.length:Int))∧(0 ≤ 0∧0 < ((l6.getD 2 default).length:Int)) then ((kb (l6.getD 0 default) ((l6.getD 1 default).getD 0 default) ((l6.getD 2 default).getD 0 default)).bind fun y52=>some ((lit ([y52]:List Int)),l5)) else none) else (if ((p5.getD p1.toNat default).op) = 6 then (bC fuel rc_ref_Meaning_of p1 p2 p3 p4 p5 p6 p7 p8 p9 y1 l5 l6 (((p5.getD p1.toNat default).op) == 6)) else (if ((p5.getD p1.toNat default).op) = 7 then (bC fuel rc_ref_Meaning_of p1 p2 p3 p4 p5 p6 p7 p8 p9 y1 l5 l6 (((p5.getD p1.toNat default).op) == 7)) else (if ((p5.getD p1.toNat default).op) = 15 then (bC fuel rc_ref_Meaning_of p1 p2 p3 p4 p5 p6 p7 p8 p9 y1 l5 l6 (((p5.getD p1.toNat default).op) == 15)) else (bC fuel rc_ref_Meaning_of p1 p2 p3 p4 p5 p6 p7 p8 p9 y1 l5 l6 (((p5.getD p1.toNat default).op) == 16))))))))
noncomputable def cT (rc_ref_Meaning_of:Int→(List ao)→(List Int)→(List Int)→(List af)→Nat→Nat→Int→(List (List Int))→(List (List Int))→Option ((List Int)×(List (List Int)))) (p1:Int) (p2:List ao) (p3:List Int) (p4:List Int) (p5:List af) (p6:Nat) (p7:Nat) (p8:Int) (p9:List (List Int)) (l130:List (List Int)) (l131:List (List Int)) (x133:Int):Option (((List (List Int))×(List (List Int))×Int) ⊕ ((List (List Int))×(List (List Int)))) :=
  if (0 ≤ x133∧x133 < (((p5.getD p1.toNat default).a).length:Int)) then ((rc_ref_Meaning_of (((p5.getD p1.toNat default).a).getD x133.toNat default) p2 p3 p4 p5 p6 p7 p8 p9 l130).bind fun y136=>if dg (l131.length + 1) 24 then (some (.inl (y136.2,(l131 ++ (lit ([y136.1]:List (List Int)))),(IntKind.wrap .i64 (x133 + 1))))) else none) else none
noncomputable def bk (rc_ref_Meaning_of:Int→(List ao)→(List Int)→(List Int)→(List af)→Nat→Nat→Int→(List (List Int))→(List (List Int))→Option ((List Int)×(List (List Int)))) (p1:Int) (p2:List ao) (p3:List Int) (p4:List Int) (p5:List af) (p6:Nat) (p7:Nat) (p8:Int) (p9:List (List Int)) (l130:List (List Int)) (l131:List (List Int)) (x133:Int):Option (((List (List Int))×(List (List Int))×Int) ⊕ ((List (List Int))×(List (List Int)))) :=
  if x133 < (((p5.getD p1.toNat default).a).length:Int) then (if ¬ ((p5.getD p1.toNat default).op) = 13 then (cT rc_ref_Meaning_of p1 p2 p3 p4 p5 p6 p7 p8 p9 l130 l131 x133) else (if x133 = 0 then (cT rc_ref_Meaning_of p1 p2 p3 p4 p5 p6 p7 p8 p9 l130 l131 x133) else (some (.inr (l130,l131))))) else (some (.inr (l130,l131)))
noncomputable def gD (fuel:Nat) (rc_ref_Meaning_of:Int→(List ao)→(List Int)→(List Int)→(List af)→Nat→Nat→Int→(List (List Int))→(List (List Int))→Option ((List Int)×(List (List Int)))) (p1:Int) (p2:List ao) (p3:List Int) (p4:List Int) (p5:List af) (p6:Nat) (p7:Nat) (p8:Int) (p9:List (List Int)) (p10:List (List Int)):Option ((List Int)×(List (List Int))) :=
  if (0 ≤ p1∧p1 < (p5.length:Int)) then (if (0 ≤ (p5.getD p1.toNat default).out_∧(p5.getD p1.toNat default).out_ < (p2.length:Int)) then ((ie ((p2.getD (((p5.getD p1.toNat default).out_).toNat) default).n)).bind fun y1=>(aZ (fun (l130,l131,x133)=>bk rc_ref_Meaning_of p1 p2 p3 p4 p5 p6 p7 p8 p9 l130 l131 x133) (p10,[],0)).bind (fun (z137,z138)=>bh fuel rc_ref_Meaning_of p1 p2 p3 p4 p5 p6 p7 p8 p9 y1 z137 z138)) else none) else none
noncomputable def eu (p1:Int) (l2:List (List Int)):Option ((List Int)×(List (List Int))) :=
  if p1.toNat < l2.length then (if (l2.getD p1.toNat default) = [] then (some ([],l2)) else (some ((l2.getD p1.toNat default),l2))) else none
noncomputable def bK (fuel:Nat) (rcf:Int→(List ao)→(List Int)→(List Int)→(List af)→Nat→Nat→Int→(List (List Int))→(List (List Int))→Option ((List Int)×(List (List Int)))) (p1:Int) (p2:List ao) (p3:List Int) (p4:List Int) (p5:List af) (p6:Nat) (p7:Nat) (p8:Int) (p9:List (List Int)) (l10:List (List Int)) (x11:Int):Option (((List (List Int))×Int) ⊕ (List (List Int))) :=
  if x11 < (p5.length:Int) then (if (0 ≤ x11∧x11 < (p5.length:Int)) then (if ((p5.getD x11.toNat default).out_) = p1 then ((gD fuel rcf x11 p2 p3 p4 p5 p6 p7 p8 p9 l10).bind fun y12=>if p1.toNat < y12.2.length∧y12.1 ≠ [] then (some (.inl ((y12.2.set p1.toNat y12.1),(IntKind.wrap .i64 (x11 + 1))))) else none) else (some (.inl (l10,(IntKind.wrap .i64 (x11 + 1)))))) else none) else (some (.inr l10))
noncomputable def dU (fuel:Nat) (rcf:Int→(List ao)→(List Int)→(List Int)→(List af)→Nat→Nat→Int→(List (List Int))→(List (List Int))→Option ((List Int)×(List (List Int)))) (p1:Int) (p2:List ao) (p3:List Int) (p4:List Int) (p5:List af) (p6:Nat) (p7:Nat) (p8:Int) (p9:List (List Int)) (p10:List (List Int)):Option ((List Int)×(List (List Int))) :=
  if (0 ≤ p1∧p1 < (p7:Int))∧p1.toNat < p10.length then (if (p10.getD p1.toNat default) = [] then ((aZ (fun (l10,x11)=>bK fuel rcf p1 p2 p3 p4 p5 p6 p7 p8 p9 l10 x11) (p10,0)).bind (fun z13=>eu p1 z13)) else (if (p10.getD p1.toNat default) = [] then (some ([],p10)) else (some ((p10.getD p1.toNat default),p10)))) else none
noncomputable def bN (fuel:Nat):Nat→Int→(List ao)→(List Int)→(List Int)→(List af)→Nat→Nat→Int→(List (List Int))→(List (List Int))→Option ((List Int)×(List (List Int)))
  | 0=>fun _ _ _ _ _ _ _ _ _ _=>none
  | n + 1=>dU fuel (bN fuel n)
noncomputable def iG (fuel:Nat) (p1:Int) (p2:List ao) (p3:List Int) (p4:List Int) (p5:List af) (p6:Nat) (p7:Nat) (p8:Int) (p9:List (List Int)) (p10:List (List Int)):Option ((List Int)×(List (List Int))):=bN fuel fuel p1 p2 p3 p4 p5 p6 p7 p8 p9 p10
noncomputable def dV (p6:Int) (l3:List (List Int)) (l8:List Int) (l13:List (List Int)) (l15:List (List Int)):Option ((List Int)×aw×Int×(List (List Int))×(List (List Int))) :=
  if l3.length ≤ l13.length then (some (l8,(aw.mk 0 0),(IntKind.wrap .i64 (p6 + 1)),l15,(l13.take l3.length))) else none
noncomputable def bU (fuel:Nat) (p2:List ao) (p3:List Int) (p4:List Int) (p5:List af) (p6:Int) (p7:List (List Int)) (l3:List (List Int)) (l35:List (List Int)) (l37:List (List Int)) (x38:Int):Option (((List (List Int))×(List (List Int))×Int) ⊕ ((List (List Int))×(List (List Int)))) :=
  if x38 < (p5.length:Int) then (if (0 ≤ x38∧x38 < (p5.length:Int)) then (if ((p5.getD x38.toNat default).op) = 13 then (if (0 ≤ 1∧1 < (((p5.getD x38.toNat default).a).length:Int)) then ((iG fuel (((p5.getD x38.toNat default).a).getD 1 default) p2 p3 p4 p5 p7.length l3.length p6 p7 l35).bind fun y39=>if dg y39.1.length 8∧(0 ≤ x38∧x38 < (l37.length:Int)) then (if y39.1 ≠ [] then (some (.inl (y39.2,(l37.set x38.toNat y39.1),(IntKind.wrap .i64 (x38 + 1))))) else none) else none) else none) else (some (.inl (l35,l37,(IntKind.wrap .i64 (x38 + 1)))))) else none) else (some (.inr (l35,l37)))
noncomputable def dW (fuel:Nat) (p2:List ao) (p3:List Int) (p4:List Int) (p5:List af) (p6:Int) (p7:List (List Int)) (l3:List (List Int)) (l7:List (List Int)) (l8:List Int):Option ((List Int)×aw×Int×(List (List Int))×(List (List Int))) :=
  if (0 ≤ (p5.length:Int)∧(p5.length:Int) ≤ (p5.length:Int))∧dg p5.length 24 then ((aZ (fun (l35,l37,x38)=>bU fuel p2 p3 p4 p5 p6 p7 l3 l35 l37 x38) (l7,(List.replicate p5.length []),0)).bind (fun (z40,z41)=>dV p6 l3 l8 z40 z41)) else none
noncomputable def cg (fuel:Nat) (p2:List ao) (p3:List Int) (p4:List Int) (p5:List af) (p6:Int) (p7:List (List Int)) (l3:List (List Int)) (l59:List (List Int)) (l60:List Int) (x62:Int):Option (((List (List Int))×(List Int)×Int) ⊕ ((List (List Int))×(List Int))) :=
  if x62 < (p4.length:Int) then (if (0 ≤ x62∧x62 < (p4.length:Int)) then ((iG fuel (p4.getD x62.toNat default) p2 p3 p4 p5 p7.length l3.length p6 p7 l59).bind fun y63=>if dg (l60.length + y63.1.length) 8 then (some (.inl (y63.2,(l60 ++ y63.1),(IntKind.wrap .i64 (x62 + 1))))) else none) else none) else (some (.inr (l59,l60)))
noncomputable def dX (fuel:Nat) (p2:List ao) (p3:List Int) (p4:List Int) (p5:List af) (p6:Int) (p7:List (List Int)) (l3:List (List Int)):Option ((List Int)×aw×Int×(List (List Int))×(List (List Int))) :=
  (aZ (fun (l59,l60,x62)=>cg fuel p2 p3 p4 p5 p6 p7 l3 l59 l60 x62) (l3,[],0)).bind (fun (z64,z65)=>dW fuel p2 p3 p4 p5 p6 p7 l3 z64 z65)
noncomputable def ci (p1:List Int) (p2:List ao) (p3:List Int) (l75:List (List Int)) (x76:Int) (x77:Int):Option (((List (List Int))×Int×Int) ⊕ (List (List Int))) :=
  if x77 < (p3.length:Int) then (if (0 ≤ x77∧x77 < (p3.length:Int))∧(0 ≤ (p3.getD x77.toNat default)∧(p3.getD x77.toNat default) < (p2.length:Int)) then ((ie ((p2.getD ((p3.getD x77.toNat default).toNat) default).n)).bind fun y78=>if (0 ≤ x76∧x76 ≤ (IntKind.wrap .i64 (x76 + y78))∧(IntKind.wrap .i64 (x76 + y78)) ≤ (p1.length:Int))∧(0 ≤ (p3.getD x77.toNat default)∧(p3.getD x77.toNat default) < (l75.length:Int))∧((p1.take ((IntKind.wrap .i64 (x76 + y78)).toNat)).drop x76.toNat) ≠ [] then (some (.inl ((l75.set ((p3.getD x77.toNat default).toNat) ((p1.take ((IntKind.wrap .i64 (x76 + y78)).toNat)).drop x76.toNat)),(IntKind.wrap .i64 (x76 + y78)),(IntKind.wrap .i64 (x77 + 1))))) else none) else none) else (some (.inr l75))
noncomputable def fp (fuel:Nat) (p1:List Int) (p2:List ao) (p3:List Int) (p4:List Int) (p5:List af) (p6:Int) (p7:List (List Int)) (p8:List (List Int)):Option ((List Int)×aw×Int×(List (List Int))×(List (List Int))) :=
  (jV (ae.mk p2 p3 p4 p5) p1).bind fun y1=>if ¬ ((y1).code) = 0 then (some ([],(y1),p6,p7,p8)) else (if (0 ≤ (p2.length:Int)∧(p2.length:Int) ≤ (p2.length:Int))∧dg p2.length 24 then ((aZ (fun (l75,x76,x77)=>ci p1 p2 p3 l75 x76 x77) ((List.replicate p2.length []),0,0)).bind (fun z79=>dX fuel p2 p3 p4 p5 p6 p7 z79)) else none)
noncomputable def hZ (x13:Int) (l14:List (List Int)) (l16:List (List Int)) (x18:Int) (l19:List (List Int)) (l21:List (List Int)):Option Bool :=
  some true
noncomputable def dj (fuel:Nat) (p3:List (List Int)) (y3:((List ao)×(List Int)×(List Int)×(List af)×Int×(List (List Int))×(List (List Int)))) (y4:((List ao)×(List Int)×(List Int)×(List af)×Int×(List (List Int))×(List (List Int)))) (x69:Int) (l70:List (List Int)) (l72:List (List Int)) (x74:Int) (l75:List (List Int)) (l77:List (List Int)) (x79:Int):Option ((Int×(List (List Int))×(List (List Int))×Int×(List (List Int))×(List (List Int))×Int) ⊕ ((Int×(List (List Int))×(List (List Int))×Int×(List (List Int))×(List (List Int))) ⊕ Bool)) :=
  if x79 < (p3.length:Int) then (if (0 ≤ x79∧x79 < (p3.length:Int)) then ((fp fuel (p3.getD x79.toNat default) y3.1 y3.2.1 y3.2.2.1 y3.2.2.2.1 x69 l70 l72).bind fun y80=>(fp fuel (p3.getD x79.toNat default) y4.1 y4.2.1 y4.2.2.1 y4.2.2.2.1 x74 l75 l77).bind fun y83=>if ((y80.2.1).code) = ((y83.2.1).code)∧((y80.2.1).at_) = ((y83.2.1).at_) then ((jc y80.1 y83.1).bind fun y86=>if y86 = true then (some (.inl (y80.2.2.1,y80.2.2.2.1,y80.2.2.2.2,y83.2.2.1,y83.2.2.2.1,y83.2.2.2.2,(IntKind.wrap .i64 (x79 + 1))))) else (some (.inr (.inr false)))) else (some (.inr (.inr false)))) else none) else (some (.inr (.inl (x69,l70,l72,x74,l75,l77))))
noncomputable def kZ (fuel:Nat) (p1:ae) (p2:ae) (p3:List (List Int)):Option Bool :=
  (lK p1).bind fun y1=>(lK p2).bind fun y2=>if ¬ ((y1.2).code) = 0 then (some ((((y1.2).code) != 0) == (((y2.2).code) != 0))) else (if ¬ ((y2.2).code) = 0 then (some ((((y1.2).code) != 0) == (((y2.2).code) != 0))) else ((ll p1).bind fun y3=>(ll p2).bind fun y4=>(aZ (fun (x69,l70,l72,x74,l75,l77,x79)=>dj fuel p3 y3 y4 x69 l70 l72 x74 l75 l77 x79) (y3.2.2.2.2.1,y3.2.2.2.2.2.1,y3.2.2.2.2.2.2,y4.2.2.2.2.1,y4.2.2.2.2.2.1,y4.2.2.2.2.2.2,0)).bind (Sum.elim (fun (z87,z88,z89,z90,z91,z92)=>hZ z87 z88 z89 z90 z91 z92) (fun z93=>some z93))))
noncomputable def lb (fuel:Nat) (p1:ae) (p2:List (List Int)):Option Bool :=
  (i8 ).bind fun y1=>if y1 = true then ((gT p1 150).bind fun y2=>if y2 = true then (some true) else ((i7 p2).bind fun y3=>if y3 = true then (some true) else ((jr p1).bind fun y4=>if ¬ ((y4.2).code) = 0 then (some true) else ((jr (y4.1)).bind fun y5=>if ¬ ((y5.2).code) = 0 then (some false) else ((iC (y4.1) (y5.1)).bind fun y6=>if y6 = true then (if (((y4.1).rules).length:Int) > (p1.rules.length:Int) then (some false) else ((lK p1).bind fun y7=>if ¬ ((y7.2).code) = 0 then (some true) else ((kZ fuel p1 (y4.1) p2).bind fun y8=>some y8))) else (some false)))))) else (some false)
end Pam
namespace Pam
open Go
end Pam
namespace Pam
open Go
end Pam
namespace Pam
open Go
end Pam
namespace Pam
open Go
end Pam
namespace Pam
open Go
end Pam
namespace Pam
open Go
noncomputable def jl (p1:Int) (p2:Int) (p3:Int):Option Int :=
  if p3 = 0 then (some 0) else (if p1 = 4 then (if p3 ≠ 0 then (some (IntKind.wrap .i64 (p2.tdiv p3))) else none) else (if p3 ≠ 0 then (some (p2.tmod p3)) else none))
noncomputable def cj (p1:Bool):Option Int :=
  if p1 = true then (some 1) else (some 0)
noncomputable def bg (p1:Int) (p2:Int) (p3:Int) (b1:Bool):Option Int :=
  if b1 = true then ((jl p1 p2 p3).bind fun y2=>some y2) else (if p1 = 6 then (some (if p3 < p2 then p3 else p2)) else (if p1 = 7 then (some (if p3 > p2 then p3 else p2)) else (if p1 = 8 then ((cj (decide (p2 < p3))).bind fun y3=>some y3) else (if p1 = 9 then ((cj (p2 == p3)).bind fun y4=>some y4) else (if p1 = 10 then (if ¬ p2 = 0 then ((cj (p3 != 0)).bind fun y5=>some y5) else ((cj false).bind fun y6=>some y6)) else (if p1 = 11 then (if ¬ p2 = 0 then ((cj true).bind fun y7=>some y7) else ((cj (p3 != 0)).bind fun y8=>some y8)) else (if p1 = 12 then ((cj (!((p2 != 0) == (p3 != 0)))).bind fun y9=>some y9) else (if p1 = 13 then (some (IntKind.wrap .i64 (0 - p2))) else (if p1 = 14 then ((cj (p2 == 0)).bind fun y10=>some y10) else (some 0))))))))))
noncomputable def br (p1:Int) (p2:Int) (p3:Int):Option Int :=
  if p1 = 1 then (some (IntKind.wrap .i64 (p2 + p3))) else (if p1 = 2 then (some (IntKind.wrap .i64 (p2 - p3))) else (if p1 = 3 then (some (IntKind.wrap .i64 (p2 * p3))) else (if p1 = 4 then (bg p1 p2 p3 (p1 == 4)) else (bg p1 p2 p3 (p1 == 5)))))
end Pam
namespace Pam
open Go
end Pam
namespace Pam
open Go
end Pam
namespace Pam
open Go
end Pam
namespace Pam
open Go
end Pam
namespace Pam
open Go
end Pam
namespace Pam
open Go
end Pam
namespace Pam
open Go
end Pam
namespace Pam
open Go
end Pam
namespace Pam
open Go
end Pam
namespace Pam
open Go
end Pam
namespace Pam
open Go
end Pam
namespace Pam
open Go
end Pam
namespace Pam
open Go
end Pam
namespace Pam
open Go
end Pam
namespace Pam
open Go
end Pam
namespace Pam
open Go
end Pam
