/- what strings_Join computes, read off the program by a program of ours -/
import Derived.Test.YtmlkpniimpahoaaGreatDoorSBase3
import Derived.Lib.Join
import Derived.Test.YtmlkpniimpahoaaGreatDoorSaData1
set_option linter.all false
namespace Pam
open Go
open Classical in
noncomputable def gq(p1:List Ω)(p2:Ω):Option Ω :=
  if p1.length≤1048576∧(Go.Lib.join p1 p2).length≤140737488355328 then some (Go.Lib.join p1 p2) else none
open Classical in
noncomputable def nW(p1:List an):Option Ω :=
  if p1.length≤1048576∧(∀ t∈p1,-9223372036854775808<t.n∧t.n≤9223372036854775807)∧(fq true (p1.map fun t=>(t.n,t.name))).length≤140737488355328 then some (fq true (p1.map fun t=>(t.n,t.name))) else none
noncomputable def kv(p1:gR)(s1:Ω):Option Ω :=
  if (p1.n.length:Int)>0 then ((nW p1.n).bind fun y2=>if 1+y2.length≤maxLen∧s1.length+1+y2.length≤maxLen then (some (s1++(([94]:Ω)++y2))) else none) else (some s1)
noncomputable def qx(p1:gR):Option Ω :=
  if p1.elem=98 then (kv p1 ([98,111,111,108]:Ω)) else (kv p1 ([105,110,116]:Ω))
noncomputable def mO(p1:ax):Option Ω :=
  if p1.name.length+2≤maxLen then ((qx p1.t).bind fun y1=>if p1.name.length+2+y1.length≤maxLen then (some ((p1.name++([58,32]:Ω))++y1)) else none) else none
noncomputable def eX(l3:List Ω):Option Ω :=
  (gq l3 ([44,32]:Ω)).bind fun y5=>some y5
noncomputable def dW(p1:List ax)(l18:List Ω)(x20:Int):Option (((List Ω)×Int) ⊕ (List Ω)) :=
  if x20<(p1.length:Int) then (if (0≤x20∧x20<(p1.length:Int)) then ((mO (ax.mk ((p1.getD x20.toNat default).name) ((p1.getD x20.toNat default).t))).bind fun y21=>if mK (l18.length+1) 16 then (some (.inl ((l18++(lit ([y21]:List Ω))),(IntKind.wrap .i64 (x20+1))))) else none) else none) else (some (.inr l18))
noncomputable def fZ(p1:List ax):Option Ω :=
  (bD (fun (l18,x20)=>dW p1 l18 x20) ([],0)).bind (fun z22=>eX z22)
noncomputable def eY(l3:List Ω):Option Ω :=
  (gq l3 ([44,32]:Ω)).bind fun y5=>some y5
noncomputable def dX(p1:List (List an))(l18:List Ω)(x20:Int):Option (((List Ω)×Int) ⊕ (List Ω)) :=
  if x20<(p1.length:Int) then (if (0≤x20∧x20<(p1.length:Int)) then ((nW (p1.getD x20.toNat default)).bind fun y21=>if mK (l18.length+1) 16 then (some (.inl ((l18++(lit ([y21]:List Ω))),(IntKind.wrap .i64 (x20+1))))) else none) else none) else (some (.inr l18))
noncomputable def f8(p1:List (List an)):Option Ω :=
  (bD (fun (l18,x20)=>dX p1 l18 x20) ([],0)).bind (fun z22=>eY z22)
noncomputable def nX(p1:ab):Option Int :=
  if p1.op=6 then (some 0) else (if p1.op=4 then (some 6) else (if ¬ p1.op=5 then (some 7) else (if p1.k=6 then (some 7) else (if p1.k=7 then (some 7) else (if (0≤p1.k∧p1.k<(13:Int)) then (some ((lit ([0,4,4,5,5,5,0,0,3,3,2,1,1]:List Int)).getD p1.k.toNat 0)) else none)))))
open Classical in
noncomputable def fD(p1 p2:Int):Option Ω :=
  if p2=10∧-9223372036854775808≤p1∧p1≤9223372036854775807 then some (Go.Lib.itoa p1) else none
noncomputable def gh(p1:Bool):Option Ω :=
  if p1=true then (some ([116,114,117,101]:Ω)) else (some ([102,97,108,115,101]:Ω))
noncomputable def lN(p1:Bool):Option Ω :=
  (gh p1).bind fun y1=>some y1
noncomputable def nY(rc_render_expr:ab→Option Ω)(p1:ab)(p2:Int):Option Ω :=
  (rc_render_expr p1).bind fun y1=>(nX p1).bind fun y2=>if y2<p2 then (if 1+y1.length≤maxLen∧1+y1.length+1≤maxLen then (some ((([40]:Ω)++y1)++([41]:Ω))) else none) else (some y1)
noncomputable def pC(p1:Int):Option Ω :=
  if (0≤p1∧p1<(13:Int)) then (some ((lit ([[],[43],[45],[42],[47],[37],[],[],[60],[61,61],[97,110,100],[111,114],[120,111,114]]:List Ω)).getD p1.toNat [])) else none
noncomputable def ma(p1:Int):Option Ω :=
  if (0≤p1∧p1<(15:Int)) then (some ((lit ([[],[97,100,100],[115,117,98],[109,117,108],[100,105,118],[109,111,100],[109,105,110],[109,97,120],[108,101,115,115],[101,113],[97,110,100],[111,114],[120,111,114],[110,101,103],[110,111,116]]:List Ω)).getD p1.toNat [])) else none
noncomputable def eZ(l3:List Ω):Option Ω :=
  (gq l3 ([44,32]:Ω)).bind fun y5=>some y5
noncomputable def dY(rc_render_expr:ab→Option Ω)(p1:List ab)(l18:List Ω)(x20:Int):Option (((List Ω)×Int) ⊕ (List Ω)) :=
  if x20<(p1.length:Int) then (if (0≤x20∧x20<(p1.length:Int)) then ((rc_render_expr (p1.getD x20.toNat default)).bind fun y21=>if mK (l18.length+1) 16 then (some (.inl ((l18++(lit ([y21]:List Ω))),(IntKind.wrap .i64 (x20+1))))) else none) else none) else (some (.inr l18))
noncomputable def iq(rc_render_expr:ab→Option Ω)(p1:List ab):Option Ω :=
  (bD (fun (l18,x20)=>dY rc_render_expr p1 l18 x20) ([],0)).bind (fun z22=>eZ z22)
noncomputable def gU(p1:ab)(s3:Ω):Option Ω :=
  if (0≤(IntKind.wrap .i64 (p1.op - 7))∧(IntKind.wrap .i64 (p1.op - 7))<(9:Int)) then (if ((lit ([[109,97,112],[102,111,108,100],[115,99,97,110],[102,105,108,108],[],[119,105,116,104],[115,108,105,99,101],[99,97,116],[112,114,101]]:List Ω)).getD ((IntKind.wrap .i64 (p1.op - 7)).toNat) []).length+1≤maxLen∧(((lit ([[109,97,112],[102,111,108,100],[115,99,97,110],[102,105,108,108],[],[119,105,116,104],[115,108,105,99,101],[99,97,116],[112,114,101]]:List Ω)).getD ((IntKind.wrap .i64 (p1.op - 7)).toNat) []).length)+1+s3.length≤maxLen∧((((lit ([[109,97,112],[102,111,108,100],[115,99,97,110],[102,105,108,108],[],[119,105,116,104],[115,108,105,99,101],[99,97,116],[112,114,101]]:List Ω)).getD ((IntKind.wrap .i64 (p1.op - 7)).toNat) []).length)+1)+s3.length+1≤maxLen then (some (((((lit ([[109,97,112],[102,111,108,100],[115,99,97,110],[102,105,108,108],[],[119,105,116,104],[115,108,105,99,101],[99,97,116],[112,114,101]]:List Ω)).getD ((IntKind.wrap .i64 (p1.op - 7)).toNat) [])++([40]:Ω))++s3)++([41]:Ω))) else none) else none
noncomputable def f9(p1:ab)(s2:Ω)(b5:Bool):Option Ω :=
  if b5=true then ((ma p1.k).bind fun y6=>if y6.length+2≤maxLen∧y6.length+2+s2.length≤maxLen then (gU p1 ((y6++([44,32]:Ω))++s2)) else none) else (gU p1 s2)
noncomputable def gV(p1:ab)(s2:Ω):Option Ω :=
  if p1.op=5 then ((ma p1.k).bind fun y4=>if y4.length+1≤maxLen∧y4.length+1+s2.length≤maxLen∧(y4.length+1)+s2.length+1≤maxLen then (some (((y4++([40]:Ω))++s2)++([41]:Ω))) else none) else (if p1.op=7 then (f9 p1 s2 (p1.op == 7)) else (if p1.op=8 then (f9 p1 s2 (p1.op == 8)) else (f9 p1 s2 (p1.op == 9))))
noncomputable def nA(rc_render_expr:ab→Option Ω)(p1:ab):Option Ω :=
  (iq rc_render_expr p1.l).bind fun y1=>if (p1.s.length:Int)>0 then ((f8 p1.s).bind fun y7=>if 2+y7.length≤maxLen∧y1.length+2+y7.length≤maxLen then (gV p1 (y1++(([44,32]:Ω)++y7))) else none) else (gV p1 y1)
noncomputable def jm(rcf:ab→Option Ω)(p1:ab):Option Ω :=
  (nA rcf p1).bind fun y2=>some y2
noncomputable def jn(rcf:ab→Option Ω)(p1:ab)(y1 x12:Int):Option Ω :=
  if (0≤0∧0<(p1.l.length:Int)) then ((nY rcf (p1.l.getD 0 default) x12).bind fun y13=>if y13.length+1≤maxLen then ((pC p1.k).bind fun y14=>if y13.length+1+y14.length≤maxLen∧(y13.length+1)+y14.length+1≤maxLen∧(0≤1∧1<(p1.l.length:Int)) then ((nY rcf (p1.l.getD 1 default) (IntKind.wrap .i64 (y1+1))).bind fun y15=>if ((y13.length+1)+y14.length)+1+y15.length≤maxLen then (some ((((y13++([32]:Ω))++y14)++([32]:Ω))++y15)) else none) else none) else none) else none
noncomputable def nC(rcf:ab→Option Ω)(p1:ab):Option Ω :=
  (nX p1).bind fun y1=>if p1.op=1 then ((fD p1.n 10).bind fun y3=>some y3) else (if p1.op=2 then ((lN (p1.n == 1)).bind fun y4=>some y4) else (if p1.op=3 then (some p1.name) else (if p1.op=4 then (if (0≤(IntKind.wrap .i64 (p1.k - 13))∧(IntKind.wrap .i64 (p1.k - 13))<(2:Int)) then (if (0≤0∧0<(p1.l.length:Int)) then ((nY rcf (p1.l.getD 0 default) y1).bind fun y5=>if ((lit ([[45],[110,111,116,32]]:List Ω)).getD ((IntKind.wrap .i64 (p1.k - 13)).toNat) []).length+y5.length≤maxLen then (some (((lit ([[45],[110,111,116,32]]:List Ω)).getD ((IntKind.wrap .i64 (p1.k - 13)).toNat) [])++y5)) else none) else none) else none) else (if p1.op=6 then (if (0≤0∧0<(p1.l.length:Int)) then ((rcf (p1.l.getD 0 default)).bind fun y6=>if 3+y6.length≤maxLen∧3+y6.length+6≤maxLen∧(0≤1∧1<(p1.l.length:Int)) then ((rcf (p1.l.getD 1 default)).bind fun y7=>if (3+y6.length)+6+y7.length≤maxLen∧((3+y6.length)+6)+y7.length+6≤maxLen∧(0≤2∧2<(p1.l.length:Int)) then ((rcf (p1.l.getD 2 default)).bind fun y8=>if (((3+y6.length)+6)+y7.length)+6+y8.length≤maxLen then (some (((((([105,102,32]:Ω)++y6)++([32,116,104,101,110,32]:Ω))++y7)++([32,101,108,115,101,32]:Ω))++y8)) else none) else none) else none) else none) else (if p1.op=11 then (if (0≤0∧0<(p1.l.length:Int)) then ((nY rcf (p1.l.getD 0 default) y1).bind fun y9=>if y9.length+1≤maxLen∧(0≤1∧1<(p1.l.length:Int)) then ((rcf (p1.l.getD 1 default)).bind fun y10=>if y9.length+1+y10.length≤maxLen∧(y9.length+1)+y10.length+3≤maxLen∧(0≤2∧2<(p1.l.length:Int)) then ((rcf (p1.l.getD 2 default)).bind fun y11=>if ((y9.length+1)+y10.length)+3+y11.length≤maxLen∧(((y9.length+1)+y10.length)+3)+y11.length+1≤maxLen then (some (((((y9++([91]:Ω))++y10)++([32,58,32]:Ω))++y11)++([93]:Ω))) else none) else none) else none) else none) else (if p1.op=5 then (if y1=7 then (jm rcf p1) else (if y1=3 then (jn rcf p1 y1 (IntKind.wrap .i64 (y1+1))) else (jn rcf p1 y1 y1))) else (jm rcf p1)))))))
noncomputable def dE:Nat→ab→Option Ω
  |0=>fun _=>none
  |n+1=>nC (dE n)
noncomputable def qZ(fuel:Nat)(p1:ab):Option Ω:=dE fuel p1
noncomputable def eg(l3:List Ω):Option Ω :=
  (gq l3 ([44,32]:Ω)).bind fun y5=>some y5
noncomputable def dr(fuel:Nat)(p1:List ab)(l18:List Ω)(x20:Int):Option (((List Ω)×Int) ⊕ (List Ω)) :=
  if x20<(p1.length:Int) then (if (0≤x20∧x20<(p1.length:Int)) then ((qZ fuel (p1.getD x20.toNat default)).bind fun y21=>if mK (l18.length+1) 16 then (some (.inl ((l18++(lit ([y21]:List Ω))),(IntKind.wrap .i64 (x20+1))))) else none) else none) else (some (.inr l18))
noncomputable def gu(fuel:Nat)(p1:List ab):Option Ω :=
  (bD (fun (l18,x20)=>dr fuel p1 l18 x20) ([],0)).bind (fun z22=>eg z22)
noncomputable def lP(fuel:Nat)(p1:TEq)(s3:Ω):Option Ω :=
  if s3.length+1≤maxLen then ((gu fuel p1.e).bind fun y4=>if s3.length+1+y4.length≤maxLen∧(s3.length+1)+y4.length+1≤maxLen then (some (((s3++([40]:Ω))++y4)++([41]:Ω))) else none) else none
noncomputable def rJ(fuel:Nat)(p1:TEq):Option Ω :=
  (gq p1.names ([44,32]:Ω)).bind fun y1=>if y1.length+3≤maxLen then (if p1.node=([]:Ω) then (if (0≤0∧0<(p1.e.length:Int)) then ((qZ fuel (p1.e.getD 0 default)).bind fun y2=>if y1.length+3+y2.length≤maxLen then (some ((y1++([32,61,32]:Ω))++y2)) else none) else none) else (if 5+p1.node.length≤maxLen∧y1.length+3+5+p1.node.length≤maxLen then (if (p1.s.length:Int)>0 then ((f8 p1.s).bind fun y5=>if 1+y5.length≤maxLen∧1+y5.length+1≤maxLen∧(y1.length+3)+(5+p1.node.length)+(1+y5.length)+1≤maxLen then (lP fuel p1 (((y1++([32,61,32]:Ω))++(([99,97,108,108,32]:Ω)++p1.node))++((([60]:Ω)++y5)++([62]:Ω)))) else none) else (lP fuel p1 ((y1++([32,61,32]:Ω))++(([99,97,108,108,32]:Ω)++p1.node)))) else none)) else none
noncomputable def kQ(s5:Ω):Option Ω :=
  if s5.length+2≤maxLen then (some (s5++([125,10]:Ω))) else none
noncomputable def jo(fuel:Nat)(p1:aK)(s10:Ω)(x11:Int):Option (((Ω)×Int) ⊕ Ω) :=
  if x11<(p1.eqs.length:Int) then (if (0≤x11∧x11<(p1.eqs.length:Int)) then ((rJ fuel (p1.eqs.getD x11.toNat default)).bind fun y12=>if 1+y12.length≤maxLen∧1+y12.length+2≤maxLen∧s10.length+(1+y12.length)+2≤maxLen then (some (.inl ((s10++((([9]:Ω)++y12)++([59,10]:Ω))),(IntKind.wrap .i64 (x11+1))))) else none) else none) else (some (.inr s10))
noncomputable def jp(fuel:Nat)(p1:aK)(s4:Ω):Option Ω :=
  (bD (fun (s10,x11)=>jo fuel p1 s10 x11) (s4,0)).bind (fun z13=>kQ z13)
noncomputable def jq(p1:aK)(s18:Ω)(x19:Int):Option (((Ω)×Int) ⊕ Ω) :=
  if x19<(p1.local_.length:Int) then (if (0≤x19∧x19<(p1.local_.length:Int)) then ((mO (ax.mk ((p1.local_.getD x19.toNat default).name) ((p1.local_.getD x19.toNat default).t))).bind fun y20=>if 5+y20.length≤maxLen∧5+y20.length+2≤maxLen∧s18.length+(5+y20.length)+2≤maxLen then (some (.inl ((s18++((([9,118,97,114,32]:Ω)++y20)++([59,10]:Ω))),(IntKind.wrap .i64 (x19+1))))) else none) else none) else (some (.inr s18))
noncomputable def jr(fuel:Nat)(p1:aK)(s1:Ω):Option Ω :=
  (fZ p1.in_).bind fun y2=>if 1+y2.length≤maxLen∧1+y2.length+6≤maxLen then ((fZ p1.out_).bind fun y3=>if (1+y2.length)+6+y3.length≤maxLen∧((1+y2.length)+6)+y3.length+4≤maxLen∧s1.length+(((1+y2.length)+6)+y3.length)+4≤maxLen then ((bD (fun (s18,x19)=>jq p1 s18 x19) ((s1++((((([40]:Ω)++y2)++([41,32,45,62,32,40]:Ω))++y3)++([41,32,123,10]:Ω))),0)).bind (fun z21=>jp fuel p1 z21)) else none) else none
noncomputable def ka(fuel:Nat)(p1:aK):Option Ω :=
  if 5+p1.name.length≤maxLen then (if (p1.sizes.length:Int)>0 then ((gq p1.sizes ([44,32]:Ω)).bind fun y22=>if 1+y22.length≤maxLen∧1+y22.length+1≤maxLen∧5+p1.name.length+(1+y22.length)+1≤maxLen then (jr fuel p1 ((([110,111,100,101,32]:Ω)++p1.name)++((([60]:Ω)++y22)++([62]:Ω)))) else none) else (jr fuel p1 (([110,111,100,101,32]:Ω)++p1.name))) else none
open Classical in
noncomputable def m5(fuel:Nat)(p1:aB):Option Ω :=
  (List.mapM (ka fuel) p1.nodes).bind fun q=>if p1.nodes.length≤1048576∧(Go.Lib.join q []).length≤140737488355328 then some (Go.Lib.join q []) else none
noncomputable def az(p1:Bool)(p2:Int)(p3:ao):Option (Int×Int) :=
  if p1=true then (if p3.f.code=0 then (some (p2,p3.at_)) else (some (p3.f.code,p3.f.at_))) else (some (p3.f.code,p3.f.at_))
noncomputable def kb(p1:Int):Option Bool :=
  if p1≥97 then (some (decide (p1≤122))) else (some false)
noncomputable def lF(p1:Int):Option Bool :=
  if p1≥48 then (some (decide (p1≤57))) else (some false)
noncomputable def aV(b1:Bool):Option Bool :=
  if b1=true then (some true) else (some false)
noncomputable def nQ(p1:Ω):Option Bool :=
  if p1=([97,100,100]:Ω) then (aV (p1 == ([97,100,100]:Ω))) else (if p1=([97,110,100]:Ω) then (aV (p1 == ([97,110,100]:Ω))) else (if p1=([98,111,111,108]:Ω) then (aV (p1 == ([98,111,111,108]:Ω))) else (if p1=([99,97,108,108]:Ω) then (aV (p1 == ([99,97,108,108]:Ω))) else (if p1=([99,97,116]:Ω) then (aV (p1 == ([99,97,116]:Ω))) else (if p1=([100,105,118]:Ω) then (aV (p1 == ([100,105,118]:Ω))) else (if p1=([101,108,115,101]:Ω) then (aV (p1 == ([101,108,115,101]:Ω))) else (if p1=([101,113]:Ω) then (aV (p1 == ([101,113]:Ω))) else (if p1=([102,97,108,115,101]:Ω) then (aV (p1 == ([102,97,108,115,101]:Ω))) else (if p1=([102,105,108,108]:Ω) then (aV (p1 == ([102,105,108,108]:Ω))) else (if p1=([102,111,108,100]:Ω) then (aV (p1 == ([102,111,108,100]:Ω))) else (if p1=([105,102]:Ω) then (aV (p1 == ([105,102]:Ω))) else (if p1=([105,110,116]:Ω) then (aV (p1 == ([105,110,116]:Ω))) else (if p1=([108,101,115,115]:Ω) then (aV (p1 == ([108,101,115,115]:Ω))) else (if p1=([109,97,112]:Ω) then (aV (p1 == ([109,97,112]:Ω))) else (if p1=([109,97,120]:Ω) then (aV (p1 == ([109,97,120]:Ω))) else (if p1=([109,105,110]:Ω) then (aV (p1 == ([109,105,110]:Ω))) else (if p1=([109,111,100]:Ω) then (aV (p1 == ([109,111,100]:Ω))) else (if p1=([109,117,108]:Ω) then (aV (p1 == ([109,117,108]:Ω))) else (if p1=([110,101,103]:Ω) then (aV (p1 == ([110,101,103]:Ω))) else (if p1=([110,111,100,101]:Ω) then (aV (p1 == ([110,111,100,101]:Ω))) else (if p1=([110,111,116]:Ω) then (aV (p1 == ([110,111,116]:Ω))) else (if p1=([111,114]:Ω) then (aV (p1 == ([111,114]:Ω))) else (if p1=([112,114,101]:Ω) then (aV (p1 == ([112,114,101]:Ω))) else (if p1=([115,99,97,110]:Ω) then (aV (p1 == ([115,99,97,110]:Ω))) else (if p1=([115,108,105,99,101]:Ω) then (aV (p1 == ([115,108,105,99,101]:Ω))) else (if p1=([115,117,98]:Ω) then (aV (p1 == ([115,117,98]:Ω))) else (if p1=([116,104,101,110]:Ω) then (aV (p1 == ([116,104,101,110]:Ω))) else (if p1=([116,114,117,101]:Ω) then (aV (p1 == ([116,114,117,101]:Ω))) else (if p1=([118,97,114]:Ω) then (aV (p1 == ([118,97,114]:Ω))) else (if p1=([119,105,116,104]:Ω) then (aV (p1 == ([119,105,116,104]:Ω))) else (aV (p1 == ([120,111,114]:Ω)))))))))))))))))))))))))))))))))
noncomputable def mn:Option Bool :=
  some true
noncomputable def jf(p1:Ω)(x5:Int):Option (Int ⊕ (Unit ⊕ Bool)) :=
  if x5<(p1.length:Int) then (if (0≤x5∧x5<(p1.length:Int)) then ((kb ((p1.getD x5.toNat 0).toNat:Int)).bind fun y6=>if y6=true then (some (.inl (IntKind.wrap .i64 (x5+1)))) else ((lF ((p1.getD x5.toNat 0).toNat:Int)).bind fun y7=>if y7=true then (some (.inl (IntKind.wrap .i64 (x5+1)))) else (some (.inr (.inr false))))) else none) else (some (.inr (.inl ())))
noncomputable def lQ(p1:Ω):Option Bool :=
  if p1=([]:Ω) then (some false) else (if (p1.length:Int)>12 then (some false) else (if (0≤0∧0<(p1.length:Int)) then ((kb ((p1.getD 0 0).toNat:Int)).bind fun y1=>if y1=true then ((nQ p1).bind fun y2=>if y2=true then (some false) else ((bD (fun x5=>jf p1 x5) 0).bind (Sum.elim (fun _=>mn) (fun z8=>some z8)))) else (some false)) else none))
noncomputable def bH(p1:Ω)(p2:ao):Option (Int×Int) :=
  (lQ p1).bind fun y1=>(az (!y1) 3 p2).bind fun y2=>some (y2.1,y2.2)
noncomputable def dN(p1:List an)(p2:ao)(x11 x12 x13:Int):Option ((Int×Int×Int) ⊕ (Int×Int)) :=
  if ((p1.getD x11.toNat default).name)=([]:Ω) then (some (.inl (x12,x13,(IntKind.wrap .i64 (x11+1))))) else ((bH ((p1.getD x11.toNat default).name) (ao.mk (ap.mk x12 x13) p2.at_)).bind fun y14=>some (.inl (y14.1,y14.2,(IntKind.wrap .i64 (x11+1)))))
noncomputable def cI(p1:List an)(p2:ao)(x9 x10 x11:Int):Option ((Int×Int×Int) ⊕ (Int×Int)) :=
  if x11<(p1.length:Int) then (if x9=0 then (if (0≤x11∧x11<(p1.length:Int)) then (if ((p1.getD x11.toNat default).n)≤(-1000000000000000000) then ((az true 2 (ao.mk (ap.mk x9 x10) p2.at_)).bind fun y15=>dN p1 p2 x11 y15.1 y15.2) else ((az (decide (((p1.getD x11.toNat default).n)≥1000000000000000000)) 2 (ao.mk (ap.mk x9 x10) p2.at_)).bind fun y16=>dN p1 p2 x11 y16.1 y16.2)) else none) else (some (.inr (x9,x10)))) else (some (.inr (x9,x10)))
noncomputable def fU(p1:List an)(p2:ao):Option (Int×Int) :=
  (az ((p1.length:Int) == 0) 4 p2).bind fun y1=>(az (decide ((p1.length:Int)>30)) 7 (ao.mk (ap.mk y1.1 y1.2) p2.at_)).bind fun y2=>(bD (fun (x9,x10,x11)=>cI p1 p2 x9 x10 x11) (y2.1,y2.2,0)).bind (fun z17=>some z17)
noncomputable def e8(p1:gR)(p2:ao)(x1 x2:Int):Option (Int×Int) :=
  if (p1.n.length:Int)>0 then ((fU p1.n (ao.mk (ap.mk x1 x2) p2.at_)).bind fun y3=>some (y3.1,y3.2)) else (some (x1,x2))
noncomputable def kc(p1:gR)(p2:ao):Option (Int×Int) :=
  if ¬ p1.elem=105 then ((az (p1.elem != 98) 10 p2).bind fun y4=>e8 p1 p2 y4.1 y4.2) else ((az false 10 p2).bind fun y5=>e8 p1 p2 y5.1 y5.2)
noncomputable def cB(p1:List ax)(p2:ao)(x8 x9 x10:Int):Option ((Int×Int×Int) ⊕ (Int×Int)) :=
  if x10<(p1.length:Int) then (if x8=0 then (if (0≤x10∧x10<(p1.length:Int)) then ((bH ((p1.getD x10.toNat default).name) (ao.mk (ap.mk x8 x9) p2.at_)).bind fun y11=>(kc ((p1.getD x10.toNat default).t) (ao.mk (ap.mk y11.1 y11.2) p2.at_)).bind fun y12=>some (.inl (y12.1,y12.2,(IntKind.wrap .i64 (x10+1))))) else none) else (some (.inr (x8,x9)))) else (some (.inr (x8,x9)))
noncomputable def fw(p1:List ax)(p2:ao):Option (Int×Int) :=
  (az (decide ((p1.length:Int)>30)) 7 p2).bind fun y1=>(bD (fun (x8,x9,x10)=>cB p1 p2 x8 x9 x10) (y1.1,y1.2,0)).bind (fun z13=>some z13)
noncomputable def jN(x1:Int):Option Int :=
  some x1
noncomputable def jO(rcf:ab→Int→Option Int)(p1:ab)(x6 x7:Int):Option ((Int×Int) ⊕ Int) :=
  if x7<(p1.l.length:Int) then (if x6≥0 then (if (0≤x7∧x7<(p1.l.length:Int)) then ((rcf (p1.l.getD x7.toNat default) x6).bind fun y8=>some (.inl (y8,(IntKind.wrap .i64 (x7+1))))) else none) else (some (.inr x6))) else (some (.inr x6))
noncomputable def mP(rcf:ab→Int→Option Int)(p1:ab)(p2:Int):Option Int :=
  (bD (fun (x6,x7)=>jO rcf p1 x6 x7) ((IntKind.wrap .i64 (p2 - 1)),0)).bind (fun z9=>jN z9)
noncomputable def ir:Nat→ab→Int→Option Int
  |0=>fun _ _=>none
  |n+1=>mP (ir n)
noncomputable def sF(fuel:Nat)(p1:ab)(p2:Int):Option Int:=ir fuel p1 p2
noncomputable def mo(b4:Bool):Option (fM×Bool) :=
  if b4=true then (some ((fM.mk 2 0 0 0),true)) else (some ((fM.mk 0 0 0 0),false))
noncomputable def mq(p1:Int)(b3:Bool):Option (fM×Bool) :=
  if b3=true then (some ((fM.mk 2 0 1 14),true)) else (if p1=10 then (some ((fM.mk 1 1 0 0),true)) else (if p1=13 then (some ((fM.mk 1 2 0 0),true)) else (if p1=14 then (mo (p1 == 14)) else (mo (p1 == 15)))))
noncomputable def kw(p1:Int)(b2:Bool):Option (fM×Bool) :=
  if b2=true then (some ((fM.mk 3 0 0 0),true)) else (if p1=7 then (some ((fM.mk (-1) 0 1 14),true)) else (if p1=8 then (mq p1 (p1 == 8)) else (mq p1 (p1 == 9))))
noncomputable def kx(p1:Int)(b1:Bool):Option (fM×Bool) :=
  if b1=true then (some ((fM.mk 0 0 0 0),true)) else (if p1=4 then (some ((fM.mk 1 0 13 14),true)) else (if p1=5 then (some ((fM.mk 2 0 1 12),true)) else (if p1=6 then (kw p1 (p1 == 6)) else (if p1=11 then (kw p1 (p1 == 11)) else (kw p1 (p1 == 12))))))
noncomputable def qy(p1:Int):Option (fM×Bool) :=
  if p1=1 then (kx p1 (p1 == 1)) else (if p1=2 then (kx p1 (p1 == 2)) else (kx p1 (p1 == 3)))
noncomputable def dO(rcf:ab→ao→Option (Int×Int))(p1:ab)(p2:ao)(x18 x19 x20:Int):Option ((Int×Int×Int) ⊕ (Int×Int)) :=
  if x20<(p1.l.length:Int) then (if (0≤x20∧x20<(p1.l.length:Int)) then ((rcf (p1.l.getD x20.toNat default) (ao.mk (ap.mk x18 x19) p2.at_)).bind fun y21=>some (.inl (y21.1,y21.2,(IntKind.wrap .i64 (x20+1))))) else none) else (some (.inr (x18,x19)))
noncomputable def eI(rcf:ab→ao→Option (Int×Int))(p1:ab)(p2:ao)(x10 x11:Int):Option (Int×Int) :=
  (bD (fun (x18,x19,x20)=>dO rcf p1 p2 x18 x19 x20) (x10,x11,0)).bind (fun z22=>some z22)
noncomputable def dP(p1:ab)(p2:ao)(x29 x30 x31:Int):Option ((Int×Int×Int) ⊕ (Int×Int)) :=
  if x31<(p1.s.length:Int) then (if (0≤x31∧x31<(p1.s.length:Int)) then ((fU (p1.s.getD x31.toNat default) (ao.mk (ap.mk x29 x30) p2.at_)).bind fun y32=>some (.inl (y32.1,y32.2,(IntKind.wrap .i64 (x31+1))))) else none) else (some (.inr (x29,x30)))
noncomputable def eJ(rcf:ab→ao→Option (Int×Int))(p1:ab)(p2:ao)(x8 x9:Int):Option (Int×Int) :=
  (bD (fun (x29,x30,x31)=>dP p1 p2 x29 x30 x31) (x8,x9,0)).bind (fun (z33,z34)=>eI rcf p1 p2 z33 z34)
noncomputable def eM(rcf:ab→ao→Option (Int×Int))(p1:ab)(p2:ao)(x6 x7:Int):Option (Int×Int) :=
  if p1.n<0 then ((az true 2 (ao.mk (ap.mk x6 x7) p2.at_)).bind fun y35=>eJ rcf p1 p2 y35.1 y35.2) else ((az (decide (p1.n≥1000000000000000000)) 2 (ao.mk (ap.mk x6 x7) p2.at_)).bind fun y36=>eJ rcf p1 p2 y36.1 y36.2)
noncomputable def aQ(rcf:ab→ao→Option (Int×Int))(p1:ab)(p2:ao)(x4 x5:Int):Option (Int×Int) :=
  if p1.op=3 then ((bH p1.name (ao.mk (ap.mk x4 x5) p2.at_)).bind fun y37=>eM rcf p1 p2 y37.1 y37.2) else (eM rcf p1 p2 x4 x5)
noncomputable def eN(rcf:ab→ao→Option (Int×Int))(p1:ab)(p2:ao)(y1:(fM×Bool))(b2 b3:Bool):Option (Int×Int) :=
  if y1.2=true then (if b2=true then (if b3=true then (if ¬ (p1.s.length:Int)=((y1.1).sizes) then ((az true 4 p2).bind fun y38=>aQ rcf p1 p2 y38.1 y38.2) else (if p1.op>2 then (if ¬ p1.n=0 then ((az true 4 p2).bind fun y39=>aQ rcf p1 p2 y39.1 y39.2) else (if p1.op=2 then (if ¬ p1.op=3 then ((az (!(p1.name == ([]:Ω))) 4 p2).bind fun y40=>aQ rcf p1 p2 y40.1 y40.2) else ((az false 4 p2).bind fun y41=>aQ rcf p1 p2 y41.1 y41.2)) else (if ¬ p1.op=3 then ((az (!(p1.name == ([]:Ω))) 4 p2).bind fun y42=>aQ rcf p1 p2 y42.1 y42.2) else ((az false 4 p2).bind fun y43=>aQ rcf p1 p2 y43.1 y43.2)))) else (if p1.op=2 then (if ¬ p1.n=0 then (if ¬ p1.n=1 then ((az true 4 p2).bind fun y44=>aQ rcf p1 p2 y44.1 y44.2) else (if ¬ p1.op=3 then ((az (!(p1.name == ([]:Ω))) 4 p2).bind fun y45=>aQ rcf p1 p2 y45.1 y45.2) else ((az false 4 p2).bind fun y46=>aQ rcf p1 p2 y46.1 y46.2))) else (if ¬ p1.op=3 then ((az (!(p1.name == ([]:Ω))) 4 p2).bind fun y47=>aQ rcf p1 p2 y47.1 y47.2) else ((az false 4 p2).bind fun y48=>aQ rcf p1 p2 y48.1 y48.2))) else (if ¬ p1.op=3 then ((az (!(p1.name == ([]:Ω))) 4 p2).bind fun y49=>aQ rcf p1 p2 y49.1 y49.2) else ((az false 4 p2).bind fun y50=>aQ rcf p1 p2 y50.1 y50.2))))) else ((az true 4 p2).bind fun y51=>aQ rcf p1 p2 y51.1 y51.2)) else ((az true 4 p2).bind fun y52=>aQ rcf p1 p2 y52.1 y52.2)) else ((az true 4 p2).bind fun y53=>aQ rcf p1 p2 y53.1 y53.2)
noncomputable def cZ(rcf:ab→ao→Option (Int×Int))(p1:ab)(p2:ao)(y1:(fM×Bool))(b2:Bool):Option (Int×Int) :=
  if p1.k≥((y1.1).from_) then (eN rcf p1 p2 y1 b2 (decide (p1.k≤((y1.1).to)))) else (eN rcf p1 p2 y1 b2 false)
noncomputable def it(rcf:ab→ao→Option (Int×Int))(p1:ab)(p2:ao):Option (Int×Int) :=
  if ¬ p2.f.code=0 then (some (p2.f.code,p2.f.at_)) else ((qy p1.op).bind fun y1=>if (p1.l.length:Int)=((y1.1).parts) then (cZ rcf p1 p2 y1 true) else (if ((y1.1).parts)<0 then (if (p1.l.length:Int)=1 then (cZ rcf p1 p2 y1 true) else (cZ rcf p1 p2 y1 ((p1.l.length:Int) == 2))) else (cZ rcf p1 p2 y1 false)))
noncomputable def bo:Nat→ab→ao→Option (Int×Int)
  |0=>fun _ _=>none
  |n+1=>it (bo n)
noncomputable def nR(fuel:Nat)(p1:ab)(p2:ao):Option (Int×Int):=bo fuel p1 p2
noncomputable def dm(fuel:Nat)(p1:TEq)(p2:ao)(x15 x16 x17:Int):Option ((Int×Int×Int) ⊕ (Int×Int)) :=
  if x17<(p1.e.length:Int) then (if x15=0 then (if (0≤x17∧x17<(p1.e.length:Int)) then ((sF fuel (p1.e.getD x17.toNat default) 30).bind fun y18=>(az (decide (y18<0)) 7 (ao.mk (ap.mk x15 x16) p2.at_)).bind fun y19=>(nR fuel (p1.e.getD x17.toNat default) (ao.mk (ap.mk y19.1 y19.2) p2.at_)).bind fun y20=>some (.inl (y20.1,y20.2,(IntKind.wrap .i64 (x17+1))))) else none) else (some (.inr (x15,x16)))) else (some (.inr (x15,x16)))
noncomputable def eD(fuel:Nat)(p1:TEq)(p2:ao)(x7 x8:Int):Option (Int×Int) :=
  (bD (fun (x15,x16,x17)=>dm fuel p1 p2 x15 x16 x17) (x7,x8,0)).bind (fun z21=>some z21)
noncomputable def dp(p1:TEq)(p2:ao)(x28 x29 x30:Int):Option ((Int×Int×Int) ⊕ (Int×Int)) :=
  if x30<(p1.s.length:Int) then (if x28=0 then (if (0≤x30∧x30<(p1.s.length:Int)) then ((fU (p1.s.getD x30.toNat default) (ao.mk (ap.mk x28 x29) p2.at_)).bind fun y31=>some (.inl (y31.1,y31.2,(IntKind.wrap .i64 (x30+1))))) else none) else (some (.inr (x28,x29)))) else (some (.inr (x28,x29)))
noncomputable def eE(fuel:Nat)(p1:TEq)(p2:ao)(x5 x6:Int):Option (Int×Int) :=
  (bD (fun (x28,x29,x30)=>dp p1 p2 x28 x29 x30) (x5,x6,0)).bind (fun (z32,z33)=>eD fuel p1 p2 z32 z33)
noncomputable def bO(fuel:Nat)(p1:TEq)(p2:ao)(x3 x4:Int):Option (Int×Int) :=
  if p1.node=([]:Ω) then (eE fuel p1 p2 x3 x4) else (if x3=0 then ((bH p1.node (ao.mk (ap.mk x3 x4) p2.at_)).bind fun y34=>eE fuel p1 p2 y34.1 y34.2) else (eE fuel p1 p2 x3 x4))
noncomputable def nr(p1:TEq)(p2:ao)(x42 x43 x44:Int):Option ((Int×Int×Int) ⊕ (Int×Int)) :=
  if x44<(p1.names.length:Int) then (if x42=0 then (if (0≤x44∧x44<(p1.names.length:Int)) then ((bH (p1.names.getD x44.toNat default) (ao.mk (ap.mk x42 x43) p2.at_)).bind fun y45=>some (.inl (y45.1,y45.2,(IntKind.wrap .i64 (x44+1))))) else none) else (some (.inr (x42,x43)))) else (some (.inr (x42,x43)))
noncomputable def nt(p1:TEq)(p2:ao)(x55 x56 x57:Int):Option ((Int×Int×Int) ⊕ (Int×Int)) :=
  if x57<(p1.names.length:Int) then (if x55=0 then (if (0≤x57∧x57<(p1.names.length:Int)) then ((bH (p1.names.getD x57.toNat default) (ao.mk (ap.mk x55 x56) p2.at_)).bind fun y58=>some (.inl (y58.1,y58.2,(IntKind.wrap .i64 (x57+1))))) else none) else (some (.inr (x55,x56)))) else (some (.inr (x55,x56)))
noncomputable def nu(p1:TEq)(p2:ao)(x68 x69 x70:Int):Option ((Int×Int×Int) ⊕ (Int×Int)) :=
  if x70<(p1.names.length:Int) then (if x68=0 then (if (0≤x70∧x70<(p1.names.length:Int)) then ((bH (p1.names.getD x70.toNat default) (ao.mk (ap.mk x68 x69) p2.at_)).bind fun y71=>some (.inl (y71.1,y71.2,(IntKind.wrap .i64 (x70+1))))) else none) else (some (.inr (x68,x69)))) else (some (.inr (x68,x69)))
noncomputable def cQ(fuel:Nat)(p1:TEq)(p2:ao)(x1 x2:Int):Option (Int×Int) :=
  if (p1.names.length:Int)>30 then ((az true 7 (ao.mk (ap.mk x1 x2) p2.at_)).bind fun y35=>(bD (fun (x42,x43,x44)=>nr p1 p2 x42 x43 x44) (y35.1,y35.2,0)).bind (fun (z46,z47)=>bO fuel p1 p2 z46 z47)) else (if (p1.e.length:Int)>30 then ((az true 7 (ao.mk (ap.mk x1 x2) p2.at_)).bind fun y48=>(bD (fun (x55,x56,x57)=>nt p1 p2 x55 x56 x57) (y48.1,y48.2,0)).bind (fun (z59,z60)=>bO fuel p1 p2 z59 z60)) else ((az (decide ((p1.s.length:Int)>3)) 7 (ao.mk (ap.mk x1 x2) p2.at_)).bind fun y61=>(bD (fun (x68,x69,x70)=>nu p1 p2 x68 x69 x70) (y61.1,y61.2,0)).bind (fun (z72,z73)=>bO fuel p1 p2 z72 z73)))
noncomputable def kR(fuel:Nat)(p1:TEq)(p2:ao):Option (Int×Int) :=
  if (p1.names.length:Int)=0 then ((az true 4 p2).bind fun y74=>cQ fuel p1 p2 y74.1 y74.2) else (if p1.node=([]:Ω) then (if ¬ (p1.names.length:Int)=1 then ((az true 4 p2).bind fun y75=>cQ fuel p1 p2 y75.1 y75.2) else (if ¬ (p1.e.length:Int)=1 then ((az true 4 p2).bind fun y76=>cQ fuel p1 p2 y76.1 y76.2) else ((az (decide ((p1.s.length:Int)>0)) 4 p2).bind fun y77=>cQ fuel p1 p2 y77.1 y77.2))) else ((az false 4 p2).bind fun y78=>cQ fuel p1 p2 y78.1 y78.2))
noncomputable def dQ(fuel:Nat)(p1:aK)(p2 x16 x17 x18 x19:Int):Option ((Int×Int×Int×Int) ⊕ (Int×Int×Int)) :=
  if x19<(p1.eqs.length:Int) then (if x16=0 then (if (0≤x19∧x19<(p1.eqs.length:Int)) then ((kR fuel (p1.eqs.getD x19.toNat default) (ao.mk (ap.mk x16 x17) (IntKind.wrap .i64 (p2+x19)))).bind fun y20=>some (.inl (y20.1,y20.2,(IntKind.wrap .i64 (p2+x19)),(IntKind.wrap .i64 (x19+1))))) else none) else (some (.inr (x16,x17,x18)))) else (some (.inr (x16,x17,x18)))
noncomputable def ck(fuel:Nat)(p1:aK)(p2:Int)(p3:ao)(x2 x3:Int):Option (Int×Int×Int) :=
  (az ((p1.out_.length:Int) == 0) 4 (ao.mk (ap.mk x2 x3) p3.at_)).bind fun y4=>(fw p1.in_ (ao.mk (ap.mk y4.1 y4.2) p3.at_)).bind fun y5=>(fw p1.out_ (ao.mk (ap.mk y5.1 y5.2) p3.at_)).bind fun y6=>(fw p1.local_ (ao.mk (ap.mk y6.1 y6.2) p3.at_)).bind fun y7=>(bD (fun (x16,x17,x18,x19)=>dQ fuel p1 p2 x16 x17 x18 x19) (y7.1,y7.2,p3.at_,0)).bind (fun z21=>some z21)
noncomputable def mB(p1:aK)(p3:ao)(x29 x30 x31:Int):Option ((Int×Int×Int) ⊕ (Int×Int)) :=
  if x31<(p1.sizes.length:Int) then (if x29=0 then (if (0≤x31∧x31<(p1.sizes.length:Int)) then ((bH (p1.sizes.getD x31.toNat default) (ao.mk (ap.mk x29 x30) p3.at_)).bind fun y32=>some (.inl (y32.1,y32.2,(IntKind.wrap .i64 (x31+1))))) else none) else (some (.inr (x29,x30)))) else (some (.inr (x29,x30)))
noncomputable def mC(p1:aK)(p3:ao)(x42 x43 x44:Int):Option ((Int×Int×Int) ⊕ (Int×Int)) :=
  if x44<(p1.sizes.length:Int) then (if x42=0 then (if (0≤x44∧x44<(p1.sizes.length:Int)) then ((bH (p1.sizes.getD x44.toNat default) (ao.mk (ap.mk x42 x43) p3.at_)).bind fun y45=>some (.inl (y45.1,y45.2,(IntKind.wrap .i64 (x44+1))))) else none) else (some (.inr (x42,x43)))) else (some (.inr (x42,x43)))
noncomputable def js(fuel:Nat)(p1:aK)(p2:Int)(p3:ao):Option (Int×Int×Int) :=
  (bH p1.name p3).bind fun y1=>if (p1.sizes.length:Int)>3 then ((az true 7 (ao.mk (ap.mk y1.1 y1.2) p3.at_)).bind fun y22=>(bD (fun (x29,x30,x31)=>mB p1 p3 x29 x30 x31) (y22.1,y22.2,0)).bind (fun (z33,z34)=>ck fuel p1 p2 p3 z33 z34)) else ((az (decide ((p1.eqs.length:Int)>60)) 7 (ao.mk (ap.mk y1.1 y1.2) p3.at_)).bind fun y35=>(bD (fun (x42,x43,x44)=>mC p1 p3 x42 x43 x44) (y35.1,y35.2,0)).bind (fun (z46,z47)=>ck fuel p1 p2 p3 z46 z47))
noncomputable def jP(x3 x4 x5:Int):Option ap :=
  some (ap.mk x3 x4)
noncomputable def dV(fuel:Nat)(p1:aB)(x16 x17 x18 x19 x20:Int):Option ((Int×Int×Int×Int×Int) ⊕ (Int×Int×Int)) :=
  if x20<(p1.nodes.length:Int) then (if x16=0 then (if (0≤x20∧x20<(p1.nodes.length:Int)) then ((js fuel (p1.nodes.getD x20.toNat default) x19 (ao.mk (ap.mk x16 x17) (IntKind.wrap .i64 ((-2) - x20)))).bind fun y21=>some (.inl (y21.1,y21.2.1,y21.2.2,(IntKind.wrap .i64 (x19+(((p1.nodes.getD x20.toNat default).eqs).length:Int))),(IntKind.wrap .i64 (x20+1))))) else none) else (some (.inr (x16,x17,x18)))) else (some (.inr (x16,x17,x18)))
noncomputable def ou(fuel:Nat)(p1:aB):Option ap :=
  (az ((p1.nodes.length:Int) == 0) 9 (ao.mk (ap.mk 0 0) (-1))).bind fun y1=>(az (decide ((p1.nodes.length:Int)>10)) 7 (ao.mk (ap.mk y1.1 y1.2) (-1))).bind fun y2=>(bD (fun (x16,x17,x18,x19,x20)=>dV fuel p1 x16 x17 x18 x19 x20) (y2.1,y2.2,(-1),0,0)).bind (fun (z22,z23,z24)=>jP z22 z23 z24)
noncomputable def ow(fuel:Nat)(p1:aB):Option ap :=
  (ou fuel p1).bind fun y1=>if ((y1).code)=0 then ((m5 fuel p1).bind fun y2=>if (y2.length:Int)>12000 then (some (ap.mk 7 (-1))) else (some (y1))) else (some (y1))
noncomputable def lR(fuel:Nat)(p1:aB):Option ((Ω)×ap) :=
  (ow fuel p1).bind fun y1=>if ¬ ((y1).code)=0 then (some (([]:Ω),(y1))) else ((m5 fuel p1).bind fun y2=>some (y2,(ap.mk 0 0)))
noncomputable def et(x5:Int)(b7:Bool):Option ((Int×Bool) ⊕ Int) :=
  some (.inl ((IntKind.wrap .i64 (x5+1)),b7))
noncomputable def dy(p1:Ω)(x5:Int)(b6 b8:Bool):Option ((Int×Bool) ⊕ Int) :=
  if b8=true then (et x5 b6) else (if ((p1.getD x5.toNat 0).toNat:Int)=35 then (et x5 true) else (some (.inr x5)))
noncomputable def cC(p1:Ω)(x5:Int)(b6:Bool):Option ((Int×Bool) ⊕ Int) :=
  if x5<(p1.length:Int) then (if (0≤x5∧x5<(p1.length:Int)) then (if ((p1.getD x5.toNat 0).toNat:Int)=10 then (et x5 false) else (if b6=true then (dy p1 x5 b6 b6) else (if ((p1.getD x5.toNat 0).toNat:Int)=32 then (dy p1 x5 b6 (((p1.getD x5.toNat 0).toNat:Int) == 32)) else (if ((p1.getD x5.toNat 0).toNat:Int)=9 then (dy p1 x5 b6 (((p1.getD x5.toNat 0).toNat:Int) == 9)) else (dy p1 x5 b6 (((p1.getD x5.toNat 0).toNat:Int) == 13)))))) else none) else (some (.inr x5))
noncomputable def gC(p1:Ω)(p2:Int)(p3:List af):Option Int :=
  (bD (fun (x5,b6)=>cC p1 x5 b6) (p2,false)).bind (fun z9=>some z9)
noncomputable def e9(p1:Ω)(p2 x1:Int):Option ((Ω)×Int) :=
  if (0≤p2∧p2≤x1∧x1≤(p1.length:Int)) then (some (((p1.take x1.toNat).drop p2.toNat),x1)) else none
noncomputable def gc(x4:Int):Option (Int ⊕ Int) :=
  some (.inl (IntKind.wrap .i64 (x4+1)))
noncomputable def fa(p1:Ω)(x4:Int):Option (Int ⊕ Int) :=
  if x4<(p1.length:Int) then (if (0≤x4∧x4<(p1.length:Int)) then ((kb ((p1.getD x4.toNat 0).toNat:Int)).bind fun y5=>if y5=true then (gc x4) else ((lF ((p1.getD x4.toNat 0).toNat:Int)).bind fun y6=>if y6=true then (gc x4) else (some (.inr x4)))) else none) else (some (.inr x4))
noncomputable def fE(p1:Ω)(p2:Int)(p3:List af):Option ((Ω)×Int) :=
  (bD (fun x4=>fa p1 x4) p2).bind (fun z7=>e9 p1 p2 z7)
noncomputable def m7(p1:Ω)(p2 p3:Int):Option Int :=
  if p2=10∧p3=64 then AC p1 else none
noncomputable def jQ(p1:Ω):Option (Int×Bool) :=
  (m7 p1 10 64).bind fun y1=>some (y1,true)
noncomputable def gI(p1:Ω)(x4:Int):Option (Int ⊕ (Unit ⊕ (Int×Bool))) :=
  if x4<(p1.length:Int) then (if (0≤x4∧x4<(p1.length:Int)) then ((lF ((p1.getD x4.toNat 0).toNat:Int)).bind fun y5=>if y5=true then (some (.inl (IntKind.wrap .i64 (x4+1)))) else (some (.inr (.inr (0,false))))) else none) else (some (.inr (.inl ())))
noncomputable def iC(p1:Ω):Option (Int×Bool) :=
  (bD (fun x4=>gI p1 x4) 0).bind (Sum.elim (fun _=>jQ p1) (fun z6=>some z6))
noncomputable def m8(p1:Ω):Option (Int×Bool) :=
  if (p1.length:Int)>18 then (some (0,false)) else (if (p1.length:Int)>1 then (if (0≤0∧0<(p1.length:Int)) then (if ((p1.getD 0 0).toNat:Int)=48 then (some (0,false)) else (iC p1)) else none) else (iC p1))
noncomputable def ft(p1 p2:Ω):Option Bool :=
  if (p1.length:Int)≥(p2.length:Int) then (if (0≤(p2.length:Int)∧(p2.length:Int)≤(p1.length:Int)) then (some ((p1.take p2.length) == p2)) else none) else (some false)
noncomputable def gv(p1 p2:Ω):Option Bool :=
  (ft p1 p2).bind fun y1=>some y1
noncomputable def aL(p1:Ω)(p2:Int)(b1:Bool):Option Ω :=
  if b1=true then (if (0≤(IntKind.wrap .i32 ((p1.getD p2.toNat 0).toNat:Int))∧(IntKind.wrap .i32 ((p1.getD p2.toNat 0).toNat:Int))<128) then (some ([UInt8.ofNat ((IntKind.wrap .i32 ((p1.getD p2.toNat 0).toNat:Int)).toNat)]:Ω)) else none) else (some ([]:Ω))
noncomputable def fF(p1:Ω)(p2:Int):Option Ω :=
  if (0≤p2∧p2<(p1.length:Int)) then (if ((p1.getD p2.toNat 0).toNat:Int)=40 then (aL p1 p2 (((p1.getD p2.toNat 0).toNat:Int) == 40)) else (if ((p1.getD p2.toNat 0).toNat:Int)=41 then (aL p1 p2 (((p1.getD p2.toNat 0).toNat:Int) == 41)) else (if ((p1.getD p2.toNat 0).toNat:Int)=123 then (aL p1 p2 (((p1.getD p2.toNat 0).toNat:Int) == 123)) else (if ((p1.getD p2.toNat 0).toNat:Int)=125 then (aL p1 p2 (((p1.getD p2.toNat 0).toNat:Int) == 125)) else (if ((p1.getD p2.toNat 0).toNat:Int)=91 then (aL p1 p2 (((p1.getD p2.toNat 0).toNat:Int) == 91)) else (if ((p1.getD p2.toNat 0).toNat:Int)=93 then (aL p1 p2 (((p1.getD p2.toNat 0).toNat:Int) == 93)) else (if ((p1.getD p2.toNat 0).toNat:Int)=60 then (aL p1 p2 (((p1.getD p2.toNat 0).toNat:Int) == 60)) else (if ((p1.getD p2.toNat 0).toNat:Int)=62 then (aL p1 p2 (((p1.getD p2.toNat 0).toNat:Int) == 62)) else (if ((p1.getD p2.toNat 0).toNat:Int)=44 then (aL p1 p2 (((p1.getD p2.toNat 0).toNat:Int) == 44)) else (if ((p1.getD p2.toNat 0).toNat:Int)=59 then (aL p1 p2 (((p1.getD p2.toNat 0).toNat:Int) == 59)) else (if ((p1.getD p2.toNat 0).toNat:Int)=58 then (aL p1 p2 (((p1.getD p2.toNat 0).toNat:Int) == 58)) else (if ((p1.getD p2.toNat 0).toNat:Int)=43 then (aL p1 p2 (((p1.getD p2.toNat 0).toNat:Int) == 43)) else (if ((p1.getD p2.toNat 0).toNat:Int)=45 then (aL p1 p2 (((p1.getD p2.toNat 0).toNat:Int) == 45)) else (if ((p1.getD p2.toNat 0).toNat:Int)=42 then (aL p1 p2 (((p1.getD p2.toNat 0).toNat:Int) == 42)) else (if ((p1.getD p2.toNat 0).toNat:Int)=47 then (aL p1 p2 (((p1.getD p2.toNat 0).toNat:Int) == 47)) else (if ((p1.getD p2.toNat 0).toNat:Int)=37 then (aL p1 p2 (((p1.getD p2.toNat 0).toNat:Int) == 37)) else (if ((p1.getD p2.toNat 0).toNat:Int)=61 then (aL p1 p2 (((p1.getD p2.toNat 0).toNat:Int) == 61)) else (aL p1 p2 (((p1.getD p2.toNat 0).toNat:Int) == 94))))))))))))))))))) else none
noncomputable def da(p1:Ω)(p2 x4:Int):Option (Int ⊕ (Unit ⊕ Ω)) :=
  if x4<(2:Int) then (if (0≤x4∧x4<(2:Int)) then (if (0≤p2∧p2≤(p1.length:Int)) then ((gv (p1.drop p2.toNat) ((lit ([([61,61]:Ω),([45,62]:Ω)]:List Ω)).getD x4.toNat default)).bind fun y5=>if y5=true then (some (.inr (.inr ((lit ([([61,61]:Ω),([45,62]:Ω)]:List Ω)).getD x4.toNat default)))) else (some (.inl (IntKind.wrap .i64 (x4+1))))) else none) else none) else (some (.inr (.inl ())))
noncomputable def gW(p1:Ω)(p2:Int)(p3:List af):Option Ω :=
  (bD (fun x4=>da p1 p2 x4) 0).bind (Sum.elim (fun _=>fF p1 p2) (fun z6=>some z6))
noncomputable def bQ(p2:Int)(p3:List af)(x1 x2:Int)(s3:Ω)(x4:Int):Option (Int×Int×(List af)) :=
  if mK (p3.length+1) 40 then (some (0,x1,(p3++(lit ([(af.mk x2 p2 s3 x4)]:List af))))) else none
noncomputable def gy(p1:Ω)(p2:Int)(p3:List af):Option (Int×Int×(List af)) :=
  if (0≤p2∧p2<(p1.length:Int)) then ((kb ((p1.getD p2.toNat 0).toNat:Int)).bind fun y5=>if y5=true then ((fE p1 p2 p3).bind fun y6=>(nQ y6.1).bind fun y7=>if y7=true then (bQ p2 p3 y6.2 1 y6.1 0) else (if (y6.1.length:Int)>12 then (some (3,y6.2,p3)) else (bQ p2 p3 y6.2 2 y6.1 0))) else ((lF ((p1.getD p2.toNat 0).toNat:Int)).bind fun y8=>if y8=true then ((fE p1 p2 p3).bind fun y9=>(m8 y9.1).bind fun y10=>if y10.2=true then (bQ p2 p3 y9.2 3 y9.1 y10.1) else (some (2,y9.2,p3))) else ((gW p1 p2 p3).bind fun y11=>if y11=([]:Ω) then (some (1,p2,p3)) else (bQ p2 p3 (IntKind.wrap .i64 (p2+(y11.length:Int))) 4 y11 0)))) else none
noncomputable def nD(x3:Int)(l4:List af):Option ((List af)×ap) :=
  some (l4,(ap.mk 0 0))
noncomputable def gi(p1:Ω)(x19:Int)(l20:List af):Option ((Int×(List af)) ⊕ ((Int×(List af)) ⊕ ((List af)×ap))) :=
  if x19<(p1.length:Int) then ((gy p1 x19 l20).bind fun y22=>if ¬ y22.1=0 then (some (.inr (.inr ([],(ap.mk y22.1 x19))))) else ((gC p1 y22.2.1 y22.2.2).bind fun y24=>some (.inl (y24,y22.2.2)))) else (some (.inr (.inl (x19,l20))))
noncomputable def o8(p1:Ω):Option ((List af)×ap) :=
  if (p1.length:Int)>12000 then (some ([],(ap.mk 7 12000))) else ((gC p1 0 []).bind fun y6=>(bD (fun (x19,l20)=>gi p1 x19 l20) (y6,[])).bind (Sum.elim (fun (z25,z26)=>nD z25 z26) (fun z27=>some z27)))
noncomputable def dh:Option Int :=
  some (-1)
noncomputable def d7(p1:List Ω)(p2:Ω)(x3:Int):Option (Int ⊕ (Unit ⊕ Int)) :=
  if x3<(p1.length:Int) then (if (0≤x3∧x3<(p1.length:Int)) then (if p2=(p1.getD x3.toNat default) then (some (.inr (.inr x3))) else (some (.inl (IntKind.wrap .i64 (x3+1))))) else none) else (some (.inr (.inl ())))
noncomputable def cV(p1:List Ω)(p2:Ω):Option Int :=
  (bD (fun x3=>d7 p1 p2 x3) 0).bind (Sum.elim (fun _=>dh) (fun z4=>some z4))
noncomputable def d8(p1:List Ω)(p2:Ω):Option Bool :=
  (cV p1 p2).bind fun y1=>some (decide (y1≥0))
noncomputable def aP(p1:List Ω)(p2:ae):Option Bool :=
  if (p2.l.length:Int)>0 then (if (0≤0∧0<(p2.l.length:Int)) then (if ¬ ((p2.l.getD 0 default).kind)=2 then ((d8 p1 ((p2.l.getD 0 default).text)).bind fun y1=>some y1) else (some false)) else none) else (some false)
noncomputable def aM(p1:Int)(p2:ae):Option (Int×Int) :=
  if (p2.l.length:Int)>0 then (if (0≤0∧0<(p2.l.length:Int)) then (some (p1,(p2.l.getD 0 default).at_)) else none) else (if p1=4 then (some (5,p2.end_)) else (some (p1,p2.end_)))
noncomputable def aZ(p1:ae):Option (af×(List af)) :=
  if (0≤0∧0<(p1.l.length:Int)) then (if (0≤1∧1≤(p1.l.length:Int)) then (some ((p1.l.getD 0 default),(p1.l.drop 1))) else none) else none
noncomputable def dG(p1:Int)(p2:ae):Option ((af×(List af)) ⊕ (Int×Int)) :=
  if (p2.l.length:Int)=0 then ((aM 4 p2).bind fun y1=>some (.inr (y1.1,y1.2))) else (if (0≤0∧0<(p2.l.length:Int)) then (if ¬ ((p2.l.getD 0 default).kind)=p1 then ((aM 4 p2).bind fun y2=>some (.inr (y2.1,y2.2))) else ((aZ p2).bind fun y3=>some (.inl ((y3.1),y3.2)))) else none)
noncomputable def bI(p1:ae):Option (((Ω)×(List af)) ⊕ (Int×Int)) :=
  (dG 2 p1).bind fun y1=>Sum.elim (fun y4=>some (.inl ((y4.1).text,y4.2))) (fun y5=>some (.inr (y5.1,y5.2))) y1
noncomputable def bz(p1:Ω)(p2:ae):Option (Bool×(List af)) :=
  (aP (lit ([p1]:List Ω)) p2).bind fun y1=>if y1=true then ((aZ p2).bind fun y2=>some (y1,y2.2)) else (some (y1,p2.l))
noncomputable def kd(p1:Int)(p2:ae)(l13:List af)(l14:List Ω):Option (((List af)×(List Ω)) ⊕ (((List Ω)×(List af)) ⊕ (Int×Int))) :=
  if (l14.length:Int)=p1 then ((aM 7 (ae.mk l13 p2.end_ p2.open_ p2.terms)).bind fun y16=>some (.inr (.inr (y16.1,y16.2)))) else ((bI (ae.mk l13 p2.end_ p2.open_ p2.terms)).bind fun y17=>Sum.elim (fun y20=>if mK (l14.length+1) 16 then ((bz ([44]:Ω) (ae.mk y20.2 p2.end_ p2.open_ p2.terms)).bind fun y22=>if y22.1=true then (some (.inl (y22.2,(l14++(lit ([y20.1]:List Ω)))))) else (some (.inr (.inl ((l14++(lit ([y20.1]:List Ω))),y22.2))))) else none) (fun y21=>some (.inr (.inr (y21.1,y21.2)))) y17)
noncomputable def ke(p1:Int)(p2:ae):Option (((List Ω)×(List af)) ⊕ (Int×Int)) :=
  (bD (fun (l13,l14)=>kd p1 p2 l13 l14) (p2.l,[])).bind (fun z23=>some z23)
noncomputable def db(p1:List Ω)(p2:ae)(l5:List af)(x6:Int):Option (((List af)×Int) ⊕ ((List af) ⊕ (Int×Int))) :=
  if x6<(p1.length:Int) then (if (0≤x6∧x6<(p1.length:Int)) then ((aP (lit ([(p1.getD x6.toNat default)]:List Ω)) (ae.mk l5 p2.end_ p2.open_ p2.terms)).bind fun y7=>if y7=true then ((aZ (ae.mk l5 p2.end_ p2.open_ p2.terms)).bind fun y8=>some (.inl (y8.2,(IntKind.wrap .i64 (x6+1))))) else ((aM 4 (ae.mk l5 p2.end_ p2.open_ p2.terms)).bind fun y9=>some (.inr (.inr (y9.1,y9.2))))) else none) else (some (.inr (.inl l5)))
noncomputable def aN(p1:List Ω)(p2:ae):Option ((List af) ⊕ (Int×Int)) :=
  (bD (fun (l5,x6)=>db p1 p2 l5 x6) (p2.l,0)).bind (fun z10=>some z10)
noncomputable def cm(p1:Int)(p2:ae):Option ((an×(List af)) ⊕ (Int×Int)) :=
  (dG 3 p2).bind fun y1=>Sum.elim (fun y4=>(bz ([42]:Ω) (ae.mk y4.2 p2.end_ p2.open_ p2.terms)).bind fun y6=>if y6.1=true then ((bI (ae.mk y6.2 p2.end_ p2.open_ p2.terms)).bind fun y7=>Sum.elim (fun y10=>some (.inl ((an.mk (IntKind.wrap .i64 (p1 * ((y4.1).n))) y10.1),y10.2))) (fun y11=>some (.inr (y11.1,y11.2))) y7) else (some (.inl ((an.mk (IntKind.wrap .i64 (p1 * ((y4.1).n))) []),y6.2)))) (fun y5=>some (.inr (y5.1,y5.2))) y1
noncomputable def dH(p1:Int)(p2:ae):Option ((an×(List af)) ⊕ (Int×Int)) :=
  if (p2.l.length:Int)>0 then (if (0≤0∧0<(p2.l.length:Int)) then (if ((p2.l.getD 0 default).kind)=2 then ((bI p2).bind fun y12=>Sum.elim (fun y15=>some (.inl ((an.mk p1 y15.1),y15.2))) (fun y16=>some (.inr (y16.1,y16.2))) y12) else (cm p1 p2)) else none) else (cm p1 p2)
noncomputable def co(l10:List af)(l11:List an):Option (((List an)×(List af)) ⊕ (Int×Int)) :=
  some (.inl (l11,l10))
noncomputable def cq(p1:ae)(l26:List an)(l31:List af)(x33:Int):Option (((List af)×(List an)) ⊕ (((List af)×(List an)) ⊕ (((List an)×(List af)) ⊕ (Int×Int)))) :=
  (dH x33 (ae.mk l31 p1.end_ p1.open_ p1.terms)).bind fun y34=>Sum.elim (fun y37=>if mK (l26.length+1) 24 then (some (.inl (y37.2,(l26++(lit ([(y37.1)]:List an)))))) else none) (fun y38=>some (.inr (.inr (.inr (y38.1,y38.2))))) y34
noncomputable def de(p1:ae)(l25:List af)(l26:List an):Option (((List af)×(List an)) ⊕ (((List af)×(List an)) ⊕ (((List an)×(List af)) ⊕ (Int×Int)))) :=
  (aP (lit ([([43]:Ω),([45]:Ω)]:List Ω)) (ae.mk l25 p1.end_ p1.open_ p1.terms)).bind fun y28=>if y28=true then (if (l26.length:Int)=30 then ((aM 7 (ae.mk l25 p1.end_ p1.open_ p1.terms)).bind fun y29=>some (.inr (.inr (.inr (y29.1,y29.2))))) else ((aZ (ae.mk l25 p1.end_ p1.open_ p1.terms)).bind fun y39=>if ((y39.1).text)=([45]:Ω) then (cq p1 l26 y39.2 (-1)) else (cq p1 l26 y39.2 1))) else (some (.inr (.inl (l25,l26))))
noncomputable def cr(p1:ae)(l1:List af)(x2:Int):Option (((List an)×(List af)) ⊕ (Int×Int)) :=
  (dH x2 (ae.mk l1 p1.end_ p1.open_ p1.terms)).bind fun y3=>Sum.elim (fun y6=>(bD (fun (l25,l26)=>de p1 l25 l26) (y6.2,(lit ([(y6.1)]:List an)))).bind (Sum.elim (fun (z40,z41)=>co z40 z41) (fun z42=>some z42))) (fun y7=>some (.inr (y7.1,y7.2))) y3
noncomputable def cW(p1:ae):Option (((List an)×(List af)) ⊕ (Int×Int)) :=
  (bz ([45]:Ω) p1).bind fun y43=>if y43.1=true then (cr p1 y43.2 (-1)) else (cr p1 y43.2 1)
noncomputable def mI(p1:ae):Option ((gR×(List af)) ⊕ (Int×Int)) :=
  (aP (lit ([([105,110,116]:Ω),([98,111,111,108]:Ω)]:List Ω)) p1).bind fun y1=>if y1=true then ((aZ p1).bind fun y2=>if (0≤0∧0<(((y2.1).text).length:Int)) then ((bz ([94]:Ω) (ae.mk y2.2 p1.end_ p1.open_ p1.terms)).bind fun y3=>if y3.1=true then ((cW (ae.mk y3.2 p1.end_ p1.open_ p1.terms)).bind fun y4=>Sum.elim (fun y7=>some (.inl ((gR.mk ((((y2.1).text).getD 0 0).toNat:Int) y7.1),y7.2))) (fun y8=>some (.inr (y8.1,y8.2))) y4) else (some (.inl ((gR.mk ((((y2.1).text).getD 0 0).toNat:Int) []),y3.2)))) else none) else ((aM 4 p1).bind fun y9=>some (.inr (y9.1,y9.2)))
noncomputable def jt(p1:ae):Option ((ax×(List af)) ⊕ (Int×Int)) :=
  (bI p1).bind fun y1=>Sum.elim (fun y4=>(aN (lit ([([58]:Ω)]:List Ω)) (ae.mk y4.2 p1.end_ p1.open_ p1.terms)).bind fun y6=>Sum.elim (fun y9=>(mI (ae.mk y9 p1.end_ p1.open_ p1.terms)).bind fun y11=>Sum.elim (fun y14=>some (.inl ((ax.mk y4.1 (y14.1)),y14.2))) (fun y15=>some (.inr (y15.1,y15.2))) y11) (fun y10=>some (.inr (y10.1,y10.2))) y6) (fun y5=>some (.inr (y5.1,y5.2))) y1
noncomputable def i7(p1:Int)(p2:ae)(l13:List af)(l14:List ax):Option (((List af)×(List ax)) ⊕ (((List ax)×(List af)) ⊕ (Int×Int))) :=
  if (l14.length:Int)=p1 then ((aM 7 (ae.mk l13 p2.end_ p2.open_ p2.terms)).bind fun y16=>some (.inr (.inr (y16.1,y16.2)))) else ((jt (ae.mk l13 p2.end_ p2.open_ p2.terms)).bind fun y17=>Sum.elim (fun y20=>if mK (l14.length+1) 48 then ((bz ([44]:Ω) (ae.mk y20.2 p2.end_ p2.open_ p2.terms)).bind fun y22=>if y22.1=true then (some (.inl (y22.2,(l14++(lit ([(ax.mk ((y20.1).name) ((y20.1).t))]:List ax)))))) else (some (.inr (.inl ((l14++(lit ([(ax.mk ((y20.1).name) ((y20.1).t))]:List ax))),y22.2))))) else none) (fun y21=>some (.inr (.inr (y21.1,y21.2)))) y17)
noncomputable def iV(p1:Int)(p2:ae):Option (((List ax)×(List af)) ⊕ (Int×Int)) :=
  (bD (fun (l13,l14)=>i7 p1 p2 l13 l14) (p2.l,[])).bind (fun z23=>some z23)
noncomputable def ce(p1 p2 p3:Int)(p4:Ω)(p5:ae)(p6:List ab):Option (Int×Int×Int×(Ω)×(List (List an))×Int) :=
  some (p1,p2,p3,p4,[],(IntKind.wrap .i64 (p5.terms+1)))
noncomputable def dI(p1 p2 p3:Int)(p4:Ω)(p5:ae):Option (ab×Int) :=
  some ((ab.mk p1 p2 p3 p4 [] []),(IntKind.wrap .i64 (p5.terms+1)))
noncomputable def cG(p1:ab)(p2:ae):Option (ab×Int) :=
  some (p1,(IntKind.wrap .i64 (p2.terms+1)))
noncomputable def d9(rc_syntax_parser_rank:Int→ae→Option ((ab×(List af)×Int×Int) ⊕ (Int×Int)))(p1:ae):Option ((ab×(List af)×Int×Int) ⊕ (Int×Int)) :=
  (rc_syntax_parser_rank 0 p1).bind fun y1=>Sum.elim (fun y4=>(aN (lit ([([41]:Ω)]:List Ω)) (ae.mk y4.2.1 p1.end_ y4.2.2.1 y4.2.2.2)).bind fun y6=>Sum.elim (fun y9=>some (.inl ((y4.1),y9,y4.2.2.1,y4.2.2.2))) (fun y10=>some (.inr (y10.1,y10.2))) y6) (fun y5=>some (.inr (y5.1,y5.2))) y1
noncomputable def b9(rc_syntax_parser_rank:Int→ae→Option ((ab×(List af)×Int×Int) ⊕ (Int×Int)))(p1:ae):Option ((ab×(List af)×Int×Int) ⊕ (Int×Int)) :=
  if p1.open_=60 then ((aM 6 p1).bind fun y1=>some (.inr (y1.1,y1.2))) else ((aZ (ae.mk p1.l p1.end_ (IntKind.wrap .i64 (p1.open_+1)) p1.terms)).bind fun y2=>(d9 rc_syntax_parser_rank (ae.mk y2.2 p1.end_ (IntKind.wrap .i64 (p1.open_+1)) p1.terms)).bind fun y3=>Sum.elim (fun y6=>some (.inl ((y6.1),y6.2.1,(IntKind.wrap .i64 (y6.2.2.1 - 1)),y6.2.2.2))) (fun y7=>some (.inr (y7.1,y7.2))) y3)
noncomputable def ed(rc_syntax_parser_rank:Int→ae→Option ((ab×(List af)×Int×Int) ⊕ (Int×Int)))(p1:ae):Option ((ab×(List af)×Int×Int) ⊕ (Int×Int)) :=
  (rc_syntax_parser_rank 0 p1).bind fun y1=>Sum.elim (fun y4=>(aN (lit ([([116,104,101,110]:Ω)]:List Ω)) (ae.mk y4.2.1 p1.end_ y4.2.2.1 y4.2.2.2)).bind fun y6=>Sum.elim (fun y9=>(rc_syntax_parser_rank 0 (ae.mk y9 p1.end_ y4.2.2.1 y4.2.2.2)).bind fun y11=>Sum.elim (fun y14=>(aN (lit ([([101,108,115,101]:Ω)]:List Ω)) (ae.mk y14.2.1 p1.end_ y14.2.2.1 y14.2.2.2)).bind fun y16=>Sum.elim (fun y19=>(rc_syntax_parser_rank 0 (ae.mk y19 p1.end_ y14.2.2.1 y14.2.2.2)).bind fun y21=>Sum.elim (fun y22=>(ce 6 0 0 [] (ae.mk y22.2.1 p1.end_ y22.2.2.1 y22.2.2.2) (lit ([(y4.1),(y14.1),(y22.1)]:List ab))).bind fun y24=>some (.inl ((ab.mk y24.1 y24.2.1 y24.2.2.1 y24.2.2.2.1 y24.2.2.2.2.1 (lit ([(y4.1),(y14.1),(y22.1)]:List ab))),y22.2.1,y22.2.2.1,y24.2.2.2.2.2))) (fun y23=>some (.inr (y23.1,y23.2))) y21) (fun y20=>some (.inr (y20.1,y20.2))) y16) (fun y15=>some (.inr (y15.1,y15.2))) y11) (fun y10=>some (.inr (y10.1,y10.2))) y6) (fun y5=>some (.inr (y5.1,y5.2))) y1
noncomputable def ca(rc_syntax_parser_rank:Int→ae→Option ((ab×(List af)×Int×Int) ⊕ (Int×Int)))(p1:ae):Option ((ab×(List af)×Int×Int) ⊕ (Int×Int)) :=
  if p1.open_=60 then ((aM 6 p1).bind fun y1=>some (.inr (y1.1,y1.2))) else ((aZ (ae.mk p1.l p1.end_ (IntKind.wrap .i64 (p1.open_+1)) p1.terms)).bind fun y2=>(ed rc_syntax_parser_rank (ae.mk y2.2 p1.end_ (IntKind.wrap .i64 (p1.open_+1)) p1.terms)).bind fun y3=>Sum.elim (fun y6=>some (.inl ((y6.1),y6.2.1,(IntKind.wrap .i64 (y6.2.2.1 - 1)),y6.2.2.2))) (fun y7=>some (.inr (y7.1,y7.2))) y3)
noncomputable def eu(p1:ae):Option Ω :=
  if (p1.l.length:Int)=0 then (some ([]:Ω)) else (if (0≤0∧0<(p1.l.length:Int)) then (if ¬ ((p1.l.getD 0 default).kind)=1 then (some ([]:Ω)) else (some ((p1.l.getD 0 default).text))) else none)
noncomputable def dL:Option Int :=
  some (-1)
noncomputable def gO(p1:Ω)(p2:List Ω)(x3:Int):Option (Int ⊕ (Unit ⊕ Int)) :=
  if x3<(p2.length:Int) then (if (0≤x3∧x3<(p2.length:Int)) then (if p1=(p2.getD x3.toNat default) then (some (.inr (.inr x3))) else (some (.inl (IntKind.wrap .i64 (x3+1))))) else none) else (some (.inr (.inl ())))
noncomputable def dt(p1:Ω)(p2:List Ω):Option Int :=
  (bD (fun x3=>gO p1 p2 x3) 0).bind (Sum.elim (fun _=>dL) (fun z4=>some z4))
noncomputable def dz(p1:ae):Option ((Int×(List af)) ⊕ (Int×Int)) :=
  (eu p1).bind fun y1=>(dt y1 (lit ([([]:Ω),([97,100,100]:Ω),([115,117,98]:Ω),([109,117,108]:Ω),([100,105,118]:Ω),([109,111,100]:Ω),([109,105,110]:Ω),([109,97,120]:Ω),([108,101,115,115]:Ω),([101,113]:Ω),([97,110,100]:Ω),([111,114]:Ω),([120,111,114]:Ω),([110,101,103]:Ω),([110,111,116]:Ω)]:List Ω))).bind fun y2=>if y2<1 then ((aM 4 p1).bind fun y3=>some (.inr (y3.1,y3.2))) else ((aZ p1).bind fun y4=>some (.inl (y2,y4.2)))
noncomputable def cD(l9:List af)(x10 x11:Int)(l12:List ab):Option (((List ab)×(List af)×Int×Int) ⊕ (Int×Int)) :=
  some (.inl (l12,l9,x10,x11))
noncomputable def dA(rc_syntax_parser_rank:Int→ae→Option ((ab×(List af)×Int×Int) ⊕ (Int×Int)))(p2:ae)(x6:Int)(l30:List af)(x31 x32:Int)(l33:List ab):Option (((List af)×Int×Int×(List ab)) ⊕ (((List af)×Int×Int×(List ab)) ⊕ (((List ab)×(List af)×Int×Int) ⊕ (Int×Int)))) :=
  if (l33.length:Int)<x6 then ((aN (lit ([([44]:Ω)]:List Ω)) (ae.mk l30 p2.end_ x31 x32)).bind fun y35=>Sum.elim (fun y38=>(rc_syntax_parser_rank 0 (ae.mk y38 p2.end_ x31 x32)).bind fun y40=>Sum.elim (fun y43=>if mK (l33.length+1) 88 then (some (.inl (y43.2.1,y43.2.2.1,y43.2.2.2,(l33++(lit ([(y43.1)]:List ab)))))) else none) (fun y44=>some (.inr (.inr (.inr (y44.1,y44.2))))) y40) (fun y39=>some (.inr (.inr (.inr (y39.1,y39.2))))) y35) else (some (.inr (.inl (l30,x31,x32,l33))))
noncomputable def bN(rc_syntax_parser_rank:Int→ae→Option ((ab×(List af)×Int×Int) ⊕ (Int×Int)))(p2:ae)(y4:(ab×(List af)×Int×Int))(x6:Int):Option (((List ab)×(List af)×Int×Int) ⊕ (Int×Int)) :=
  (bD (fun (l30,x31,x32,l33)=>dA rc_syntax_parser_rank p2 x6 l30 x31 x32 l33) (y4.2.1,y4.2.2.1,y4.2.2.2,(lit ([(y4.1)]:List ab)))).bind (Sum.elim (fun (z45,z46,z47,z48)=>cD z45 z46 z47 z48) (fun z49=>some z49))
noncomputable def eF(rc_syntax_parser_rank:Int→ae→Option ((ab×(List af)×Int×Int) ⊕ (Int×Int)))(p1:Int)(p2:ae):Option (((List ab)×(List af)×Int×Int) ⊕ (Int×Int)) :=
  (rc_syntax_parser_rank 0 p2).bind fun y1=>Sum.elim (fun y4=>if (((10,1):Int×Int) :: ([]:List (Int×Int))).length<1000000 then (if (((13,1):Int×Int) :: (((10,1):Int×Int) :: ([]:List (Int×Int)))).length<1000000 then (if (((7,1):Int×Int) :: (((13,1):Int×Int) :: (((10,1):Int×Int) :: ([]:List (Int×Int))))).length<1000000 then (if (-9223372036854775808≤p1∧p1≤9223372036854775807) then (if ((vC (((12,3):Int×Int) :: (((7,1):Int×Int) :: (((13,1):Int×Int) :: (((10,1):Int×Int) :: ([]:List (Int×Int)))))) p1).getD 0)=0 then (bN rc_syntax_parser_rank p2 y4 2) else (if p1=7 then ((aP (lit ([([44]:Ω)]:List Ω)) (ae.mk y4.2.1 p2.end_ y4.2.2.1 y4.2.2.2)).bind fun y50=>if y50=true then (bN rc_syntax_parser_rank p2 y4 2) else (bN rc_syntax_parser_rank p2 y4 ((vC (((12,3):Int×Int) :: (((7,1):Int×Int) :: (((13,1):Int×Int) :: (((10,1):Int×Int) :: ([]:List (Int×Int)))))) p1).getD 0))) else (bN rc_syntax_parser_rank p2 y4 ((vC (((12,3):Int×Int) :: (((7,1):Int×Int) :: (((13,1):Int×Int) :: (((10,1):Int×Int) :: ([]:List (Int×Int)))))) p1).getD 0)))) else none) else none) else none) else none) (fun y5=>some (.inr (y5.1,y5.2))) y1
noncomputable def ee(p1 p2 p3:Int)(p4:Ω)(p5:List ab)(p6:ae)(p7:List (List an)):Option (Int×Int×Int×(Ω)×(List ab)×Int) :=
  some (p1,p2,p3,p4,p5,(IntKind.wrap .i64 (p6.terms+1)))
noncomputable def cj(p2 p4:Int)(p5:Ω)(p7:ae)(x6:Int)(y11:((List ab)×(List af)×Int×Int))(l15:List af)(l16:List (List an)):Option ((Int×Int×Int×(Ω)×(List ab)×Int×(List ab)×(List af)×Int×Int×(List (List an))) ⊕ (Int×Int)) :=
  (aN (lit ([([41]:Ω)]:List Ω)) (ae.mk l15 p7.end_ y11.2.2.1 y11.2.2.2)).bind fun y18=>Sum.elim (fun y21=>(ee p2 x6 p4 p5 y11.1 (ae.mk y21 p7.end_ y11.2.2.1 y11.2.2.2) l16).bind fun y23=>some (.inl (y23.1,y23.2.1,y23.2.2.1,y23.2.2.2.1,y23.2.2.2.2.1,x6,y11.1,y21,y11.2.2.1,y23.2.2.2.2.2,l16))) (fun y22=>some (.inr (y22.1,y22.2))) y18
noncomputable def di(p1:Int)(p7:ae)(y11:((List ab)×(List af)×Int×Int))(l38:List af)(l39:List (List an))(x41:Int):Option (((List af)×(List (List an))×Int) ⊕ (((List af)×(List (List an))) ⊕ ((Int×Int×Int×(Ω)×(List ab)×Int×(List ab)×(List af)×Int×Int×(List (List an))) ⊕ (Int×Int)))) :=
  if x41<((vC (((13,2):Int×Int) :: (((10,1):Int×Int) :: ([]:List (Int×Int)))) p1).getD 0) then ((aN (lit ([([44]:Ω)]:List Ω)) (ae.mk l38 p7.end_ y11.2.2.1 y11.2.2.2)).bind fun y42=>Sum.elim (fun y45=>(cW (ae.mk y45 p7.end_ y11.2.2.1 y11.2.2.2)).bind fun y47=>Sum.elim (fun y48=>if mK (l39.length+1) 24 then (some (.inl (y48.2,(l39++(lit ([y48.1]:List (List an)))),(IntKind.wrap .i64 (x41+1))))) else none) (fun y49=>some (.inr (.inr (.inr (y49.1,y49.2))))) y47) (fun y46=>some (.inr (.inr (.inr (y46.1,y46.2))))) y42) else (some (.inr (.inl (l38,l39))))
noncomputable def bU(rc_syntax_parser_rank:Int→ae→Option ((ab×(List af)×Int×Int) ⊕ (Int×Int)))(p1 p2 p4:Int)(p5:Ω)(p7:ae)(p8:List (List an))(x6:Int)(l7:List af):Option ((Int×Int×Int×(Ω)×(List ab)×Int×(List ab)×(List af)×Int×Int×(List (List an))) ⊕ (Int×Int)) :=
  (eF rc_syntax_parser_rank p1 (ae.mk l7 p7.end_ p7.open_ p7.terms)).bind fun y8=>Sum.elim (fun y11=>if (((10,1):Int×Int) :: ([]:List (Int×Int))).length<1000000 then (if (-9223372036854775808≤p1∧p1≤9223372036854775807) then ((bD (fun (l38,l39,x41)=>di p1 p7 y11 l38 l39 x41) (y11.2.1,p8,0)).bind (Sum.elim (fun (z50,z51)=>cj p2 p4 p5 p7 x6 y11 z50 z51) (fun z52=>some z52))) else none) else none) (fun y12=>some (.inr (y12.1,y12.2))) y8
noncomputable def ef(rc_syntax_parser_rank:Int→ae→Option ((ab×(List af)×Int×Int) ⊕ (Int×Int)))(p1 p2 p3 p4:Int)(p5:Ω)(p6:List ab)(p7:ae)(p8:List (List an)):Option ((Int×Int×Int×(Ω)×(List ab)×Int×(List ab)×(List af)×Int×Int×(List (List an))) ⊕ (Int×Int)) :=
  (aN (lit ([([40]:Ω)]:List Ω)) p7).bind fun y1=>Sum.elim (fun y4=>if p1≤9 then (if p1≥7 then ((dz (ae.mk y4 p7.end_ p7.open_ p7.terms)).bind fun y53=>Sum.elim (fun y56=>(aN (lit ([([44]:Ω)]:List Ω)) (ae.mk y56.2 p7.end_ p7.open_ p7.terms)).bind fun y58=>Sum.elim (fun y61=>bU rc_syntax_parser_rank p1 p2 p4 p5 p7 p8 y56.1 y61) (fun y62=>some (.inr (y62.1,y62.2))) y58) (fun y57=>some (.inr (y57.1,y57.2))) y53) else (bU rc_syntax_parser_rank p1 p2 p4 p5 p7 p8 p3 y4)) else (bU rc_syntax_parser_rank p1 p2 p4 p5 p7 p8 p3 y4)) (fun y5=>some (.inr (y5.1,y5.2))) y1
noncomputable def dj(rc_syntax_parser_rank:Int→ae→Option ((ab×(List af)×Int×Int) ⊕ (Int×Int)))(p1:ae)(p2 p3 p4 p5:Int)(p6:Ω)(p7:List ab)(p8:List (List an)):Option ((Int×Int×Int×(Ω)×(List ab)×(List af)×Int×Int×Int×(List ab)×(List (List an))) ⊕ (Int×Int)) :=
  if p1.open_=60 then ((aM 6 p1).bind fun y1=>some (.inr (y1.1,y1.2))) else ((aZ (ae.mk p1.l p1.end_ (IntKind.wrap .i64 (p1.open_+1)) p1.terms)).bind fun y2=>(ef rc_syntax_parser_rank p2 p3 p4 p5 p6 p7 (ae.mk y2.2 p1.end_ (IntKind.wrap .i64 (p1.open_+1)) p1.terms) p8).bind fun y3=>Sum.elim (fun y6=>some (.inl (y6.1,y6.2.1,y6.2.2.1,y6.2.2.2.1,y6.2.2.2.2.1,y6.2.2.2.2.2.2.2.1,(IntKind.wrap .i64 (y6.2.2.2.2.2.2.2.2.1 - 1)),y6.2.2.2.2.2.2.2.2.2.1,y6.2.2.2.2.2.1,y6.2.2.2.2.2.2.1,y6.2.2.2.2.2.2.2.2.2.2))) (fun y7=>some (.inr (y7.1,y7.2))) y3)
noncomputable def cw(rc_syntax_parser_rank:Int→ae→Option ((ab×(List af)×Int×Int) ⊕ (Int×Int)))(p1:ae)(y2 x4:Int):Option ((ab×(List af)×Int×Int) ⊕ (Int×Int)) :=
  (dj rc_syntax_parser_rank p1 ((lit ([7,8,9,10,12,13,14,15,5,5]:List Int)).getD y2.toNat default) ((lit ([7,8,9,10,12,13,14,15,5,5]:List Int)).getD y2.toNat default) x4 0 [] [] []).bind fun y5=>Sum.elim (fun y8=>some (.inl ((ab.mk y8.1 y8.2.1 y8.2.2.1 y8.2.2.2.1 y8.2.2.2.2.2.2.2.2.2.2 y8.2.2.2.2.1),y8.2.2.2.2.2.1,y8.2.2.2.2.2.2.1,y8.2.2.2.2.2.2.2.1))) (fun y9=>some (.inr (y9.1,y9.2))) y5
noncomputable def fb(rc_syntax_parser_rank:Int→ae→Option ((ab×(List af)×Int×Int) ⊕ (Int×Int)))(p1:ae):Option ((ab×(List af)×Int×Int) ⊕ (Int×Int)) :=
  (eu p1).bind fun y1=>(dt y1 (lit ([([109,97,112]:Ω),([102,111,108,100]:Ω),([115,99,97,110]:Ω),([102,105,108,108]:Ω),([119,105,116,104]:Ω),([115,108,105,99,101]:Ω),([99,97,116]:Ω),([112,114,101]:Ω),([109,105,110]:Ω),([109,97,120]:Ω)]:List Ω))).bind fun y2=>if y2<0 then ((aM 4 p1).bind fun y3=>some (.inr (y3.1,y3.2))) else (if (0≤y2∧y2<(10:Int)) then (if y2=8 then (cw rc_syntax_parser_rank p1 y2 6) else (if y2=9 then (cw rc_syntax_parser_rank p1 y2 7) else (cw rc_syntax_parser_rank p1 y2 0))) else none)
noncomputable def bW(rc_syntax_parser_rank:Int→ae→Option ((ab×(List af)×Int×Int) ⊕ (Int×Int)))(p1:ae):Option ((ab×(List af)×Int×Int) ⊕ (Int×Int)) :=
  (fb rc_syntax_parser_rank p1).bind fun y1=>Sum.elim (fun y4=>some (.inl ((y4.1),y4.2.1,y4.2.2.1,y4.2.2.2))) (fun y5=>some (.inr (y5.1,y5.2))) y1
noncomputable def cJ(p1:ae)(l13:List af)(x14:Int):Option ((ab×(List af)×Int×Int) ⊕ (Int×Int)) :=
  (cG (ab.mk 2 0 x14 [] [] []) (ae.mk l13 p1.end_ p1.open_ p1.terms)).bind fun y15=>some (.inl ((y15.1),l13,p1.open_,y15.2))
noncomputable def cK(p1:ae)(l30:List af)(x31:Int):Option ((ab×(List af)×Int×Int) ⊕ (Int×Int)) :=
  (cG (ab.mk 2 0 x31 [] [] []) (ae.mk l30 p1.end_ p1.open_ p1.terms)).bind fun y32=>some (.inl ((y32.1),l30,p1.open_,y32.2))
noncomputable def cL(p1:ae)(l51:List af)(x52:Int):Option ((ab×(List af)×Int×Int) ⊕ (Int×Int)) :=
  (cG (ab.mk 2 0 x52 [] [] []) (ae.mk l51 p1.end_ p1.open_ p1.terms)).bind fun y53=>some (.inl ((y53.1),l51,p1.open_,y53.2))
noncomputable def cM(p1:ae)(l68:List af)(x69:Int):Option ((ab×(List af)×Int×Int) ⊕ (Int×Int)) :=
  (cG (ab.mk 2 0 x69 [] [] []) (ae.mk l68 p1.end_ p1.open_ p1.terms)).bind fun y70=>some (.inl ((y70.1),l68,p1.open_,y70.2))
noncomputable def fc(rc_syntax_parser_rank:Int→ae→Option ((ab×(List af)×Int×Int) ⊕ (Int×Int)))(p1:ae):Option ((ab×(List af)×Int×Int) ⊕ (Int×Int)) :=
  if (p1.l.length:Int)>0 then (if (0≤0∧0<(p1.l.length:Int)) then (if ((p1.l.getD 0 default).kind)=3 then ((aZ p1).bind fun y6=>(dI 1 0 ((y6.1).n) [] (ae.mk y6.2 p1.end_ p1.open_ p1.terms)).bind fun y7=>some (.inl ((y7.1),y6.2,p1.open_,y7.2))) else (if (p1.l.length:Int)>0 then (if ((p1.l.getD 0 default).kind)=2 then ((bI p1).bind fun y8=>Sum.elim (fun y9=>(dI 3 0 0 y9.1 (ae.mk y9.2 p1.end_ p1.open_ p1.terms)).bind fun y11=>some (.inl ((y11.1),y9.2,p1.open_,y11.2))) (fun y10=>some (.inr (y10.1,y10.2))) y8) else ((aP (lit ([([116,114,117,101]:Ω),([102,97,108,115,101]:Ω)]:List Ω)) p1).bind fun y12=>if y12=true then ((aZ p1).bind fun y16=>if ((y16.1).text)=([116,114,117,101]:Ω) then (cJ p1 y16.2 1) else (cJ p1 y16.2 0)) else ((aP (lit ([([40]:Ω)]:List Ω)) p1).bind fun y17=>if y17=true then ((b9 rc_syntax_parser_rank p1).bind fun y18=>Sum.elim (fun y21=>some (.inl ((y21.1),y21.2.1,y21.2.2.1,y21.2.2.2))) (fun y22=>some (.inr (y22.1,y22.2))) y18) else ((aP (lit ([([105,102]:Ω)]:List Ω)) p1).bind fun y23=>if y23=true then ((ca rc_syntax_parser_rank p1).bind fun y24=>Sum.elim (fun y27=>some (.inl ((y27.1),y27.2.1,y27.2.2.1,y27.2.2.2))) (fun y28=>some (.inr (y28.1,y28.2))) y24) else (bW rc_syntax_parser_rank p1))))) else ((aP (lit ([([116,114,117,101]:Ω),([102,97,108,115,101]:Ω)]:List Ω)) p1).bind fun y29=>if y29=true then ((aZ p1).bind fun y33=>if ((y33.1).text)=([116,114,117,101]:Ω) then (cK p1 y33.2 1) else (cK p1 y33.2 0)) else ((aP (lit ([([40]:Ω)]:List Ω)) p1).bind fun y34=>if y34=true then ((b9 rc_syntax_parser_rank p1).bind fun y35=>Sum.elim (fun y38=>some (.inl ((y38.1),y38.2.1,y38.2.2.1,y38.2.2.2))) (fun y39=>some (.inr (y39.1,y39.2))) y35) else ((aP (lit ([([105,102]:Ω)]:List Ω)) p1).bind fun y40=>if y40=true then ((ca rc_syntax_parser_rank p1).bind fun y41=>Sum.elim (fun y44=>some (.inl ((y44.1),y44.2.1,y44.2.2.1,y44.2.2.2))) (fun y45=>some (.inr (y45.1,y45.2))) y41) else (bW rc_syntax_parser_rank p1)))))) else none) else (if (p1.l.length:Int)>0 then (if (0≤0∧0<(p1.l.length:Int)) then (if ((p1.l.getD 0 default).kind)=2 then ((bI p1).bind fun y46=>Sum.elim (fun y47=>(dI 3 0 0 y47.1 (ae.mk y47.2 p1.end_ p1.open_ p1.terms)).bind fun y49=>some (.inl ((y49.1),y47.2,p1.open_,y49.2))) (fun y48=>some (.inr (y48.1,y48.2))) y46) else ((aP (lit ([([116,114,117,101]:Ω),([102,97,108,115,101]:Ω)]:List Ω)) p1).bind fun y50=>if y50=true then ((aZ p1).bind fun y54=>if ((y54.1).text)=([116,114,117,101]:Ω) then (cL p1 y54.2 1) else (cL p1 y54.2 0)) else ((aP (lit ([([40]:Ω)]:List Ω)) p1).bind fun y55=>if y55=true then ((b9 rc_syntax_parser_rank p1).bind fun y56=>Sum.elim (fun y59=>some (.inl ((y59.1),y59.2.1,y59.2.2.1,y59.2.2.2))) (fun y60=>some (.inr (y60.1,y60.2))) y56) else ((aP (lit ([([105,102]:Ω)]:List Ω)) p1).bind fun y61=>if y61=true then ((ca rc_syntax_parser_rank p1).bind fun y62=>Sum.elim (fun y65=>some (.inl ((y65.1),y65.2.1,y65.2.2.1,y65.2.2.2))) (fun y66=>some (.inr (y66.1,y66.2))) y62) else (bW rc_syntax_parser_rank p1))))) else none) else ((aP (lit ([([116,114,117,101]:Ω),([102,97,108,115,101]:Ω)]:List Ω)) p1).bind fun y67=>if y67=true then ((aZ p1).bind fun y71=>if ((y71.1).text)=([116,114,117,101]:Ω) then (cM p1 y71.2 1) else (cM p1 y71.2 0)) else ((aP (lit ([([40]:Ω)]:List Ω)) p1).bind fun y72=>if y72=true then ((b9 rc_syntax_parser_rank p1).bind fun y73=>Sum.elim (fun y76=>some (.inl ((y76.1),y76.2.1,y76.2.2.1,y76.2.2.2))) (fun y77=>some (.inr (y77.1,y77.2))) y73) else ((aP (lit ([([105,102]:Ω)]:List Ω)) p1).bind fun y78=>if y78=true then ((ca rc_syntax_parser_rank p1).bind fun y79=>Sum.elim (fun y82=>some (.inl ((y82.1),y82.2.1,y82.2.2.1,y82.2.2.2))) (fun y83=>some (.inr (y83.1,y83.2))) y79) else (bW rc_syntax_parser_rank p1)))))
noncomputable def dR(rc_syntax_parser_rank:Int→ae→Option ((ab×(List af)×Int×Int) ⊕ (Int×Int)))(p1:ab)(p2:ae):Option ((ab×(List af)×Int×Int) ⊕ (Int×Int)) :=
  (rc_syntax_parser_rank 0 p2).bind fun y1=>Sum.elim (fun y4=>(aN (lit ([([58]:Ω)]:List Ω)) (ae.mk y4.2.1 p2.end_ y4.2.2.1 y4.2.2.2)).bind fun y6=>Sum.elim (fun y9=>(rc_syntax_parser_rank 0 (ae.mk y9 p2.end_ y4.2.2.1 y4.2.2.2)).bind fun y11=>Sum.elim (fun y12=>(ce 11 0 0 [] (ae.mk y12.2.1 p2.end_ y12.2.2.1 y12.2.2.2) (lit ([p1,(y4.1),(y12.1)]:List ab))).bind fun y14=>(aN (lit ([([93]:Ω)]:List Ω)) (ae.mk y12.2.1 p2.end_ y12.2.2.1 y14.2.2.2.2.2)).bind fun y15=>Sum.elim (fun y18=>some (.inl ((ab.mk y14.1 y14.2.1 y14.2.2.1 y14.2.2.2.1 y14.2.2.2.2.1 (lit ([p1,(y4.1),(y12.1)]:List ab))),y18,y12.2.2.1,y14.2.2.2.2.2))) (fun y19=>some (.inr (y19.1,y19.2))) y15) (fun y13=>some (.inr (y13.1,y13.2))) y11) (fun y10=>some (.inr (y10.1,y10.2))) y6) (fun y5=>some (.inr (y5.1,y5.2))) y1
noncomputable def dk(rc_syntax_parser_rank:Int→ae→Option ((ab×(List af)×Int×Int) ⊕ (Int×Int)))(p1:ae)(p2:ab):Option ((ab×(List af)×Int×Int) ⊕ (Int×Int)) :=
  if p1.open_=60 then ((aM 6 p1).bind fun y1=>some (.inr (y1.1,y1.2))) else ((aZ (ae.mk p1.l p1.end_ (IntKind.wrap .i64 (p1.open_+1)) p1.terms)).bind fun y2=>(dR rc_syntax_parser_rank p2 (ae.mk y2.2 p1.end_ (IntKind.wrap .i64 (p1.open_+1)) p1.terms)).bind fun y3=>Sum.elim (fun y6=>some (.inl ((y6.1),y6.2.1,(IntKind.wrap .i64 (y6.2.2.1 - 1)),y6.2.2.2))) (fun y7=>some (.inr (y7.1,y7.2))) y3)
noncomputable def dl(rc_syntax_parser_ahead:ae→Option ((ab×(List af)×Int×Int) ⊕ (Int×Int)))(p1:Int)(p2:ae):Option ((ab×(List af)×Int×Int) ⊕ (Int×Int)) :=
  (rc_syntax_parser_ahead p2).bind fun y1=>Sum.elim (fun y2=>(ce 4 p1 0 [] (ae.mk y2.2.1 p2.end_ y2.2.2.1 y2.2.2.2) (lit ([(y2.1)]:List ab))).bind fun y4=>some (.inl ((ab.mk y4.1 y4.2.1 y4.2.2.1 y4.2.2.2.1 y4.2.2.2.2.1 (lit ([(y2.1)]:List ab))),y2.2.1,y2.2.2.1,y4.2.2.2.2.2))) (fun y3=>some (.inr (y3.1,y3.2))) y1
noncomputable def dB(rc_syntax_parser_ahead:ae→Option ((ab×(List af)×Int×Int) ⊕ (Int×Int)))(p1:ae)(p2:Int):Option ((ab×(List af)×Int×Int) ⊕ (Int×Int)) :=
  if p1.open_=60 then ((aM 6 p1).bind fun y1=>some (.inr (y1.1,y1.2))) else ((aZ (ae.mk p1.l p1.end_ (IntKind.wrap .i64 (p1.open_+1)) p1.terms)).bind fun y2=>(dl rc_syntax_parser_ahead p2 (ae.mk y2.2 p1.end_ (IntKind.wrap .i64 (p1.open_+1)) p1.terms)).bind fun y3=>Sum.elim (fun y6=>some (.inl ((y6.1),y6.2.1,(IntKind.wrap .i64 (y6.2.2.1 - 1)),y6.2.2.2))) (fun y7=>some (.inr (y7.1,y7.2))) y3)
noncomputable def cE(rcf:ae→Option ((ab×(List af)×Int×Int) ⊕ (Int×Int)))(p1:ae)(x2:Int):Option ((ab×(List af)×Int×Int) ⊕ (Int×Int)) :=
  (dB rcf p1 x2).bind fun y3=>Sum.elim (fun y6=>some (.inl ((y6.1),y6.2.1,y6.2.2.1,y6.2.2.2))) (fun y7=>some (.inr (y7.1,y7.2))) y3
noncomputable def cF(l14:List af)(x15 x16 x17 x18 x19:Int)(s20:Ω)(l21:List (List an))(l22:List ab):Option ((ab×(List af)×Int×Int) ⊕ (Int×Int)) :=
  some (.inl ((ab.mk x17 x18 x19 s20 l21 l22),l14,x15,x16))
noncomputable def dC(rc_syntax_parser_rank:Int→ae→Option ((ab×(List af)×Int×Int) ⊕ (Int×Int)))(p1:ae)(l41:List af)(x42 x43 x44 x45 x46:Int)(s47:Ω)(l48:List (List an))(l49:List ab):Option (((List af)×Int×Int×Int×Int×Int×(Ω)×(List (List an))×(List ab)) ⊕ (((List af)×Int×Int×Int×Int×Int×(Ω)×(List (List an))×(List ab)) ⊕ ((ab×(List af)×Int×Int) ⊕ (Int×Int)))) :=
  (aP (lit ([([91]:Ω)]:List Ω)) (ae.mk l41 p1.end_ x42 x43)).bind fun y50=>if y50=true then ((dk rc_syntax_parser_rank (ae.mk l41 p1.end_ x42 x43) (ab.mk x44 x45 x46 s47 l48 l49)).bind fun y51=>Sum.elim (fun y54=>some (.inl (y54.2.1,y54.2.2.1,y54.2.2.2,(y54.1).op,(y54.1).k,(y54.1).n,(y54.1).name,(y54.1).s,(y54.1).l))) (fun y55=>some (.inr (.inr (.inr (y55.1,y55.2))))) y51) else (some (.inr (.inl (l41,x42,x43,x44,x45,x46,s47,l48,l49))))
noncomputable def dg(rc_syntax_parser_rank:Int→ae→Option ((ab×(List af)×Int×Int) ⊕ (Int×Int)))(rcf:ae→Option ((ab×(List af)×Int×Int) ⊕ (Int×Int)))(p1:ae):Option ((ab×(List af)×Int×Int) ⊕ (Int×Int)) :=
  (aP (lit ([([45]:Ω),([110,111,116]:Ω)]:List Ω)) p1).bind fun y1=>if y1=true then ((aP (lit ([([110,111,116]:Ω)]:List Ω)) p1).bind fun y8=>if y8=true then (cE rcf p1 14) else (cE rcf p1 13)) else ((fc rc_syntax_parser_rank p1).bind fun y9=>Sum.elim (fun y12=>(bD (fun (l41,x42,x43,x44,x45,x46,s47,l48,l49)=>dC rc_syntax_parser_rank p1 l41 x42 x43 x44 x45 x46 s47 l48 l49) (y12.2.1,y12.2.2.1,y12.2.2.2,(y12.1).op,(y12.1).k,(y12.1).n,(y12.1).name,(y12.1).s,(y12.1).l)).bind (Sum.elim (fun (z56,z57,z58,z59,z60,z61,z62,z63,z64)=>cF z56 z57 z58 z59 z60 z61 z62 z63 z64) (fun z65=>some z65))) (fun y13=>some (.inr (y13.1,y13.2))) y9)
noncomputable def dS(rc_syntax_parser_rank:Int→ae→Option ((ab×(List af)×Int×Int) ⊕ (Int×Int))):Nat→ae→Option ((ab×(List af)×Int×Int) ⊕ (Int×Int))
  |0=>fun _=>none
  |n+1=>dg rc_syntax_parser_rank (dS rc_syntax_parser_rank n)
noncomputable def cz(fuel:Nat)(rc_syntax_parser_rank:Int→ae→Option ((ab×(List af)×Int×Int) ⊕ (Int×Int)))(p1:ae):Option ((ab×(List af)×Int×Int) ⊕ (Int×Int)):=dS rc_syntax_parser_rank fuel p1
noncomputable def cy(p1:Int)(p2:ae):Option Int :=
  if (0≤p1∧p1<(5:Int)) then ((aP ((lit ([(lit ([([111,114]:Ω),([120,111,114]:Ω)]:List Ω)),(lit ([([97,110,100]:Ω)]:List Ω)),(lit ([([60]:Ω),([61,61]:Ω)]:List Ω)),(lit ([([43]:Ω),([45]:Ω)]:List Ω)),(lit ([([42]:Ω),([47]:Ω),([37]:Ω)]:List Ω))]:List (List Ω))).getD p1.toNat default) p2).bind fun y1=>if y1=true then (if (0≤0∧0<(p2.l.length:Int)) then ((cV ((lit ([(lit ([([111,114]:Ω),([120,111,114]:Ω)]:List Ω)),(lit ([([97,110,100]:Ω)]:List Ω)),(lit ([([60]:Ω),([61,61]:Ω)]:List Ω)),(lit ([([43]:Ω),([45]:Ω)]:List Ω)),(lit ([([42]:Ω),([47]:Ω),([37]:Ω)]:List Ω))]:List (List Ω))).getD p1.toNat default) ((p2.l.getD 0 default).text)).bind fun y2=>if (0≤y2∧y2<(((lit ([(lit ([11,12]:List Int)),(lit ([10]:List Int)),(lit ([8,9]:List Int)),(lit ([1,2]:List Int)),(lit ([3,4,5]:List Int))]:List (List Int))).getD p1.toNat default).length:Int)) then (some (((lit ([(lit ([11,12]:List Int)),(lit ([10]:List Int)),(lit ([8,9]:List Int)),(lit ([1,2]:List Int)),(lit ([3,4,5]:List Int))]:List (List Int))).getD p1.toNat default).getD y2.toNat default)) else none) else none) else (some 0)) else none
noncomputable def dU(l11:List af)(x12 x13 x14 x15 x16:Int)(s17:Ω)(l18:List (List an))(l19:List ab):Option ((ab×(List af)×Int×Int) ⊕ (Int×Int)) :=
  some (.inl ((ab.mk x14 x15 x16 s17 l18 l19),l11,x12,x13))
noncomputable def gS(rcf:Int→ae→Option ((ab×(List af)×Int×Int) ⊕ (Int×Int)))(p1:Int)(p2:ae)(l41:List af)(x42 x43 x44 x45 x46:Int)(s47:Ω)(l48:List (List an))(l49:List ab)(x50:Int):Option (((List af)×Int×Int×Int×Int×Int×(Ω)×(List (List an))×(List ab)×Int) ⊕ (((List af)×Int×Int×Int×Int×Int×(Ω)×(List (List an))×(List ab)) ⊕ ((ab×(List af)×Int×Int) ⊕ (Int×Int)))) :=
  if ¬ x50=0 then ((aZ (ae.mk l41 p2.end_ x42 x43)).bind fun y51=>(rcf (IntKind.wrap .i64 (p1+1)) (ae.mk y51.2 p2.end_ x42 x43)).bind fun y52=>Sum.elim (fun y53=>(ce 5 x50 0 [] (ae.mk y53.2.1 p2.end_ y53.2.2.1 y53.2.2.2) (lit ([(ab.mk x44 x45 x46 s47 l48 l49),(y53.1)]:List ab))).bind fun y55=>if p1=2 then (some (.inr (.inl (y53.2.1,y53.2.2.1,y55.2.2.2.2.2,y55.1,y55.2.1,y55.2.2.1,y55.2.2.2.1,y55.2.2.2.2.1,(lit ([(ab.mk x44 x45 x46 s47 l48 l49),(y53.1)]:List ab)))))) else ((cy p1 (ae.mk y53.2.1 p2.end_ y53.2.2.1 y55.2.2.2.2.2)).bind fun y56=>some (.inl (y53.2.1,y53.2.2.1,y55.2.2.2.2.2,y55.1,y55.2.1,y55.2.2.1,y55.2.2.2.1,y55.2.2.2.2.1,(lit ([(ab.mk x44 x45 x46 s47 l48 l49),(y53.1)]:List ab)),y56)))) (fun y54=>some (.inr (.inr (.inr (y54.1,y54.2))))) y52) else (some (.inr (.inl (l41,x42,x43,x44,x45,x46,s47,l48,l49))))
noncomputable def fd(fuel:Nat)(rcf:Int→ae→Option ((ab×(List af)×Int×Int) ⊕ (Int×Int)))(p1:Int)(p2:ae):Option ((ab×(List af)×Int×Int) ⊕ (Int×Int)) :=
  if p1=5 then ((cz fuel rcf p2).bind fun y1=>Sum.elim (fun y4=>some (.inl ((y4.1),y4.2.1,y4.2.2.1,y4.2.2.2))) (fun y5=>some (.inr (y5.1,y5.2))) y1) else ((rcf (IntKind.wrap .i64 (p1+1)) p2).bind fun y6=>Sum.elim (fun y9=>(cy p1 (ae.mk y9.2.1 p2.end_ y9.2.2.1 y9.2.2.2)).bind fun y20=>(bD (fun (l41,x42,x43,x44,x45,x46,s47,l48,l49,x50)=>gS rcf p1 p2 l41 x42 x43 x44 x45 x46 s47 l48 l49 x50) (y9.2.1,y9.2.2.1,y9.2.2.2,(y9.1).op,(y9.1).k,(y9.1).n,(y9.1).name,(y9.1).s,(y9.1).l,y20)).bind (Sum.elim (fun (z57,z58,z59,z60,z61,z62,z63,z64,z65)=>dU z57 z58 z59 z60 z61 z62 z63 z64 z65) (fun z66=>some z66))) (fun y10=>some (.inr (y10.1,y10.2))) y6)
noncomputable def aD(fuel:Nat):Nat→Int→ae→Option ((ab×(List af)×Int×Int) ⊕ (Int×Int))
  |0=>fun _ _=>none
  |n+1=>fd fuel (aD fuel n)
noncomputable def nS(fuel:Nat)(p1:Int)(p2:ae):Option ((ab×(List af)×Int×Int) ⊕ (Int×Int)):=aD fuel fuel p1 p2
noncomputable def fG(fuel:Nat)(p1:ae)(x1:Int):Option ((ab×(List af)×Int×Int) ⊕ (Int×Int)) :=
  (nS fuel 0 (ae.mk p1.l p1.end_ p1.open_ 0)).bind fun y2=>Sum.elim (fun y5=>if y5.2.2.2>30 then (some (.inr (7,x1))) else (some (.inl ((y5.1),y5.2.1,y5.2.2.1,y5.2.2.2)))) (fun y6=>some (.inr (y6.1,y6.2))) y2
noncomputable def gX(fuel:Nat)(p1:ae):Option ((ab×(List af)×Int×Int) ⊕ (Int×Int)) :=
  if (p1.l.length:Int)>0 then (if (0≤0∧0<(p1.l.length:Int)) then (fG fuel p1 ((p1.l.getD 0 default).at_)) else none) else (fG fuel p1 p1.end_)
noncomputable def i8(p1:Int)(p2:ae)(l13:List af)(l14:List (List an)):Option (((List af)×(List (List an))) ⊕ (((List (List an))×(List af)) ⊕ (Int×Int))) :=
  if (l14.length:Int)=p1 then ((aM 7 (ae.mk l13 p2.end_ p2.open_ p2.terms)).bind fun y16=>some (.inr (.inr (y16.1,y16.2)))) else ((cW (ae.mk l13 p2.end_ p2.open_ p2.terms)).bind fun y17=>Sum.elim (fun y20=>if mK (l14.length+1) 24 then ((bz ([44]:Ω) (ae.mk y20.2 p2.end_ p2.open_ p2.terms)).bind fun y22=>if y22.1=true then (some (.inl (y22.2,(l14++(lit ([y20.1]:List (List an))))))) else (some (.inr (.inl ((l14++(lit ([y20.1]:List (List an)))),y22.2))))) else none) (fun y21=>some (.inr (.inr (y21.1,y21.2)))) y17)
noncomputable def kI(p1:Int)(p2:ae):Option (((List (List an))×(List af)) ⊕ (Int×Int)) :=
  (bD (fun (l13,l14)=>i8 p1 p2 l13 l14) (p2.l,[])).bind (fun z23=>some z23)
noncomputable def ja(fuel:Nat)(p1:Int)(p2:ae)(l17:List af)(x18 x19:Int)(l20:List ab):Option (((List af)×Int×Int×(List ab)) ⊕ (((List ab)×(List af)×Int×Int) ⊕ (Int×Int))) :=
  if (l20.length:Int)=p1 then ((aM 7 (ae.mk l17 p2.end_ x18 x19)).bind fun y22=>some (.inr (.inr (y22.1,y22.2)))) else ((gX fuel (ae.mk l17 p2.end_ x18 x19)).bind fun y23=>Sum.elim (fun y26=>if mK (l20.length+1) 88 then ((bz ([44]:Ω) (ae.mk y26.2.1 p2.end_ y26.2.2.1 y26.2.2.2)).bind fun y28=>if y28.1=true then (some (.inl (y28.2,y26.2.2.1,y26.2.2.2,(l20++(lit ([(y26.1)]:List ab)))))) else (some (.inr (.inl ((l20++(lit ([(y26.1)]:List ab))),y28.2,y26.2.2.1,y26.2.2.2))))) else none) (fun y27=>some (.inr (.inr (y27.1,y27.2)))) y23)
noncomputable def kJ(fuel:Nat)(p1:Int)(p2:ae):Option (((List ab)×(List af)×Int×Int) ⊕ (Int×Int)) :=
  (bD (fun (l17,x18,x19,l20)=>ja fuel p1 p2 l17 x18 x19 l20) (p2.l,p2.open_,p2.terms,[])).bind (fun z29=>some z29)
noncomputable def gD(p1:ae)(y4:((List Ω)×(List af)))(y19:((Ω)×(List af)))(l22:List (List an))(l28:List af)(x29 x30:Int)(l31:List ab):Option ((TEq×(List af)×Int×Int) ⊕ (Int×Int)) :=
  (aN (lit ([([41]:Ω)]:List Ω)) (ae.mk l28 p1.end_ x29 x30)).bind fun y32=>Sum.elim (fun y35=>some (.inl ((TEq.mk ((p1.l.getD 0 default).at_) y4.1 y19.1 l22 l31),y35,x29,x30))) (fun y36=>some (.inr (y36.1,y36.2))) y32
noncomputable def gE(fuel:Nat)(p1:ae)(y4:((List Ω)×(List af)))(y19:((Ω)×(List af)))(l21:List af)(l22:List (List an)):Option ((TEq×(List af)×Int×Int) ⊕ (Int×Int)) :=
  (aN (lit ([([40]:Ω)]:List Ω)) (ae.mk l21 p1.end_ p1.open_ p1.terms)).bind fun y23=>Sum.elim (fun y26=>(aP (lit ([([41]:Ω)]:List Ω)) (ae.mk y26 p1.end_ p1.open_ p1.terms)).bind fun y37=>if y37=true then (gD p1 y4 y19 l22 y26 p1.open_ p1.terms []) else ((kJ fuel 30 (ae.mk y26 p1.end_ p1.open_ p1.terms)).bind fun y38=>Sum.elim (fun y41=>gD p1 y4 y19 l22 y41.2.1 y41.2.2.1 y41.2.2.2 y41.1) (fun y42=>some (.inr (y42.1,y42.2))) y38)) (fun y27=>some (.inr (y27.1,y27.2))) y23
noncomputable def gG(fuel:Nat)(p1:ae)(y4:((List Ω)×(List af)))(y9:(List af)):Option ((TEq×(List af)×Int×Int) ⊕ (Int×Int)) :=
  (aN (lit ([([99,97,108,108]:Ω)]:List Ω)) (ae.mk y9 p1.end_ p1.open_ p1.terms)).bind fun y11=>Sum.elim (fun y14=>(bI (ae.mk y14 p1.end_ p1.open_ p1.terms)).bind fun y16=>Sum.elim (fun y19=>(bz ([60]:Ω) (ae.mk y19.2 p1.end_ p1.open_ p1.terms)).bind fun y43=>if y43.1=true then ((kI 3 (ae.mk y43.2 p1.end_ p1.open_ p1.terms)).bind fun y44=>Sum.elim (fun y47=>(aN (lit ([([62]:Ω)]:List Ω)) (ae.mk y47.2 p1.end_ p1.open_ p1.terms)).bind fun y49=>Sum.elim (fun y52=>gE fuel p1 y4 y19 y52 y47.1) (fun y53=>some (.inr (y53.1,y53.2))) y49) (fun y48=>some (.inr (y48.1,y48.2))) y44) else (gE fuel p1 y4 y19 y43.2 [])) (fun y20=>some (.inr (y20.1,y20.2))) y16) (fun y15=>some (.inr (y15.1,y15.2))) y11
noncomputable def m9(fuel:Nat)(p1:ae):Option ((TEq×(List af)×Int×Int) ⊕ (Int×Int)) :=
  if (0≤0∧0<(p1.l.length:Int)) then ((ke 30 p1).bind fun y1=>Sum.elim (fun y4=>(aN (lit ([([61]:Ω)]:List Ω)) (ae.mk y4.2 p1.end_ p1.open_ p1.terms)).bind fun y6=>Sum.elim (fun y9=>if (y4.1.length:Int)=1 then ((aP (lit ([([99,97,108,108]:Ω)]:List Ω)) (ae.mk y9 p1.end_ p1.open_ p1.terms)).bind fun y54=>if y54=true then (gG fuel p1 y4 y9) else ((gX fuel (ae.mk y9 p1.end_ p1.open_ p1.terms)).bind fun y55=>Sum.elim (fun y58=>some (.inl ((TEq.mk ((p1.l.getD 0 default).at_) y4.1 [] [] (lit ([(y58.1)]:List ab))),y58.2.1,y58.2.2.1,y58.2.2.2))) (fun y59=>some (.inr (y59.1,y59.2))) y55)) else (gG fuel p1 y4 y9)) (fun y10=>some (.inr (y10.1,y10.2))) y6) (fun y5=>some (.inr (y5.1,y5.2))) y1) else none
noncomputable def fH(p1:ae)(y5:((Ω)×(List af)))(l8:List Ω)(l15:List ax)(y24:((List ax)×(List af)))(l35:List af)(x36 x37:Int)(l38:List ax)(l40:List TEq):Option ((aK×(List af)×Int×Int) ⊕ (Int×Int)) :=
  (aZ (ae.mk l35 p1.end_ x36 x37)).bind fun y42=>some (.inl ((aK.mk y5.1 ((p1.l.getD 0 default).at_) l8 l15 y24.1 l38 l40),y42.2,x36,x37))
noncomputable def fI(p1:ae)(l81:List af)(x82 x83:Int)(l84:List ax)(l86:List TEq):Option (((List af)×Int×Int×(List ax)×(List TEq)) ⊕ (((List af)×Int×Int×(List ax)×(List TEq)) ⊕ ((aK×(List af)×Int×Int) ⊕ (Int×Int)))) :=
  (aN (lit ([([59]:Ω)]:List Ω)) (ae.mk l81 p1.end_ x82 x83)).bind fun y88=>Sum.elim (fun y91=>some (.inl (y91,x82,x83,l84,l86))) (fun y92=>some (.inr (.inr (.inr (y92.1,y92.2))))) y88
noncomputable def eO(fuel:Nat)(p1:ae)(x70 x71:Int)(l72:List ax)(l74:List TEq)(y93:(Bool×(List af))):Option (((List af)×Int×Int×(List ax)×(List TEq)) ⊕ (((List af)×Int×Int×(List ax)×(List TEq)) ⊕ ((aK×(List af)×Int×Int) ⊕ (Int×Int)))) :=
  if (y93.2.length:Int)=0 then ((aM 4 (ae.mk y93.2 p1.end_ x70 x71)).bind fun y102=>some (.inr (.inr (.inr (y102.1,y102.2))))) else ((m9 fuel (ae.mk y93.2 p1.end_ x70 x71)).bind fun y103=>Sum.elim (fun y104=>if mK (l74.length+1) 96 then (fI p1 y104.2.1 y104.2.2.1 y104.2.2.2 l72 (l74++(lit ([(y104.1)]:List TEq)))) else none) (fun y105=>some (.inr (.inr (.inr (y105.1,y105.2))))) y103)
noncomputable def jI(fuel:Nat)(p1:ae)(l69:List af)(x70 x71:Int)(l72:List ax)(l74:List TEq):Option (((List af)×Int×Int×(List ax)×(List TEq)) ⊕ (((List af)×Int×Int×(List ax)×(List TEq)) ⊕ ((aK×(List af)×Int×Int) ⊕ (Int×Int)))) :=
  (aP (lit ([([125]:Ω)]:List Ω)) (ae.mk l69 p1.end_ x70 x71)).bind fun y76=>if y76=true then (some (.inr (.inl (l69,x70,x71,l72,l74)))) else ((bz ([118,97,114]:Ω) (ae.mk l69 p1.end_ x70 x71)).bind fun y93=>if y93.1=true then (if (l72.length:Int)=30 then ((aM 7 (ae.mk y93.2 p1.end_ x70 x71)).bind fun y94=>some (.inr (.inr (.inr (y94.1,y94.2))))) else ((jt (ae.mk y93.2 p1.end_ x70 x71)).bind fun y95=>Sum.elim (fun y96=>if mK (l72.length+1) 48 then (fI p1 y96.2 x70 x71 (l72++(lit ([(ax.mk ((y96.1).name) ((y96.1).t))]:List ax))) l74) else none) (fun y97=>some (.inr (.inr (.inr (y97.1,y97.2))))) y95)) else (if (y93.2.length:Int)>0 then (if (0≤0∧0<(y93.2.length:Int)) then (if ((y93.2.getD 0 default).kind)=2 then (if (l74.length:Int)=60 then ((aM 7 (ae.mk y93.2 p1.end_ x70 x71)).bind fun y106=>some (.inr (.inr (.inr (y106.1,y106.2))))) else (eO fuel p1 x70 x71 l72 l74 y93)) else (eO fuel p1 x70 x71 l72 l74 y93)) else none) else (eO fuel p1 x70 x71 l72 l74 y93)))
noncomputable def fJ(fuel:Nat)(p1:ae)(y5:((Ω)×(List af)))(l8:List Ω)(l14:List af)(l15:List ax):Option ((aK×(List af)×Int×Int) ⊕ (Int×Int)) :=
  (aN (lit ([([41]:Ω),([45,62]:Ω),([40]:Ω)]:List Ω)) (ae.mk l14 p1.end_ p1.open_ p1.terms)).bind fun y16=>Sum.elim (fun y19=>(iV 30 (ae.mk y19 p1.end_ p1.open_ p1.terms)).bind fun y21=>Sum.elim (fun y24=>(aN (lit ([([41]:Ω),([123]:Ω)]:List Ω)) (ae.mk y24.2 p1.end_ p1.open_ p1.terms)).bind fun y26=>Sum.elim (fun y29=>(bD (fun (l69,x70,x71,l72,l74)=>jI fuel p1 l69 x70 x71 l72 l74) (y29,p1.open_,p1.terms,[],[])).bind (Sum.elim (fun (z107,z108,z109,z110,z111)=>fH p1 y5 l8 l15 y24 z107 z108 z109 z110 z111) (fun z112=>some z112))) (fun y30=>some (.inr (y30.1,y30.2))) y26) (fun y25=>some (.inr (y25.1,y25.2))) y21) (fun y20=>some (.inr (y20.1,y20.2))) y16
noncomputable def fK(fuel:Nat)(p1:ae)(y5:((Ω)×(List af)))(l7:List af)(l8:List Ω):Option ((aK×(List af)×Int×Int) ⊕ (Int×Int)) :=
  (aN (lit ([([40]:Ω)]:List Ω)) (ae.mk l7 p1.end_ p1.open_ p1.terms)).bind fun y9=>Sum.elim (fun y12=>(aP (lit ([([41]:Ω)]:List Ω)) (ae.mk y12 p1.end_ p1.open_ p1.terms)).bind fun y113=>if y113=true then (fJ fuel p1 y5 l8 y12 []) else ((iV 30 (ae.mk y12 p1.end_ p1.open_ p1.terms)).bind fun y114=>Sum.elim (fun y117=>fJ fuel p1 y5 l8 y117.2 y117.1) (fun y118=>some (.inr (y118.1,y118.2))) y114)) (fun y13=>some (.inr (y13.1,y13.2))) y9
noncomputable def lS(fuel:Nat)(p1:ae):Option ((aK×(List af)×Int×Int) ⊕ (Int×Int)) :=
  if (0≤0∧0<(p1.l.length:Int)) then ((aZ p1).bind fun y1=>(bI (ae.mk y1.2 p1.end_ p1.open_ p1.terms)).bind fun y2=>Sum.elim (fun y5=>(bz ([60]:Ω) (ae.mk y5.2 p1.end_ p1.open_ p1.terms)).bind fun y119=>if y119.1=true then ((ke 3 (ae.mk y119.2 p1.end_ p1.open_ p1.terms)).bind fun y120=>Sum.elim (fun y123=>(aN (lit ([([62]:Ω)]:List Ω)) (ae.mk y123.2 p1.end_ p1.open_ p1.terms)).bind fun y125=>Sum.elim (fun y128=>fK fuel p1 y5 y128 y123.1) (fun y129=>some (.inr (y129.1,y129.2))) y125) (fun y124=>some (.inr (y124.1,y124.2))) y120) else (fK fuel p1 y5 y119.2 [])) (fun y6=>some (.inr (y6.1,y6.2))) y2) else none
noncomputable def jR(l4:List af)(x5 x6:Int)(l7:List aK):Option (aB×ap) :=
  some ((aB.mk l7),(ap.mk 0 0))
noncomputable def jS(fuel:Nat)(p1:Ω)(l25:List af)(x26 x27:Int)(l28:List aK):Option (((List af)×Int×Int×(List aK)) ⊕ (((List af)×Int×Int×(List aK)) ⊕ (aB×ap))) :=
  (aP (lit ([([110,111,100,101]:Ω)]:List Ω)) (ae.mk l25 (p1.length:Int) x26 x27)).bind fun y32=>if y32=true then (if (l28.length:Int)=10 then ((aM 7 (ae.mk l25 (p1.length:Int) x26 x27)).bind fun y33=>some (.inr (.inr ((aB.mk []),(ap.mk y33.1 y33.2))))) else ((lS fuel (ae.mk l25 (p1.length:Int) x26 x27)).bind fun y34=>Sum.elim (fun y35=>if mK (l28.length+1) 144 then (some (.inl (y35.2.1,y35.2.2.1,y35.2.2.2,(l28++(lit ([(y35.1)]:List aK)))))) else none) (fun y36=>some (.inr (.inr ((aB.mk []),(ap.mk y36.1 y36.2))))) y34)) else ((aM 4 (ae.mk l25 (p1.length:Int) x26 x27)).bind fun y37=>some (.inr (.inr ((aB.mk []),(ap.mk y37.1 y37.2)))))
noncomputable def nI(fuel:Nat)(p1:Ω)(l25:List af)(x26 x27:Int)(l28:List aK):Option (((List af)×Int×Int×(List aK)) ⊕ (((List af)×Int×Int×(List aK)) ⊕ (aB×ap))) :=
  if (l25.length:Int)>0 then (jS fuel p1 l25 x26 x27 l28) else (if (l28.length:Int)=0 then (jS fuel p1 l25 x26 x27 l28) else (some (.inr (.inl (l25,x26,x27,l28)))))
noncomputable def lT(fuel:Nat)(p1:Ω):Option (aB×ap) :=
  (o8 p1).bind fun y1=>if ¬ ((y1.2).code)=0 then (some ((aB.mk []),(y1.2))) else ((bD (fun (l25,x26,x27,l28)=>nI fuel p1 l25 x26 x27 l28) (y1.1,0,0,[])).bind (Sum.elim (fun (z38,z39,z40,z41)=>jR z38 z39 z40 z41) (fun z42=>some z42)))
noncomputable def nJ(fuel:Nat):Option Bool :=
  (lT fuel ([110,111,100,101,32,97,40,41,32,45,62,32,40,121,58,32,105,110,116,94,50,41,32,123,32,121,32,61,32,102,105,108,108,40,45,40,49,32,43,32,50,41,44,32,50,41,59,32,125]:Ω)).bind fun y1=>(lR fuel (y1.1)).bind fun y2=>if ((y1.2).code)=0 then (if ((y2.2).code)=0 then (some (y2.1 == ([110,111,100,101,32,97,40,41,32,45,62,32,40,121,58,32,105,110,116,94,50,41,32,123,10,9,121,32,61,32,102,105,108,108,40,45,40,49,32,43,32,50,41,44,32,50,41,59,10,125,10]:Ω))) else (some false)) else (some false)
noncomputable def kf(p1:List Ω)(p2:Int):Option Int :=
  some (IntKind.wrap .i64 (p2 - (p1.length:Int)))
noncomputable def eP(p1:List Ω)(x3:Int):Option (Int ⊕ (Unit ⊕ Int)) :=
  if x3<(p1.length:Int) then (if (0≤x3∧x3<(p1.length:Int)) then (if ((p1.getD x3.toNat default).length:Int)>100 then (some (.inr (.inr (-1)))) else (some (.inl (IntKind.wrap .i64 (x3+1))))) else none) else (some (.inr (.inl ())))
noncomputable def kS(p1:List Ω)(p2:Int):Option Int :=
  if (p1.length:Int)>2000 then (some (-1)) else ((bD (fun x3=>eP p1 x3) 0).bind (Sum.elim (fun _=>kf p1 p2) (fun z4=>some z4)))
noncomputable def iv(x1:Int):Option Int :=
  some x1
noncomputable def kg(p1:List (List an))(x6 x7:Int):Option ((Int×Int) ⊕ (Int ⊕ Int)) :=
  some (.inl ((IntKind.wrap .i64 (x6 - ((p1.getD x7.toNat default).length:Int))),(IntKind.wrap .i64 (x7+1))))
noncomputable def eR(p1:List (List an))(x7 x10:Int):Option (Int ⊕ (Unit ⊕ Int)) :=
  if x10<((p1.getD x7.toNat default).length:Int) then (if (0≤x10∧x10<((p1.getD x7.toNat default).length:Int)) then (if ((((p1.getD x7.toNat default).getD x10.toNat default).name).length:Int)>100 then (some (.inr (.inr (-1)))) else (some (.inl (IntKind.wrap .i64 (x10+1))))) else none) else (some (.inr (.inl ())))
noncomputable def eT(p1:List (List an))(x6 x7:Int):Option ((Int×Int) ⊕ (Int ⊕ Int)) :=
  if x7<(p1.length:Int) then (if x6≥0 then (if (0≤x7∧x7<(p1.length:Int)) then (if ((p1.getD x7.toNat default).length:Int)>2000 then (some (.inr (.inr (-1)))) else ((bD (fun x10=>eR p1 x7 x10) 0).bind (Sum.elim (fun _=>kg p1 x6 x7) (fun z11=>some (.inr (.inr z11)))))) else none) else (some (.inr (.inl x6)))) else (some (.inr (.inl x6)))
noncomputable def ju(p1:List (List an))(p2:Int):Option Int :=
  (bD (fun (x6,x7)=>eT p1 x6 x7) ((IntKind.wrap .i64 (p2 - (p1.length:Int))),0)).bind (Sum.elim (fun z12=>iv z12) (fun z13=>some z13))
noncomputable def iw(x1:Int):Option Int :=
  some x1
noncomputable def eU(p1:List ax)(x6 x7:Int):Option ((Int×Int) ⊕ (Int ⊕ Int)) :=
  if x7<(p1.length:Int) then (if x6≥0 then (if (0≤x7∧x7<(p1.length:Int)) then (if (((p1.getD x7.toNat default).name).length:Int)>100 then (some (.inr (.inr (-1)))) else ((ju (lit ([((p1.getD x7.toNat default).t).n]:List (List an))) x6).bind fun y8=>some (.inl (y8,(IntKind.wrap .i64 (x7+1)))))) else none) else (some (.inr (.inl x6)))) else (some (.inr (.inl x6)))
noncomputable def jv(p1:List ax)(p2:Int):Option Int :=
  (bD (fun (x6,x7)=>eU p1 x6 x7) ((IntKind.wrap .i64 (p2 - (p1.length:Int))),0)).bind (Sum.elim (fun z9=>iw z9) (fun z10=>some z10))
noncomputable def ix(x1:Int):Option Int :=
  some x1
noncomputable def eV(rcf:(List ab)→Int→Option Int)(p1:List ab)(x6 x7:Int):Option ((Int×Int) ⊕ (Int ⊕ Int)) :=
  if x7<(p1.length:Int) then (if x6≥0 then (if (0≤x7∧x7<(p1.length:Int)) then (if (((p1.getD x7.toNat default).name).length:Int)>100 then (some (.inr (.inr (-1)))) else ((ju ((p1.getD x7.toNat default).s) x6).bind fun y8=>if y8≥0 then ((rcf ((p1.getD x7.toNat default).l) y8).bind fun y9=>some (.inl (y9,(IntKind.wrap .i64 (x7+1))))) else (some (.inl (y8,(IntKind.wrap .i64 (x7+1))))))) else none) else (some (.inr (.inl x6)))) else (some (.inr (.inl x6)))
noncomputable def kT(rcf:(List ab)→Int→Option Int)(p1:List ab)(p2:Int):Option Int :=
  (bD (fun (x6,x7)=>eV rcf p1 x6 x7) ((IntKind.wrap .i64 (p2 - (p1.length:Int))),0)).bind (Sum.elim (fun z10=>ix z10) (fun z11=>some z11))
noncomputable def eC:Nat→(List ab)→Int→Option Int
  |0=>fun _ _=>none
  |n+1=>kT (eC n)
noncomputable def qz(fuel:Nat)(p1:List ab)(p2:Int):Option Int:=eC fuel p1 p2
noncomputable def nb(x1:Int):Option Bool :=
  some (decide (x1<0))
noncomputable def nc(x7 x8:Int):Option ((Int×Int) ⊕ (Int ⊕ Bool)) :=
  some (.inl (x8,(IntKind.wrap .i64 (x7+1))))
noncomputable def lU(fuel:Nat)(p1:aB)(x7 x18 x20:Int):Option ((Int×Int) ⊕ (Int ⊕ Bool)) :=
  if x20≥0 then ((qz fuel ((((p1.nodes.getD x7.toNat default).eqs).getD x18.toNat default).e) x20).bind fun y21=>some (.inl (y21,(IntKind.wrap .i64 (x18+1))))) else (some (.inl (x20,(IntKind.wrap .i64 (x18+1)))))
noncomputable def jb(fuel:Nat)(p1:aB)(x7 x17 x18:Int):Option ((Int×Int) ⊕ (Int ⊕ Bool)) :=
  if x18<(((p1.nodes.getD x7.toNat default).eqs).length:Int) then (if x17≥0 then (if (0≤x18∧x18<(((p1.nodes.getD x7.toNat default).eqs).length:Int)) then (if (((((p1.nodes.getD x7.toNat default).eqs).getD x18.toNat default).node).length:Int)>100 then (some (.inr (.inr true))) else ((kS ((((p1.nodes.getD x7.toNat default).eqs).getD x18.toNat default).names) x17).bind fun y19=>if y19≥0 then ((ju ((((p1.nodes.getD x7.toNat default).eqs).getD x18.toNat default).s) y19).bind fun y22=>lU fuel p1 x7 x18 y22) else (lU fuel p1 x7 x18 y19))) else none) else (some (.inr (.inl x17)))) else (some (.inr (.inl x17)))
noncomputable def jc(fuel:Nat)(p1:aB)(x6 x7:Int):Option ((Int×Int) ⊕ (Int ⊕ Bool)) :=
  if x7<(p1.nodes.length:Int) then (if x6≥0 then (if (0≤x7∧x7<(p1.nodes.length:Int)) then (if (((p1.nodes.getD x7.toNat default).name).length:Int)>100 then (some (.inr (.inr true))) else (if (((p1.nodes.getD x7.toNat default).eqs).length:Int)>1000 then (some (.inr (.inr true))) else ((kS ((p1.nodes.getD x7.toNat default).sizes) x6).bind fun y9=>(jv ((p1.nodes.getD x7.toNat default).in_) y9).bind fun y10=>(jv ((p1.nodes.getD x7.toNat default).out_) y10).bind fun y11=>(jv ((p1.nodes.getD x7.toNat default).local_) y11).bind fun y12=>(bD (fun (x17,x18)=>jb fuel p1 x7 x17 x18) (y12,0)).bind (Sum.elim (fun z23=>nc x7 z23) (fun z24=>some (.inr (.inr z24))))))) else none) else (some (.inr (.inl x6)))) else (some (.inr (.inl x6)))
noncomputable def rK(fuel:Nat)(p1:aB):Option Bool :=
  if (p1.nodes.length:Int)>100 then (some true) else ((bD (fun (x6,x7)=>jc fuel p1 x6 x7) (8000,0)).bind (Sum.elim (fun z25=>nb z25) (fun z26=>some z26)))
noncomputable def mr(p1:List Ω):Option (List Ω) :=
  if mK p1.length 16 then (some p1) else none
noncomputable def kU(l3:List ax):Option (List ax) :=
  some l3
noncomputable def gY(p1 l17:List ax)(x19:Int):Option (((List ax)×Int) ⊕ (List ax)) :=
  if x19<(p1.length:Int) then (if (0≤x19∧x19<(p1.length:Int)) then (if mK ((((p1.getD x19.toNat default).t).n).length) 24 then (if mK (l17.length+1) 48 then (some (.inl ((l17++(lit ([(ax.mk ((p1.getD x19.toNat default).name) ((p1.getD x19.toNat default).t))]:List ax))),(IntKind.wrap .i64 (x19+1))))) else none) else none) else none) else (some (.inr l17))
noncomputable def ky(p1:List ax):Option (List ax) :=
  (bD (fun (l17,x19)=>gY p1 l17 x19) ([],0)).bind (fun z20=>kU z20)
noncomputable def kV(l3:List (List an)):Option (List (List an)) :=
  some l3
noncomputable def gZ(p1 l17:List (List an))(x19:Int):Option (((List (List an))×Int) ⊕ (List (List an))) :=
  if x19<(p1.length:Int) then (if (0≤x19∧x19<(p1.length:Int))∧mK ((p1.getD x19.toNat default).length) 24 then (if mK (l17.length+1) 24 then (some (.inl ((l17++(lit ([(p1.getD x19.toNat default)]:List (List an)))),(IntKind.wrap .i64 (x19+1))))) else none) else none) else (some (.inr l17))
noncomputable def mt(p1:List (List an)):Option (List (List an)) :=
  (bD (fun (l17,x19)=>gZ p1 l17 x19) ([],0)).bind (fun z20=>kV z20)
noncomputable def kW(l3:List ab):Option (List ab) :=
  some l3
noncomputable def hI(rcf:(List ab)→Option (List ab))(p1 l17:List ab)(x19:Int):Option (((List ab)×Int) ⊕ (List ab)) :=
  if x19<(p1.length:Int) then (if (0≤x19∧x19<(p1.length:Int)) then ((mt ((p1.getD x19.toNat default).s)).bind fun y20=>(rcf ((p1.getD x19.toNat default).l)).bind fun y21=>if mK (l17.length+1) 88 then (some (.inl ((l17++(lit ([(ab.mk ((p1.getD x19.toNat default).op) ((p1.getD x19.toNat default).k) ((p1.getD x19.toNat default).n) ((p1.getD x19.toNat default).name) y20 y21)]:List ab))),(IntKind.wrap .i64 (x19+1))))) else none) else none) else (some (.inr l17))
noncomputable def mb(rcf:(List ab)→Option (List ab))(p1:List ab):Option (List ab) :=
  (bD (fun (l17,x19)=>hI rcf p1 l17 x19) ([],0)).bind (fun z22=>kW z22)
noncomputable def fO:Nat→(List ab)→Option (List ab)
  |0=>fun _=>none
  |n+1=>mb (fO n)
noncomputable def ro(fuel:Nat)(p1:List ab):Option (List ab):=fO fuel p1
noncomputable def jx(l3:List aK):Option aB :=
  some (aB.mk l3)
noncomputable def jy(x19:Int)(l22:List aK):Option (((List aK)×Int) ⊕ (List aK)) :=
  some (.inl (l22,(IntKind.wrap .i64 (x19+1))))
noncomputable def hK(p1:aB)(l17:List aK)(x19:Int)(y24:(List Ω))(y25 y26 y27:(List ax))(l32:List TEq):Option (((List aK)×Int) ⊕ (List aK)) :=
  if mK (l17.length+1) 144 then (jy x19 (l17++(lit ([(aK.mk ((p1.nodes.getD x19.toNat default).name) ((p1.nodes.getD x19.toNat default).at_) y24 y25 y26 y27 l32)]:List aK)))) else none
noncomputable def fV(fuel:Nat)(p1:aB)(x19:Int)(l54:List TEq)(x56:Int):Option (((List TEq)×Int) ⊕ (List TEq)) :=
  if x56<(((p1.nodes.getD x19.toNat default).eqs).length:Int) then (if (0≤x56∧x56<(((p1.nodes.getD x19.toNat default).eqs).length:Int)) then ((mr ((((p1.nodes.getD x19.toNat default).eqs).getD x56.toNat default).names)).bind fun y57=>(mt ((((p1.nodes.getD x19.toNat default).eqs).getD x56.toNat default).s)).bind fun y58=>(ro fuel ((((p1.nodes.getD x19.toNat default).eqs).getD x56.toNat default).e)).bind fun y59=>if mK (l54.length+1) 96 then (some (.inl ((l54++(lit ([(TEq.mk ((((p1.nodes.getD x19.toNat default).eqs).getD x56.toNat default).at_) y57 ((((p1.nodes.getD x19.toNat default).eqs).getD x56.toNat default).node) y58 y59)]:List TEq))),(IntKind.wrap .i64 (x56+1))))) else none) else none) else (some (.inr l54))
noncomputable def fW(fuel:Nat)(p1:aB)(l17:List aK)(x19:Int):Option (((List aK)×Int) ⊕ (List aK)) :=
  if x19<(p1.nodes.length:Int) then (if (0≤x19∧x19<(p1.nodes.length:Int)) then ((mr ((p1.nodes.getD x19.toNat default).sizes)).bind fun y24=>(ky ((p1.nodes.getD x19.toNat default).in_)).bind fun y25=>(ky ((p1.nodes.getD x19.toNat default).out_)).bind fun y26=>(ky ((p1.nodes.getD x19.toNat default).local_)).bind fun y27=>(bD (fun (l54,x56)=>fV fuel p1 x19 l54 x56) ([],0)).bind (fun z60=>hK p1 l17 x19 y24 y25 y26 y27 z60)) else none) else (some (.inr l17))
noncomputable def mc(fuel:Nat)(p1:aB):Option aB :=
  (bD (fun (l17,x19)=>fW fuel p1 l17 x19) ([],0)).bind (fun z61=>jx z61)
noncomputable def kX(s1:Ω):Option Ω :=
  some s1
noncomputable def hO(p1:List Ω)(x7:Int)(s8:Ω):Option (((Ω)×Int) ⊕ Ω) :=
  if (0≤x7∧x7<(p1.length:Int))∧s8.length+(p1.getD x7.toNat default).length≤maxLen then (some (.inl ((s8++(p1.getD x7.toNat default)),(IntKind.wrap .i64 (x7+1))))) else none
noncomputable def hP(p1:List Ω)(s6:Ω)(x7:Int):Option (((Ω)×Int) ⊕ Ω) :=
  if x7<(p1.length:Int) then (if x7>0 then (if s6.length+2≤maxLen then (hO p1 x7 (s6++([44,32]:Ω))) else none) else (hO p1 x7 s6)) else (some (.inr s6))
noncomputable def gj(p1:List Ω):Option Ω :=
  (bD (fun (s6,x7)=>hP p1 s6 x7) (([]:Ω),0)).bind (fun z9=>kX z9)
noncomputable def me(s1:Ω):Option Ω :=
  some s1
noncomputable def ff(p1:List an)(x7:Int)(s12:Ω):Option (((Ω)×Int) ⊕ Ω) :=
  if s12.length+((p1.getD x7.toNat default).name).length≤maxLen then (some (.inl ((s12++((p1.getD x7.toNat default).name)),(IntKind.wrap .i64 (x7+1))))) else none
noncomputable def gJ(p1:List an)(x7 x8:Int)(s11:Ω):Option (((Ω)×Int) ⊕ Ω) :=
  if ((p1.getD x7.toNat default).name)=([]:Ω) then ((fD x8 10).bind fun y13=>if s11.length+y13.length≤maxLen then (if ((p1.getD x7.toNat default).name)=([]:Ω) then (ff p1 x7 (s11++y13)) else (if s11.length+y13.length+1≤maxLen then (ff p1 x7 ((s11++y13)++([42]:Ω))) else none)) else none) else (if ¬ x8=1 then ((fD x8 10).bind fun y14=>if s11.length+y14.length≤maxLen then (if ((p1.getD x7.toNat default).name)=([]:Ω) then (ff p1 x7 (s11++y14)) else (if s11.length+y14.length+1≤maxLen then (ff p1 x7 ((s11++y14)++([42]:Ω))) else none)) else none) else (ff p1 x7 s11))
noncomputable def fg(p1:List an)(x7 x8:Int)(s10:Ω):Option (((Ω)×Int) ⊕ Ω) :=
  if x7=0 then (if ((p1.getD x7.toNat default).n)<0 then (if s10.length+1≤maxLen then (gJ p1 x7 x8 (s10++([45]:Ω))) else none) else (gJ p1 x7 x8 s10)) else (gJ p1 x7 x8 s10)
noncomputable def fh(p1:List an)(x7 x8:Int)(s9:Ω):Option (((Ω)×Int) ⊕ Ω) :=
  if x7>0 then (if ((p1.getD x7.toNat default).n)<0 then (fg p1 x7 x8 s9) else (if s9.length+3≤maxLen then (fg p1 x7 x8 (s9++([32,43,32]:Ω))) else none)) else (fg p1 x7 x8 s9)
noncomputable def iD(p1:List an)(s6:Ω)(x7 x8:Int):Option (((Ω)×Int) ⊕ Ω) :=
  if x7>0 then (if ((p1.getD x7.toNat default).n)<0 then (if s6.length+3≤maxLen then (fh p1 x7 x8 (s6++([32,45,32]:Ω))) else none) else (fh p1 x7 x8 s6)) else (fh p1 x7 x8 s6)
noncomputable def iE(p1:List an)(s6:Ω)(x7:Int):Option (((Ω)×Int) ⊕ Ω) :=
  if x7<(p1.length:Int) then (if (0≤x7∧x7<(p1.length:Int)) then (if ((p1.getD x7.toNat default).n)<0 then (iD p1 s6 x7 (IntKind.wrap .i64 (0 - ((p1.getD x7.toNat default).n)))) else (iD p1 s6 x7 ((p1.getD x7.toNat default).n))) else none) else (some (.inr s6))
noncomputable def lV(p1:List an):Option Ω :=
  (bD (fun (s6,x7)=>iE p1 s6 x7) (([]:Ω),0)).bind (fun z15=>me z15)
noncomputable def iF(p1:ax)(s1:Ω):Option Ω :=
  if (p1.t.n.length:Int)>0 then ((lV p1.t.n).bind fun y2=>if 1+y2.length≤maxLen∧s1.length+1+y2.length≤maxLen then (some (s1++(([94]:Ω)++y2))) else none) else (some s1)
noncomputable def kh(p1:ax):Option Ω :=
  if p1.name.length+2≤maxLen then (if p1.t.elem=98 then (if p1.name.length+2+4≤maxLen then (iF p1 ((p1.name++([58,32]:Ω))++([98,111,111,108]:Ω))) else none) else (if p1.name.length+2+3≤maxLen then (iF p1 ((p1.name++([58,32]:Ω))++([105,110,116]:Ω))) else none)) else none
noncomputable def ji(s1:Ω):Option Ω :=
  if 1+s1.length≤maxLen∧1+s1.length+1≤maxLen then (some ((([40]:Ω)++s1)++([41]:Ω))) else none
noncomputable def hQ(p1:List ax)(x7:Int)(s8:Ω):Option (((Ω)×Int) ⊕ Ω) :=
  if (0≤x7∧x7<(p1.length:Int)) then ((kh (ax.mk ((p1.getD x7.toNat default).name) ((p1.getD x7.toNat default).t))).bind fun y9=>if s8.length+y9.length≤maxLen then (some (.inl ((s8++y9),(IntKind.wrap .i64 (x7+1))))) else none) else none
noncomputable def hU(p1:List ax)(s6:Ω)(x7:Int):Option (((Ω)×Int) ⊕ Ω) :=
  if x7<(p1.length:Int) then (if x7>0 then (if s6.length+2≤maxLen then (hQ p1 x7 (s6++([44,32]:Ω))) else none) else (hQ p1 x7 s6)) else (some (.inr s6))
noncomputable def mu(p1:List ax):Option Ω :=
  (bD (fun (s6,x7)=>hU p1 s6 x7) (([]:Ω),0)).bind (fun z10=>ji z10)
noncomputable def rL(p1:ab):Option Int :=
  if p1.op=6 then (some 0) else (if p1.op=4 then (some 6) else (if p1.op=5 then (if (0≤p1.k∧p1.k<(13:Int)) then (some ((lit ([7,4,4,5,5,5,7,7,3,3,2,1,1]:List Int)).getD p1.k.toNat default)) else none) else (some 7)))
noncomputable def cg(p2 y1:Int)(s2:Ω):Option Ω :=
  if y1<p2 then (if 1+s2.length≤maxLen∧1+s2.length+1≤maxLen then (some ((([40]:Ω)++s2)++([41]:Ω))) else none) else (some s2)
noncomputable def iG(rcf:ab→Int→Option Ω)(p1:ab)(p2 y1 x15:Int):Option Ω :=
  if (0≤0∧0<(p1.l.length:Int)) then ((rcf (p1.l.getD 0 default) x15).bind fun y16=>if y16.length+1≤maxLen∧(0≤p1.k∧p1.k<(13:Int))∧y16.length+1+((lit ([([]:Ω),([43]:Ω),([45]:Ω),([42]:Ω),([47]:Ω),([37]:Ω),([]:Ω),([]:Ω),([60]:Ω),([61,61]:Ω),([97,110,100]:Ω),([111,114]:Ω),([120,111,114]:Ω)]:List Ω)).getD p1.k.toNat default).length≤maxLen∧(y16.length+1)+(((lit ([([]:Ω),([43]:Ω),([45]:Ω),([42]:Ω),([47]:Ω),([37]:Ω),([]:Ω),([]:Ω),([60]:Ω),([61,61]:Ω),([97,110,100]:Ω),([111,114]:Ω),([120,111,114]:Ω)]:List Ω)).getD p1.k.toNat default).length)+1≤maxLen∧(0≤1∧1<(p1.l.length:Int)) then ((rcf (p1.l.getD 1 default) (IntKind.wrap .i64 (y1+1))).bind fun y17=>if ((y16.length+1)+(((lit ([([]:Ω),([43]:Ω),([45]:Ω),([42]:Ω),([47]:Ω),([37]:Ω),([]:Ω),([]:Ω),([60]:Ω),([61,61]:Ω),([97,110,100]:Ω),([111,114]:Ω),([120,111,114]:Ω)]:List Ω)).getD p1.k.toNat default).length))+1+y17.length≤maxLen then (cg p2 y1 ((((y16++([32]:Ω))++((lit ([([]:Ω),([43]:Ω),([45]:Ω),([42]:Ω),([47]:Ω),([37]:Ω),([]:Ω),([]:Ω),([60]:Ω),([61,61]:Ω),([97,110,100]:Ω),([111,114]:Ω),([120,111,114]:Ω)]:List Ω)).getD p1.k.toNat default))++([32]:Ω))++y17)) else none) else none) else none
noncomputable def jT(p2 y1:Int)(s21:Ω):Option Ω :=
  if s21.length+1≤maxLen then (cg p2 y1 (s21++([41]:Ω))) else none
noncomputable def iH(p1:ab)(s26:Ω)(x27:Int):Option (((Ω)×Int) ⊕ Ω) :=
  if x27<(p1.s.length:Int) then (if (0≤x27∧x27<(p1.s.length:Int)) then ((lV (p1.s.getD x27.toNat default)).bind fun y28=>if 2+y28.length≤maxLen∧s26.length+2+y28.length≤maxLen then (some (.inl ((s26++(([44,32]:Ω)++y28)),(IntKind.wrap .i64 (x27+1))))) else none) else none) else (some (.inr s26))
noncomputable def gK(p1:ab)(p2 y1:Int)(s20:Ω):Option Ω :=
  (bD (fun (s26,x27)=>iH p1 s26 x27) (s20,0)).bind (fun z29=>jT p2 y1 z29)
noncomputable def ia(rcf:ab→Int→Option Ω)(p1:ab)(x35:Int)(s36:Ω):Option (((Ω)×Int) ⊕ Ω) :=
  if (0≤x35∧x35<(p1.l.length:Int)) then ((rcf (p1.l.getD x35.toNat default) 0).bind fun y37=>if s36.length+y37.length≤maxLen then (some (.inl ((s36++y37),(IntKind.wrap .i64 (x35+1))))) else none) else none
noncomputable def iI(rcf:ab→Int→Option Ω)(p1:ab)(s34:Ω)(x35:Int):Option (((Ω)×Int) ⊕ Ω) :=
  if x35<(p1.l.length:Int) then (if x35>0 then (if s34.length+2≤maxLen then (ia rcf p1 x35 (s34++([44,32]:Ω))) else none) else (ia rcf p1 x35 s34)) else (some (.inr s34))
noncomputable def gL(rcf:ab→Int→Option Ω)(p1:ab)(p2 y1:Int)(s19:Ω):Option Ω :=
  (bD (fun (s34,x35)=>iI rcf p1 s34 x35) (s19,0)).bind (fun z38=>gK p1 p2 y1 z38)
noncomputable def gf(rcf:ab→Int→Option Ω)(p1:ab)(p2 y1:Int)(s18:Ω)(b39:Bool):Option Ω :=
  if b39=true then (if (0≤p1.k∧p1.k<(15:Int))∧((lit ([([]:Ω),([97,100,100]:Ω),([115,117,98]:Ω),([109,117,108]:Ω),([100,105,118]:Ω),([109,111,100]:Ω),([109,105,110]:Ω),([109,97,120]:Ω),([108,101,115,115]:Ω),([101,113]:Ω),([97,110,100]:Ω),([111,114]:Ω),([120,111,114]:Ω),([110,101,103]:Ω),([110,111,116]:Ω)]:List Ω)).getD p1.k.toNat default).length+2≤maxLen∧s18.length+(((lit ([([]:Ω),([97,100,100]:Ω),([115,117,98]:Ω),([109,117,108]:Ω),([100,105,118]:Ω),([109,111,100]:Ω),([109,105,110]:Ω),([109,97,120]:Ω),([108,101,115,115]:Ω),([101,113]:Ω),([97,110,100]:Ω),([111,114]:Ω),([120,111,114]:Ω),([110,101,103]:Ω),([110,111,116]:Ω)]:List Ω)).getD p1.k.toNat default).length)+2≤maxLen then (gL rcf p1 p2 y1 (s18++(((lit ([([]:Ω),([97,100,100]:Ω),([115,117,98]:Ω),([109,117,108]:Ω),([100,105,118]:Ω),([109,111,100]:Ω),([109,105,110]:Ω),([109,97,120]:Ω),([108,101,115,115]:Ω),([101,113]:Ω),([97,110,100]:Ω),([111,114]:Ω),([120,111,114]:Ω),([110,101,103]:Ω),([110,111,116]:Ω)]:List Ω)).getD p1.k.toNat default)++([44,32]:Ω)))) else none) else (gL rcf p1 p2 y1 s18)
noncomputable def fP(rcf:ab→Int→Option Ω)(p1:ab)(p2 y1:Int)(s18:Ω):Option Ω :=
  if p1.op=7 then (gf rcf p1 p2 y1 s18 true) else (if p1.op=8 then (gf rcf p1 p2 y1 s18 true) else (gf rcf p1 p2 y1 s18 (p1.op == 9)))
noncomputable def iJ(rcf:ab→Int→Option Ω)(p1:ab)(p2 y1:Int)(b14:Bool):Option Ω :=
  if b14=true then (if y1=3 then (iG rcf p1 p2 y1 4) else (iG rcf p1 p2 y1 y1)) else (if (0≤p1.op∧p1.op<(16:Int))∧((lit ([([]:Ω),([]:Ω),([]:Ω),([]:Ω),([]:Ω),([]:Ω),([]:Ω),([109,97,112]:Ω),([102,111,108,100]:Ω),([115,99,97,110]:Ω),([102,105,108,108]:Ω),([]:Ω),([119,105,116,104]:Ω),([115,108,105,99,101]:Ω),([99,97,116]:Ω),([112,114,101]:Ω)]:List Ω)).getD p1.op.toNat default).length+1≤maxLen then (if p1.op=5 then (if (0≤p1.k∧p1.k<(15:Int))∧((lit ([([]:Ω),([97,100,100]:Ω),([115,117,98]:Ω),([109,117,108]:Ω),([100,105,118]:Ω),([109,111,100]:Ω),([109,105,110]:Ω),([109,97,120]:Ω),([108,101,115,115]:Ω),([101,113]:Ω),([97,110,100]:Ω),([111,114]:Ω),([120,111,114]:Ω),([110,101,103]:Ω),([110,111,116]:Ω)]:List Ω)).getD p1.k.toNat default).length+1≤maxLen then (fP rcf p1 p2 y1 (((lit ([([]:Ω),([97,100,100]:Ω),([115,117,98]:Ω),([109,117,108]:Ω),([100,105,118]:Ω),([109,111,100]:Ω),([109,105,110]:Ω),([109,97,120]:Ω),([108,101,115,115]:Ω),([101,113]:Ω),([97,110,100]:Ω),([111,114]:Ω),([120,111,114]:Ω),([110,101,103]:Ω),([110,111,116]:Ω)]:List Ω)).getD p1.k.toNat default)++([40]:Ω))) else none) else (fP rcf p1 p2 y1 (((lit ([([]:Ω),([]:Ω),([]:Ω),([]:Ω),([]:Ω),([]:Ω),([]:Ω),([109,97,112]:Ω),([102,111,108,100]:Ω),([115,99,97,110]:Ω),([102,105,108,108]:Ω),([]:Ω),([119,105,116,104]:Ω),([115,108,105,99,101]:Ω),([99,97,116]:Ω),([112,114,101]:Ω)]:List Ω)).getD p1.op.toNat default)++([40]:Ω)))) else none)
noncomputable def iK(rcf:ab→Int→Option Ω)(p1:ab)(p2 y1:Int)(b5:Bool):Option Ω :=
  if b5=true then (if (0≤0∧0<(p1.l.length:Int)) then ((rcf (p1.l.getD 0 default) 6).bind fun y6=>if 1+y6.length≤maxLen then (cg p2 y1 (([45]:Ω)++y6)) else none) else none) else (if p1.op=4 then (if (0≤0∧0<(p1.l.length:Int)) then ((rcf (p1.l.getD 0 default) 6).bind fun y7=>if 4+y7.length≤maxLen then (cg p2 y1 (([110,111,116,32]:Ω)++y7)) else none) else none) else (if p1.op=6 then (if (0≤0∧0<(p1.l.length:Int)) then ((rcf (p1.l.getD 0 default) 0).bind fun y8=>if 3+y8.length≤maxLen∧3+y8.length+6≤maxLen∧(0≤1∧1<(p1.l.length:Int)) then ((rcf (p1.l.getD 1 default) 0).bind fun y9=>if (3+y8.length)+6+y9.length≤maxLen∧((3+y8.length)+6)+y9.length+6≤maxLen∧(0≤2∧2<(p1.l.length:Int)) then ((rcf (p1.l.getD 2 default) 0).bind fun y10=>if (((3+y8.length)+6)+y9.length)+6+y10.length≤maxLen then (cg p2 y1 (((((([105,102,32]:Ω)++y8)++([32,116,104,101,110,32]:Ω))++y9)++([32,101,108,115,101,32]:Ω))++y10)) else none) else none) else none) else none) else (if p1.op=11 then (if (0≤0∧0<(p1.l.length:Int)) then ((rcf (p1.l.getD 0 default) 7).bind fun y11=>if y11.length+1≤maxLen∧(0≤1∧1<(p1.l.length:Int)) then ((rcf (p1.l.getD 1 default) 0).bind fun y12=>if y11.length+1+y12.length≤maxLen∧(y11.length+1)+y12.length+3≤maxLen∧(0≤2∧2<(p1.l.length:Int)) then ((rcf (p1.l.getD 2 default) 0).bind fun y13=>if ((y11.length+1)+y12.length)+3+y13.length≤maxLen∧(((y11.length+1)+y12.length)+3)+y13.length+1≤maxLen then (cg p2 y1 (((((y11++([91]:Ω))++y12)++([32,58,32]:Ω))++y13)++([93]:Ω))) else none) else none) else none) else none) else (if p1.op=5 then (iJ rcf p1 p2 y1 (decide (y1<7))) else (iJ rcf p1 p2 y1 false)))))
noncomputable def iL(rcf:ab→Int→Option Ω)(p1:ab)(p2 y1:Int)(b4:Bool):Option Ω :=
  if b4=true then (cg p2 y1 ([116,114,117,101]:Ω)) else (if p1.op=2 then (cg p2 y1 ([102,97,108,115,101]:Ω)) else (if p1.op=3 then (cg p2 y1 p1.name) else (if p1.op=4 then (iK rcf p1 p2 y1 (p1.k == 13)) else (iK rcf p1 p2 y1 false))))
noncomputable def mQ(rcf:ab→Int→Option Ω)(p1:ab)(p2:Int):Option Ω :=
  (rL p1).bind fun y1=>if p1.op=1 then ((fD p1.n 10).bind fun y3=>cg p2 y1 y3) else (if p1.op=2 then (iL rcf p1 p2 y1 (p1.n == 1)) else (iL rcf p1 p2 y1 false))
noncomputable def bV:Nat→ab→Int→Option Ω
  |0=>fun _ _=>none
  |n+1=>mQ (bV n)
noncomputable def qd(fuel:Nat)(p1:ab)(p2:Int):Option Ω:=bV fuel p1 p2
noncomputable def mw(s3:Ω)(l6:List Ω):Option Ω :=
  if s3.length+1≤maxLen then ((gj l6).bind fun y8=>if s3.length+1+y8.length≤maxLen∧(s3.length+1)+y8.length+1≤maxLen then (some (((s3++([40]:Ω))++y8)++([41]:Ω))) else none) else none
noncomputable def kz(fuel:Nat)(p1:TEq)(l21:List Ω)(x23:Int):Option (((List Ω)×Int) ⊕ (List Ω)) :=
  if x23<(p1.e.length:Int) then (if (0≤x23∧x23<(p1.e.length:Int)) then ((qd fuel (p1.e.getD x23.toNat default) 0).bind fun y24=>if mK (l21.length+1) 16 then (some (.inl ((l21++(lit ([y24]:List Ω))),(IntKind.wrap .i64 (x23+1))))) else none) else none) else (some (.inr l21))
noncomputable def kA(fuel:Nat)(p1:TEq)(s3:Ω):Option Ω :=
  (bD (fun (l21,x23)=>kz fuel p1 l21 x23) ([],0)).bind (fun z25=>mw s3 z25)
noncomputable def my(fuel:Nat)(p1:TEq)(y1:Ω)(l28:List Ω):Option Ω :=
  (gj l28).bind fun y30=>if 1+y30.length≤maxLen∧1+y30.length+1≤maxLen∧(y1.length+3)+(5+p1.node.length)+(1+y30.length)+1≤maxLen then (kA fuel p1 (((y1++([32,61,32]:Ω))++(([99,97,108,108,32]:Ω)++p1.node))++((([60]:Ω)++y30)++([62]:Ω)))) else none
noncomputable def kB(p1:TEq)(l43:List Ω)(x45:Int):Option (((List Ω)×Int) ⊕ (List Ω)) :=
  if x45<(p1.s.length:Int) then (if (0≤x45∧x45<(p1.s.length:Int)) then ((lV (p1.s.getD x45.toNat default)).bind fun y46=>if mK (l43.length+1) 16 then (some (.inl ((l43++(lit ([y46]:List Ω))),(IntKind.wrap .i64 (x45+1))))) else none) else none) else (some (.inr l43))
noncomputable def o9(fuel:Nat)(p1:TEq):Option Ω :=
  (gj p1.names).bind fun y1=>if y1.length+3≤maxLen then (if p1.node=([]:Ω) then (if (0≤0∧0<(p1.e.length:Int)) then ((qd fuel (p1.e.getD 0 default) 0).bind fun y2=>if y1.length+3+y2.length≤maxLen then (some ((y1++([32,61,32]:Ω))++y2)) else none) else none) else (if 5+p1.node.length≤maxLen∧y1.length+3+5+p1.node.length≤maxLen then (if (p1.s.length:Int)>0 then ((bD (fun (l43,x45)=>kB p1 l43 x45) ([],0)).bind (fun z47=>my fuel p1 y1 z47)) else (kA fuel p1 ((y1++([32,61,32]:Ω))++(([99,97,108,108,32]:Ω)++p1.node)))) else none)) else none
noncomputable def pE(s1:Ω):Option Ω :=
  some s1
noncomputable def pF(x7:Int)(s8:Ω):Option (((Ω)×Int) ⊕ Ω) :=
  some (.inl (s8,(IntKind.wrap .i64 (x7+1))))
noncomputable def mR(x7:Int)(s13:Ω):Option (((Ω)×Int) ⊕ Ω) :=
  if s13.length+2≤maxLen then (pF x7 (s13++([125,10]:Ω))) else none
noncomputable def lG(fuel:Nat)(p1:aB)(x7:Int)(s18:Ω)(x19:Int):Option (((Ω)×Int) ⊕ Ω) :=
  if x19<(((p1.nodes.getD x7.toNat default).eqs).length:Int) then (if (0≤x19∧x19<(((p1.nodes.getD x7.toNat default).eqs).length:Int)) then ((o9 fuel (((p1.nodes.getD x7.toNat default).eqs).getD x19.toNat default)).bind fun y20=>if 1+y20.length≤maxLen∧1+y20.length+2≤maxLen∧s18.length+(1+y20.length)+2≤maxLen then (some (.inl ((s18++((([9]:Ω)++y20)++([59,10]:Ω))),(IntKind.wrap .i64 (x19+1))))) else none) else none) else (some (.inr s18))
noncomputable def nZ(fuel:Nat)(p1:aB)(x7:Int)(s12:Ω):Option (((Ω)×Int) ⊕ Ω) :=
  (bD (fun (s18,x19)=>lG fuel p1 x7 s18 x19) (s12,0)).bind (fun z21=>mR x7 z21)
noncomputable def mS(p1:aB)(x7:Int)(s26:Ω)(x27:Int):Option (((Ω)×Int) ⊕ Ω) :=
  if x27<(((p1.nodes.getD x7.toNat default).local_).length:Int) then (if (0≤x27∧x27<(((p1.nodes.getD x7.toNat default).local_).length:Int)) then ((kh (ax.mk ((((p1.nodes.getD x7.toNat default).local_).getD x27.toNat default).name) ((((p1.nodes.getD x7.toNat default).local_).getD x27.toNat default).t))).bind fun y28=>if 5+y28.length≤maxLen∧5+y28.length+2≤maxLen∧s26.length+(5+y28.length)+2≤maxLen then (some (.inl ((s26++((([9,118,97,114,32]:Ω)++y28)++([59,10]:Ω))),(IntKind.wrap .i64 (x27+1))))) else none) else none) else (some (.inr s26))
noncomputable def mT(fuel:Nat)(p1:aB)(x7:Int)(s9:Ω):Option (((Ω)×Int) ⊕ Ω) :=
  (mu ((p1.nodes.getD x7.toNat default).in_)).bind fun y10=>if y10.length+4≤maxLen then ((mu ((p1.nodes.getD x7.toNat default).out_)).bind fun y11=>if y10.length+4+y11.length≤maxLen∧(y10.length+4)+y11.length+3≤maxLen∧s9.length+((y10.length+4)+y11.length)+3≤maxLen then ((bD (fun (s26,x27)=>mS p1 x7 s26 x27) ((s9++(((y10++([32,45,62,32]:Ω))++y11)++([32,123,10]:Ω))),0)).bind (fun z29=>nZ fuel p1 x7 z29)) else none) else none
noncomputable def mU(fuel:Nat)(p1:aB)(s6:Ω)(x7:Int):Option (((Ω)×Int) ⊕ Ω) :=
  if x7<(p1.nodes.length:Int) then (if (0≤x7∧x7<(p1.nodes.length:Int)) then (if 5+((p1.nodes.getD x7.toNat default).name).length≤maxLen∧s6.length+5+(((p1.nodes.getD x7.toNat default).name).length)≤maxLen then (if (((p1.nodes.getD x7.toNat default).sizes).length:Int)>0 then ((gj ((p1.nodes.getD x7.toNat default).sizes)).bind fun y30=>if 1+y30.length≤maxLen∧1+y30.length+1≤maxLen∧s6.length+(5+(((p1.nodes.getD x7.toNat default).name).length))+(1+y30.length)+1≤maxLen then (mT fuel p1 x7 ((s6++(([110,111,100,101,32]:Ω)++((p1.nodes.getD x7.toNat default).name)))++((([60]:Ω)++y30)++([62]:Ω)))) else none) else (mT fuel p1 x7 (s6++(([110,111,100,101,32]:Ω)++((p1.nodes.getD x7.toNat default).name))))) else none) else none) else (some (.inr s6))
noncomputable def rM(fuel:Nat)(p1:aB):Option Ω :=
  (bD (fun (s6,x7)=>mU fuel p1 s6 x7) (([]:Ω),0)).bind (fun z31=>pE z31)
noncomputable def tF(p1 p2:Int):Option ap :=
  some (ap.mk p1 p2)
noncomputable def uj(p1:Int):Option Bool :=
  if p1≥97 then (some (decide (p1≤122))) else (some false)
noncomputable def mz:Option Bool :=
  some false
noncomputable def kC(p1:Ω)(x3:Int):Option (Int ⊕ (Unit ⊕ Bool)) :=
  if x3<(32:Int) then (if (0≤x3∧x3<(32:Int)) then (if ((lit ([([97,100,100]:Ω),([97,110,100]:Ω),([98,111,111,108]:Ω),([99,97,108,108]:Ω),([99,97,116]:Ω),([100,105,118]:Ω),([101,108,115,101]:Ω),([101,113]:Ω),([102,97,108,115,101]:Ω),([102,105,108,108]:Ω),([102,111,108,100]:Ω),([105,102]:Ω),([105,110,116]:Ω),([108,101,115,115]:Ω),([109,97,112]:Ω),([109,97,120]:Ω),([109,105,110]:Ω),([109,111,100]:Ω),([109,117,108]:Ω),([110,101,103]:Ω),([110,111,100,101]:Ω),([110,111,116]:Ω),([111,114]:Ω),([112,114,101]:Ω),([115,99,97,110]:Ω),([115,108,105,99,101]:Ω),([115,117,98]:Ω),([116,104,101,110]:Ω),([116,114,117,101]:Ω),([118,97,114]:Ω),([119,105,116,104]:Ω),([120,111,114]:Ω)]:List Ω)).getD x3.toNat default)=p1 then (some (.inr (.inr true))) else (some (.inl (IntKind.wrap .i64 (x3+1))))) else none) else (some (.inr (.inl ())))
noncomputable def qA(p1:Ω):Option Bool :=
  (bD (fun x3=>kC p1 x3) 0).bind (Sum.elim (fun _=>mz) (fun z4=>some z4))
noncomputable def wc(p1:Int):Option Bool :=
  if p1≥48 then (some (decide (p1≤57))) else (some false)
noncomputable def nE:Option Bool :=
  some true
noncomputable def rq(p1:Ω)(x5:Int):Option (Int ⊕ (Unit ⊕ Bool)) :=
  if x5<(p1.length:Int) then (if (0≤x5∧x5<(p1.length:Int)) then ((uj ((p1.getD x5.toNat 0).toNat:Int)).bind fun y6=>if y6=true then (some (.inl (IntKind.wrap .i64 (x5+1)))) else ((wc ((p1.getD x5.toNat 0).toNat:Int)).bind fun y7=>if y7=true then (some (.inl (IntKind.wrap .i64 (x5+1)))) else (some (.inr (.inr false))))) else none) else (some (.inr (.inl ())))
noncomputable def iM(p1:Ω):Option Bool :=
  if (p1.length:Int)<1 then (some false) else (if (p1.length:Int)>12 then (some false) else (if (0≤0∧0<(p1.length:Int)) then ((uj ((p1.getD 0 0).toNat:Int)).bind fun y1=>if y1=true then ((qA p1).bind fun y2=>if y2=true then (some false) else ((bD (fun x5=>rq p1 x5) 0).bind (Sum.elim (fun _=>nE) (fun z8=>some z8)))) else (some false)) else none))
noncomputable def kY:Option Int :=
  some 0
noncomputable def kZ(p1:List an)(x3:Int):Option (Int ⊕ (Unit ⊕ Int)) :=
  if x3<(p1.length:Int) then (if (0≤x3∧x3<(p1.length:Int)) then (if ((p1.getD x3.toNat default).n)≤(-1000000000000000000) then (some (.inr (.inr 2))) else (if ((p1.getD x3.toNat default).n)≥1000000000000000000 then (some (.inr (.inr 2))) else (if ((p1.getD x3.toNat default).name)=([]:Ω) then (some (.inl (IntKind.wrap .i64 (x3+1)))) else ((iM ((p1.getD x3.toNat default).name)).bind fun y4=>if y4=true then (some (.inl (IntKind.wrap .i64 (x3+1)))) else (some (.inr (.inr 3))))))) else none) else (some (.inr (.inl ())))
noncomputable def kD(p1:List an):Option Int :=
  if (p1.length:Int)=0 then (some 4) else (if (p1.length:Int)>30 then (some 7) else ((bD (fun x3=>kZ p1 x3) 0).bind (Sum.elim (fun _=>kY) (fun z5=>some z5))))
noncomputable def ki:Option Int :=
  some 0
noncomputable def gA(p1:List ax)(x3:Int):Option (Int ⊕ (Unit ⊕ Int)) :=
  if ((((p1.getD x3.toNat default).t).n).length:Int)>0 then ((kD (((p1.getD x3.toNat default).t).n)).bind fun y5=>if ¬ y5=0 then (some (.inr (.inr y5))) else (some (.inl (IntKind.wrap .i64 (x3+1))))) else (some (.inl (IntKind.wrap .i64 (x3+1))))
noncomputable def kj(p1:List ax)(x3:Int):Option (Int ⊕ (Unit ⊕ Int)) :=
  if x3<(p1.length:Int) then (if (0≤x3∧x3<(p1.length:Int)) then ((iM ((p1.getD x3.toNat default).name)).bind fun y4=>if y4=true then (if ¬ (((p1.getD x3.toNat default).t).elem)=105 then (if ¬ (((p1.getD x3.toNat default).t).elem)=98 then (some (.inr (.inr 10))) else (gA p1 x3)) else (gA p1 x3)) else (some (.inr (.inr 3)))) else none) else (some (.inr (.inl ())))
noncomputable def lb(p1:List ax):Option Int :=
  if (p1.length:Int)>30 then (some 7) else ((bD (fun x3=>kj p1 x3) 0).bind (Sum.elim (fun _=>ki) (fun z6=>some z6)))
noncomputable def lc:Option Int :=
  some 0
noncomputable def jj(p1:aK)(x4:Int):Option (Int ⊕ (Unit ⊕ Int)) :=
  if x4<3 then (if (0≤x4∧x4<(3:Int)) then ((lb ((lit ([p1.in_,p1.out_,p1.local_]:List (List ax))).getD x4.toNat default)).bind fun y5=>if ¬ y5=0 then (some (.inr (.inr y5))) else (some (.inl (IntKind.wrap .i64 (x4+1))))) else none) else (some (.inr (.inl ())))
noncomputable def ib(p1:aK):Option Int :=
  if (p1.out_.length:Int)=0 then (some 4) else ((bD (fun x4=>jj p1 x4) 0).bind (Sum.elim (fun _=>lc) (fun z6=>some z6)))
noncomputable def lf(p1:aK)(x9:Int):Option (Int ⊕ (Unit ⊕ Int)) :=
  if x9<(p1.sizes.length:Int) then (if (0≤x9∧x9<(p1.sizes.length:Int)) then ((iM (p1.sizes.getD x9.toNat default)).bind fun y10=>if y10=true then (some (.inl (IntKind.wrap .i64 (x9+1)))) else (some (.inr (.inr 3)))) else none) else (some (.inr (.inl ())))
noncomputable def nF(p1:aK):Option Int :=
  (iM p1.name).bind fun y1=>if y1=true then (if (p1.sizes.length:Int)>3 then (some 7) else (if (p1.eqs.length:Int)>60 then (some 7) else ((bD (fun x9=>lf p1 x9) 0).bind (Sum.elim (fun _=>ib p1) (fun z11=>some z11))))) else (some 3)
noncomputable def oy(x1:Int):Option Int :=
  some x1
noncomputable def lW(rcf:ab→Option Int)(p1:ab)(x6 x7:Int):Option ((Int×Int) ⊕ Int) :=
  if x7<(p1.l.length:Int) then (if (0≤x7∧x7<(p1.l.length:Int)) then ((rcf (p1.l.getD x7.toNat default)).bind fun y8=>some (.inl ((IntKind.wrap .i64 (x6+y8)),(IntKind.wrap .i64 (x7+1))))) else none) else (some (.inr x6))
noncomputable def pG(rcf:ab→Option Int)(p1:ab):Option Int :=
  (bD (fun (x6,x7)=>lW rcf p1 x6 x7) (1,0)).bind (fun z9=>oy z9)
noncomputable def km:Nat→ab→Option Int
  |0=>fun _=>none
  |n+1=>pG (km n)
noncomputable def we(fuel:Nat)(p1:ab):Option Int:=km fuel p1
noncomputable def iO(p1:ab):Option Bool :=
  if p1.op=1 then (some true) else (if p1.n=0 then (some true) else (if p1.op=2 then (some (p1.n == 1)) else (some false)))
noncomputable def bx(p1:ab)(x1 x2:Int)(b3:Bool):Option Bool :=
  if ¬ (p1.l.length:Int)=x1 then (some false) else (if ¬ (p1.s.length:Int)=x2 then (some false) else (if b3=true then (if p1.name=([]:Ω) then (iO p1) else (if ¬ p1.op=3 then (some false) else (iO p1))) else (some false)))
noncomputable def jU(p1:ab)(b6:Bool):Option Bool :=
  if (p1.l.length:Int)=1 then (bx p1 1 0 b6) else (bx p1 2 0 b6)
noncomputable def iQ(p1:ab)(b8:Bool):Option Bool :=
  if b8=true then (bx p1 2 0 (p1.k == 0)) else (some false)
noncomputable def iR(p1:ab)(b7:Bool):Option Bool :=
  if b7=true then (if p1.k≥1 then (bx p1 2 0 (decide (p1.k≤14))) else (bx p1 2 0 false)) else (if p1.op=10 then (bx p1 1 1 (p1.k == 0)) else (if p1.op=13 then (bx p1 1 2 (p1.k == 0)) else (if p1.op=14 then (iQ p1 (p1.op == 14)) else (iQ p1 (p1.op == 15)))))
noncomputable def fQ(p1:ab)(b5:Bool):Option Bool :=
  if b5=true then (bx p1 3 0 (p1.k == 0)) else (if p1.op=7 then (if p1.k≥1 then (jU p1 (decide (p1.k≤14))) else (jU p1 false)) else (if p1.op=8 then (iR p1 (p1.op == 8)) else (iR p1 (p1.op == 9))))
noncomputable def fR(p1:ab)(b4:Bool):Option Bool :=
  if b4=true then (bx p1 0 0 (p1.k == 0)) else (if p1.op=4 then (if p1.k=13 then (bx p1 1 0 true) else (bx p1 1 0 (p1.k == 14))) else (if p1.op=5 then (if p1.k≥1 then (bx p1 2 0 (decide (p1.k≤12))) else (bx p1 2 0 false)) else (if p1.op=6 then (fQ p1 (p1.op == 6)) else (if p1.op=11 then (fQ p1 (p1.op == 11)) else (fQ p1 (p1.op == 12))))))
noncomputable def oz(p1:ab):Option Bool :=
  if p1.op=1 then (fR p1 (p1.op == 1)) else (if p1.op=2 then (fR p1 (p1.op == 2)) else (fR p1 (p1.op == 3)))
noncomputable def lg:Option Int :=
  some 0
noncomputable def lh(rcf:ab→Option Int)(p1:ab)(x4:Int):Option (Int ⊕ (Unit ⊕ Int)) :=
  if x4<(p1.l.length:Int) then (if (0≤x4∧x4<(p1.l.length:Int)) then ((rcf (p1.l.getD x4.toNat default)).bind fun y5=>if ¬ y5=0 then (some (.inr (.inr y5))) else (some (.inl (IntKind.wrap .i64 (x4+1))))) else none) else (some (.inr (.inl ())))
noncomputable def ie(rcf:ab→Option Int)(p1:ab):Option Int :=
  (bD (fun x4=>lh rcf p1 x4) 0).bind (Sum.elim (fun _=>lg) (fun z6=>some z6))
noncomputable def li(p1:ab)(x9:Int):Option (Int ⊕ (Unit ⊕ Int)) :=
  if x9<(p1.s.length:Int) then (if (0≤x9∧x9<(p1.s.length:Int)) then ((kD (p1.s.getD x9.toNat default)).bind fun y10=>if ¬ y10=0 then (some (.inr (.inr y10))) else (some (.inl (IntKind.wrap .i64 (x9+1))))) else none) else (some (.inr (.inl ())))
noncomputable def ig(rcf:ab→Option Int)(p1:ab):Option Int :=
  if p1.n<0 then (some 2) else (if p1.n≥1000000000000000000 then (some 2) else ((bD (fun x9=>li p1 x9) 0).bind (Sum.elim (fun _=>ie rcf p1) (fun z11=>some z11))))
noncomputable def mg(rcf:ab→Option Int)(p1:ab):Option Int :=
  (oz p1).bind fun y1=>if y1=true then (if p1.op=3 then ((iM p1.name).bind fun y12=>if y12=true then (ig rcf p1) else (some 3)) else (ig rcf p1)) else (some 4)
noncomputable def fS:Nat→ab→Option Int
  |0=>fun _=>none
  |n+1=>mg (fS n)
noncomputable def rr(fuel:Nat)(p1:ab):Option Int:=fS fuel p1
noncomputable def mV:Option Int :=
  some 0
noncomputable def mW(fuel:Nat)(p1:TEq)(x3:Int):Option (Int ⊕ (Unit ⊕ Int)) :=
  if x3<(p1.e.length:Int) then (if (0≤x3∧x3<(p1.e.length:Int)) then ((we fuel (p1.e.getD x3.toNat default)).bind fun y4=>if y4>30 then (some (.inr (.inr 7))) else ((rr fuel (p1.e.getD x3.toNat default)).bind fun y5=>if ¬ y5=0 then (some (.inr (.inr y5))) else (some (.inl (IntKind.wrap .i64 (x3+1)))))) else none) else (some (.inr (.inl ())))
noncomputable def jz(fuel:Nat)(p1:TEq):Option Int :=
  (bD (fun x3=>mW fuel p1 x3) 0).bind (Sum.elim (fun _=>mV) (fun z6=>some z6))
noncomputable def mX(p1:TEq)(x9:Int):Option (Int ⊕ (Unit ⊕ Int)) :=
  if x9<(p1.s.length:Int) then (if (0≤x9∧x9<(p1.s.length:Int)) then ((kD (p1.s.getD x9.toNat default)).bind fun y10=>if ¬ y10=0 then (some (.inr (.inr y10))) else (some (.inl (IntKind.wrap .i64 (x9+1))))) else none) else (some (.inr (.inl ())))
noncomputable def jA(fuel:Nat)(p1:TEq):Option Int :=
  (bD (fun x9=>mX p1 x9) 0).bind (Sum.elim (fun _=>jz fuel p1) (fun z11=>some z11))
noncomputable def jB(fuel:Nat)(p1:TEq):Option Int :=
  if p1.node=([]:Ω) then (jA fuel p1) else ((iM p1.node).bind fun y12=>if y12=true then (jA fuel p1) else (some 3))
noncomputable def mY(p1:TEq)(x15:Int):Option (Int ⊕ (Unit ⊕ Int)) :=
  if x15<(p1.names.length:Int) then (if (0≤x15∧x15<(p1.names.length:Int)) then ((iM (p1.names.getD x15.toNat default)).bind fun y16=>if y16=true then (some (.inl (IntKind.wrap .i64 (x15+1)))) else (some (.inr (.inr 3)))) else none) else (some (.inr (.inl ())))
noncomputable def jC(fuel:Nat)(p1:TEq):Option Int :=
  if (p1.names.length:Int)>30 then (some 7) else (if (p1.e.length:Int)>30 then (some 7) else (if (p1.s.length:Int)>3 then (some 7) else ((bD (fun x15=>mY p1 x15) 0).bind (Sum.elim (fun _=>jB fuel p1) (fun z17=>some z17)))))
noncomputable def pH(fuel:Nat)(p1:TEq):Option Int :=
  if (p1.names.length:Int)=0 then (some 4) else (if p1.node=([]:Ω) then (if (p1.names.length:Int)>1 then (some 4) else (if ¬ (p1.e.length:Int)=1 then (some 4) else (if (p1.s.length:Int)>0 then (some 4) else (jC fuel p1)))) else (jC fuel p1))
noncomputable def fX(fuel:Nat)(p1:aB):Option ap :=
  (rM fuel p1).bind fun y3=>if (y3.length:Int)>12000 then ((tF 7 (-1)).bind fun y4=>some (y4)) else (some (ap.mk 0 0))
noncomputable def fY(x10 x11:Int):Option ((Int×Int) ⊕ (Unit ⊕ ap)) :=
  some (.inl (x11,(IntKind.wrap .i64 (x10+1))))
noncomputable def cX(fuel:Nat)(p1:aB)(x10 x18 x19:Int):Option ((Int×Int) ⊕ (Int ⊕ ap)) :=
  if x19<(((p1.nodes.getD x10.toNat default).eqs).length:Int) then (if (0≤x19∧x19<(((p1.nodes.getD x10.toNat default).eqs).length:Int)) then ((pH fuel (((p1.nodes.getD x10.toNat default).eqs).getD x19.toNat default)).bind fun y20=>if ¬ y20=0 then ((tF y20 x18).bind fun y21=>some (.inr (.inr (y21)))) else (some (.inl ((IntKind.wrap .i64 (x18+1)),(IntKind.wrap .i64 (x19+1)))))) else none) else (some (.inr (.inl x18)))
noncomputable def cP(fuel:Nat)(p1:aB)(x9 x10:Int):Option ((Int×Int) ⊕ (Unit ⊕ ap)) :=
  if x10<(p1.nodes.length:Int) then (if (0≤x10∧x10<(p1.nodes.length:Int)) then ((nF (p1.nodes.getD x10.toNat default)).bind fun y12=>if ¬ y12=0 then ((tF y12 (IntKind.wrap .i64 ((-2) - x10))).bind fun y13=>some (.inr (.inr (y13)))) else ((bD (fun (x18,x19)=>cX fuel p1 x10 x18 x19) (x9,0)).bind (Sum.elim (fun z22=>fY x10 z22) (fun z23=>some (.inr (.inr z23)))))) else none) else (some (.inr (.inl ())))
noncomputable def jV(fuel:Nat)(p1:aB):Option ap :=
  if (p1.nodes.length:Int)=0 then ((tF 9 (-1)).bind fun y1=>some (y1)) else (if (p1.nodes.length:Int)>10 then ((tF 7 (-1)).bind fun y2=>some (y2)) else ((bD (fun (x9,x10)=>cP fuel p1 x9 x10) (0,0)).bind (Sum.elim (fun _=>fX fuel p1) (fun z24=>some z24))))
noncomputable def lj:Option Bool :=
  some true
noncomputable def ll(p1 p2:List Ω)(x3:Int):Option (Int ⊕ (Unit ⊕ Bool)) :=
  if x3<(p1.length:Int) then (if (0≤x3∧x3<(p1.length:Int))∧(0≤x3∧x3<(p2.length:Int)) then (if (p1.getD x3.toNat default)=(p2.getD x3.toNat default) then (some (.inl (IntKind.wrap .i64 (x3+1)))) else (some (.inr (.inr false)))) else none) else (some (.inr (.inl ())))
noncomputable def jg(p1 p2:List Ω):Option Bool :=
  if ¬ (p1.length:Int)=(p2.length:Int) then (some false) else ((bD (fun x3=>ll p1 p2 x3) 0).bind (Sum.elim (fun _=>lj) (fun z4=>some z4)))
noncomputable def lm:Option Bool :=
  some true
noncomputable def ln(p1 p2:List an)(x3:Int):Option (Int ⊕ (Unit ⊕ Bool)) :=
  if x3<(p1.length:Int) then (if (0≤x3∧x3<(p1.length:Int))∧(0≤x3∧x3<(p2.length:Int)) then (if ((p1.getD x3.toNat default).n)=((p2.getD x3.toNat default).n)∧((p1.getD x3.toNat default).name)=((p2.getD x3.toNat default).name) then (some (.inl (IntKind.wrap .i64 (x3+1)))) else (some (.inr (.inr false)))) else none) else (some (.inr (.inl ())))
noncomputable def mA(p1 p2:List an):Option Bool :=
  if ¬ (p1.length:Int)=(p2.length:Int) then (some false) else ((bD (fun x3=>ln p1 p2 x3) 0).bind (Sum.elim (fun _=>lm) (fun z4=>some z4)))
noncomputable def lq:Option Bool :=
  some true
noncomputable def lr(p1 p2:List ax)(x3:Int):Option (Int ⊕ (Unit ⊕ Bool)) :=
  if x3<(p1.length:Int) then (if (0≤x3∧x3<(p1.length:Int))∧(0≤x3∧x3<(p2.length:Int)) then (if ((p1.getD x3.toNat default).name)=((p2.getD x3.toNat default).name) then (if ¬ (((p1.getD x3.toNat default).t).elem)=(((p2.getD x3.toNat default).t).elem) then (some (.inr (.inr false))) else ((mA (((p1.getD x3.toNat default).t).n) (((p2.getD x3.toNat default).t).n)).bind fun y4=>if y4=true then (some (.inl (IntKind.wrap .i64 (x3+1)))) else (some (.inr (.inr false))))) else (some (.inr (.inr false)))) else none) else (some (.inr (.inl ())))
noncomputable def gk(p1 p2:List ax):Option Bool :=
  if ¬ (p1.length:Int)=(p2.length:Int) then (some false) else ((bD (fun x3=>lr p1 p2 x3) 0).bind (Sum.elim (fun _=>lq) (fun z5=>some z5)))
noncomputable def lu:Option Bool :=
  some true
noncomputable def lv(p1 p2:List (List an))(x3:Int):Option (Int ⊕ (Unit ⊕ Bool)) :=
  if x3<(p1.length:Int) then (if (0≤x3∧x3<(p1.length:Int))∧(0≤x3∧x3<(p2.length:Int)) then ((mA (p1.getD x3.toNat default) (p2.getD x3.toNat default)).bind fun y4=>if y4=true then (some (.inl (IntKind.wrap .i64 (x3+1)))) else (some (.inr (.inr false)))) else none) else (some (.inr (.inl ())))
noncomputable def kE(p1 p2:List (List an)):Option Bool :=
  if ¬ (p1.length:Int)=(p2.length:Int) then (some false) else ((bD (fun x3=>lv p1 p2 x3) 0).bind (Sum.elim (fun _=>lu) (fun z5=>some z5)))
noncomputable def lw:Option Bool :=
  some true
noncomputable def lz(rcf:(List ab)→(List ab)→Option Bool)(p1 p2:List ab)(x3:Int):Option (Int ⊕ (Unit ⊕ Bool)) :=
  if x3<(p1.length:Int) then (if (0≤x3∧x3<(p1.length:Int))∧(0≤x3∧x3<(p2.length:Int)) then (if ¬ ((p1.getD x3.toNat default).op)=((p2.getD x3.toNat default).op) then (some (.inr (.inr false))) else (if ¬ ((p1.getD x3.toNat default).k)=((p2.getD x3.toNat default).k) then (some (.inr (.inr false))) else (if ((p1.getD x3.toNat default).name)=((p2.getD x3.toNat default).name) then (if ¬ ((p1.getD x3.toNat default).n)=((p2.getD x3.toNat default).n) then (some (.inr (.inr false))) else ((kE ((p1.getD x3.toNat default).s) ((p2.getD x3.toNat default).s)).bind fun y4=>if y4=true then ((rcf ((p1.getD x3.toNat default).l) ((p2.getD x3.toNat default).l)).bind fun y5=>if y5=true then (some (.inl (IntKind.wrap .i64 (x3+1)))) else (some (.inr (.inr false)))) else (some (.inr (.inr false))))) else (some (.inr (.inr false)))))) else none) else (some (.inr (.inl ())))
noncomputable def mh(rcf:(List ab)→(List ab)→Option Bool)(p1 p2:List ab):Option Bool :=
  if ¬ (p1.length:Int)=(p2.length:Int) then (some false) else ((bD (fun x3=>lz rcf p1 p2 x3) 0).bind (Sum.elim (fun _=>lw) (fun z6=>some z6)))
noncomputable def iS:Nat→(List ab)→(List ab)→Option Bool
  |0=>fun _ _=>none
  |n+1=>mh (iS n)
noncomputable def pm(fuel:Nat)(p1 p2:List ab):Option Bool:=iS fuel p1 p2
noncomputable def jD:Option Bool :=
  some true
noncomputable def jE(x3:Int):Option (Int ⊕ (Unit ⊕ Bool)) :=
  some (.inl (IntKind.wrap .i64 (x3+1)))
noncomputable def jF(fuel:Nat)(p1 p2:aB)(p3:Bool)(x3 x6:Int):Option (Int ⊕ (Unit ⊕ Bool)) :=
  if x6<(((p1.nodes.getD x3.toNat default).eqs).length:Int) then (if (0≤x6∧x6<(((p1.nodes.getD x3.toNat default).eqs).length:Int))∧(0≤x6∧x6<(((p2.nodes.getD x3.toNat default).eqs).length:Int)) then (if p3=true then (if ¬ ((((p1.nodes.getD x3.toNat default).eqs).getD x6.toNat default).at_)=((((p2.nodes.getD x3.toNat default).eqs).getD x6.toNat default).at_) then (some (.inr (.inr false))) else (if ((((p1.nodes.getD x3.toNat default).eqs).getD x6.toNat default).node)=((((p2.nodes.getD x3.toNat default).eqs).getD x6.toNat default).node) then ((jg ((((p1.nodes.getD x3.toNat default).eqs).getD x6.toNat default).names) ((((p2.nodes.getD x3.toNat default).eqs).getD x6.toNat default).names)).bind fun y7=>if y7=true then ((kE ((((p1.nodes.getD x3.toNat default).eqs).getD x6.toNat default).s) ((((p2.nodes.getD x3.toNat default).eqs).getD x6.toNat default).s)).bind fun y8=>if y8=true then ((pm fuel ((((p1.nodes.getD x3.toNat default).eqs).getD x6.toNat default).e) ((((p2.nodes.getD x3.toNat default).eqs).getD x6.toNat default).e)).bind fun y9=>if y9=true then (some (.inl (IntKind.wrap .i64 (x6+1)))) else (some (.inr (.inr false)))) else (some (.inr (.inr false)))) else (some (.inr (.inr false)))) else (some (.inr (.inr false))))) else (if ((((p1.nodes.getD x3.toNat default).eqs).getD x6.toNat default).node)=((((p2.nodes.getD x3.toNat default).eqs).getD x6.toNat default).node) then ((jg ((((p1.nodes.getD x3.toNat default).eqs).getD x6.toNat default).names) ((((p2.nodes.getD x3.toNat default).eqs).getD x6.toNat default).names)).bind fun y10=>if y10=true then ((kE ((((p1.nodes.getD x3.toNat default).eqs).getD x6.toNat default).s) ((((p2.nodes.getD x3.toNat default).eqs).getD x6.toNat default).s)).bind fun y11=>if y11=true then ((pm fuel ((((p1.nodes.getD x3.toNat default).eqs).getD x6.toNat default).e) ((((p2.nodes.getD x3.toNat default).eqs).getD x6.toNat default).e)).bind fun y12=>if y12=true then (some (.inl (IntKind.wrap .i64 (x6+1)))) else (some (.inr (.inr false)))) else (some (.inr (.inr false)))) else (some (.inr (.inr false)))) else (some (.inr (.inr false))))) else none) else (some (.inr (.inl ())))
noncomputable def fe(fuel:Nat)(p1 p2:aB)(p3:Bool)(x3:Int):Option (Int ⊕ (Unit ⊕ Bool)) :=
  (bD (fun x6=>jF fuel p1 p2 p3 x3 x6) 0).bind (Sum.elim (fun _=>jE x3) (fun z13=>some (.inr (.inr z13))))
noncomputable def jG(fuel:Nat)(p1 p2:aB)(p3:Bool)(x3:Int):Option (Int ⊕ (Unit ⊕ Bool)) :=
  if x3<(p1.nodes.length:Int) then (if (0≤x3∧x3<(p1.nodes.length:Int))∧(0≤x3∧x3<(p2.nodes.length:Int)) then (if ((p1.nodes.getD x3.toNat default).name)=((p2.nodes.getD x3.toNat default).name) then (if p3=true then (if ¬ ((p1.nodes.getD x3.toNat default).at_)=((p2.nodes.getD x3.toNat default).at_) then (some (.inr (.inr false))) else ((jg ((p1.nodes.getD x3.toNat default).sizes) ((p2.nodes.getD x3.toNat default).sizes)).bind fun y14=>if y14=true then ((gk ((p1.nodes.getD x3.toNat default).in_) ((p2.nodes.getD x3.toNat default).in_)).bind fun y15=>if y15=true then ((gk ((p1.nodes.getD x3.toNat default).out_) ((p2.nodes.getD x3.toNat default).out_)).bind fun y16=>if y16=true then ((gk ((p1.nodes.getD x3.toNat default).local_) ((p2.nodes.getD x3.toNat default).local_)).bind fun y17=>if y17=true then (if ¬ (((p1.nodes.getD x3.toNat default).eqs).length:Int)=(((p2.nodes.getD x3.toNat default).eqs).length:Int) then (some (.inr (.inr false))) else (fe fuel p1 p2 p3 x3)) else (some (.inr (.inr false)))) else (some (.inr (.inr false)))) else (some (.inr (.inr false)))) else (some (.inr (.inr false))))) else ((jg ((p1.nodes.getD x3.toNat default).sizes) ((p2.nodes.getD x3.toNat default).sizes)).bind fun y18=>if y18=true then ((gk ((p1.nodes.getD x3.toNat default).in_) ((p2.nodes.getD x3.toNat default).in_)).bind fun y19=>if y19=true then ((gk ((p1.nodes.getD x3.toNat default).out_) ((p2.nodes.getD x3.toNat default).out_)).bind fun y20=>if y20=true then ((gk ((p1.nodes.getD x3.toNat default).local_) ((p2.nodes.getD x3.toNat default).local_)).bind fun y21=>if y21=true then (if ¬ (((p1.nodes.getD x3.toNat default).eqs).length:Int)=(((p2.nodes.getD x3.toNat default).eqs).length:Int) then (some (.inr (.inr false))) else (fe fuel p1 p2 p3 x3)) else (some (.inr (.inr false)))) else (some (.inr (.inr false)))) else (some (.inr (.inr false)))) else (some (.inr (.inr false))))) else (some (.inr (.inr false)))) else none) else (some (.inr (.inl ())))
noncomputable def mi(fuel:Nat)(p1 p2:aB)(p3:Bool):Option Bool :=
  if ¬ (p1.nodes.length:Int)=(p2.nodes.length:Int) then (some false) else ((bD (fun x3=>jG fuel p1 p2 p3 x3) 0).bind (Sum.elim (fun _=>jD) (fun z22=>some z22)))
noncomputable def lB(fuel:Nat)(p1:aB):Option Bool :=
  (nJ fuel ).bind fun y1=>if y1=true then ((rK fuel p1).bind fun y2=>if y2=true then (some true) else ((mc fuel p1).bind fun y3=>(lR fuel (y3)).bind fun y4=>(jV fuel p1).bind fun y5=>if ((y4.2).code)=((y5).code)∧((y4.2).at_)=((y5).at_) then ((mi fuel (y3) p1 true).bind fun y6=>if y6=true then (if ¬ ((y5).code)=0 then (if y4.1=([]:Ω) then (some true) else (some false)) else ((rM fuel p1).bind fun y7=>some (y4.1 == y7))) else (some false)) else (some false))) else (some false)
end Pam
