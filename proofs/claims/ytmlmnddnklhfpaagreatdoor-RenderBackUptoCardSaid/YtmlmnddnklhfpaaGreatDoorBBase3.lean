/- Words for what stands in a step: printed by a program of ours; a call that may panic; a call beside private blocks. -/
import Derived.Test.YtmlmnddnklhfpaaGreatDoorBBase2
import Derived.Lib.Atoi
import Derived.Test.YtmlmnddnklhfpaaGreatDoorBBase1
import Derived.Shelf.Strconv.ParseIntPublic10
import Derived.Lib.ParseIntBTie
import Derived.Lib.AtoiTie
import Derived.Laws.Runes
import Derived.Laws.BytesArg
import Derived.Lib.ConvBytes
import Derived.Recover
import Derived.OrdersIn
import Derived.OwnWalkIn
import Derived.RangeFuncLeaves
import Derived.RangeFuncRecord
import Derived.Lib.ItoaNum
import Derived.Shelf.Strconv.Itoa4
import Derived.Shelf.Strings.OnBuilder
set_option linter.all false
namespace Pam
open Go
theorem zR{p:Prop}(h:p:=by first|rfl|(simp only [bR,bT,tab,bX,reduceIte,↓reduceIte,reduceCtorEq,Int.reduceToNat,Nat.reduceDiv,Nat.reduceMod,Nat.reduceLT,Nat.reduceLeDiff,Nat.reduceAdd,Nat.reduceSub,Nat.reduceMul,Nat.reduceEqDiff,Nat.reduceBEq,Nat.reduceBNe,Nat.reduceGT];done)):p:=h
theorem zK{p:Prop}(h:p:=by first|kernel_rfl|exact of_decide_eq_true (by kernel_rfl)):p:=h
theorem zD{p:Prop}(h:p:=by first|trivial|exact nH rfl):p:=h
theorem zC{p:Prop}(h:p:=by first|trivial|(intro _;first|trivial|simp [aS])|simp [aS]):p:=h
theorem zU{p:Prop}(h:p:=by first|trivial|(simp [bX,eK,eB,eS,eL,pI,gD,PV.under,CV.under,di,OB.under,eY];done)):p:=h
theorem zL{p:Prop}(h:p:=by first|rfl|(simp only [lit,List.map_cons,List.map_nil,bX,eK,eB,eS,eL];rfl)):p:=h
theorem zO{p:Prop}(h:p:=by first|exact .inl rfl|exact .inr rfl):p:=h
theorem zF{p:Prop}(h:p:=by simp only [bZ,bL,reduceIte,↓reduceIte,reduceCtorEq,Int.reduceToNat,Nat.reduceDiv,Nat.reduceMod,Nat.reduceLT,Nat.reduceLeDiff,Nat.reduceAdd,Nat.reduceSub,Nat.reduceMul,Nat.reduceEqDiff,Nat.reduceBEq,Nat.reduceBNe,Nat.reduceGT];rfl):p:=h
theorem zN{p:Prop}(h:p:=by first|rfl|(simp [PV.ren,CV.ren,CV.ren0,eO,lit];omega)):p:=h
theorem oM{p:Prop}(h:p:=by omega):p:=h
theorem dM{p:Prop}(h:p:=by decide):p:=h
section
variable {P:Program} {ops:Array Oper} {pv:List Nat} {E:Env} {σ σ2:List OB} {k:Env→List OB→Prop} {kp:PV→Env→List OB→Prop}
theorem Rb2{C:Prop}{f:FuncId}{args:List PV}{o:Oper}{r:List Oper}{args':List PV}{σc:List OB}{post pp:PV→List OB→Prop}(hs:ed P f args' σc post pp)(ρ:List Nat)
  (next:∀ p σ',post p σ'→ρ.length≤σ'.length→i7 P ops r (E.putD o.dst ⟨true,p.ren (eO σ.length ρ)⟩) (eX σ ρ (σ'.map (OB.ren (eO σ.length ρ)))) k kp)
  (npanic:∀ p σ',pp p σ'→ρ.length≤σ'.length→kp (p.ren (eO σ.length ρ)) E (eX σ ρ (σ'.map (OB.ren (eO σ.length ρ)))))
  (hd:gL E o.dst:=by first|trivial|exact nH rfl) (hC:C:=by first|trivial|(intro _;first|trivial|simp [aS])|simp [aS]) (hnd:ρ.Nodup:=by simp) (hlt:∀ b∈ρ,b<σ.length:=by simp)
  (hargs:args=args'.map (PV.ren (eO σ.length ρ)):=by exact rfl) (hσ:ρ.map (fun b=>σ[b]?)=σc.map (fun ob=>some (ob.ren (eO σ.length ρ))):=by exact rfl) (hu:gD ρ.length args':=by first|trivial|(simp [bX,eK,eB,eS,eL,pI,gD,PV.under,CV.under,di,OB.under,eY];done)) (hub:di ρ.length σc:=by first|trivial|(simp [bX,eK,eB,eS,eL,pI,gD,PV.under,CV.under,di,OB.under,eY];done)) :
  mY P ops true C f args o r E σ k kp:=nW hs ρ hd hC hnd hlt hargs hσ hu hub next npanic
theorem ctN{f:FuncId}{args:List PV}{p:PV}(ρ:List Nat){args':List PV}{σc:List OB}{post pp:PV→List OB→Prop}(hs:ed P f args' σc post pp)
  (h1:ρ.Nodup:=by simp) (h2:∀ b∈ρ,b<σ.length:=by simp) (h3:args=args'.map (PV.ren (eO σ.length ρ)):=by first|rfl|(simp [PV.ren,CV.ren,CV.ren0,eO,lit];omega)) (h4:ρ.map (fun b=>σ[b]?)=σc.map (fun ob=>some (ob.ren (eO σ.length ρ))):=by exact rfl)
  (h5:gD ρ.length args':=by first|trivial|(simp [bX,eK,eB,eS,eL,pI,gD,PV.under,CV.under,di,OB.under,eY];done)) (h6:di ρ.length σc:=by first|trivial|(simp [bX,eK,eB,eS,eL,pI,gD,PV.under,CV.under,di,OB.under,eY];done))
  (h7:∀ q τ,post q τ→ρ.length≤τ.length→q.ren (eO σ.length ρ)=p∧eX σ ρ (τ.map (OB.ren (eO σ.length ρ)))=σ2:=by intro q τ hq _;obtain ⟨rfl,rfl⟩:=hq;exact ⟨rfl,rfl⟩) (h8:∀ q τ,pp q τ→False:=by exact fun _ _ h=>False.elim h):pX P σ f args p σ2:=⟨args',σc,post,pp,ρ,hs,h1,h2,h3,h4,h5,h6,h7,h8⟩
theorem caN{C:Prop}{f:FuncId}{args:List PV}{o:Oper}{r:List Oper}{bs ps:List Bool}{rd:List (List Nat)}{res:PV}(hs:pX P σ f args res σ2)(next:js P ops pv r bs.tail ps.tail rd.tail (E.putD o.dst ⟨true,res⟩) σ2 k)
  (hd:gL E o.dst:=by first|trivial|exact nH rfl) (hC:C:=by first|trivial|(intro _;first|trivial|simp [aS])|simp [aS]) (hb:ps.headD false=true∧uq pv 0 σ σ2:=by exact ⟨rfl,by simp only [uq];and_intros<;>first|exact .inl rfl|exact .inr rfl|trivial⟩):o7 P ops pv true C f args o r bs ps rd E σ k:=ur hs hd hC hb next
theorem Rq{C:Prop}{f:FuncId}{args:List PV}{o:Oper}{r:List Oper}{args':List PV}{σc:List OB}{a:PV}{b:List OB}(hs:ed P f args' σc (fun p σ=>p=a∧σ=b) (fun _ _=>False))(ρ:List Nat)
  (next:i7 P ops r (E.putD o.dst ⟨true,a.ren (eO σ.length ρ)⟩) (eX σ ρ (b.map (OB.ren (eO σ.length ρ)))) k kp)
  (hd:gL E o.dst:=by first|trivial|exact nH rfl) (hC:C:=by first|trivial|(intro _;first|trivial|simp [aS])|simp [aS]) (hnd:ρ.Nodup:=by simp) (hlt:∀ b∈ρ,b<σ.length:=by simp)
  (hargs:args=args'.map (PV.ren (eO σ.length ρ)):=by exact rfl) (hσ:ρ.map (fun b=>σ[b]?)=σc.map (fun ob=>some (ob.ren (eO σ.length ρ))):=by exact rfl) (hu:gD ρ.length args':=by first|trivial|(simp [bX,eK,eB,eS,eL,pI,gD,PV.under,CV.under,di,OB.under,eY];done)) (hub:di ρ.length σc:=by first|trivial|(simp [bX,eK,eB,eS,eL,pI,gD,PV.under,CV.under,di,OB.under,eY];done)) :
  mY P ops true C f args o r E σ k kp:=nW hs ρ hd hC hnd hlt hargs hσ hu hub (fun p σ' h _=>by obtain ⟨rfl,rfl⟩:=h;exact next) (fun _ _ h _=>h.elim)
theorem Rb3{C:Prop}{f:FuncId}{args:List PV}{o:Oper}{r:List Oper}{args':List PV}{σc:List OB}{α β γ:Type}{y:α ⊕ β}{a:α→PV}{b:α→List OB}{c:β→PV}{F:α→Option γ}{G:β→Option γ}{v:γ}
  (hs:ed P f args' σc (fun p σ=>Sum.elim (fun z=>p=a z∧σ=b z) (fun _=>False) y) (fun p _=>Sum.elim (fun _=>False) (fun z=>p=c z) y)) (ρ:List Nat) (hm:Sum.elim F G y=some v)
  (next:∀ z,F z=some v→i7 P ops r (E.putD o.dst ⟨true,(a z).ren (eO σ.length ρ)⟩) (eX σ ρ ((b z).map (OB.ren (eO σ.length ρ)))) k kp)
  (np:∀ z,G z=some v→∀ σ',ρ.length≤σ'.length→kp ((c z).ren (eO σ.length ρ)) E (eX σ ρ (List.map (OB.ren (eO σ.length ρ)) σ')))
  (hd:gL E o.dst:=by first|trivial|exact nH rfl) (hC:C:=by first|trivial|(intro _;first|trivial|simp [aS])|simp [aS]) (hnd:ρ.Nodup:=by simp) (hlt:∀ b∈ρ,b<σ.length:=by simp)
  (hargs:args=args'.map (PV.ren (eO σ.length ρ)):=by exact rfl) (hσ:ρ.map (fun b=>σ[b]?)=σc.map (fun ob=>some (ob.ren (eO σ.length ρ))):=by exact rfl) (hu:gD ρ.length args':=by first|trivial|(simp [bX,eK,eB,eS,eL,pI,gD,PV.under,CV.under,di,OB.under,eY];done)) (hub:di ρ.length σc:=by first|trivial|(simp [bX,eK,eB,eS,eL,pI,gD,PV.under,CV.under,di,OB.under,eY];done)) :
  mY P ops true C f args o r E σ k kp:=by
 cases y with
 |inl z=>exact nW hs ρ hd hC hnd hlt hargs hσ hu hub (fun p σ' h _=>by obtain ⟨rfl,rfl⟩:=h;exact next z hm) (fun _ _ h _=>h.elim)
 |inr z=>exact nW hs ρ hd hC hnd hlt hargs hσ hu hub (fun _ _ h _=>h.elim) (fun p σ' h hl=>by cases h;exact np z hm σ' hl)
theorem gM{p q:Prop} (hq:q) (h:Bx q→p:=by
  intro hq
  simp (maxSteps:=3000000) only [bA,bT,tab,bX,reduceIte,↓reduceIte,reduceCtorEq,Int.reduceToNat,Nat.reduceDiv,Nat.reduceMod,Nat.reduceLT,Nat.reduceLeDiff,Nat.reduceAdd,Nat.reduceSub,Nat.reduceMul,Nat.reduceEqDiff,Nat.reduceBEq,Nat.reduceBNe,Nat.reduceGT]
  repeat refine sd ?_
  exact hq.1):p:=h ⟨hq⟩
theorem gMx{p q F:Prop} (fx:F) (hq:q) (h:F→Bx q→p:=by
  intro fx hq
  simp (maxSteps:=3000000) only [bA,bT,tab,bX,reduceIte,↓reduceIte,reduceCtorEq,Int.reduceToNat,Nat.reduceDiv,Nat.reduceMod,Nat.reduceLT,Nat.reduceLeDiff,Nat.reduceAdd,Nat.reduceSub,Nat.reduceMul,Nat.reduceEqDiff,Nat.reduceBEq,Nat.reduceBNe,Nat.reduceGT,fx]
  repeat refine sd ?_
  exact hq.1):p:=h fx ⟨hq⟩
theorem gMK{p q:Prop} (h:Bx q→p:=by
  intro hq
  refine gM ?_
  exact hq.1) (hq:q):p:=h ⟨hq⟩
theorem En{p q F:Prop} (fx:F) (h:F→Bx q→p:=by
  intro fx hq
  refine gMx fx ?_
  exact hq.1) (hq:q):p:=h fx ⟨hq⟩
theorem gr{p q:Prop} (hq:q) (h:Bx q→p:=by
  intro hq
  simp only [bR,bT,tab,bX,reduceIte,↓reduceIte,reduceCtorEq,Int.reduceToNat,Nat.reduceDiv,Nat.reduceMod,Nat.reduceLT,Nat.reduceLeDiff,Nat.reduceAdd,Nat.reduceSub,Nat.reduceMul,Nat.reduceEqDiff,Nat.reduceBEq,Nat.reduceBNe,Nat.reduceGT]
  exact hq.1):p:=h ⟨hq⟩
theorem grK{p q:Prop} (h:Bx q→p:=by
  intro hq
  refine gr ?_
  exact hq.1) (hq:q):p:=h ⟨hq⟩
end
end Pam
namespace Pam
open Go
theorem Lw1{p:Prop} (h:p:=by
  refine (hk _ _∘fd) ?_
  cases hm
  exact kr 0):p:=h
theorem Lw2{p:Prop} (h:p:=by
  refine (ab∘goK∘hk _ _∘fd∘fH∘iW) ?_
  cases hm
  exact kr 1):p:=h
theorem Lw3{p:Prop} (h:p:=by
  refine (fH∘jP∘kT∘fH∘iW) ?_
  cases hm
  exact kr 0):p:=h
theorem Lw4{p:Prop} (h:p:=by
  refine (fd∘jP) ?_
  cases hm
  exact kr 0):p:=h
theorem Lw5{p:Prop} (h:p:=by
  refine (dq∘cB∘be∘ah () () hm) ?_
  exact ls):p:=h
theorem Lw6{p:Prop} (h:p:=by
  refine (fd∘fH∘jP) ?_
  cases hm
  exact kr 0):p:=h
theorem Lw7{p:Prop} (h:p:=by
  refine fd ?_
  cases hm
  exact kr 0):p:=h
theorem Lw8{p:Prop} (h:p:=by
  refine fd ?_
  cases hm
  exact kr 1):p:=h
theorem Lw9{p:Prop} (h:p:=by
  refine (dq∘cB∘be) ?_
  cases hm
  exact kn 1):p:=h
theorem uP{p:Prop} (h:p:=by
  refine (fH∘iW) ?_
  cases hm
  exact kr 0):p:=h
theorem uQ{p:Prop} (h:p:=by
  refine ah () () hm ?_
  exact ls):p:=h
theorem F5{p:Prop} (h:p:=by
  refine (fd∘fH∘kT∘fH) ?_
  cases hm
  exact kr 1):p:=h
theorem Dm{p:Prop} (h:p:=by
  refine (fd∘jP) ?_
  cases hm
  exact kr 1):p:=h
theorem yZ{p:Prop} (h:p:=by
  refine fd ?_
  cases hm
  exact kr 2):p:=h
theorem H1{p:Prop} (h:p:=by
  refine (gpK∘hk _ _∘fd∘fH∘iW) ?_
  cases hm
  exact kr 1):p:=h
theorem Jc{p:Prop} (h:p:=by
  refine (ab∘goK∘hk _ _∘aj [0,24,25,26,27,28,29,30]∘aj [5,31]∘fd) ?_
  cases hm
  exact kr 3):p:=h
theorem F6{p:Prop} (h:p:=by
  refine (fH∘iW) ?_
  cases hm
  exact kr 2):p:=h
end Pam
namespace Pam
def Ae(s:List UInt8):Option Int:=if s.length≤18 then Go.Lib.atoi s else none
end Pam
namespace Pam
open Go Go.Shelf Go.Proofs Go.RowKit
theorem Inv.grown0{G:Gh}{w w':World}(hi:Inv G [] w)(h:Below w.heap.size w w'):Inv G [] w':=by
 have hk:∀ (b:Nat) (o:Obj),w.heap[b]? = some o→w'.heap[b]? = some o:=fun b o hb=>by
  have hlt:=(Array.getElem?_eq_some_iff.1 hb).1
  rw [← hb];exact h.block b hlt
 refine ⟨fun b o hb=>hk b o (hi.hH b o hb),fun b o hb=>hk b o (hi.hF b o hb),hi.HF,hi.len,fun b ob hb=>by simp at hb,hi.inj,hi.sep,?_,?_,?_,?_⟩
 ·exact h.os.trans hi.os
 ·exact h.tape.trans hi.tape
 ·exact h.output.trans hi.output
 ·exact Nat.le_trans hi.grow h.size
theorem Br {P:Program} {ρ:Ren} (Ly:LaysC.n174 P ρ) {f:FuncId} (hf:ρ.f 174=f) (hb:∃ fn,P.funcs[f]? = some fn∧fn.body.isSome=true∧(fn.name == "runtime.NumGoroutine")=false)
  (s:List UInt8) (v:Int) (h:Ae s=some v) :
  cq P f [.c (.str s),.c (.int .i64 10),.c (.int .i64 64)] (.t [.c (.int .i64 v),.c .nili]):=by
 subst hf
 unfold Ae at h
 split at h
 case isFalse=>cases h
 rename_i hl
 refine ⟨hb,fun G w vs hna _ hi ha=>?_⟩
 match vs,ha with
 |[v0,v1,v2],ha =>
  obtain ⟨ha0,ha1,ha2,_⟩:=ha
  have e0:=oC ha0
  have e1:=fK ha1
  have e2:=fK ha2
  subst e0;subst e1;subst e2
  have hs:(⟨s.toArray⟩:ByteArray).data.toList=s:=rfl
  have hz:(⟨s.toArray⟩:ByteArray).size=s.length:=by simp [ByteArray.size]
  refine (Any.strconv_ParseInt_10_at64_ok Ly ⟨s.toArray⟩ (by rw [hz];omega) v (by rw [hs,Go.Lib.parseIntB_64,Go.Lib.atoiAll_short _ hl,h];rfl) w).mono ?_
  rintro e w' ⟨rfl,hw⟩
  have hbel:Below w.heap.size w w':=by
   rcases hw with rfl|⟨t,rfl⟩
   ·exact Below.refl _ _
   ·exact Lib.bytesWorld_below _ _ _
  exact ⟨G,[],.t [.c (.int .i64 v),.c .nili],_,Gle.refl G,hi.grown0 hbel,⟨[.int .i64 v,.nilIface],rfl,.int _ _,.nili,trivial⟩,.inl ⟨rfl,rfl,rfl⟩⟩
 |[],ha=>exact absurd ha (by simp [aZ])
 |[_],ha=>exact absurd ha (by simp [aZ])
 |[_,_],ha=>exact absurd ha (by simp [aZ])
 |_ :: _ :: _ :: _ :: _,ha=>exact absurd ha (by simp [aZ])
end Pam
namespace Pam
open Go
section
variable {P:Program} {E:Env} {σ:List OB}
def Ey(P:Program)(T:TypeId):Bool:=match P.underlying T with|some (.interface _)=>true|_=>false
theorem Cv{o:Oper}{op:BinOp}{T T':TypeId}{x:Operand}(ho:o.op=.binOp op T x (.const .nilIface) T')(hop:op=.eql∨op=.neq)
  (hx:ev E x=⟨true,.c .nili⟩) (hT:Ey P T=true):nr P E σ o (.c (.bool (match op with|.eql=>true|_=>false))) σ:=.quiet fun G a w hs=>by
 have hr:bY G.H .nili (a.eval x):=ru hs hx
 have hu:∃ ms,P.underlying T=some (.interface ms):=by
  unfold Ey at hT
  cases hu:P.underlying T with
  |none=>simp [hu] at hT
  |some d=>cases d<;>simp [hu] at hT;simp
 obtain ⟨ms,hu⟩:=hu
 generalize hv:a.eval x=u at hr
 cases hr
 have hc:a.eval (.const .nilIface)=.nilIface:=rfl
 have q0:∀ op,(eqGuard op T x (.const .nilIface) .nilIface .nilIface).run P w=.ok () w:=fun op=>by
  cases op<;>simp [eqGuard]
 have q1:∀ d:Nat,(Op.equalIn (d+1) T .nilIface .nilIface).run P w=.ok true w:=fun d=>by
  simp [Op.equalIn,run_underlying hu]
 rcases hop with rfl|rfl
 ·refine ⟨.bool true,?_,oD _⟩
  simp only [execOp,ho,hv,hc,Sem.run_bind,q0,Result.andThen_ok]
  simp [binOp,Op.equal,Op.maxDepth,q1 9999]
 ·refine ⟨.bool false,?_,oD _⟩
  simp only [execOp,ho,hv,hc,Sem.run_bind,q0,Result.andThen_ok]
  simp [binOp,Op.equal,Op.maxDepth,q1 9999]
theorem ze(n:Int)(h0:0≤n)(h1:n<128):Utf8.encode n=⟨([UInt8.ofNat n.toNat]:List UInt8).toArray⟩:=by
 have hv:Utf8.valid n=true:=by unfold Utf8.valid;simp;omega
 unfold Utf8.encode
 rw [hv]
 simp only [if_true]
 rw [iP (by omega)]
theorem Ez{o:Oper}{T D:TypeId}{x:Operand}{k:IntKind}{n:Int}(ho:o.op=.convert T D x)(hx:ev E x=⟨true,.c (.int k n)⟩)(hT:wb P T=true)(hD:ox P D=true)(h:0≤n∧n<128) :
  nr P E σ o (.c (.str [UInt8.ofNat n.toNat])) σ:=.quiet fun G a w hs=>by
 have e:=fK (ru hs hx)
 have hu:=ye hT
 have hd:P.underlying D=some .string:=by unfold ox at hD;split at hD<;>simp_all
 refine ⟨_,?_,yN _⟩
 have:=run_convert_int_string (P:=P) w T D k n (by rw [hu];rfl) hd
 rw [ze n h.1 h.2] at this
 simp only [execOp,ho,e,Sem.run_bind]
 rw [this]
 rfl
theorem EA{o:Oper}{op:BinOp}{T T':TypeId}{x:Operand}(ho:o.op=.binOp op T x (.const .nilIface) T')(hop:op=.eql∨op=.neq)
  (hx:ev E x=⟨true,.c .nili⟩) (hT:Ey P T=true):∀ E',(∀ y∈o.op.operands,ev E' y=ev E y)→∀ σ,nr P E' σ o (.c (.bool (match op with|.eql=>true|_=>false))) σ:=fun E' h σ =>
 Cv ho hop (by rw [h x (by rw [ho];simp [Op.operands])];exact hx) hT
end
end Pam
namespace Pam
open Go
section
variable {P:Program} {E:Env} {σ:List OB}
end
end Pam
namespace Pam
open Go
section
variable {P:Program} {E:Env} {σ:List OB}
end
section
variable {P:Program} {ops:Array Oper} {pv:List Nat}
end
end Pam
namespace Pam
open Go
section
variable {P:Program} {E:Env} {σ:List OB}
theorem Dr{o:Oper}{x:Operand}{v:PV}(ho:o.op=.move x)(hx:ev E x=⟨true,v⟩) :
  ∀ E',(∀ y∈o.op.operands,ev E' y=ev E y)→∀ σ,nr P E' σ o v σ:=fun E' h σ=>.quiet fun G a w hs=>by
 have hx':ev E' x=⟨true,v⟩:=(h x (by rw [ho];simp [Op.operands])).trans hx
 refine ⟨a.eval x,?_,ru hs hx'⟩
 simp only [execOp,ho]
 rfl
end
theorem emL{α:Type}[Inhabited α](f:α→List CV)(xs:List α)(i:Nat)(ys:List (List CV))(hy:ys=xs.map f)(h:i<xs.length:=by first|omega|(simp only [oE,List.length_cons,List.length_nil,List.length_append,List.length_set,List.length_replicate,List.length_map,List.length_take,List.length_drop];omega)):elt ys i=f (xs.getD i default):=by rw [hy];exact em f xs i h
end Pam
namespace Pam
open Go
section
variable {P:Program} {E:Env} {σ:List OB}
def pY:List (Int×Int)→Int→Option Int
 |[],_=>none
 |(a,c) :: r,n=>if a=n then some c else pY r n
def mII(p:Int×Int):Lit×CV:=(.int .i64 p.1,.int .i64 p.2)
theorem Es:∀ (M:List (Int×Int)) (n:Int),lk (M.map mII) (.int .i64 n)=(pY M n).map (CV.int .i64)
 |[],n=>rfl
 |(a,c) :: r,n=>by
  rw [List.map_cons]
  unfold lk pY mII
  simp only [Lit.int.injEq,true_and]
  by_cases e:a=n
  ·rw [iP e,iP e];rfl
  ·rw [iN e,iN e,← Es r n];rfl
def uu(P:Program)(t k e:TypeId):Bool:=(match P.underlying t with|some (.map k' e')=>k' == k && e' == e|_=>false) && (match P.underlying k with|some (.int .i64)=>true|_=>false)
theorem wM{t k e:TypeId}(h:uu P t k e=true):P.underlying t=some (.map k e)∧P.underlying k=some (.int .i64):=by
 unfold uu at h
 rw [Bool.and_eq_true] at h
 obtain ⟨h1,h2⟩:=h
 constructor
 ·split at h1
  ·rename_i k' e' hu
   simp only [Bool.and_eq_true,beq_iff_eq] at h1
   rw [hu,h1.1,h1.2]
  ·cases h1
 ·split at h2
  ·assumption
  ·cases h2
theorem Je{n:Int}(h:-9223372036854775808≤n∧n≤9223372036854775807):(Lit.int .i64 n).wf=true:=by
 have e1:IntKind.i64.min = -9223372036854775808:=by decide
 have e2:IntKind.i64.max=9223372036854775807:=by decide
 simp [Lit.wf,e1,e2,h.1,h.2]
theorem ym{o:Oper}{t k e:TypeId}(ho:o.op=.makeMap t none)(ht:uu P t k e=true):nr P E σ o (.c (.optr σ.length 0)) (σ++[.mp P k (([]:List (Int×Int)).map mII)]):=fun G a w hs=>by
 have hi:=hs.inv
 have hle:cO G.own (G.own++[some ⟨w.heap.size,1,0,0,true,0⟩]):=cO.append _ _
 have hlast:(G.own++[some (⟨w.heap.size,1,0,0,true,0⟩:OG)])[σ.length]? = some (some ⟨w.heap.size,1,0,0,true,0⟩):=by rw [← hi.len];simp
 refine ⟨_,.map (some w.heap.size),w.alloc (.map #[] 0),{ G with own:=G.own++[some ⟨w.heap.size,1,0,0,true,0⟩] },?_,.inl rfl,⟨fun _ _ h=>h,rfl,rfl,rfl⟩,hle,?_,?_⟩
 ·simp only [execOp,ho]
  rfl
 ·refine hi.push (.mp P k []) _ (by simp) (fun b hb=>heap_alloc_old w _ hb) (fun _=>rfl) rfl rfl rfl ?_
  exact ⟨_,hlast,rfl,rfl,rfl,.map [],World.ownsMap_made w P k _,fun kl=>by simp [lk,DataW.atKey]⟩
 ·exact ⟨rfl,_,hlast,fun o e _=>by simp only [sJ] at e;subst e;rfl⟩
theorem Cr{G:Gh}{w:World}{b:Nat}{k:TypeId}{m:List (Lit×CV)}{v:Value}(hi:Inv G σ w)(hσ:σ[b]? = some (.mp P k m))(hr:bm G (.c (.optr b 0)) v):∃ o,G.own[b]? = some (some o)∧o.has=true∧o.ver=0∧o.sz=1∧DV G.H w P k m o.blk∧v=.map (some o.blk):=by
 obtain ⟨o,h1,h2,h3,h4,h5⟩:=hi.own b _ hσ
 obtain ⟨_,oo,q1,q2⟩:=hr
 rw [h1] at q1
 simp only [sJ] at q1
 exact ⟨o,h1,h2,h3,h4,h5,(q2 o q1.symm h3).trans (iN (by omega))⟩
end
end Pam
namespace Pam
open Go
section
variable {P:Program} {E:Env} {σ:List OB}
theorem qr{o:Oper}{t k e:TypeId}{m x y:Operand}{M:List (Int×Int)}{b:Nat}{n c:Int}(ho:o.op=.insert t m x y)(hm:ev E m=⟨true,.c (.optr b 0)⟩)(hx:ev E x=⟨true,.c (.int .i64 n)⟩)(hy:ev E y=⟨true,.c (.int .i64 c)⟩)
  (hσ:σ[b]? = some (.mp P k (M.map mII))) (ht:uu P t k e=true) (hn:-9223372036854775808≤n∧n≤9223372036854775807) (hl:M.length<1000000) :
  nr P E σ o .x (σ.set b (.mp P k (((n,c) :: M).map mII))):=fun G a w hs=>by
 obtain ⟨ht1,hk⟩:=wM ht
 have hi:=hs.inv
 obtain ⟨og,g1,g2,g3,g4,⟨D,hown,hlk⟩,hv⟩:=Cr hi hσ (ru hs hm)
 have ex:=fK (ru hs hx)
 have ey:=fK (ru hs hy)
 have hkey:=Maps.keyOf_int_mk hk (Je hn)
 have K:=Maps.int_keyed hk
 have hDm:Maps.IsMap D:=by obtain ⟨es,clock,_,_,_,hD⟩:=hown;exact ⟨_,hD⟩
 obtain ⟨w',hrun,hown',hg⟩:=hown.update (val:=.int .i64 c) (d:=.held (.int .i64 c)) (ps:=[]) K ht1 (by simp [maxLen];omega) hkey rfl
 have hG:({ G with own:=G.own.set b (some og) }:Gh)=G:=by
  have:G.own.set b (some og)=G.own:=by
   apply List.ext_getElem?
   intro k
   by_cases e:b=k
   ·subst e;rw [g1];simp [(List.getElem?_eq_some_iff.1 g1).1]
   ·rw [List.getElem?_set_ne e]
  cases G;simp_all
 refine ⟨.skip,undef,w',G,?_,.inr ⟨rfl,rfl⟩,pU.refl G,cO.refl _,?_,trivial⟩
 ·simp only [execOp,ho,hv,ex,ey,Sem.run_bind,hrun,Result.andThen_ok,Sem.run_pure]
 ·have key:=hi.change (w':=w') b (.mp P k (((n,c) :: M).map mII)) og og g1 (.inl rfl) hg.size (fun q hq hne=>hg.block q hq (fun e=>hne g2 (by simpa using e))) (fun hh'=>.inl ⟨rfl,hh'⟩) hg.os hg.tape hg.output (by
   rw [hG]
   refine ⟨og,g1,g2,g3,g4,D.put (.int .i64 n) (.held (.int .i64 c)),by simpa using hown',fun kl=>?_⟩
   rw [List.map_cons]
   unfold lk mII
   simp only
   by_cases ek:Lit.int .i64 n=kl
   ·rw [iP ek,← ek]
    exact ⟨.int .i64 c,fun z=>Maps.atKey_put_same hDm (K.key hkey) _ z,.int _ _⟩
   ·rw [iN ek]
    have:=hlk kl
    simp only [Maps.atKey_put_other (fun e=>ek e.symm)]
    exact this)
  rw [hG] at key
  exact key
theorem yo{o:Oper}{t k e:TypeId}{m x:Operand}{M:List (Int×Int)}{b:Nat}{n:Int}(ho:o.op=.lookup t m x false)(hm:ev E m=⟨true,.c (.optr b 0)⟩)(hx:ev E x=⟨true,.c (.int .i64 n)⟩)
  (hσ:σ[b]? = some (.mp P k (M.map mII))) (ht:uu P t k e=true) (hz:(P.info? e).map (·.zero)=some (some (.int .i64 0))) (hn:-9223372036854775808≤n∧n≤9223372036854775807) :
  nr P E σ o (.c (.int .i64 ((pY M n).getD 0))) σ:=.quiet fun G a w hs=>by
 obtain ⟨ht1,hk⟩:=wM ht
 obtain ⟨og,g1,g2,g3,g4,⟨D,⟨es,clock,hb,F,hsz,hD⟩,hlk⟩,hv⟩:=Cr hs.inv hσ (ru hs hm)
 have ex:=fK (ru hs hx)
 have hz':(zeroValue e).run P w=.ok (.int .i64 0) w:=by
  cases hi:P.info? e with
  |none=>rw [hi] at hz;cases hz
  |some q =>
   rw [hi] at hz
   simp only [Option.map_some,sJ] at hz
   exact j7 hi hz
 have hkey:=Maps.keyOf_int_mk hk (Je hn)
 have hl:=hlk (.int .i64 n)
 rw [Es] at hl
 have fin:∀ (val:Value) (c:Int),(Instr.lookup t (.map (some og.blk)) (.int .i64 n) false).run P w=.ok val w→val=.int .i64 c→(pY M n).getD 0=c →
   ∃ vv,(execOp a.eval o).run P w=.ok (.value vv) w∧bm G (.c (.int .i64 ((pY M n).getD 0))) vv:=by
  intro val c hrun h1 h2
  refine ⟨val,?_,?_⟩
  ·simp only [execOp,ho,hv,ex]
   exact nq hrun
  ·rw [h1,h2];exact iY _ _
 rcases Maps.fit_look false (Maps.int_keyed hk) ht1 hz' hb F hkey with ⟨hrun,_,hat⟩|⟨e0,y,_,_,hrun,hRv,hat,_⟩
 ·cases hg:pY M n with
  |none=>rw [← hg];exact fin _ 0 hrun rfl (by rw [hg];rfl)
  |some c =>
   rw [hg] at hl
   obtain ⟨v,h1,_⟩:=hl
   have e1:=h1 (.held (.bool true))
   have e2:=h1 (.held (.bool false))
   rw [hD,hat] at e1 e2
   rw [← e1] at e2
   simp at e2
 ·simp only [sJ] at hRv
  cases hg:pY M n with
  |none =>
   rw [hg] at hl
   have e1:=hl (.lit (.bool true))
   rw [hD,hat,← hRv] at e1
   cases e1
  |some c =>
   rw [hg] at hl
   obtain ⟨v,h1,h2⟩:=hl
   have e1:=h1 (.lit (.bool true))
   rw [hD,hat,← hRv] at e1
   simp only [DataW.held.injEq] at e1
   rw [← hg]
   refine fin _ c hrun ?_ (by rw [hg];rfl)
   rw [e1]
   cases h2
   rfl
end
end Pam
namespace Pam
open Go
section
variable {P:Program} {E:Env} {σ:List OB} {ops:Array Oper} {k:Env→List OB→Prop} {kp:PV→Env→List OB→Prop}
def nsC(ns:List (IntKind×Int)):List CV:=ns.map fun p=>.int p.1 p.2
def zc(P:Program)(T:TypeId):Bool:=match P.underlying T with|some (.interface _)=>false|some _=>true|none=>false
def Eu(P:Program)(T:TypeId):Bool:=match P.underlying T with|some (.interface _)=>true|_=>false
theorem Ct{G:Gh}:∀ {ns:List (IntKind×Int)} {vs:List Value},aZ (Rep G) (nsC ns) vs→vs=ns.map fun p=>Value.int p.1 p.2
 |[],[],_=>rfl
 |p :: ns,v :: vs,h=>by
  have h1:=fK (G:=G) (k:=p.1) (n:=p.2) h.1
  rw [Ct (ns:=ns) h.2,h1]
  rfl
theorem vS{o:Oper}{T:TypeId}{x:Operand}{ns:List (IntKind×Int)}(ho:o.op=.makeInterface T x)(hx:ev E x=⟨true,.a (nsC ns)⟩)(hT:zc P T=true) :
  nr P E σ o (.c (.ifc T true (nsC ns))) σ:=.quiet fun G a w hs=>by
 obtain ⟨vs,hv,h2⟩:=ru hs hx
 have hvs:=Ct h2
 have hu:∃ d,P.underlying T=some d∧∀ ms,d≠.interface ms:=by
  unfold zc at hT
  cases hd:P.underlying T with
  |none=>simp [hd] at hT
  |some d=>exact ⟨d,rfl,fun ms e=>by subst e;simp [hd] at hT⟩
 obtain ⟨d,hd,hne⟩:=hu
 refine ⟨.iface T (a.eval x),?_,?_⟩
 ·simp only [execOp,ho,Instr.makeInterface,Sem.run_bind,run_underlying hd,Result.andThen_ok]
  cases d<;>first|(exact absurd rfl (hne _))|rfl
 ·rw [hv,hvs]
  exact bY.rep (.ifc T ns)
theorem zd{G:Gh}{T:TypeId}{ns:List (IntKind×Int)}{v:Value}(h:bm G (.c (.ifc T true (nsC ns))) v):v=.iface T (.agg (ns.map fun p=>Value.int p.1 p.2).toArray):=by
 have h':bY G.H (.ifc T true (nsC ns)) v:=h
 generalize hc:nsC ns=cs at h'
 cases h' with
 |ifc _ ns' =>
  have:ns=ns':=by
   unfold nsC at hc
   clear h
   induction ns generalizing ns' with
   |nil=>cases ns'<;>simp_all
   |cons p ns ih =>
    cases ns' with
    |nil=>simp at hc
    |cons q ns' =>
     simp only [List.map_cons,List.cons.injEq,CV.int.injEq] at hc
     obtain ⟨⟨h1,h2⟩,h3⟩:=hc
     rw [ih _ h3]
     congr 1
     exact Prod.ext h1 h2
  rw [this]
theorem nO{o:Oper}{l:List Oper}{x:Operand}{T:TypeId}{ns:List (IntKind×Int)}(ho:o.op=.panic x)(hx:ev E x=⟨true,.c (.ifc T true (nsC ns))⟩)(hg:gO ops E o.guard=some true)
  (h:kp (.c (.ifc T true (nsC ns))) E σ):i7 P ops (o :: l) E σ k kp:=fun G a w hs=>by
 have hw:=nU (P:=P) hs hg
 have hr:=ru hs hx
 have hv:=zd hr
 unfold wpList
 rw [iP hw]
 left
 unfold Oper.wp
 have e1:(execOp a.eval o).run P w=.halt (.panic (.iface T (.agg (ns.map fun p=>Value.int p.1 p.2).toArray))) w:=by
  simp only [execOp,ho,hv,Instr.panic,goPanic]
  rfl
 rw [e1]
 exact ⟨G,E,σ,.panic (.c (.ifc T true (nsC ns))),Gle.refl G,hs,⟨_,rfl,by rw [hv] at hr;exact hr⟩,h⟩
theorem tT{o:Oper}{x:Operand}{X T:TypeId}{ns:List (IntKind×Int)}(cs:List CV)(hcs:nsC ns=cs)(ho:o.op=.typeAssert x X T true)(hx:ev E x=⟨true,.c (.ifc T true (nsC ns))⟩)(hT:zc P T=true) :
  nr P E σ o (.t [.a cs,.c (.bool true)]) σ:=.quiet fun G a w hs=>by
 subst hcs
 have hv:=zd (ru hs hx)
 have hu:∃ d,P.underlying T=some d∧∀ ms,d≠.interface ms:=by
  unfold zc at hT
  cases hd:P.underlying T with
  |none=>simp [hd] at hT
  |some d=>exact ⟨d,rfl,fun ms e=>by subst e;simp [hd] at hT⟩
 obtain ⟨d,hd,hne⟩:=hu
 refine ⟨.tuple #[.agg (ns.map fun p=>Value.int p.1 p.2).toArray,.bool true],?_,?_⟩
 ·simp only [execOp,ho,hv,Instr.typeAssert,Sem.run_bind,run_underlying hd,Result.andThen_ok]
  cases d<;>first|(exact absurd rfl (hne _))|(simp;done)|(simp;rfl)
 ·refine ⟨[_,_],rfl,⟨_,rfl,?_⟩,bY.rep (.bool true),trivial⟩
  clear hx hv
  unfold nsC
  induction ns with
  |nil=>trivial
  |cons p ns ih=>exact ⟨bY.rep (.int p.1 p.2),ih⟩
theorem uT{o:Oper}{op:BinOp}{T T' S:TypeId}{x:Operand}{ns:List (IntKind×Int)}(ho:o.op=.binOp op T x (.const .nilIface) T')(hop:op=.eql∨op=.neq)
  (hx:ev E x=⟨true,.c (.ifc S true (nsC ns))⟩) (hT:Eu P T=true):nr P E σ o (.c (.bool (match op with|.eql=>false|_=>true))) σ:=.quiet fun G a w hs=>by
 have hu:∃ ms,P.underlying T=some (.interface ms):=by
  unfold Eu at hT
  cases hu:P.underlying T with
  |none=>simp [hu] at hT
  |some d=>cases d<;>simp [hu] at hT;simp
 obtain ⟨ms,hu⟩:=hu
 have hv:=zd (ru hs hx)
 have hc:a.eval (.const .nilIface)=.nilIface:=rfl
 have q0:∀ op S v,(eqGuard op T x (.const .nilIface) (.iface S v) .nilIface).run P w=.ok () w:=fun op S v=>by
  cases op<;>simp [eqGuard]
 have q1:∀ (d:Nat) (t:TypeId) (v:Value),(Op.equalIn (d+1) T (.iface t v) .nilIface).run P w=.ok false w:=fun d t v=>by
  simp [Op.equalIn,run_underlying hu]
 rcases hop with rfl|rfl
 ·refine ⟨.bool false,?_,oD _⟩
  simp only [execOp,ho,hv,hc,Sem.run_bind,q0,Result.andThen_ok]
  simp [binOp,Op.equal,Op.maxDepth,q1 9999]
 ·refine ⟨.bool true,?_,oD _⟩
  simp only [execOp,ho,hv,hc,Sem.run_bind,q0,Result.andThen_ok]
  simp [binOp,Op.equal,Op.maxDepth,q1 9999]
end
end Pam
namespace Pam
open Go
structure Clo (P:Program) (cf:FuncId) (z:Code) (nz r5 r2:Nat):Prop where
 hf:∃ (fz:Func) (j0:Nat) (rc sa:Oper) (cl:Call),P.funcs[cf]? = some fz∧fz.body=some (.seq (.region j0 [rc,sa].toArray false) z)∧fz.ntmps=nz∧fz.results.toList=[]∧(fz.name == "runtime.NumGoroutine")=false ∧
  rc.op=.call cl∧cl.callee=.builtin .recover∧cl.args=#[]∧rc.dst=some r5∧rc.guard=none∧sa.op=.assign (.tmp r5)∧sa.dst=some r2∧sa.guard=none
 n5:r5<nz
 n2:r2<nz
 g5:2≤r5
 g2:2≤r2
 ne:r5≠r2
theorem pN{o:Oper}(h:o.guard=none)(ops:Array Oper)(t:Array Value):Region.wanted o (yielded ops t)=true:=by
 unfold Region.wanted;rw [h]
def KG(K:Kt):Kt:=fun x E σ=>∃ E1 σ1,kB E σ E1 σ1∧K x E1 σ1
theorem yn{P:Program}{cf:FuncId}{z:Code}{nz r5 r2:Nat}(c:Clo P cf z nz r5 r2){G:Gh}{σ:List OB}{w:World}{pa pb rp:PV}{va vb rv:Value}{u u2:FrameMode}{KZ:Kt}
  (hrec:∀ (c₀:Frame) (cs:List Frame),c₀.mode=u→recoverD (c₀ :: cs)=some (rv,{ c₀ with mode:=u2 } :: cs)∨(recoverD (c₀ :: cs)=none∧rv=.nilIface∧u2=u))
  (hi:Inv G σ w) (ha:bm G pa va) (hb:bm G pb vb) (hr:bm G rp rv)
  (hKe:∀ i E σ,¬ KZ (.exit i) E σ) (hKp:∀ p E σ,¬ KZ (.panic p) E σ)
  (hz:W P z (KG KZ) (Env.ofList nz σ.length [(r2,rp),(r5,rp),(0,pa),(1,pb)]) σ) :
  CallsD P cf #[va,vb] u w fun e u' w'=>∃ r G' E' σ',e=.returned r∧u'=u2∧Gle G G'∧cO G.own G'.own∧Inv G' σ' w'∧(KZ .normal E' σ'∨KZ .ret E' σ'):=by
 obtain ⟨fz,j0,rc,sa,cl,hf,hbd,hnt,hrs,hname,q1,q2,q3,q4,q5,q6,q7,q8⟩:=c.hf
 have c5:=c.n5
 have c2:=c.n2
 have d5:=c.g5
 have d2:=c.g2
 have dn:=c.ne
 refine callsD_of_wpS hf hbd fun c₀ cs hm=>?_
 refine wpS_seq ?_
 refine wpS_region ?_
 have tm0:∀ (k:Nat) (v:Value),(#[va,vb]:Array Value)[k]? = some v→((#[va,vb]++Array.replicate (fz.ntmps - 2) undef:Array Value)).getD k undef=v:=fun k v h=>by
  rw [Array.getD_eq_getD_getElem?,Array.getElem?_append_left (Array.getElem?_eq_some_iff.1 h).1,h];rfl
 have hsz:((#[va,vb]++Array.replicate (fz.ntmps - 2) undef:Array Value)).size=nz:=by simp;omega
 generalize hT0:(#[va,vb]++Array.replicate (fz.ntmps - 2) undef:Array Value)=T0 at tm0 hsz
 have hiz:Inv ({ G with w0:={ G.w0 with ds:=[] },na:=σ.length }:Gh) σ w:=⟨hi.hH,hi.hF,hi.HF,hi.len,fun b ob h=>by
   have:=hi.own b ob h
   cases ob with
   |dead=>exact this
   |box cs =>
    obtain ⟨o,c,T,h1,h2,h3,h4,h5⟩:=this
    exact ⟨o,c,T,h1,h2,h3,h4,h5.mono fun _ _ h=>Rep.mono (G:=G) (fun _ _ h=>h) (cO.refl _) h⟩
   |mp=>exact this
   |arr=>exact this,hi.inj,hi.sep,hi.os,hi.tape,hi.output,hi.grow⟩
 have hRz:∀ p v,bm G p v→bm ({ G with w0:={ G.w0 with ds:=[] },na:=σ.length }:Gh) p v:=fun p v h=>bm.mono (G:=G) (fun _ _ h=>h) (cO.refl _) h
 have hsim:Sim ({ G with w0:={ G.w0 with ds:=[] },na:=σ.length }:Gh) (Env.ofList nz σ.length [(r2,rp),(r5,rp),(0,pa),(1,pb)]) σ { tmps:=(T0.setIfInBounds r5 rv).setIfInBounds r2 rv,defers:=[] } w:=by
  refine ⟨hiz,rfl,by rw [(lB _ _ _).1];simpa using hsz,by rw [(lB _ _ _).2],fun i hc=>?_⟩
  obtain ⟨p,h1,h2⟩:=oS.sim _ i hc
  rw [h2]
  have g:∀ k,((T0.setIfInBounds r5 rv).setIfInBounds r2 rv).getD k undef=if k=r2∨k=r5 then rv else T0.getD k undef:=fun k=>by
   simp only [Array.getD_eq_getD_getElem?,Array.getElem?_setIfInBounds,Array.size_setIfInBounds,hsz]
   by_cases e2:r2=k
   ·subst e2;simp [c2]
   ·by_cases e5:r5=k
    ·subst e5;simp [e2,c5]
    ·simp [e2,e5,Ne.symm e2,Ne.symm e5]
  show bm _ p (((T0.setIfInBounds r5 rv).setIfInBounds r2 rv).getD i undef)
  rw [g]
  simp only [List.mem_cons,Prod.mk.injEq,List.not_mem_nil,or_false] at h1
  rcases h1 with ⟨rfl,rfl⟩|⟨rfl,rfl⟩|⟨rfl,rfl⟩|⟨rfl,rfl⟩
  ·rw [iP (.inl rfl)];exact hRz _ _ hr
  ·rw [iP (.inr rfl)];exact hRz _ _ hr
  ·rw [iN (by omega),tm0 0 va rfl];exact hRz _ _ ha
  ·rw [iN (by omega),tm0 1 vb rfl];exact hRz _ _ hb
 have hwp:=hz _ _ w hsim
 have rest:z.wpS P (bodyPostS P fz c₀ cs fun e u' w'=>∃ r G' E' σ',e=.returned r∧u'=u2∧Gle G G'∧cO G.own G'.own∧Inv G' σ' w'∧(KZ .normal E' σ'∨KZ .ret E' σ')) { tmps:=(T0.setIfInBounds r5 rv).setIfInBounds r2 rv,defers:=[] } ({ c₀ with mode:=u2 } :: cs) w:=by
  refine wpS_of_wp (Code.wp_mono (fun e a w' hp=>?_) hwp)
  obtain ⟨G0,E0,σ0,x,h1,h2,h3,E1,σ1,hgh,h4⟩:=hp
  obtain ⟨G1,hg1,h2⟩:=hgh _ _ _ h2
  have h1:=h1.trans hg1
  have fin:(KZ .normal E1 σ1∨KZ .ret E1 σ1)→a.defers=[]∧∃ u',({ c₀ with mode:=u2 } :: cs:List Frame)={ c₀ with mode:=u' } :: cs∧∃ v,(results fz a.tmps).run P w'=.ok v w' ∧
    ∃ r G' E' σ',(Ending.returned v)=.returned r∧u'=u2∧Gle G G'∧cO G.own G'.own∧Inv G' σ' w'∧(KZ .normal E' σ'∨KZ .ret E' σ'):=fun hk=>by
   obtain ⟨v,k1,_⟩:=qK h2 hrs (C:=True) (ps:=[]) rfl trivial rfl
   have hlen:∀ b oo,G.own[b]? = some oo→b<σ.length:=fun b oo h=>by rw [← hi.len];exact (List.getElem?_eq_some_iff.1 h).1
   have hol:cO G.own G1.own:=fun b oo h=>h1.own b oo (hlen b oo h) h
   refine ⟨h2.defers.trans (by rw [h1.le.w0]),u2,rfl,v,k1,v,{ G1 with w0:=G.w0,na:=G.na },E1,σ1,rfl,rfl,⟨⟨h1.le.H,h1.le.F,rfl,rfl⟩,.of_le hol⟩,hol,?_,hk⟩
   have hw:G1.w0.toWorld=G.w0.toWorld:=by rw [h1.le.w0]
   have h5:=h2.inv
   refine ⟨h5.hH,h5.hF,h5.HF,h5.len,fun b ob h=>?_,h5.inj,h5.sep,by show w'.os=G.w0.toWorld.os;rw [← hw];exact h5.os,by show w'.tape=G.w0.toWorld.tape;rw [← hw];exact h5.tape,by show w'.output=G.w0.toWorld.output;rw [← hw];exact h5.output,by show G.w0.toWorld.heap.size≤_;rw [← hw];exact h5.grow⟩
   have:=h5.own b ob h
   cases ob with
   |dead=>exact this
   |box cs =>
    obtain ⟨o,c,T,j1,j2,j3,j4,j5⟩:=this
    exact ⟨o,c,T,j1,j2,j3,j4,j5.mono fun _ _ h=>Rep.mono (G:=G1) (fun _ _ h=>h) (cO.refl _) h⟩
   |mp=>exact this
   |arr=>exact this
  cases x with
  |normal=>cases h3;exact fin (.inl h4)
  |ret=>cases h3;exact fin (.inr h4)
  |exit i=>exact (hKe _ _ _ h4).elim
  |panic p=>exact (hKp _ _ _ h4).elim
 have hT5:(T0.setIfInBounds r5 rv).getD r5 undef=rv:=by
  simp [Array.getD_eq_getD_getElem?,hsz,c5]
 have e0:∀ a:Act,(execOp a.eval rc).run P w=.ok .recover w:=fun a=>by
  simp [execOp,q1,resolve,q2,q3,invoke,builtin]
 have e1:∀ a:Act,(execOp a.eval sa).run P w=.ok (.value (a.tmps.getD r5 undef)) w:=fun a=>by
  simp only [execOp,q6];rfl
 show wpOpsS P [rc,sa].toArray _ [0,1] _ _ _
 simp only [wpOpsS,List.getElem?_toArray,List.getElem?_cons_zero,List.getElem?_cons_succ,pN q5,pN q8,if_true,e0,e1,q4,q7]
 rcases hrec c₀ cs hm with h|⟨h,rfl,rfl⟩
 ·rw [h]
  simp only [Oper.upon,q7,Act.put,hT5]
  exact rest
 ·rw [h]
  simp only [Oper.upon,q7,Act.put,hT5]
  have hcc:({ c₀ with mode:=u2 }:Frame)=c₀:=by rw [← hm]
  rw [hcc] at rest
  exact rest
def KS(σ0:List OB):Kt
 |.normal,_,σ'=>σ'=σ0
 |.ret,_,σ'=>σ'=σ0
 |.exit _,_,_=>False
 |.panic _,_,_=>False
def KZ(P:Program)(rs:List ResultVar)(post:PV→List OB→Prop)(E0:Env):Kt
 |.normal,_,σ'=>(match iD P E0 σ' rs with|some (C,ps)=>C∧ps.all PV.isV=true∧post (ia ps) σ'|none=>False)
 |.ret,_,σ'=>(match iD P E0 σ' rs with|some (C,ps)=>C∧ps.all PV.isV=true∧post (ia ps) σ'|none=>False)
 |.exit _,_,_=>False
 |.panic _,_,_=>False
theorem Am{G G':Gh}{n b off:Nat}{v:Value}(h:bm G (.c (.optr b off)) v)(ho:oq n G.own G'.own)(hb:b<n):bm G' (.c (.optr b off)) v:=by
 obtain ⟨h1,oo,h2,h3⟩:hZ G (.optr b off) v:=h
 obtain ⟨oo',q1,q2⟩:=ho b oo hb h2
 refine (show hZ G' (.optr b off) v from ⟨h1,oo',q1,fun o' e hv=>?_⟩)
 obtain ⟨o,e2,e3⟩:=q2 o' e
 rcases e3 with rfl|e3
 ·exact h3 _ e2 hv
 ·omega
theorem Clo.invoke{P:Program}{cf:FuncId}{z:Code}{nz r5 r2:Nat}(c:Clo P cf z nz r5 r2)(cap:Array Value)(w:World):(Go.invoke (.fn (.func cf) cap) #[]).run P w=.ok (.enter cf cap) w:=by
 obtain ⟨fz,j0,rc,sa,cl,hf,hbd,hnt,hrs,hname,_⟩:=c.hf
 have k2':¬ fz.body=none:=by rw [hbd];simp
 have k3':¬ fz.name = "runtime.NumGoroutine":=by simpa using hname
 simp [Go.invoke,callFunc,hf,k2',k3']
theorem H3{K:Kt}{x:PX}{E E1:Env}{σ σ1:List OB}(hg:kB E σ E1 σ1)(h:KG K x E1 σ1):KG K x E σ:=by
 obtain ⟨E2,σ2,g,k⟩:=h
 exact ⟨E2,σ2,hg.trans g,k⟩
theorem Cu{K:Kt}{x:PX}{E:Env}{σ:List OB}(h:K x E σ):KG K x E σ:=⟨E,σ,kB.refl E σ,h⟩
theorem BA{P:Program}{rs:List ResultVar}{post:PV→List OB→Prop}{E0 E:Env}{σ:List OB}(h:oT P rs post (fun _ _=>False) .normal E0 σ):KZ P rs post E0 .normal E σ:=h
end Pam
namespace Pam
open Go
def KN2(P:Program)(rs:List ResultVar)(post:PV→List OB→Prop)(D:Env→List OB→Prop):Kt
 |.normal,E,σ=>D E σ
 |.ret,E,σ=>(match iD P E σ rs with|some (C,ps)=>C∧ps.all PV.isV=true∧post (ia ps) σ|none=>False)
 |.exit _,_,_=>False
 |.panic _,_,_=>False
def Pfx(P:Program)(rs:List ResultVar)(post:PV→List OB→Prop)(D:Env→List OB→Prop):List Code→Env→List OB→Prop
 |[],E,σ=>D E σ
 |c :: cs,E,σ=>W P c (KN2 P rs post (Pfx P rs post D cs)) E σ
def pfx(T:Code):List Code→Code
 |[]=>T
 |c :: cs=>.seq c (pfx T cs)
def KD2(P:Program)(z:Code)(nz r5 r2:Nat)(rs:List ResultVar)(post:PV→List OB→Prop)(ba bb:Nat):Kt
 |.normal,E,σ=>(match iD P E σ rs with|some (C,ps)=>C∧ps.all PV.isV=true∧post (ia ps) σ|none=>False)
 |.ret,E,σ=>(match iD P E σ rs with|some (C,ps)=>C∧ps.all PV.isV=true∧post (ia ps) σ|none=>False)
 |.exit _,_,_=>False
 |.panic p,E,σ=>∃ (E1:Env) (σ1:List OB),kB E σ E1 σ1∧∃ (l:List (Nat×PV)) (τ:List OB) (T:TypeId) (ns:List (IntKind×Int)),p=.c (.ifc T true (nsC ns))∧G9 E1 σ1 l τ ∧
   W P z (KG (KZ P rs post (Env.ofList E1.n E1.na l))) (Env.ofList nz τ.length [(r2,p),(r5,p),(0,.c (.optr ba 0)),(1,.c (.optr bb 0))]) τ
theorem Ge{P:Program}{z:Code}{nz r5 r2:Nat}{rs:List ResultVar}{post:PV→List OB→Prop}{ba bb:Nat}{E:Env}{σ:List OB}(h:oT P rs post (fun _ _=>False) .ret E σ):KD2 P z nz r5 r2 rs post ba bb .ret E σ:=h
theorem An{P:Program}{f:FuncId}{fn:Func}{i1:Nat}{mf df:Oper}{y z:Code}{cf:FuncId}{nz r5 r2:Nat}{args:List PV}{σ:List OB}{post:PV→List OB→Prop}(n:Nat)(rs:List ResultVar)(ta tb t:Nat)(dc:Call)
  (hf:P.funcs[f]? = some fn) (cs:List Code) (hb:fn.body=some (pfx (.seq (.region i1 [mf,df].toArray false) y) cs)) (hn:fn.ntmps=n) (hr:fn.results.toList=rs)
  (hname:(fn.name == "runtime.NumGoroutine")=false) (hlen:args.length≤n)
  (m1:mf.op=.makeFunc (.func cf) #[] #[.tmp ta,.tmp tb]) (m2:mf.dst=some t) (m3:mf.guard=none)
  (d1:df.op=.defer dc) (d2:dc.callee=.value (.tmp t)) (d3:dc.args=#[]) (d4:df.dst=none) (d5:df.guard=none)
  (c:Clo P cf z nz r5 r2) (hret:∀ σ',W P z (KG (KS σ')) (Env.ofList nz σ'.length [(r2,.c .nili),(r5,.c .nili),(0,.x),(1,.x)]) σ')
  (h0 : Pfx P rs post (fun E σ1 => ∃ ba bb, E.get ta = ⟨true, .c (.optr ba 0)⟩ ∧ E.get tb = ⟨true, .c (.optr bb 0)⟩ ∧ ba < σ1.length ∧ bb < σ1.length ∧ t < E.n ∧
   W P y (KD2 P z nz r5 r2 rs post ba bb) { E.put t ⟨true,.x⟩ with na:=σ1.length } σ1) cs (Env.ofList n σ.length (jO 0 args)) σ) :
  ed P f args σ post (fun _ _=>False):=by
 refine ⟨⟨fn,hf,by rw [hb];rfl,hname⟩,fun G w vs hna hds hi hargs=>?_⟩
 have hl:=hargs.length
 refine calls_of_wp_defers hf hb ?_
 have hs:Sim G (Env.ofList n σ.length (jO 0 args)) σ { tmps:=vs.toArray++Array.replicate (fn.ntmps - vs.toArray.size) undef,defers:=[] } w:=by
  refine ⟨hi,hds.symm,by rw [(lB _ _ _).1,hn];simp;omega,by rw [(lB _ _ _).2];exact hna,fun i hc=>?_⟩
  obtain ⟨p,h1,h2⟩:=oS.sim _ i hc
  rw [h2]
  obtain ⟨_,h3⟩:=qJ args 0 i p h1
  simp only [Nat.sub_zero] at h3
  obtain ⟨v,hv,hrep⟩:=hargs.get i p h3
  have hlt:i<vs.length:=(List.getElem?_eq_some_iff.1 hv).1
  have:(vs.toArray++Array.replicate (fn.ntmps - vs.toArray.size) undef).getD i undef=v:=by
   rw [Array.getD_eq_getD_getElem?,Array.getElem?_append_left (by simpa using hlt)]
   simp [hv]
  simp only [this]
  exact hrep
 suffices key:∀ (cs:List Code) (G1:Gh) (E1:Env) (σ1:List OB) (a1:Act) (w1:World),Gle G G1→Sim G1 E1 σ1 a1 w1→Pfx P rs post (fun E σ1=>∃ ba bb,E.get ta=⟨true,.c (.optr ba 0)⟩∧E.get tb=⟨true,.c (.optr bb 0)⟩∧ba<σ1.length∧bb<σ1.length∧t<E.n ∧
   W P y (KD2 P z nz r5 r2 rs post ba bb) { E.put t ⟨true,.x⟩ with na:=σ1.length } σ1) cs E1 σ1 →
   (pfx (.seq (.region i1 [mf,df].toArray false) y) cs).wp P (bodyPostD P fn (fun e w'=>∃ G' σ' p v,Gle G G'∧Inv G' σ' w'∧bm G' p v∧((e=.returned v∧post p σ')∨(e=.panicked [{ v:=v,recovered:=false }]∧False)))) a1 w1 from key cs G _ σ _ w (Gle.refl G) hs h0
 intro cs
 induction cs with
 |cons c1 cs ih =>
  intro G1 E1 σ1 a1 w1 p1 p2 p4
  have p4':W P c1 (KN2 P rs post (Pfx P rs post _ cs)) E1 σ1:=p4
  refine wp_seq (Code.wp_mono (fun e a2 w2 hp=>?_) (p4' G1 _ w1 p2))
  obtain ⟨G2,E2,σ2,x,q1,q2,q3,q4⟩:=hp
  have p1':=p1.trans q1
  cases x with
  |normal=>cases q3;exact ih G2 E2 σ2 a2 w2 p1' q2 q4
  |exit i=>exact q4.elim
  |panic p=>exact q4.elim
  |ret =>
   cases q3
   have hads:a2.defers=[]:=q2.defers.trans (by rw [p1'.le.w0];exact hds)
   have q4':(match iD P E2 σ2 rs with|some (C,ps)=>C∧ps.all PV.isV=true∧post (ia ps) σ2|none=>False):=q4
   show Leaves P fn a2.tmps _ a2.defers .returning w2
   rw [hads]
   split at q4'
   ·rename_i C ps hres
    obtain ⟨hC,hv,hpost⟩:=q4'
    obtain ⟨v,k1,k2⟩:=qK q2 hr hres hC hv
    exact ⟨v,k1,G2,σ2,ia ps,v,p1',q2.inv,k2,.inl ⟨rfl,hpost⟩⟩
   ·exact q4'.elim
 |nil =>
 intro G1 E1 σ1 a1 w1 p1 p2 p4
 change ∃ ba bb,_ at p4
 obtain ⟨ba,bb,ea,eb,hba,hbb,ht,hy⟩:=p4
 refine wp_seq (wp_region ?_)
 have hads:a1.defers=[]:=p2.defers.trans (by rw [p1.le.w0];exact hds)
 obtain ⟨va,hva⟩:∃ va,va=a1.tmps.getD ta undef:=⟨_,rfl⟩
 obtain ⟨vb,hvb⟩:∃ vb,vb=a1.tmps.getD tb undef:=⟨_,rfl⟩
 have ra:bm G1 (.c (.optr ba 0)) va:=by have:=p2.slot ta (by rw [ea]);rw [ea] at this;rw [hva];exact this
 have rb:bm G1 (.c (.optr bb 0)) vb:=by have:=p2.slot tb (by rw [eb]);rw [eb] at this;rw [hvb];exact this
 have e0:(execOp a1.eval mf).run P w1=.ok (.value (.func (.func cf) #[] #[va,vb])) w1:=by
  simp [execOp,m1,Instr.makeFunc,hva,hvb,Act.eval]
 have hts:t<a1.tmps.size:=by rw [p2.size];exact ht
 have e1:(execOp ({ a1 with tmps:=a1.tmps.setIfInBounds t (.func (.func cf) #[] #[va,vb]) }:Act).eval df).run P w1=.ok (.defer { target:=.fn (.func cf) #[va,vb],args:=#[] }) w1:=by
  have:({ a1 with tmps:=a1.tmps.setIfInBounds t (.func (.func cf) #[] #[va,vb]) }:Act).eval (.tmp t)=.func (.func cf) #[] #[va,vb]:=by
   simp [Act.eval,Array.getD_eq_getD_getElem?,hts]
  simp [execOp,d1,resolve,d2,d3,this,Deferred.ofValue]
 show wpOps P [mf,df].toArray _ [0,1] a1 w1
 simp only [wpOps,List.getElem?_toArray,List.getElem?_cons_zero,List.getElem?_cons_succ,pN m3,pN d5,if_true,Oper.wp,e0,Oper.upon,m2,Act.put,e1,d4]
 left
 left
 have hlen1:G1.own.length=σ1.length:=p2.inv.len
 have h2:Sim ({ G1 with w0:={ G1.w0 with ds:=[{ target:=.fn (.func cf) #[va,vb],args:=#[] }] },na:=σ1.length }:Gh) { E1.put t ⟨true,.x⟩ with na:=σ1.length } σ1
   { tmps:=a1.tmps.setIfInBounds t (.func (.func cf) #[] #[va,vb]),defers:={ target:=.fn (.func cf) #[va,vb],args:=#[] } :: a1.defers } w1:=by
  have q:=p2.put t ht ⟨true,.x⟩ (.func (.func cf) #[] #[va,vb]) fun _=>trivial
  have qi:=p2.inv
  refine ⟨⟨qi.hH,qi.hF,qi.HF,qi.len,fun b ob h=>?_,qi.inj,qi.sep,qi.os,qi.tape,qi.output,qi.grow⟩,by rw [hads],by have:=q.size;simpa [Act.put] using this,rfl,fun i hc=>?_⟩
  ·have:=qi.own b ob h
   cases ob with
   |dead=>exact this
   |box cs =>
    obtain ⟨o,c,T,j1,j2,j3,j4,j5⟩:=this
    exact ⟨o,c,T,j1,j2,j3,j4,j5.mono fun _ _ h=>Rep.mono (G:=G1) (fun _ _ h=>h) (cO.refl _) h⟩
   |mp=>exact this
   |arr=>exact this
  ·exact bm.mono (G:=G1) (fun _ _ h=>h) (cO.refl _) (q.slot i hc)
 refine Code.wp_mono (fun e a w' hp=>?_) (hy _ _ w1 h2)
 obtain ⟨G3,E3,σ3,x,r1,r2',r3,r4⟩:=hp
 have hd3:a.defers=[{ target:=.fn (.func cf) #[va,vb],args:=#[] }]:=r2'.defers.trans (by rw [r1.le.w0])
 have fin:∀ (G3:Gh) (E3:Env) (σ3:List OB),Gle ({ G1 with w0:={ G1.w0 with ds:=[{ target:=.fn (.func cf) #[va,vb],args:=#[] }] },na:=σ1.length }:Gh) G3→Sim G3 E3 σ3 a w'→∀ (G4:Gh) (σ4:List OB) (w4:World) (C:Prop) (ps:List PV),Gle G3 G4→cO G3.own G4.own→Inv G4 σ4 w4→iD P E3 σ4 rs=some (C,ps)→C→ps.all PV.isV=true→post (ia ps) σ4 →
   Leaves P fn a.tmps (fun e w'=>∃ G' σ' p v,Gle G G'∧Inv G' σ' w'∧bm G' p v∧((e=.returned v∧post p σ')∨(e=.panicked [{ v:=v,recovered:=false }]∧False))) [] .returning w4:=by
  intro G3 E3 σ3 r1 r2' G4 σ4 w4 C ps t1 t2 t3 t4 t5 t6 t7
  have hs4:Sim G4 E3 σ4 a w4:=r2'.ghost t3 t1.le.H t1.le.w0 t1.le.na t2
  obtain ⟨v,k1,k2⟩:=qK hs4 hr t4 t5 t6
  refine ⟨v,k1,{ G4 with w0:=G.w0,na:=G.na },σ4,ia ps,v,⟨⟨fun b o h=>t1.le.H _ _ (r1.le.H _ _ (p1.le.H _ _ h)),?_,rfl,rfl⟩,?_⟩,?_,bm.mono (G:=G4) (fun _ _ h=>h) (cO.refl _) k2,.inl ⟨rfl,t7⟩⟩
  ·exact t1.le.F.trans (r1.le.F.trans p1.le.F)
  ·intro b oo hbn hbo
   obtain ⟨o1,u1,u2⟩:=p1.own b oo hbn hbo
   have hb1:b<σ1.length:=by rw [← hlen1];exact (List.getElem?_eq_some_iff.1 u1).1
   obtain ⟨o3,u3,u4⟩:=r1.own b o1 hb1 u1
   obtain ⟨o4,u5,u6⟩:=t2 b o3 u3
   refine ⟨o4,u5,fun o' eo=>?_⟩
   obtain ⟨oa,w1',w2'⟩:=u6 o' eo
   obtain ⟨ob,w3',w4'⟩:=u4 oa w1'
   obtain ⟨oc,w5',w6'⟩:=u2 ob w3'
   refine ⟨oc,w5',?_⟩
   rcases w2' with rfl|w2'<;>rcases w4' with rfl|w4'<;>rcases w6' with rfl|w6'
   ·exact .inl rfl
   all_goals first|exact .inr (by omega)|exact .inr w6'|exact .inr w4'|exact .inr w2'
  ·have hw:G4.w0.toWorld=G.w0.toWorld:=by
    rw [t1.le.w0,r1.le.w0]
    show G1.w0.toWorld=G.w0.toWorld
    rw [p1.le.w0]
   have h5:=t3
   refine ⟨h5.hH,h5.hF,h5.HF,h5.len,fun b ob h=>?_,h5.inj,h5.sep,by show w4.os=G.w0.toWorld.os;rw [← hw];exact h5.os,by show w4.tape=G.w0.toWorld.tape;rw [← hw];exact h5.tape,by show w4.output=G.w0.toWorld.output;rw [← hw];exact h5.output,by show G.w0.toWorld.heap.size≤_;rw [← hw];exact h5.grow⟩
   have:=h5.own b ob h
   cases ob with
   |dead=>exact this
   |box cs =>
    obtain ⟨o,c,T,j1,j2,j3,j4,j5⟩:=this
    exact ⟨o,c,T,j1,j2,j3,j4,j5.mono fun _ _ h=>Rep.mono (G:=G4) (fun _ _ h=>h) (cO.refl _) h⟩
   |mp=>exact this
   |arr=>exact this
 have normal:(match iD P E3 σ3 rs with|some (C,ps)=>C∧ps.all PV.isV=true∧post (ia ps) σ3|none=>False) →
   Leaves P fn a.tmps (fun e w'=>∃ G' σ' p v,Gle G G'∧Inv G' σ' w'∧bm G' p v∧((e=.returned v∧post p σ')∨(e=.panicked [{ v:=v,recovered:=false }]∧False))) a.defers .returning w':=by
  intro hk
  split at hk
  ·rename_i C ps hres
   obtain ⟨hC,hv,hpost⟩:=hk
   rw [hd3]
   refine leaves_cons (by intro h;cases h) (c.invoke _ _) (CallsD.mono (yn c (u:=.returning) (u2:=.returning) (rv:=.nilIface) (rp:=.c .nili) (pa:=.x) (pb:=.x) (KZ:=KS σ3)
    (fun c₀ cs h=>.inr ⟨by simp [recoverD,h],rfl,rfl⟩) r2'.inv trivial trivial (bY.rep .nili) (fun _ _ _ h=>h) (fun _ _ _ h=>h) (hret σ3)) fun e u' w4 hq=>?_)
   obtain ⟨r,G4,E4,σ4,rfl,rfl,t1,t2,t3,t4⟩:=hq
   have:σ4=σ3:=by rcases t4 with h|h<;>exact h
   subst this
   exact fin G3 E3 _ r1 r2' G4 _ w4 C ps t1 t2 t3 hres hC hv hpost
  ·exact hk.elim
 cases x with
 |normal=>cases r3;exact normal r4
 |ret=>cases r3;exact normal r4
 |exit i=>exact r4.elim
 |panic p =>
  obtain ⟨v,rfl,hv⟩:=r3
  obtain ⟨E9,σ9,hgh,l,τ,T,ns,rfl,hless,hz⟩:=r4
  obtain ⟨G3x,gx,r2x⟩:=hgh _ _ _ r2'
  have hv':=zd hv
  obtain ⟨G3',q1,q2⟩:=hless.sim r2x
  have hle3:=(r1.trans gx).trans q1
  have ra3:bm G3' (.c (.optr ba 0)) va:=Am (G:={ G1 with w0:={ G1.w0 with ds:=[{ target:=.fn (.func cf) #[va,vb],args:=#[] }] },na:=σ1.length }) (bm.mono (G:=G1) (fun _ _ h=>h) (cO.refl _) ra) hle3.own hba
  have rb3:bm G3' (.c (.optr bb 0)) vb:=Am (G:={ G1 with w0:={ G1.w0 with ds:=[{ target:=.fn (.func cf) #[va,vb],args:=#[] }] },na:=σ1.length }) (bm.mono (G:=G1) (fun _ _ h=>h) (cO.refl _) rb) hle3.own hbb
  have hv3:bm G3' (.c (.ifc T true (nsC ns))) v:=by rw [hv'];exact bY.rep (.ifc T ns)
  show Leaves P fn a.tmps _ a.defers (.panicking [{ v:=v,recovered:=false }]) w'
  rw [hd3]
  refine leaves_cons (by intro h;cases h) (c.invoke _ _) (CallsD.mono (yn c (u:=.panicking [{ v:=v,recovered:=false }]) (u2:=.panicking [{ v:=v,recovered:=true }]) (rv:=v) (rp:=.c (.ifc T true (nsC ns))) (KZ:=KZ P rs post (Env.ofList E9.n E9.na l))
   (fun c₀ cs h=>.inl (by simp [recoverD,h])) q2.inv ra3 rb3 hv3 (fun _ _ _ h=>h) (fun _ _ _ h=>h) hz) fun e u' w4 hq=>?_)
  obtain ⟨r,G4,E4,σ4,rfl,rfl,t1,t2,t3,t4⟩:=hq
  have t5:(match iD P (Env.ofList E9.n E9.na l) σ4 rs with|some (C,ps)=>C∧ps.all PV.isV=true∧post (ia ps) σ4|none=>False):=by rcases t4 with h|h<;>exact h
  split at t5
  ·rename_i C ps hres
   exact fin G3' _ τ hle3 q2 G4 _ w4 C ps t1 t2 t3 hres t5.1 t5.2.1 t5.2.2
  ·exact t5.elim
theorem Jf{P:Program}{rs:List ResultVar}{post:PV→List OB→Prop}{D:Env→List OB→Prop}{E:Env}{σ:List OB}(h:oT P rs post (fun _ _=>False) .ret E σ):KN2 P rs post D .ret E σ:=h
theorem Ev{P:Program}{rs:List ResultVar}{post:PV→List OB→Prop}{D:Env→List OB→Prop}{E:Env}{σ:List OB}(h:D E σ):KN2 P rs post D .normal E σ:=h
theorem Ex{P:Program}{rs:List ResultVar}{post:PV→List OB→Prop}{D:Env→List OB→Prop}{c:Code}{cs:List Code}{E:Env}{σ:List OB}(h:W P c (KN2 P rs post (Pfx P rs post D cs)) E σ):Pfx P rs post D (c :: cs) E σ:=h
theorem Jg{P:Program}{rs:List ResultVar}{post:PV→List OB→Prop}{D:Env→List OB→Prop}{E:Env}{σ:List OB}(h:D E σ):Pfx P rs post D [] E σ:=h
end Pam
namespace Pam
open Go
def Cq(P:Program)(σ:List OB)(f:FuncId)(args:List PV)(kp:PV→List OB→Prop):Prop :=
 ∃ (args':List PV) (σc:List OB) (post pp:PV→List OB→Prop) (ρ:List Nat),ed P f args' σc post pp∧ρ.Nodup∧(∀ b∈ρ,b<σ.length)∧args=args'.map (PV.ren (eO σ.length ρ)) ∧
  ρ.map (fun b=>σ[b]?)=σc.map (fun ob=>some (ob.ren (eO σ.length ρ)))∧gD ρ.length args'∧di ρ.length σc ∧
  (∀ q τ,post q τ→False)∧(∀ q τ,pp q τ→ρ.length≤τ.length→kp (q.ren (eO σ.length ρ)) (eX σ ρ (τ.map (OB.ren (eO σ.length ρ)))))
theorem Bz{P:Program}{G:Gh}{E:Env}{σ:List OB}{a:Act}{w:World}{C:Prop}{f:FuncId}{args:List PV}{kp:PV→List OB→Prop}{K:Act→World→Prop}{Q:Exit→Act→World→Prop}(hsim:Sim G E σ a w)(o:Oper)
  (hrun:dG P true E σ o.op=.call C f args) (hC:C) (hs:Cq P σ f args kp)
  (next:∀ G' σ2 w' q v,Gle G G'→cO G.own G'.own→Inv G' σ2 w'→bm G' q v→kp q σ2→Q (.panic [{ v:=v,recovered:=false }]) a w'):o.wp P a w K Q:=by
 obtain ⟨args',σc,post,pp,ρ,⟨hf,hcall⟩,hnd,hlt,hargs,hσ,hu,hub,hpost,hpp⟩:=hs
 obtain ⟨vs,e1,e2⟩:=sM hsim rfl o hrun hC hf
 have hi:=hsim.inv
 have hlen:σc.length=ρ.length:=by have:=congrArg List.length hσ;simpa using this.symm
 have hσ':∀ (k:Nat) (ob:OB),σc[k]? = some ob→∃ b,ρ[k]? = some b∧σ[b]? = some (ob.ren (eO σ.length ρ)):=by
  intro k ob h
  have hk:k<ρ.length:=by rw [← hlen];exact (List.getElem?_eq_some_iff.1 h).1
  have:=congrArg (fun l=>l[k]?) hσ
  simp only [List.getElem?_map,h,Option.map_some,List.getElem?_eq_getElem hk,sJ] at this
  exact ⟨ρ[k],List.getElem?_eq_getElem hk,this⟩
 have hci:=qM hi hnd hlt hlen hσ' hub
 have hown:=nF (w:=w) hi hlt
 rw [hargs] at e2
 have hcv:=hcall (eq G w ρ) w vs (by simp [eq,hlen]) rfl hci (aZ.unmapP (G:=G) (G':=eq G w ρ) rfl _ hown hu e2)
 unfold Oper.wp
 rw [e1]
 refine hcv.mono fun e w' hres=>?_
 obtain ⟨G',σ',p,v,h1,h2,h3,h4⟩:=hres
 have hl:ρ.length≤σ'.length:=by
  rw [← h2.len]
  rcases Nat.eq_zero_or_pos ρ.length with e0|e0
  ·omega
  ·have hlast:(eq G w ρ).own[ρ.length - 1]? = some ((eq G w ρ).own[ρ.length - 1]'(by simp [eq];omega)):=List.getElem?_eq_getElem _
   obtain ⟨oo',q1,_⟩:=h1.own _ _ (by simp [eq];omega) hlast
   have:=(List.getElem?_eq_some_iff.1 q1).1
   omega
 obtain ⟨G'',g1,g2,g3,g4⟩:=pH hi hnd hlt h1 h2 hl
 rcases h4 with ⟨rfl,h4⟩|⟨rfl,h4⟩
 ·exact (hpost _ _ h4).elim
 ·exact next G'' _ w' _ v g1 g2 g3 (g4 p v h3) (hpp p σ' h4 hl)
def Jd(P:Program)(σ:List OB)(kp:PV→List OB→Prop):R→Prop
 |.call C f args=>C∧Cq P σ f args kp
 |_=>False
theorem Inv.junk{G:Gh}{σ:List OB}{w:World}(hi:Inv G σ w)(x:Obj):Inv G σ (w.alloc x):=by
 have old:∀ b,b<w.heap.size→(w.alloc x).heap[b]? = w.heap[b]? := fun b hb=>heap_alloc_old w _ hb
 refine ⟨fun b y h=>by rw [old b (fS (hi.hH b y h))];exact hi.hH b y h,fun b y h=>by rw [old b (fS (hi.hF b y h))];exact hi.hF b y h,hi.HF,hi.len,fun b ob h=>(hi.own b ob h).keep (fun _ _ h=>h) (cO.refl _) rfl fun o ho hh=>old _ (pW hi ho hh),hi.inj,hi.sep,hi.os,hi.tape,hi.output,Nat.le_trans hi.grow (by simp)⟩
section
variable {P:Program} {ops:Array Oper}
def Er(P:Program)(n:Nat):List Oper→List Bool→List Bool→Bool
 |[],_,_=>true
 |o :: l,lt,fz=>(fz.headD false || (lt.headD false && o.guard.isNone && (match o.op with|.alloc T=>(no P T).isSome|_=>false) && (match o.dst with|some d=>decide (d<n)|none=>true))) && Er P n l lt.tail fz.tail
theorem tS:∀ (l:List Oper) (bs lt fz:List Bool) (E:Env) (σ:List OB),Er P E.n l lt fz=true→∃ tr,jA P ops [] l bs [] [] lt fz E σ tr
 |[],_,_,_,_,_,_=>⟨[],rfl⟩
 |o :: l,bs,lt,fz,E,σ,h=>by
  simp only [Er,Bool.and_eq_true,Bool.or_eq_true] at h
  obtain ⟨h1,h2⟩:=h
  cases hf:fz.headD false with
  |true =>
   obtain ⟨tr,k⟩:=tS l bs.tail lt.tail fz.tail (E.putD o.dst ⟨false,.x⟩) σ (by rw [show (E.putD o.dst ⟨false,.x⟩).n=E.n from by cases o.dst<;>rfl];exact h2)
   exact ⟨⟨true,⟨false,.x⟩,σ⟩ :: tr,_,_,rfl,.inl ⟨hf,rfl,rfl⟩,k⟩
  |false =>
   rw [hf] at h1
   obtain ⟨⟨⟨hl,hg⟩,hop⟩,hd⟩:=h1.resolve_left (by simp)
   obtain ⟨tr,k⟩:=tS l bs.tail lt.tail fz.tail (E.putD o.dst ⟨true,.x⟩) σ (by rw [show (E.putD o.dst ⟨true,.x⟩).n=E.n from by cases o.dst<;>rfl];exact h2)
   refine ⟨⟨true,⟨true,.x⟩,σ⟩ :: tr,_,_,rfl,.inr ⟨hf,?_,?_,?_⟩,k⟩
   ·have:o.guard=none:=by simpa using hg
    rw [this];rfl
   ·cases hdd:o.dst with
    |none=>trivial
    |some d=>rw [hdd] at hd;exact (show d<E.n from by simpa using hd)
   ·rw [hl]
    refine .inr (.inl ⟨rfl,⟨.x,fun E' _ σ' G a w hs=>?_,rfl⟩,rfl⟩)
    cases hop':o.op with
    |alloc T =>
     rw [hop'] at hop
     obtain ⟨z,hz⟩:=Option.isSome_iff_exists.1 hop
     obtain ⟨inf,u,e1,e2,e3,e4,_,e5⟩:=mF G hz
     have hrun:(execOp a.eval o).run P w=.ok (.value (.pointer (some ⟨w.heap.size,0,none⟩))) (w.alloc (.cells u.cells T)):=by
      simp [execOp,hop',Instr.alloc,j7 e1 e2,newVar,newRow]
     exact ⟨_,_,_,G,hrun,.inl rfl,pU.refl G,cO.refl _,hs.inv.junk _,trivial⟩
    |_=>rw [hop'] at hop;cases hop
theorem wL:∀ (n:Nat) (l:List Oper) (bs lt fz:List Bool) (E:Env) (σ:List OB) (tr1:List TS),n≤l.length→ll P ops [] (l.take n) bs [] [] [] E σ tr1 →
  (∀ j,j<n→lt.getD j false=false∧fz.getD j false=false)→Er P E.n (l.drop n) (lt.drop n) (fz.drop n)=true →
  ∃ tr,jA P ops [] l bs [] [] lt fz E σ tr∧eM E l tr n=eM E (l.take n) tr1 n∧bt σ tr n=bt σ tr1 n
 |0,l,bs,lt,fz,E,σ,tr1,_,_,_,hs=>by
  obtain ⟨tr,h⟩:=tS (P:=P) (ops:=ops) l bs lt fz E σ (by simpa using hs)
  refine ⟨tr,h,?_,?_⟩
  ·cases l<;>cases tr<;>cases tr1<;>rfl
  ·cases tr<;>cases tr1<;>rfl
 |n+1,[],_,_,_,_,_,_,h,_,_,_=>by simp at h
 |n+1,o :: l,bs,lt,fz,E,σ,tr1,h,ht,hf,hs=>by
  obtain ⟨ts,r,rfl,h1,h2⟩:=ht
  have hn:(E.putD o.dst ts.e).n=E.n:=by cases o.dst<;>rfl
  obtain ⟨tr,k1,k2,k3⟩:=wL n l bs.tail lt.tail fz.tail _ _ r (by simpa using h) h2 (fun j hj=>by
   have:=hf (j+1) (by omega)
   cases lt<;>cases fz<;>simpa using this) (by rw [hn];cases lt<;>cases fz<;>simpa using hs)
  have h0:=hf 0 (by omega)
  refine ⟨ts :: tr,⟨ts,tr,rfl,.inr ⟨?_,?_⟩,?_⟩,k2,k3⟩
  ·cases fz<;>simpa using h0.2
  ·have:lt.headD false=false:=by cases lt<;>simpa using h0.1
   rw [this];exact h1
  ·exact k1
end
theorem ot.pan{P:Program}{l:List Oper}{bs lt fz:List Bool}{masks:List Nat}{E:Env}{σ:List OB}{tr:List TS}(c:wz l.toArray l masks bs [] [] lt)(ht:jA P l.toArray [] l bs [] [] lt fz E σ tr){G0:Gh}{listed:Array Bool}{a:Act}{w:World}{i:Nat}{o:Oper}(ho:l[i]? = some o)(hlo:ld lt i o=true)
  (hJ:ot lt l tr E σ G0 listed a w) (hready:i∈Region.ready .any l.toArray listed) (ks:List Nat) (hks:∀ t∈ks,t<512∧∀ (j:Nat) (y:Oper),l[j]? = some y→y.dst≠some t) :
  ∃ G,Gle G0 G∧Sim G (gG (eM E l tr i) (o.looksAt l.toArray)) (bt σ tr i) a w∧Sim G (gG E ks) (bt σ tr i) a w:=by
 obtain ⟨hsz,hcl,G,p,hG,hp,hloud,hinv,hdef,htm,hna,hslot⟩:=hJ
 obtain ⟨hun,o',ho',hdeps⟩:=mem_ready.1 hready
 obtain rfl:o'=o:=by rw [show l.toArray[i]? = l[i]? from by simp,ho] at ho';exact (sI ho').symm
 have hil:i<l.length:=(List.getElem?_eq_some_iff.1 ho).1
 have hi0:listed.getD i false=false:=by
  rw [Array.getD_eq_getD_getElem?] at hun ⊢
  rw [Array.getElem?_eq_getElem (by omega)] at hun ⊢
  simpa using hun
 have hr:∀ j∈gY o',listed.getD j false=true:=by
  intro j hj
  simp only [gY,List.mem_map,List.mem_filter] at hj
  obtain ⟨e,⟨h1,h2⟩,rfl⟩:=hj
  exact hdeps e (by simpa using h1) h2
 have hdone:=fun {j:Nat} {y:Oper} (hy:l[j]? = some y) (hord:nG masks i j=true∨nG masks j i=true)=>c.done hcl ho hi0 hr hy hord
 obtain ⟨htl,hat⟩:=ht.at
 have hEn:=un l tr E i
 have hlook:=c.look i o' ho
 have hreads:∀ t∈o'.looksAt l.toArray,(eM E l tr i).get t=jd t l tr (fun j=>listed.getD j false) (E.get t):=by
  intro t htm'
  rw [sO t l tr E i (fun j o x hj hd=>c.dst j o hj x hd) htl]
  apply kA
  intro j y hy hd
  refine (hdone hy (.inr ?_)).symm
  refine c.hit j i y o' hy ho ?_
  simp only [Bj,hd,Bool.or_eq_true]
  left
  simpa using htm'
 have hres:=mZ (eM E l tr i) (o'.looksAt l.toArray)
 have hgetr:∀ t∈o'.looksAt l.toArray,(gG (eM E l tr i) (o'.looksAt l.toArray)).get t=(eM E l tr i).get t:=fun t h=>(hres t hlook).1 h
 have hll:ld lt i o'=true:=hlo
 have hheap:bt σ tr p=bt σ tr i:=by
  have key:∀ (j:Nat) (y:Oper),l[j]? = some y→ld lt j y=true→(j<p↔j<i):=by
   intro j y hy hly
   have h1:=hloud j y hy hly
   have h2:=hdone hy (.inl (c.loud i j o' y ho hy hll hly))
   rw [h2] at h1
   simpa using h1.symm
  rcases Nat.le_total p i with h|h
  ·exact (oV ht h (by omega) fun j y hy h1 h2=>by
    cases hly:ld lt j y with
    |false=>rfl
    |true=>have:=(key j y hy hly).2 h2;omega).symm
  ·exact oV ht h hp fun j y hy h1 h2=>by
    cases hly:ld lt j y with
    |false=>rfl
    |true=>have:=(key j y hy hly).1 h2;omega
 rw [hheap] at hinv
 refine ⟨G,hG,⟨hinv,hdef,by rw [(mw _ _).1,hEn.1];exact htm,by rw [(mw _ _).2,hEn.2];exact hna,fun t hc=>?_⟩,⟨hinv,hdef,by rw [(mw _ _).1];exact htm,by rw [(mw _ _).2];exact hna,fun t hc=>?_⟩⟩
 ·by_cases hmem:t∈o'.looksAt l.toArray
  ·rw [hgetr t hmem,hreads t hmem] at hc ⊢
   exact hslot t (hlook t hmem) hc
  ·rw [(hres t hlook).2 hmem] at hc;cases hc
 ·have hr2:=mZ E ks t fun x hx=>(hks x hx).1
  by_cases hmem:t∈ks
  ·have e1:=hr2.1 hmem
   have e2:jd t l tr (fun j=>listed.getD j false) (E.get t)=E.get t:=lC t l tr _ _ fun j y hy hd=>absurd hd ((hks t hmem).2 j y hy)
   rw [e1] at hc ⊢
   have:=hslot t (hks t hmem).1
   rw [e2] at this
   exact this hc
  ·rw [hr2.2 hmem] at hc;cases hc
theorem tz{P:Program}{K:Kt}{E:Env}{σ:List OB}{id:Nat}{l:List Oper}(i0:Nat)(ks:List Nat)(bs lt:List Bool)(o0:Oper)(ho:l[i0]? = some o0)
  (h:kj P l.toArray (l.take i0) bs E σ fun E1 σ1=>gO l.toArray E1 o0.guard=some true∧Jd P σ1 (fun p σ2=>K (.panic p) (gG E ks) σ2) (dG P true E1 σ1 o0.op))
  (hm:P.follows .mixedOrders=true:=by kernel_rfl) (masks:List Nat:=l.foldl (fun ms o=>ms++[orM ms (gY o)]) []) (hc:xP l.toArray l masks bs [] [] lt=true:=by kernel_rfl)
  (fz:List Bool:=(List.range l.length).map fun j=>decide (i0≤j) && !(lt.getD j false)) (hx:((List.range l.length).all fun j=>(decide (i0<j) || !(lt.getD j false)) && (fz.getD j false == (decide (i0≤j) && !(lt.getD j false))) && (decide (j≤i0) || lt.getD j false || (masks.getD j 0).testBit i0))=true:=by kernel_rfl)
  (hsf:Er P E.n (l.drop i0) (lt.drop i0) (fz.drop i0)=true:=by kernel_rfl)
  (hk:(ks.all fun t=>decide (t<512) && l.all fun y=>y.dst != some t)=true:=by kernel_rfl) (hlo:ld lt i0 o0=true:=by kernel_rfl) :
  W P (.region id l.toArray true) K E σ:=fun G a w hs=>by
 have c:=vP hc
 have hi:i0<l.length:=(List.getElem?_eq_some_iff.1 ho).1
 obtain ⟨tr1,ht1,hg1,hp1⟩:=lg _ _ _ _ _ h
 rw [show (l.take i0).length=i0 from by simp;omega] at hg1 hp1
 have hxx:∀ j,j<l.length→(i0<j∨lt.getD j false=false)∧fz.getD j false=(decide (i0≤j) && !(lt.getD j false))∧(j≤i0∨lt.getD j false=true∨(masks.getD j 0).testBit i0=true):=by
  intro j hj
  have:=List.all_eq_true.1 hx j (by simpa using hj)
  simp only [Bool.and_eq_true,Bool.or_eq_true,decide_eq_true_eq,Bool.not_eq_true',beq_iff_eq] at this
  exact ⟨this.1.1,this.1.2,by rcases this.2 with (h|h)|h;exact .inl h;exact .inr (.inl h);exact .inr (.inr h)⟩
 have hfz:∀ j,j<i0→lt.getD j false=false∧fz.getD j false=false:=by
  intro j hj
  obtain ⟨h1,h2,_⟩:=hxx j (by omega)
  refine ⟨h1.resolve_left (by omega),?_⟩
  rw [h2,dF (by omega)];rfl
 obtain ⟨tr,ht,hE,hH⟩:=wL i0 l bs lt fz E σ tr1 (by omega) (ll.of ht1) hfz hsf
 rw [← hE] at hg1 hp1
 rw [← hH] at hp1
 have hks:∀ t∈ks,t<512∧∀ (j:Nat) (y:Oper),l[j]? = some y→y.dst≠some t:=by
  intro t ht
  have:=List.all_eq_true.1 hk t ht
  simp only [Bool.and_eq_true,decide_eq_true_eq,List.all_eq_true] at this
  exact ⟨this.1,fun j y hy=>by simpa using this.2 y (List.mem_of_getElem? hy)⟩
 refine wp_region_any hm ?_
 have main:∀ (fuel:Nat) (listed:Array Bool) (a:Act) (w:World),listed.toList.count false≤fuel→ot lt l tr E σ G listed a w→listed.getD i0 false=false→wpAny P .any l.toArray (hN G K) fuel listed a w:=by
  have none:∀ (listed:Array Bool) (a:Act) (w:World),ot lt l tr E σ G listed a w→listed.getD i0 false=false→Region.ready .any l.toArray listed=[]→False:=fun listed a w hJ hl hr=>by
   have:=tJ c hJ.1 hr i0 hi
   rw [hl] at this;cases this
  intro fuel
  induction fuel with
  |zero =>
   intro listed a w hf hJ hl
   have hr:Region.ready .any l.toArray listed=[]:=by
    rw [List.eq_nil_iff_forall_not_mem]
    intro i hi
    obtain ⟨h1,o,ho,_⟩:=mem_ready.1 hi
    have hlt:i<listed.size:=by rw [hJ.1];have:=(Array.getElem?_eq_some_iff.1 ho).1;simpa using this
    have:listed.toList[i]? = some false:=by
     rw [Array.getD_eq_getD_getElem?,Array.getElem?_eq_getElem hlt] at h1
     rw [Array.getElem?_toList,Array.getElem?_eq_getElem hlt]
     simpa using h1
    have hpos:=List.count_pos_iff.2 (List.mem_of_getElem? this)
    omega
   exact (none listed a w hJ hl hr).elim
  |succ fuel ih =>
   intro listed a w hf hJ hl
   refine ⟨fun hr=>(none listed a w hJ hl hr).elim,fun i hi'=>?_⟩
   rcases Nat.lt_trichotomy i i0 with hlt'|rfl|hgt
   ·have hstep:=ot.stepQ (Q:=hN G K) c ht G listed a w i hJ hi' (hfz i hlt').2
    refine wpOp_mono (fun a' w' hJ'=>ih _ a' w' ?_ hJ' ?_) hstep
    ·obtain ⟨h1,o,ho,_⟩:=mem_ready.1 hi'
     have hlt:i<listed.size:=by rw [hJ.1];have:=(Array.getElem?_eq_some_iff.1 ho).1;simpa using this
     have:listed.toList[i]? = some false:=by
      rw [Array.getD_eq_getD_getElem?,Array.getElem?_eq_getElem hlt] at h1
      rw [Array.getElem?_toList,Array.getElem?_eq_getElem hlt]
      simpa using h1
     have hc:=qk _ _ this
     simp only [Array.toList_setIfInBounds]
     omega
    ·rw [Ac _ _ _ (by rw [hJ.1];omega),iN (by omega)];exact hl
   ·obtain ⟨G1,hG1,hs1,hs2⟩:=ot.pan c ht ho hlo hJ hi' ks hks
    obtain ⟨_,hat⟩:=ht.at
    have hlook:=c.look i o0 ho
    have hres:=mZ (eM E l tr i) (o0.looksAt l.toArray)
    have hgetr:∀ t∈o0.looksAt l.toArray,(gG (eM E l tr i) (o0.looksAt l.toArray)).get t=(eM E l tr i).get t:=fun t h=>(hres t hlook).1 h
    have hops:∀ x∈o0.op.operands,ev (gG (eM E l tr i) (o0.looksAt l.toArray)) x=ev (eM E l tr i) x:=by
     intro x hx
     refine Ab (ts:=o0.looksAt l.toArray) (fun t h=>hgetr t h) x fun t e=>?_
     subst e
     simp only [Oper.looksAt,List.mem_append,List.mem_filterMap]
     left
     exact ⟨.tmp t,by simpa using hx,rfl⟩
    have hguard':gO l.toArray (gG (eM E l tr i) (o0.looksAt l.toArray)) o0.guard=some true:=by
     rw [tq o0 hgetr];exact hg1
    have hwant:=nU (P:=P) hs1 hguard'
    rw [← oU o0.op hops] at hp1
    obtain ⟨R,hR⟩:∃ R,R=dG P true (gG (eM E l tr i) (o0.looksAt l.toArray)) (bt σ tr i) o0.op:=⟨_,rfl⟩
    rw [← hR] at hp1
    cases R with
    |call C f args =>
     obtain ⟨hC,hpan⟩:=hp1
     have h0:l.toArray[i]? = some o0:=by simpa using ho
     unfold wpOp
     simp only [h0]
     rw [hwant]
     simp only [if_true]
     refine .inl (Bz hs1 o0 hR.symm hC hpan fun G' σ2 w' q v g1 g2 g3 g4 g5 =>
      ⟨G',gG E ks,σ2,.panic q,hG1.trans g1,hs2.ghost g3 g1.le.H g1.le.w0 g1.le.na g2,⟨v,rfl,g4⟩,g5⟩)
    |ok=>exact hp1.elim
    |upd=>exact hp1.elim
    |bad=>exact hp1.elim
   ·obtain ⟨hun,o',ho',hdeps⟩:=mem_ready.1 hi'
    have ho'':l[i]? = some o':=by simpa using ho'
    have hil:i<l.length:=(List.getElem?_eq_some_iff.1 ho'').1
    have hi0:listed.getD i false=false:=by
     have:=hJ.1
     rw [Array.getD_eq_getD_getElem?] at hun ⊢
     rw [Array.getElem?_eq_getElem (by omega)] at hun ⊢
     simpa using hun
    have hr:∀ j∈gY o',listed.getD j false=true:=by
     intro j hj
     simp only [gY,List.mem_map,List.mem_filter] at hj
     obtain ⟨e,⟨h1,h2⟩,rfl⟩:=hj
     exact hdeps e (by simpa using h1) h2
    rcases ((hxx i hil).2.2.resolve_left (by omega)) with hl0|hb
    ·have hfi:fz.getD i false=false:=by rw [(hxx i hil).2.1,hl0];simp
     have hstep:=ot.stepQ (Q:=hN G K) c ht G listed a w i hJ hi' hfi
     refine wpOp_mono (fun a' w' hJ'=>ih _ a' w' ?_ hJ' ?_) hstep
     ·have hlt:i<listed.size:=by rw [hJ.1];omega
      have:listed.toList[i]? = some false:=by
       rw [Array.getD_eq_getD_getElem?,Array.getElem?_eq_getElem hlt] at hi0
       rw [Array.getElem?_toList,Array.getElem?_eq_getElem hlt]
       simpa using hi0
      have hc:=qk _ _ this
      simp only [Array.toList_setIfInBounds]
      omega
     ·rw [Ac _ _ _ (by rw [hJ.1];omega),iN (by omega)];exact hl
    have:=c.done hJ.2.1 ho'' hi0 hr ho (.inl (by unfold nG;rw [hb];simp))
    rw [hl] at this
    have:decide (i0<i)=true:=by simpa using hgt
    simp_all
 refine main _ _ a _ (by simp) ?_ ?_
 ·have hfalse:∀ i,(Array.replicate l.length false).getD i false=false:=by
   intro i
   rw [Array.getD_eq_getD_getElem?,Array.getElem?_replicate]
   split<;>rfl
  refine ⟨by simp,fun i o ho hd=>by simp [hfalse] at hd,G,0,Gle.refl G,by omega,fun j o ho hl=>by simp [hfalse],?_,hs.defers,hs.size,hs.na,fun t ht hc=>?_⟩
  ·have:bt σ tr 0=σ:=by cases tr<;>rfl
   rw [this];exact hs.inv.drawn
  ·have:jd t l tr (fun i=>(Array.replicate l.length false).getD i false) (E.get t)=E.get t:=lC t l tr _ _ fun j o _ _=>hfalse j
   simp only [List.size_toArray] at hc ⊢
   rw [this] at hc ⊢
   exact hs.slot t hc
 ·rw [Array.getD_eq_getD_getElem?,Array.getElem?_replicate]
  split<;>rfl
end Pam
namespace Pam
open Go
section
variable {P:Program}
theorem Et{id:Nat}{l:List Oper}{y:Code}{K:Kt}{E:Env}{σ:List OB}(ms ts pv masks:List Nat)(bs ps:List Bool)(rd:List (List Nat))(hm:P.follows .mixedOrders=true)(hc:(Dk (jx l).toArray (jx l) masks bs ps rd && F7 l ts bs)=true)(hts:∀ t∈ts,t<512)
  (h:∀ (k:Env→List OB→Prop) (kp:PV→Env→List OB→Prop),(∀ E σ,W P y K E σ→k E σ)→js P (jx l).toArray pv (jx l) bs ps rd (E.forget ts) σ (fun E σ=>jz P l.toArray (qU l) E σ (fun E σ=>k (E.forget ms) σ) kp)):W P (.seq (.region id l.toArray true) y) K E σ:=by
 simp only [Bool.and_eq_true] at hc
 obtain ⟨tr,ht,hk⟩:=j8 _ bs ps rd _ σ _ (h (fun E σ=>W P y K E σ) (fun _ _ _=>False) fun _ _ h=>h)
 exact nV (Ga (k:=fun E σ=>W P y K (E.forget ms) σ) (kp:=fun _ _ _=>False) hm ts pv masks bs ps rd (Ah hc.1) hc.2 hts (fun _ _ h=>oW ms h) (fun _ _ _ h=>h.elim) ⟨tr,ll.ofP ht,hk⟩)
end
end Pam
namespace Pam
open Go
section
variable {P:Program}
theorem zf{l n:Nat}{row:String}{args:Array Value}{w:World}{R:Value→World→Prop}(h:Rows P row args w R):RowsIn (Fence.wide.inRound l) n P row args w R :=
 fun c cs _=>let ⟨v,w',r,s⟩:=h c cs;⟨v,w',r,stepsIn_wide.2 s⟩
theorem EB{l n:Nat}{o:Oper}{a:Act}{w:World}{K:Act→World→Prop}{Q:Exit→Act→World→Prop}(hd:∀ c,o.op≠.defer c)(h:o.wp P a w K Q):o.wpIn (Fence.wide.inRound l) n P a w K Q:=by
 refine ⟨fun _ _=>trivial,?_⟩
 rw [Oper.semAt_eq _ _ _ hd]
 unfold Oper.wp at h
 generalize (execOp a.eval o).run P w=r at *
 cases r with
 |ok x w' =>
  cases x<;>simp only [Oper.upon,Oper.uponIn] at h ⊢ <;>
   first
    |exact h
    |exact ⟨fun k=>by simp [Fence.wide,Fence.inRound] at k,CallsIn.mono (callsIn_wide.2 h) (fun e w'' he=>by cases e<;>exact he)⟩
    |exact ⟨fun k=>by simp [Fence.wide,Fence.inRound] at k,zf h⟩
 |halt x w'=>cases x<;>simp only [Oper.upon,Oper.uponIn] at h ⊢<;>exact h
theorem sQ{l n:Nat}{md:Region.Mode}{ops:Array Oper}{Q:Exit→Act→World→Prop}(hd:∀ (i:Nat) (o:Oper),ops[i]? = some o→∀ c,o.op≠.defer c)(hq:¬ LetsOut Q) :
  ∀ (fuel:Nat) (listed:Array Bool) (a:Act) (w:World),wpAny P md ops Q fuel listed a w→wpAnyIn (Fence.wide.inRound l) n P md ops Q fuel listed a w
 |0,_,_,_,h=>h
 |fuel+1,listed,a,w,h=>by
  refine ⟨h.1,fun i hi=>?_⟩
  have:=h.2 i hi
  unfold wpOp at this
  unfold wpOpIn
  split at this
  ·rename_i he
   simp only [he]
   exact sQ hd hq fuel _ _ _ this
  ·rename_i o he
   simp only [he]
   split at this
   ·rename_i hw
    rw [iP hw]
    exact Oper.wpIn_mono (fun a w h=>sQ hd hq fuel _ _ _ h) (EB (hd i o he) (this.resolve_right fun k=>hq k.2))
   ·rename_i hw
    rw [iN hw]
    exact ⟨fun _ _=>trivial,sQ hd hq fuel _ _ _ this⟩
theorem H4{id r n:Nat}{l:List Oper}{K:Kt}{E:Env}{σ:List OB}(hm:P.follows .mixedOrders=true)(masks:List Nat)(bs:List Bool)(hc:chk l.toArray l masks bs=true)
  (hd:∀ (i:Nat) (o:Oper),l.toArray[i]? = some o→∀ c,o.op≠.defer c)
  (h:∀ (k:Env→List OB→Prop),(∀ E σ,K .normal E σ→k E σ)→kj P l.toArray l bs E σ k) {G:Gh} {a:Act} {w:World} (hs:Sim G E σ a w) :
  (Code.region id l.toArray true).wpIn (Fence.wide.inRound r) n P (hN G K) a w:=by
 obtain ⟨tr,ht,hk⟩:TR P l.toArray l bs E σ (K .normal):=lg l bs E σ _ (h (K .normal) fun _ _ h=>h)
 refine wpIn_region_any hm (sQ hd (fun k=>?_) _ _ _ _ ?_)
 ·obtain ⟨a1,w1,_,_,_,x,_,_,h3,_⟩:=k
  cases x<;>simp [G8] at h3
 refine uN (fz:=[]) (fun i=>by simp) (vP (Cd hc)) (jA.of (ll.of ht)) G (fun G' a' w' hG hs'=>⟨G',_,_,.normal,hG,hs',rfl,hk⟩) _ _ a _ ?_ ?_
 ·simp
 ·have hfalse:∀ i,(Array.replicate l.length false).getD i false=false:=by
   intro i
   rw [Array.getD_eq_getD_getElem?,Array.getElem?_replicate]
   split<;>rfl
  refine ⟨by simp,fun i o ho hd=>by simp [hfalse] at hd,G,0,Gle.refl G,by omega,fun j o ho hl=>by simp [hfalse],?_,hs.defers,hs.size,hs.na,fun t ht hc=>?_⟩
  ·have:bt σ tr 0=σ:=by cases tr<;>rfl
   rw [this];exact hs.inv.drawn
  ·have:jd t l tr (fun i=>(Array.replicate l.length false).getD i false) (E.get t)=E.get t:=lC t l tr _ _ fun j o _ _=>hfalse j
   simp only [List.size_toArray] at hc ⊢
   rw [this] at hc ⊢
   exact hs.slot t hc
theorem Inv.putF{G:Gh}{σ:List OB}{w:World}(hi:Inv G σ w){b:Nat}{x:Obj}(y:Obj)(hb:G.F b=some x) :
  Inv { G with F:=fun k=>if k=b then some y else G.F k } σ (w.putObj b y):=by
 have hlt:b<w.heap.size:=(Array.getElem?_eq_some_iff.1 (hi.hF _ _ hb)).1
 have other:∀ k,k≠b→(w.putObj b y).heap[k]? = w.heap[k]? := fun k hk=>World.putObj_heap_other hk
 refine ⟨fun k o h=>?_,fun k o h=>?_,fun k o h=>?_,hi.len,fun k ob h=>?_,hi.inj,fun k o h hh=>?_,hi.os,hi.tape,hi.output,?_⟩
 ·have hne:k≠b:=by rintro rfl;rw [hi.HF _ _ hb] at h;cases h
  rw [other k hne];exact hi.hH k o h
 ·simp only at h
  split at h
  ·rename_i e;subst e;cases h
   exact World.putObj_heap_same hlt
  ·rename_i e;rw [other k e];exact hi.hF k o h
 ·simp only at h
  split at h
  ·rename_i e;subst e;exact hi.HF _ _ hb
  ·exact hi.HF k o h
 ·refine (hi.own k ob h).keep (fun _ _ h=>h) (cO.refl _) rfl (fun o ho hh=>other _ ?_)
  rintro rfl
  have:=(hi.sep k o ho hh).2
  rw [hb] at this;cases this
 ·obtain ⟨s1,s2⟩:=hi.sep k o h hh
  refine ⟨s1,?_⟩
  simp only
  split
  ·rename_i e;rw [e] at s2;rw [hb] at s2;cases s2
  ·exact s2
 ·have:=hi.grow
  simpa [World.putObj] using this
end
end Pam
namespace Pam
open Go
section
variable {P:Program} {E:Env} {σ:List OB}
theorem zb(L:List (List UInt8))(n:Nat)(h:n<L.length):(L.map CV.str).getD n .junk=.str (L.getD n []):=by
 simp [List.getD,h]
theorem uv{o:Oper}{T:TypeId}{x i:Operand}{ys:List CV}{k':IntKind}{n:Int}(L:List (List UInt8))(m:Nat)(ho:o.op=.index T x i)(hx:ev E x=⟨true,.a ys⟩)(hi:ev E i=⟨true,.c (.int k' n)⟩)
  (hy:ys=L.map CV.str) (hC:nR P T=true∧dA P (P.elem T)=true∧P.arrayLen T * P.cellsOf (P.elem T)≤L.length∧me P (P.elem T)=false∧P.cellsOf (P.elem T)=1) (hl:P.arrayLen T=m) (hm:L.length=m)
  (hn:0≤n∧n<(m:Int)):nr P E σ o (.c (.str (L.getD n.toNat []))) σ:=.quiet fun G a w hs=>by
 obtain ⟨h0,h1⟩:=hn
 subst hy
 have h:∃ C,mU P true T (ev E x) (ev E i)=.ok C (.c ((L.map CV.str).getD n.toNat .junk))∧C:=by
  rw [hx,hi]
  refine ⟨_,by unfold mU;rfl,?_⟩
  exact ⟨fun _=>rfl,fun _=>rfl,hC.1,hC.2.1,by simpa using hC.2.2.1,hC.2.2.2.1,hC.2.2.2.2,fun _=>⟨h0,by rw [hl];exact h1⟩⟩
 obtain ⟨C,h,hc⟩:=h
 obtain ⟨r,e1,e2⟩:=uM (P:=P) (G:=G) (w:=w) h hc rfl (fT hs x) (fT hs i)
 have:n.toNat<L.length:=by omega
 rw [zb L n.toNat this] at e2
 exact ⟨r,by simp only [execOp,ho];exact nq e1,e2⟩
theorem Dq{o:Oper}{T:TypeId}{x i:Operand}{ys:List CV}{k':IntKind}{n:Int}(L:List (List UInt8))(m:Nat)(ho:o.op=.index T x i)(hx:ev E x=⟨true,.a ys⟩)(hi:ev E i=⟨true,.c (.int k' n)⟩)
  (hy:ys=L.map CV.str) (hC:nR P T=true∧dA P (P.elem T)=true∧P.arrayLen T * P.cellsOf (P.elem T)≤L.length∧me P (P.elem T)=false∧P.cellsOf (P.elem T)=1) (hl:P.arrayLen T=m) (hm:L.length=m)
  (hn:0≤n∧n<(m:Int)):∀ E',(∀ y∈o.op.operands,ev E' y=ev E y)→∀ σ,nr P E' σ o (.c (.str (L.getD n.toNat []))) σ:=fun E' h σ =>
 uv L m ho (by rw [h x (by rw [ho];simp [Op.operands])];exact hx) (by rw [h i (by rw [ho];simp [Op.operands])];exact hi) hy hC hl hm hn
end
def jR(m:Int)(name:List UInt8):List UInt8:=if name=[] then Go.Lib.itoa m else if m=1 then name else Go.Lib.itoa m++42 :: name
def lz(first:Bool)(n:Int)(name:List UInt8):List UInt8 :=
 if n<0 then (if first then [45] else [32,45,32])++jR (-n) name else (if first then [] else [32,43,32])++jR n name
def fI:Bool→List (Int×List UInt8)→List UInt8
 |_,[]=>[]
 |first,x :: l=>lz first x.1 x.2++fI false l
end Pam
namespace Pam
open Go Go.Shelf Go.Proofs Go.RowKit
theorem Af {P:Program} {G:Gh} {σ:List OB} {w:World} (hi:Inv G σ w) (hg:P.globalNamed "internal/strconv.uint64pow10"=some Be):Lib.TabIs P w "internal/strconv.uint64pow10" .u64 Lib.pow10Tab:=by
 obtain ⟨T,fr,h⟩:=G.tabs Be _ (iP rfl)
 have:=hi.hH _ _ h
 unfold Lib.TabIs World.var?
 rw [hg]
 simp only [bSq,this,Lib.pow10Tab,List.map_map]
 rfl
theorem Eg {P:Program} {ρ:Ren} (Ly:LaysM.n173 P ρ) {f:FuncId} (hf:ρ.f 173=f) (hb:∃ fn,P.funcs[f]? = some fn∧fn.body.isSome=true∧(fn.name == "runtime.NumGoroutine")=false)
  (hg:P.globalNamed "internal/strconv.uint64pow10"=some Be) (n:Int) (h0:-9223372036854775808≤n) (h1:n≤9223372036854775807) :
  cq P f [.c (.int .i64 n),.c (.int .i64 10)] (.c (.str (Lib.itoa n))):=by
 subst hf
 refine ⟨hb,fun G w vs hna _ hi ha=>?_⟩
 match vs,ha with
 |[v0,v1],ha =>
  obtain ⟨ha0,ha1,_⟩:=ha
  have e0:=fK ha0
  have e1:=fK ha1
  subst e0;subst e1
  refine (Any.strconv_FormatInt_10 Ly n h0 h1 w (Af hi hg)).mono ?_
  rintro e w' ⟨rfl,k,os,rfl⟩
  have hbel:Below w.heap.size w (Go.Sort.grow (w.drewN k) os):=by
   refine ⟨rfl,rfl,rfl,by simp [Go.Sort.grow,World.drewN],fun j hj=>?_⟩
   simp only [Go.Sort.grow,World.drewN]
   exact Array.getElem?_append_left hj
  exact ⟨G,[],.c (.str (Lib.itoa n)),_,Gle.refl G,hi.grown0 hbel,.str _,.inl ⟨rfl,rfl,rfl⟩⟩
 |[],ha=>exact absurd ha (by simp [aZ])
 |[_],ha=>exact absurd ha (by simp [aZ])
 |_ :: _ :: _ :: _,ha=>exact absurd ha (by simp [aZ])
theorem Dh {P:Program} {ρ:Ren} (Ly:Lays.n156 P ρ) (X:Builder.Extra P ρ) {f:FuncId} (hf:ρ.f 156=f) (hb:∃ fn,P.funcs[f]? = some fn∧fn.body.isSome=true∧(fn.name == "runtime.NumGoroutine")=false)
  (l:List (List UInt8)) (sep:List UInt8) (h:l.length≤1048576) (h2:(Lib.join l sep).length≤140737488355328) :
  cq P f [.c (.tree 1 (l.map eS)),.c (.str sep)] (.c (.str (Lib.join l sep))):=by
 subst hf
 refine ⟨hb,fun G w vs hna _ hi ha=>?_⟩
 match vs,ha with
 |[v0,v1],ha =>
  obtain ⟨ha0,ha1,_⟩:=ha
  have e1:=oC ha1
  subst e1
  have ha0:bY G.H (.tree 1 (l.map eS)) v0:=ha0
  generalize hes:l.map eS=es at ha0
  cases ha0 with
  |tree0 _ a cap hc =>
   have hl:l=[]:=by simpa using hes
   subst hl
   refine (Any.strings_Join_none Ly X a cap ⟨sep.toArray⟩ w).mono ?_
   rintro e w' ⟨rfl,rfl⟩
   exact ⟨G,[],.c (.str (Lib.join [] sep)),_,Gle.refl G,hi,.str _,.inl ⟨rfl,rfl,rfl⟩⟩
  |tree _ _ blk off cap c T fz g hbk hcap hs hg hr =>
   subst hes
   have hw:=hi.hH _ _ hbk
   have hlen:(l.map eS).length=(l.map fun s=>(⟨s.toArray⟩:ByteArray)).length:=by simp
   have hback:(l.map fun s=>(⟨s.toArray⟩:ByteArray)).map (·.data.toList)=l:=by simp [Function.comp_def]
   rw [hlen] at hcap ⊢
   refine (Any.strings_Join Ly X blk off cap (l.map fun s=>(⟨s.toArray⟩:ByteArray)) ⟨sep.toArray⟩ w (fun j x hx=>?_) (Array.getElem?_eq_some_iff.1 hw).1 (by simp;omega) hcap (by rw [hback];exact h2)).mono ?_
   ·rw [List.getElem?_map,Option.map_eq_some_iff] at hx
    obtain ⟨s,hs1,rfl⟩:=hx
    have h3:=hg j 0 [.str s] (.str s) (by rw [List.getElem?_map,hs1];rfl) rfl
    have h4:=hr j 0 [.str s] (.str s) (by rw [List.getElem?_map,hs1];rfl) rfl
    rw [Nat.mul_one,Nat.add_zero] at h3
    show World.cell? w _=_
    unfold World.cell?
    simp only [hw,h3]
    generalize g j 0=y at h4
    cases h4
    rfl
   ·rintro e w' ⟨rfl,hbel⟩
    rw [hback]
    exact ⟨G,[],.c (.str (Lib.join l sep)),_,Gle.refl G,hi.grown0 hbel,.str _,.inl ⟨rfl,rfl,rfl⟩⟩
 |[],ha=>exact absurd ha (by simp [aZ])
 |[_],ha=>exact absurd ha (by simp [aZ])
 |_ :: _ :: _ :: _,ha=>exact absurd ha (by simp [aZ])
end Pam
