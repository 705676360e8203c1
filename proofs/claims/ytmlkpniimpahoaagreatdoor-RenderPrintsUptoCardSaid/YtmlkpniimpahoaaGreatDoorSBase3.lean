/- Regions whose order is open, with memory set aside and filled that nothing looks at ahead of the region's last operation. -/
import Derived.Test.YtmlkpniimpahoaaGreatDoorSBase2
import Derived.Lib.Atoi
import Derived.Test.YtmlkpniimpahoaaGreatDoorSBase1
import Derived.Shelf.Strconv.ParseIntPublic10
import Derived.Lib.ParseIntBTie
import Derived.Lib.AtoiTie
import Derived.Laws.Runes
import Derived.Laws.BytesArg
import Derived.Lib.ConvBytes
import Derived.Recover
import Derived.OrdersIn
import Derived.OwnWalkIn
import Derived.RangeFuncLeaves
import Derived.RangeFuncRecord
import Derived.Lib.ItoaNum
import Derived.Shelf.Strconv.Itoa4
import Derived.Shelf.Strings.OnBuilder
set_option linter.all false
namespace Pam
open Go
def inL(t:Nat):List Nat→Bool
  |[]=>false
  |x :: r=>if t=x then true else inL t r
theorem Aa{t:Nat}:∀ {l:List Nat},inL t l=true→t∈l
  |[],h=>by cases h
  |x :: r,h=>by
    unfold inL at h
    split at h
    · rename_i e;simp [e]
    · simp [Aa h]
def vJ(o:Oper)(x:Operand):Oper:={ dst:=none,op:=.move x,type:=o.type,pos:=o.pos,after:=o.after,guard:=o.guard }
def tQ(ts:List Nat)(o:Oper):Oper :=
  match o.op with
  |.alloc _=>ox o
  |.store _ (.tmp t) x=>if inL t ts=true then vJ o x else o
  |_=>o
def ii(ts:List Nat):List Oper→List Oper
  |[]=>[]
  |[q]=>[ox q]
  |o :: o2 :: r=>tQ ts o :: ii ts (o2 :: r)
def sZ(t:Nat):List Oper→List Oper
  |[]=>[]
  |[_]=>[]
  |o :: o2 :: r=>match o.op with|.store _ (.tmp t') _=>(if t'=t then [o] else sZ t (o2 :: r))|_=>sZ t (o2 :: r)
def pY:List Oper→List Oper
  |[]=>[]
  |[q]=>[q]
  |o :: o2 :: r=>match o.op,o.dst with|.alloc _,some t=>o :: (sZ t (o2 :: r)++pY (o2 :: r))|_,_=>pY (o2 :: r)
def pS(ts:List Nat)(o:Oper)(T:TypeId)(t:Nat)(x:Operand):Prop:=o.op=.store T (.tmp t) x∧inL t ts=true
def Gt(l:List Oper)(ts masks:List Nat)(bs:List Bool):Bool :=
  bs.getD (l.length - 1) false && decide (0<l.length) && ts.all (·<512) && (ts.all fun t=>l.zipIdx.any fun (y,j)=>decide (j+1<l.length) && y.dst == some t && zM y) &&
  l.zipIdx.all fun (o,i) =>
    (if i+1<l.length then
      (match o.op with
       |.alloc _=>o.guard.isNone && (match o.dst with|some t=>decide (t<512) && inL t ts && (l.zipIdx.all fun (y,j)=>j == i || y.dst != some t)|none=>false)
       |.store T (.tmp t) x =>
         !inL t ts || (o.guard.isNone && o.dst.isNone && (match x with|.tmp s=>!inL s ts && decide (s<512) && (l.zipIdx.all fun (y,j)=>y.dst != some s || decide (j<i))|_=>false) &&
           (l.zipIdx.any fun (y,j)=>decide (j<i) && y.dst == some t && (match y.op with|.alloc T'=>decide (T'=T)|_=>false) && (masks.getD i 0).testBit j) &&
           (l.zipIdx.all fun (y,j)=>j == i || j+1 == l.length || (match y.op with|.store _ (.tmp t') _=>t' != t|_=>true)))
       |_=>true)
     else o.dst.isNone && o.guard.isNone) &&
    (match o.guard with|some (g,_)=>(match l[g]? with|some y=>!zM y|none=>true)|none=>true)
def Gu(l:List Oper)(ts masks:List Nat)(bs:List Bool):Bool:=chk (ii ts l).toArray (ii ts l) masks bs && Gt l ts masks bs
structure yN (l:List Oper) (ts masks:List Nat) (bs:List Bool):Prop where
  bar:bs.getD (l.length - 1) false=true
  pos:0<l.length
  small:∀ t∈ts,t<512
  cov:∀ t,inL t ts=true→∃ (j:Nat) (y:Oper) (T:TypeId),l[j]? = some y∧j+1<l.length∧y.op=.alloc T∧y.dst=some t
  al:∀ (i:Nat) (o:Oper) (T:TypeId),l[i]? = some o→i+1<l.length→o.op=.alloc T→o.guard=none∧∃ t,o.dst=some t∧t<512∧inL t ts=true∧∀ (j:Nat) (y:Oper),l[j]? = some y→j≠i→y.dst≠some t
  fl:∀ (i:Nat) (o:Oper) (T:TypeId) (t:Nat) (x:Operand),l[i]? = some o→i+1<l.length→pS ts o T t x→o.guard=none∧o.dst=none∧∃ s,x=.tmp s∧inL s ts=false∧s<512 ∧
    (∀ (j:Nat) (y:Oper),l[j]? = some y→y.dst=some s→j<i) ∧
    (∃ (j:Nat) (y:Oper),l[j]? = some y∧j<i∧y.dst=some t∧y.op=.alloc T∧(masks.getD i 0).testBit j=true) ∧
    ∀ (j:Nat) (y:Oper) (T':TypeId) (x':Operand),l[j]? = some y→j≠i→j+1<l.length→y.op≠.store T' (.tmp t) x'
  last:∀ (i:Nat) (o:Oper),l[i]? = some o→i+1=l.length→o.dst=none∧o.guard=none
  ref:∀ (i:Nat) (o:Oper) (g:Nat) (b:Bool) (y:Oper),l[i]? = some o→o.guard=some (g,b)→l[g]? = some y→∀ T,y.op≠.alloc T
theorem E7{l:List Oper}{ts masks:List Nat}{bs:List Bool}(h:Gt l ts masks bs=true):yN l ts masks bs:=by
  unfold Gt at h
  simp only [Bool.and_eq_true,List.all_eq_true,decide_eq_true_eq] at h
  obtain ⟨⟨⟨⟨h1,h2⟩,h0⟩,hcov⟩,h3⟩:=h
  have m:∀ (i:Nat) (o:Oper),l[i]? = some o→(o,i)∈l.zipIdx:=fun i o ho=>by
    rw [List.mem_zipIdx_iff_getElem?];simpa using ho
  refine ⟨h1,h2,h0,?_,?_,?_,?_,?_⟩
  · intro t ht
    have:=hcov t (Aa ht)
    simp only [List.any_eq_true,Bool.and_eq_true,decide_eq_true_eq,beq_iff_eq] at this
    obtain ⟨⟨y,j⟩,hm,⟨e1,e2⟩,e3⟩:=this
    rw [List.mem_zipIdx_iff_getElem?] at hm
    simp only at e1 e2 e3
    unfold zM at e3
    split at e3
    · rename_i T e;exact ⟨j,y,T,by simpa using hm,e1,e,e2⟩
    · cases e3
  · intro i o T ho hi hop
    have:=(h3 _ (m i o ho)).1
    simp only [iP hi,hop,Bool.and_eq_true,Option.isNone_iff_eq_none] at this
    obtain ⟨g,h⟩:=this
    refine ⟨g,?_⟩
    cases hd:o.dst with
    |none=>rw [hd] at h;simp at h
    |some t =>
      rw [hd] at h
      simp only [Bool.and_eq_true,decide_eq_true_eq,List.all_eq_true,Bool.or_eq_true,beq_iff_eq,bne_iff_ne] at h
      refine ⟨t,rfl,h.1.1,h.1.2,fun j y hy hji=>?_⟩
      rcases h.2 _ (m j y hy) with h|h
      · exact (hji h).elim
      · exact h
  · intro i o T t x ho hi hf
    obtain ⟨hop,hin⟩:=hf
    have:=(h3 _ (m i o ho)).1
    simp only [iP hi,hop,hin,Bool.not_true,Bool.false_or,Bool.and_eq_true,Option.isNone_iff_eq_none] at this
    obtain ⟨⟨⟨⟨g1,g2⟩,g3⟩,g4⟩,g5⟩:=this
    refine ⟨g1,g2,?_⟩
    cases x with
    |tmp s =>
      simp only [Bool.and_eq_true,Bool.not_eq_true',decide_eq_true_eq,List.all_eq_true,Bool.or_eq_true,bne_iff_ne] at g3
      refine ⟨s,rfl,g3.1.1,g3.1.2,fun j y hy hd=>?_,?_,fun j y T' x' hy hji hj hy'=>?_⟩
      · rcases g3.2 _ (m j y hy) with h|h
        · exact (h hd).elim
        · exact h
      · simp only [List.any_eq_true,Bool.and_eq_true,decide_eq_true_eq,beq_iff_eq] at g4
        obtain ⟨⟨y,j⟩,hm,⟨⟨⟨e1,e2⟩,e3⟩,e4⟩⟩:=g4
        rw [List.mem_zipIdx_iff_getElem?] at hm
        refine ⟨j,y,by simpa using hm,e1,e2,?_,e4⟩
        split at e3
        · rename_i T' e;rw [e];simpa using e3
        · cases e3
      · simp only [List.all_eq_true,Bool.or_eq_true,beq_iff_eq] at g5
        have:=g5 _ (m j y hy)
        simp only [hy'] at this
        rcases this with (h|h)|h
        · exact hji h
        · omega
        · simp at h
    |const c=>simp at g3
    |func f=>simp at g3
    |global f=>simp at g3
  · intro i o ho hi
    have:=(h3 _ (m i o ho)).1
    simp only [iN (by omega:¬ i+1<l.length),Bool.and_eq_true,Option.isNone_iff_eq_none] at this
    exact this
  · intro i o g b y ho hg hy T hop
    have:=(h3 _ (m i o ho)).2
    simp [hg,hy,zM,hop] at this
theorem pK(ts:List Nat):∀ l:List Oper,(ii ts l).length=l.length
  |[]=>rfl
  |[q]=>rfl
  |o :: o2 :: r=>by simp only [ii,List.length_cons];rw [pK ts (o2 :: r)];rfl
theorem nM(ts:List Nat):∀ (l:List Oper) (i:Nat) (o:Oper),l[i]? = some o→(ii ts l)[i]? = some (if i+1<l.length then tQ ts o else ox o)
  |[],i,o,h=>by simp at h
  |[q],0,o,h=>by simp at h;subst h;rfl
  |[q],i+1,o,h=>by simp at h
  |a :: o2 :: r,0,o,h=>by simp at h;subst h;simp [ii]
  |a :: o2 :: r,i+1,o,h=>by
    have:=nM ts (o2 :: r) i o (by simpa using h)
    simp only [ii,List.getElem?_cons_succ,this,List.length_cons]
    congr 1
    by_cases e:i+1<r.length+1
    · rw [iP e,iP (by omega)]
    · rw [iN e,iN (by omega)]
theorem Cq{ts:List Nat}{o:Oper}{T:TypeId}(h:o.op=.alloc T):tQ ts o=ox o:=by unfold tQ;rw [h]
theorem xb{ts:List Nat}{o:Oper}{T:TypeId}{t:Nat}{x:Operand}(h:pS ts o T t x):tQ ts o=vJ o x:=by
  unfold tQ;rw [h.1];simp only;rw [iP h.2]
theorem sN{ts:List Nat}{o:Oper}(h:∀ T,o.op≠.alloc T)(h2:∀ T t x,¬ pS ts o T t x):tQ ts o=o:=by
  unfold tQ
  split
  · rename_i T e;exact (h T e).elim
  · rename_i T t x e
    split
    · rename_i e2;exact (h2 T t x ⟨e,e2⟩).elim
    · rfl
  · rfl
theorem xV(ts:List Nat)(o:Oper):(tQ ts o).after=o.after∧(tQ ts o).guard=o.guard:=by
  unfold tQ
  split
  · exact ⟨rfl,rfl⟩
  · split<;>exact ⟨rfl,rfl⟩
  · exact ⟨rfl,rfl⟩
theorem ul{ts:List Nat}{l:List Oper}{i:Nat}{o':Oper}(h:(ii ts l)[i]? = some o'):∃ o,l[i]? = some o∧o'=(if i+1<l.length then tQ ts o else ox o)∧o'.after=o.after∧o'.guard=o.guard:=by
  have hlt:i<l.length:=by rw [← pK ts];exact (List.getElem?_eq_some_iff.1 h).1
  have e:=nM ts l i l[i] (List.getElem?_eq_getElem hlt)
  rw [h] at e
  simp only [sJ] at e
  refine ⟨l[i],List.getElem?_eq_getElem hlt,e,?_⟩
  rw [e]
  split
  · exact xV _ _
  · exact ⟨rfl,rfl⟩
theorem xW{ts:List Nat}{l:List Oper}{listed:Array Bool}{i:Nat}(h:i∈Region.ready .any l.toArray listed):i∈Region.ready .any (ii ts l).toArray listed:=by
  obtain ⟨h1,o,ho,h2⟩:=mem_ready.1 h
  have e:=nM ts l i o (by simpa using ho)
  obtain ⟨o2,q1,q2,q3,q4⟩:=ul e
  rw [show l[i]? = some o by simpa using ho] at q1
  simp only [sJ] at q1
  subst q1
  refine mem_ready.2 ⟨h1,_,by simpa using e,fun x hx=>?_⟩
  rw [q3] at hx
  exact h2 x hx
theorem AM{ts:List Nat}{l:List Oper}{listed:Array Bool}{i:Nat}(h:i∈Region.ready .any (ii ts l).toArray listed):i∈Region.ready .any l.toArray listed:=by
  obtain ⟨h1,o,ho,h2⟩:=mem_ready.1 h
  obtain ⟨o2,q1,q2,q3,q4⟩:=ul (show (ii ts l)[i]? = some o by simpa using ho)
  exact mem_ready.2 ⟨h1,o2,by simpa using q1,fun x hx=>h2 x (by rw [q3];exact hx)⟩
theorem xX{ts masks:List Nat}{bs:List Bool}{l:List Oper}(v:yN l ts masks bs){i:Nat}{o o':Oper}(ho:l[i]? = some o)(ho':(ii ts l)[i]? = some o'){t:Nat}(h:o'.dst=some t):o.dst=some t∧inL t ts=false:=by
  have e:=nM ts l i o ho
  rw [ho'] at e
  simp only [sJ] at e
  by_cases hi:i+1<l.length
  · rw [iP hi] at e
    by_cases ha:∃ T,o.op=.alloc T
    · obtain ⟨T,ha⟩:=ha
      rw [Cq ha] at e;subst e;cases h
    · by_cases hf:∃ T t x,pS ts o T t x
      · obtain ⟨T,t',x,hf⟩:=hf
        rw [xb hf] at e;subst e;cases h
      · rw [sN (fun T e=>ha ⟨T,e⟩) (fun T t x e=>hf ⟨T,t,x,e⟩)] at e
        subst e
        refine ⟨h,?_⟩
        cases hin:inL t ts with
        |false=>rfl
        |true =>
          obtain ⟨j,y,T,hy,hj,hop,hd⟩:=v.cov t hin
          obtain ⟨_,t',g1,_,_,g2⟩:=v.al j y T hy hj hop
          rw [hd] at g1
          simp only [sJ] at g1
          subst g1
          by_cases e:i=j
          · subst e;rw [ho] at hy;simp only [sJ] at hy;subst hy;exact (ha ⟨T,hop⟩).elim
          · exact (g2 i _ ho e h).elim
  · rw [iN hi] at e;subst e;cases h
section
variable {P:Program}
theorem AN{ts masks:List Nat}{l:List Oper}{bs:List Bool}(v:yN l ts masks bs){i:Nat}{o:Oper}(ho:l[i]? = some o)(tmps:Array Value) :
    Region.wanted o (yielded (ii ts l).toArray tmps)=Region.wanted o (yielded l.toArray tmps):=by
  unfold Region.wanted
  cases hg:o.guard with
  |none=>rfl
  |some gb =>
    obtain ⟨g,b⟩:=gb
    simp only
    have:yielded (ii ts l).toArray tmps g=yielded l.toArray tmps g:=by
      unfold yielded
      simp only [List.getElem?_toArray]
      cases hy:l[g]? with
      |none =>
        have:(ii ts l)[g]? = none:=by
          rw [List.getElem?_eq_none_iff] at hy ⊢
          rw [pK];exact hy
        rw [this]
      |some y =>
        rw [nM ts l g y hy]
        by_cases e:g+1<l.length
        · rw [iP e]
          by_cases hf:∃ T t x,pS ts y T t x
          · obtain ⟨T,t,x,hf⟩:=hf
            have:=(v.fl g y T t x hy e hf).2.1
            rw [xb hf]
            simp [vJ,this]
          · rw [sN (v.ref i o g b y ho hg hy) (fun T t x e=>hf ⟨T,t,x,e⟩)]
        · rw [iN e]
          have:=(v.last g y hy (by have:=(List.getElem?_eq_some_iff.1 hy).1;omega)).1
          simp [ox,this]
    rw [this]
theorem C5{ts masks:List Nat}{l:List Oper}{bs:List Bool}(v:yN l ts masks bs){Q:Exit→Act→World→Prop}{i:Nat}{o:Oper}{K:Act→World→Prop}{a:Act}{w:World}(ho:l[i]? = some o)(hi:i+1<l.length)(hn:∀ T,o.op≠.alloc T)(hf:∀ T t x,¬ pS ts o T t x)
    (h:wpOp P (ii ts l).toArray Q i K a w):wpOp P l.toArray Q i (fun a' w'=>K a' w'∧∀ t,o.dst≠some t→a'.tmps.getD t undef=a.tmps.getD t undef) a w:=by
  have e:=nM ts l i o ho
  rw [iP hi,sN hn hf] at e
  have h':=AH (o:=o) (by simpa using e) h
  unfold wpOp at h' ⊢
  simp only [List.getElem?_toArray,e,ho,AN v ho] at h' ⊢
  exact h'
def D1(P:Program)(ts:List Nat)(l:List Oper)(listed:Array Bool)(a:Act)(T:TypeId)(t:Nat)(x:Obj):Prop :=
  ((∀ (j:Nat) (y:Oper) (T':TypeId) (q:Operand),l[j]? = some y→j+1<l.length→pS ts y T' t q→listed.getD j false=false)→∃ inf u,P.info? T=some inf∧inf.zero=some u∧x=.cells u.cells T) ∧
  ∀ (j:Nat) (y:Oper) (T':TypeId) (s:Nat),l[j]? = some y→j+1<l.length→pS ts y T' t (.tmp s)→listed.getD j false=true→∃ c,x=.cells c T∧c.toList=(a.tmps.getD s undef).cells.toList
def HE(P:Program)(ts:List Nat)(l:List Oper)(G0 G1:Gh)(listed:Array Bool)(a:Act):Prop :=
  G1.H=G0.H∧G1.own=G0.own∧G1.w0=G0.w0∧G1.na=G0.na∧(∀ b x,G0.F b=some x→G1.F b=some x) ∧
  ∃ pb:Nat→Nat,
    (∀ (i j:Nat) (o o':Oper) (T T':TypeId),l[i]? = some o→l[j]? = some o'→i+1<l.length→j+1<l.length→o.op=.alloc T→o'.op=.alloc T'→listed.getD i false=true→listed.getD j false=true→pb i=pb j→i=j) ∧
    ∀ (i:Nat) (o:Oper) (T:TypeId) (t:Nat),l[i]? = some o→i+1<l.length→o.op=.alloc T→o.dst=some t→listed.getD i false=true →
      a.tmps.getD t undef=.pointer (some ⟨pb i,0,none⟩)∧G0.F (pb i)=none∧∃ x,G1.F (pb i)=some x∧D1 P ts l listed a T t x
def StB(P:Program)(ts:List Nat)(l:List Oper)(tr:List TS)(E:Env)(σ:List OB)(G0:Gh)(listed:Array Bool)(a:Act)(w:World):Prop :=
  ∃ G1,HE P ts l G0 G1 listed a∧StJ (ii ts l) tr E σ G1 listed a w
structure tR (P:Program) (E:Env) (T:TypeId) (s:Nat):Prop where
  cond:(E.get s).cond=true
  known:cx P T=true
  pos:0<P.cellsOf T
  len:(E.get s).v.cells.length=P.cellsOf T
theorem Inv.refill{G:Gh}{σ:List OB}{w:World}(hi:Inv G σ w){blk:Nat}{c0:Array Value}{T:TypeId}(c:Array Value)(hF:G.F blk=some (.cells c0 T)) :
    Inv { G with F:=fun b=>if b=blk then some (.cells c T) else G.F b } σ (w.setRow blk c):=by
  have old:∀ b,b≠blk→(w.setRow blk c).heap[b]? = w.heap[b]? := fun b hb=>mH w _ b _ hb
  have hH:G.H blk=none:=hi.HF _ _ hF
  constructor
  · intro b y h
    rw [old b (fun e=>by subst e;rw [hH] at h;cases h)];exact hi.hH b y h
  · intro b y h
    simp only at h
    by_cases e:b=blk
    · rw [iP e] at h;rw [e,← h];exact kM (hi.hF _ _ hF) c
    · rw [iN e] at h;rw [old b e];exact hi.hF b y h
  · intro b y h
    simp only at h ⊢
    by_cases e:b=blk
    · rw [e];exact hH
    · rw [iN e] at h;exact hi.HF b y h
  · exact hi.len
  · intro b ob h
    exact (hi.own b ob h).keep (fun _ _ h=>h) (bG.refl _) rfl fun o ho hh=>old _ (fun e=>by have:=(hi.sep b o ho hh).2;rw [e,hF] at this;cases this)
  · exact hi.inj
  · intro b o h hh
    have:=(hi.sep b o h hh).2
    refine ⟨(hi.sep b o h hh).1,?_⟩
    simp only
    rw [iN (fun e=>by rw [e,hF] at this;cases this)]
    exact this
  · exact hi.os
  · exact hi.tape
  · exact hi.output
  · exact Nat.le_trans hi.grow (by simp [World.setRow])
theorem D2{listed:Array Bool}{l:List Oper}(hsz:listed.size=l.length){i:Nat}(hil:i<l.length)(j:Nat):(listed.setIfInBounds i true).getD j false=if j=i then true else listed.getD j false:=yD _ _ _ (by omega)
theorem StB.step{ts:List Nat}{l:List Oper}{bs:List Bool}{masks:List Nat}{E:Env}{σ:List OB}{tr:List TS}(c:Chk (ii ts l).toArray (ii ts l) masks bs)(v:yN l ts masks bs)(ht:tu P (ii ts l).toArray (ii ts l) bs E σ tr)
    (hE:∀ t,inL t ts=true→(E.get t).cond=false) (hz:∀ (i:Nat) (o:Oper) (T:TypeId),l[i]? = some o→i+1<l.length→o.op=.alloc T→(∃ z,mG P T=some z)∧eW E o.dst)
    (hfl:∀ (i:Nat) (o:Oper) (T:TypeId) (t s:Nat),l[i]? = some o→i+1<l.length→pS ts o T t (.tmp s)→tR P (cR E (ii ts l) tr (ii ts l).length) T s)
    (G0:Gh) {Q:Exit→Act→World→Prop} (listed:Array Bool) (a:Act) (w:World) (i:Nat)
    (hJ:StB P ts l tr E σ G0 listed a w) (hi:i∈Region.ready .any l.toArray listed) (hlt:i+1<l.length):wpOp P l.toArray Q i (StB P ts l tr E σ G0 (listed.setIfInBounds i true)) a w:=by
  obtain ⟨G1,⟨p1,p2,p3,p4,p5,pb,p6,p7⟩,hS⟩:=hJ
  have hsz:listed.size=l.length:=by rw [hS.1,pK]
  obtain ⟨hi0,hil,o,ho,hr⟩:=m6 hsz hi
  have hset:=D2 hsz hil
  have hcl:=hS.2.1
  have hvi:=nM ts l i o ho
  rw [iP hlt] at hvi
  have hr':∀ j∈ep (tQ ts o),listed.getD j false=true:=by
    intro j hj
    have:ep (tQ ts o)=ep o:=by unfold ep;rw [(xV ts o).1]
    rw [this] at hj;exact hr j hj
  have hbehind:∀ (j:Nat) (y:Oper) (T:TypeId) (t s:Nat),l[j]? = some y→j+1<l.length→pS ts y T t (.tmp s)→listed.getD j false=true→(tQ ts o).dst≠some s:=by
    intro j y T t s hy hj hf hl hd
    have hvj:=nM ts l j y hy
    rw [iP hj,xb hf] at hvj
    obtain ⟨_,_,s',e,_,_,g,_⟩:=v.fl j y T t _ hy hj hf
    simp only [Operand.tmp.injEq] at e
    subst e
    have hlt':i<j:=g i o ho (xX v ho hvi hd).1
    have hh:=c.hit i j _ _ hvi hvj (by simp [zw,hd,Oper.looksAt,vJ,Op.operands])
    simp only [om,Bool.or_eq_true,beq_iff_eq] at hh
    rcases hh with (h|h)|h
    · omega
    · have:=(c.bit hcl i _ hvi j h).1;omega
    · have:=(c.bit hcl j _ hvj i h).2 hl
      rw [hi0] at this;cases this
  have keepH:∀ (a':Act) (T:TypeId) (t:Nat) (x:Obj),(∀ (j:Nat) (y:Oper) (T':TypeId) (s:Nat),l[j]? = some y→j+1<l.length→pS ts y T' t (.tmp s)→listed.getD j false=true→a'.tmps.getD s undef=a.tmps.getD s undef) →
      (∀ (q:Operand) (T':TypeId),¬ pS ts o T' t q)→D1 P ts l listed a T t x→D1 P ts l (listed.setIfInBounds i true) a' T t x:=by
    intro a' T t x h1 h2 ⟨k1,k2⟩
    refine ⟨fun h=>k1 fun j y T' q hy hj hf=>?_,fun j y T' s hy hj hf hl=>?_⟩
    · have:=h j y T' q hy hj hf
      rw [hset] at this
      split at this
      · cases this
      · exact this
    · rw [hset] at hl
      have nj:j≠i:=fun e=>by subst e;rw [ho] at hy;simp only [sJ] at hy;subst hy;exact h2 _ _ hf
      rw [iN nj] at hl
      obtain ⟨cc,e1,e2⟩:=k2 j y T' s hy hj hf hl
      exact ⟨cc,e1,by rw [e2,h1 j y T' s hy hj hf hl]⟩
  by_cases hn:∀ T,o.op≠.alloc T
  · by_cases hf:∀ T t x,¬ pS ts o T t x
    ·
      have h1:=StJ.step (Q:=Q) c ht G1 listed a w i hS (xW hi)
      rw [sN hn hf] at hbehind
      refine wpOp_mono (fun a' w' h=>?_) (C5 v ho hlt hn hf h1)
      obtain ⟨h2,h3⟩:=h
      refine ⟨G1,⟨p1,p2,p3,p4,p5,pb,?_,?_⟩,h2⟩
      · intro j k y y' T T' hy hy' hj hk hop hop' hl hl'
        rw [hset] at hl hl'
        have nj:j≠i:=fun e=>by subst e;rw [ho] at hy;simp only [sJ] at hy;subst hy;exact hn T hop
        have nk:k≠i:=fun e=>by subst e;rw [ho] at hy';simp only [sJ] at hy';subst hy';exact hn T' hop'
        rw [iN nj] at hl
        rw [iN nk] at hl'
        exact p6 j k y y' T T' hy hy' hj hk hop hop' hl hl'
      · intro j y T t hy hj hop hd hl
        rw [hset] at hl
        have nj:j≠i:=fun e=>by subst e;rw [ho] at hy;simp only [sJ] at hy;subst hy;exact hn T hop
        rw [iN nj] at hl
        obtain ⟨q1,q2,x,q3,q4⟩:=p7 j y T t hy hj hop hd hl
        obtain ⟨_,t',g1,_,_,g4⟩:=v.al j y T hy hj hop
        rw [hd] at g1
        simp only [sJ] at g1
        subst g1
        exact ⟨(h3 t (g4 i o ho (fun e=>nj e.symm))).trans q1,q2,x,q3,keepH a' T t x (fun k z T' s hz' hk hfz hlz=>h3 s (hbehind k z T' t s hz' hk hfz hlz)) (fun q T'=>hf T' t q) q4⟩
    ·
      obtain ⟨T,t,q,hf⟩:∃ T t q,pS ts o T t q:=Classical.byContradiction fun h=>hf fun T t q e=>h ⟨T,t,q,e⟩
      obtain ⟨hg,hd,s,rfl,hs1,hs2,hs3,⟨i0,y0,hy0,hi0i,hd0,hop0,hbit⟩,huniq⟩:=v.fl i o T t q ho hlt hf
      rw [xb hf] at hvi hr'
      have hv0:=nM ts l i0 y0 hy0
      have hl0:listed.getD i0 false=true:=by
        rw [c.done hcl hvi hi0 hr' hv0 (.inl (by simp only [om,Bool.or_eq_true];exact .inl (.inr hbit)))];simpa using hi0i
      obtain ⟨q1,q2,x,q3,q4,_⟩:=p7 i0 y0 T t hy0 (by omega) hop0 hd0 hl0
      obtain ⟨inf,u,e1,e2,rfl⟩:=q4 (fun j y T' x' hy hj hfy=>by
        by_cases e:j=i
        · subst e;exact hi0
        · exact (huniq j y T' x' hy e hj hfy.1).elim)
      obtain ⟨⟨z,hzT⟩,_⟩:=hz i0 y0 T hy0 (by omega) hop0
      obtain ⟨hsz',_,G,p,hG,hp,hloud,hinv,hdef,htm,hna,hslot⟩:=hS
      obtain ⟨inf',u',e1',e2',e3,e4,_,_⟩:=jM G hzT
      rw [e1] at e1';simp only [sJ] at e1';subst e1'
      rw [e2] at e2';simp only [sJ] at e2';subst e2'
      have hFG:G.F=G1.F:=hG.le.F
      have fo:=hfl i o T t s ho hlt hf
      obtain ⟨htl,_⟩:=ht.at
      have hsl:(cR E (ii ts l) tr (ii ts l).length).get s=io s (ii ts l) tr (fun j=>listed.getD j false) (E.get s):=by
        rw [rF s (ii ts l) tr E _ (fun j o x hj hd=>c.dst j o hj x hd) htl]
        apply je
        intro j y hy hyd
        have hjl:=(List.getElem?_eq_some_iff.1 hy).1
        obtain ⟨y1,hy1,_⟩:=ul hy
        have hji:=hs3 j y1 hy1 (xX v hy1 hy hyd).1
        have:=c.done hcl hvi hi0 hr' hy (.inr (c.hit j i _ _ hy hvi (by simp [zw,hyd,Oper.looksAt,vJ,Op.operands])))
        rw [this];simp;omega
      have hrep:=hslot s hs2 (by rw [← hsl];exact fo.cond)
      rw [← hsl] at hrep
      have hcells:=oU hrep (by rw [fo.len];exact fo.pos)
      have hlen:(a.tmps.getD s undef).cells.size=P.cellsOf T:=by have:=hcells.length;rw [fo.len] at this;simpa using this.symm
      have hheap:w.heap[pb i0]? = some (.cells u.cells T):=hinv.hF _ _ (by rw [hFG];exact q3)
      have hst:=tm (P:=P) (w:=w) fo.known (pb i0) 0 T (0,0) u.cells hheap (.inl rfl) (a.tmps.getD s undef) hlen (by omega) (uN hcells)
      have hrow:((u.cells.toList.take 0++(a.tmps.getD s undef).cells.toList++u.cells.toList.drop (0+(a.tmps.getD s undef).cells.toList.length)).toArray)=(a.tmps.getD s undef).cells:=by
        have:u.cells.toList.drop (0+(a.tmps.getD s undef).cells.toList.length)=[]:=by
          apply List.drop_eq_nil_of_le
          rw [Array.length_toList,Array.length_toList];omega
        rw [this];simp
      rw [hrow] at hst
      have hev:a.eval (.tmp t)=.pointer (some ⟨pb i0,0,none⟩):=q1
      have hev2:a.eval (.tmp s)=a.tmps.getD s undef:=rfl
      have hrun:(execOp a.eval o).run P w=.ok .skip (w.setRow (pb i0) (a.tmps.getD s undef).cells):=by
        simp only [execOp,hf.1,hev,hev2,Sem.run_bind,hst,Result.andThen_ok,Sem.run_pure]
      unfold wpOp
      simp only [List.getElem?_toArray,ho]
      rw [iP (by unfold Region.wanted;rw [hg])]
      left
      unfold Oper.wp
      rw [hrun]
      show StB P ts l tr E σ G0 (listed.setIfInBounds i true) (a.put o.dst undef) _
      rw [hd]
      show StB P ts l tr E σ G0 (listed.setIfInBounds i true) a _
      have hneal:∀ (j:Nat) (y:Oper) (T':TypeId),l[j]? = some y→y.op=.alloc T'→j≠i:=fun j y T' hy hop e=>by
        subst e;rw [ho] at hy;simp only [sJ] at hy;subst hy;exact hn T' hop
      refine ⟨{ G1 with F:=fun b=>if b=pb i0 then some (.cells (a.tmps.getD s undef).cells T) else G1.F b },⟨p1,p2,p3,p4,?_,pb,?_,?_⟩,?_⟩
      · intro b y hb
        simp only
        rw [iN (fun e=>by rw [e,q2] at hb;cases hb)]
        exact p5 b y hb
      · intro j k y y' T1 T2 hy hy' hj hk hop1 hop2 hl hl' he
        rw [hset,iN (hneal j y T1 hy hop1)] at hl
        rw [hset,iN (hneal k y' T2 hy' hop2)] at hl'
        exact p6 j k y y' T1 T2 hy hy' hj hk hop1 hop2 hl hl' he
      · intro j y T' t' hy hj hop' hd' hl
        rw [hset,iN (hneal j y T' hy hop')] at hl
        by_cases ej:j=i0
        · subst ej
          rw [hy0] at hy
          simp only [sJ] at hy
          subst hy
          rw [hd0] at hd'
          simp only [sJ] at hd'
          subst hd'
          rw [hop0] at hop'
          simp only [Op.alloc.injEq] at hop'
          subst hop'
          refine ⟨q1,q2,.cells (a.tmps.getD s undef).cells T,by simp,fun h=>?_,fun k z T' s' hz' hk hfz hlz=>?_⟩
          · have:=h i o T _ ho hlt hf
            rw [hset,iP rfl] at this;cases this
          · by_cases ek:k=i
            · subst ek
              rw [ho] at hz'
              simp only [sJ] at hz'
              subst hz'
              have:=hf.1.symm.trans hfz.1
              simp only [Op.store.injEq,Operand.tmp.injEq,true_and] at this
              obtain ⟨_,rfl⟩:=this
              exact ⟨_,rfl,rfl⟩
            · exact (huniq k z T' _ hz' ek hk hfz.1).elim
        · obtain ⟨r1,r2,x',r3,r4⟩:=p7 j y T' t' hy hj hop' hd' hl
          have hpb:pb j≠pb i0:=fun e=>ej (p6 j i0 y y0 T' T hy hy0 hj (by omega) hop' hop0 hl hl0 e)
          have htt:t'≠t:=by
            intro e
            subst e
            obtain ⟨_,t2,g1,_,_,g4⟩:=v.al j y T' hy hj hop'
            rw [hd'] at g1
            simp only [sJ] at g1
            subst g1
            exact g4 i0 y0 hy0 (fun e=>ej e.symm) hd0
          refine ⟨r1,r2,x',by simp only;rw [iN hpb];exact r3,keepH a T' t' x' (fun _ _ _ _ _ _ _ _=>rfl) (fun q T2 hq=>?_) r4⟩
          have:=hf.1.symm.trans hq.1
          simp only [Op.store.injEq,Operand.tmp.injEq] at this
          exact htt this.2.1.symm
      · refine ⟨by simpa using hsz',?_,{ G with F:=fun b=>if b=pb i0 then some (.cells (a.tmps.getD s undef).cells T) else G.F b },p,⟨⟨hG.le.H,?_,hG.le.w0,hG.le.na⟩,hG.own⟩,hp,?_,hinv.refill _ (by rw [hFG];exact q3),hdef,htm,hna,?_⟩
        · intro k ok hk hdn j hj
          simp only at hdn ⊢
          rw [hset] at hdn ⊢
          by_cases e:k=i
          · subst e;rw [hvi] at hk;simp only [sJ] at hk;subst hk
            by_cases e':j=k
            · rw [iP e']
            · rw [iN e'];exact hr' j hj
          · rw [iN e] at hdn
            by_cases e':j=i
            · rw [iP e']
            · rw [iN e'];exact hcl k ok hk hdn j hj
        · funext b;simp only [hFG]
        · intro j y hy hly
          rw [hset]
          by_cases e:j=i
          · subst e;rw [hvi] at hy;simp only [sJ] at hy;subst hy;simp [kG,vJ] at hly
          · rw [iN e];exact hloud j y hy hly
        · intro t' ht' hc
          have hfun:(fun k=>(listed.setIfInBounds i true).getD k false)=(fun k=>if k=i then true else listed.getD k false):=by
            funext k;exact hset k
          rw [hfun] at hc ⊢
          rw [qU t' (ii ts l) tr _ _ i _ hvi (by simp [vJ])] at hc ⊢
          exact bg.mono (G:=G) (G':={ G with F:=fun b=>if b=pb i0 then some (.cells (a.tmps.getD s undef).cells T) else G.F b }) (fun _ _ h=>h) (bG.refl _) (hslot t' ht' hc)
  ·
    obtain ⟨T,hop⟩:∃ T,o.op=.alloc T:=Classical.byContradiction fun h=>hn fun T e=>h ⟨T,e⟩
    obtain ⟨hg,t,hd,ht512,hts,huniq⟩:=v.al i o T ho hlt hop
    obtain ⟨⟨z,hzT⟩,hdok⟩:=hz i o T ho hlt hop
    obtain ⟨hsz',_,G,p,hG,hp,hloud,hinv,hdef,htm,hna,hslot⟩:=hS
    obtain ⟨inf,u,e1,e2,e3,e4,_,e5⟩:=jM G hzT
    have hFG:G.F=G1.F:=hG.le.F
    rw [Cq hop] at hvi hr'
    have hrun:(execOp a.eval o).run P w=.ok (.value (.pointer (some ⟨w.heap.size,0,none⟩))) (w.alloc (.cells u.cells T)):=by
      simp [execOp,hop,Instr.alloc,jd e1 e2,newVar,newRow]
    have notf:∀ (q:Operand) (T':TypeId) (t':Nat),¬ pS ts o T' t' q:=fun q T' t' h=>by have:=hop.symm.trans h.1;cases this
    unfold wpOp
    simp only [List.getElem?_toArray,ho]
    rw [iP (by unfold Region.wanted;rw [hg])]
    left
    unfold Oper.wp
    rw [hrun]
    show StB P ts l tr E σ G0 (listed.setIfInBounds i true) (a.put o.dst _) _
    rw [hd]
    have hfree:∀ j y,l[j]? = some y→j+1<l.length→(∃ T,y.op=.alloc T)→listed.getD j false=true→pb j≠w.heap.size:=by
      intro j y hy hj ⟨T',hop'⟩ hl e
      obtain ⟨_,t',g1,_⟩:=v.al j y T' hy hj hop'
      obtain ⟨_,_,_,q,_⟩:=p7 j y T' t' hy hj hop' g1 hl
      rw [← hFG] at q
      have:=dD (hinv.hF _ _ q)
      omega
    have hput:∀ t',t'≠t→(a.put (some t) (.pointer (some ⟨w.heap.size,0,none⟩))).tmps.getD t' undef=a.tmps.getD t' undef:=by
      intro t' hne
      simp only [Act.put,Array.getD_eq_getD_getElem?]
      rw [Array.getElem?_setIfInBounds_ne (Ne.symm hne)]
    refine ⟨{ G1 with F:=fun b=>if b=w.heap.size then some (.cells u.cells T) else G1.F b },⟨p1,p2,p3,p4,?_,fun j=>if j=i then w.heap.size else pb j,?_,?_⟩,?_⟩
    · intro b x hb
      have h1:=p5 b x hb
      simp only
      rw [iN]
      · exact h1
      · intro e
        rw [← hFG] at h1
        have:=dD (hinv.hF _ _ h1)
        omega
    · intro j k y y' T1 T2 hy hy' hj hk hop1 hop2 hl hl' he
      rw [hset] at hl hl'
      simp only at he
      by_cases nj:j=i<;>by_cases nk:k=i
      · omega
      · rw [iP nj,iN nk] at he;rw [iN nk] at hl'
        exact (hfree k y' hy' hk ⟨T2,hop2⟩ hl' he.symm).elim
      · rw [iN nj,iP nk] at he;rw [iN nj] at hl
        exact (hfree j y hy hj ⟨T1,hop1⟩ hl he).elim
      · rw [iN nj,iN nk] at he;rw [iN nj] at hl;rw [iN nk] at hl'
        exact p6 j k y y' T1 T2 hy hy' hj hk hop1 hop2 hl hl' he
    · intro j y T' t' hy hj hop' hd' hl
      rw [hset] at hl
      by_cases nj:j=i
      · subst nj
        rw [ho] at hy
        simp only [sJ] at hy
        subst hy
        rw [hd] at hd'
        simp only [sJ] at hd'
        subst hd'
        rw [hop] at hop'
        simp only [Op.alloc.injEq] at hop'
        subst hop'
        simp only [if_true]
        refine ⟨?_,?_,_,rfl,fun _=>⟨inf,u,e1,e2,rfl⟩,fun k z T' s' hz' hk hfz hlz=>?_⟩
        · have:t<a.tmps.size:=by
            rw [htm]
            rw [hd] at hdok
            exact hdok
          simp [Act.put,Array.getD,this]
        · cases hx:G0.F w.heap.size with
          |none=>rfl
          |some x =>
            have h1:=p5 _ _ hx
            rw [← hFG] at h1
            have:=dD (hinv.hF _ _ h1)
            omega
        · exfalso
          rw [hset] at hlz
          have nk:k≠j:=fun e=>by subst e;rw [ho] at hz';simp only [sJ] at hz';subst hz';exact notf _ _ _ hfz
          rw [iN nk] at hlz
          obtain ⟨_,_,_,_,_,_,_,⟨i1,y1,hy1,_,hd1,_,hbit⟩,_⟩:=v.fl k z T' t _ hz' hk hfz
          have e:i1=j:=Classical.byContradiction fun e=>huniq i1 y1 hy1 e hd1
          subst e
          have:=(c.bit hcl k _ (nM ts l k z hz') i1 hbit).2 hlz
          rw [hi0] at this;cases this
      · rw [iN nj] at hl
        obtain ⟨q1,q2,x,q3,q4⟩:=p7 j y T' t' hy hj hop' hd' hl
        simp only [iN nj]
        have hne:t'≠t:=fun e=>huniq j y hy nj (by rw [hd',e])
        refine ⟨(hput t' hne).trans q1,q2,x,?_,keepH _ T' t' x (fun k z T2 s hz' hk hfz hlz=>hput s (fun e=>?_)) (fun q T2=>notf q T2 t') q4⟩
        · rw [iN (hfree j y hy hj ⟨T',hop'⟩ hl)]
          exact q3
        · obtain ⟨_,_,s',e',hs',_⟩:=v.fl k z T2 t' _ hz' hk hfz
          simp only [Operand.tmp.injEq] at e'
          subst e'
          rw [e,hts] at hs';cases hs'
    · refine ⟨by simpa using hsz',?_,{ G with F:=fun b=>if b=w.heap.size then some (.cells u.cells T) else G.F b },p,⟨⟨hG.le.H,?_,hG.le.w0,hG.le.na⟩,hG.own⟩,hp,?_,hinv.aside _,hdef,by simpa [Act.put] using htm,hna,?_⟩
      · intro k ok hk hdn j hj
        simp only at hdn ⊢
        rw [hset] at hdn ⊢
        by_cases e:k=i
        · subst e;rw [hvi] at hk;simp only [sJ] at hk;subst hk
          by_cases e':j=k
          · rw [iP e']
          · rw [iN e'];exact hr' j hj
        · rw [iN e] at hdn
          by_cases e':j=i
          · rw [iP e']
          · rw [iN e'];exact hcl k ok hk hdn j hj
      · funext b;simp only [hFG]
      · intro j y hy hly
        rw [hset]
        by_cases e:j=i
        · subst e;rw [hvi] at hy;simp only [sJ] at hy;subst hy;simp [kG,ox] at hly
        · rw [iN e];exact hloud j y hy hly
      · intro t' ht' hc
        have hfun:(fun k=>(listed.setIfInBounds i true).getD k false)=(fun k=>if k=i then true else listed.getD k false):=by
          funext k;exact hset k
        rw [hfun] at hc ⊢
        rw [qU t' (ii ts l) tr _ _ i _ hvi (by simp [ox])] at hc ⊢
        by_cases e:t'=t
        · subst e
          have hk:io t' (ii ts l) tr (fun k=>listed.getD k false) (E.get t')=E.get t':=by
            have hno:∀ (j:Nat) (y:Oper),(ii ts l)[j]? = some y→y.dst=some t'→False:=by
              intro j y hy hyd
              obtain ⟨y0,g1,_⟩:=ul hy
              have:=(xX v g1 hy hyd).2
              rw [hts] at this;cases this
            rw [je t' (ii ts l) tr _ (fun _=>false) _ (fun j y hy hyd=>(hno j y hy hyd).elim)]
            exact kq t' (ii ts l) tr _ _ fun _ _ _ _=>rfl
          rw [hk,hE t' hts] at hc
          cases hc
        · rw [hput t' e]
          exact bg.mono (G:=G) (G':={ G with F:=fun b=>if b=w.heap.size then some (.cells u.cells T) else G.F b }) (fun _ _ h=>h) (bG.refl _) (hslot t' ht' hc)
theorem C6{ops:Array Oper}{x:Oper}{T:TypeId}{rest:List Oper}{E:Env}{σ:List OB}{k:Env→List OB→Prop}{kp:PV→Env→List OB→Prop}(hx:x.op=.alloc T)(hg:x.guard=none)(h:e7 P ops (x :: rest) E σ k kp) :
    ∃ z,mG P T=some z∧eW E x.dst∧e7 P ops rest (E.putD x.dst ⟨true,.c (.optr σ.length 0)⟩) (σ++[.box z]) k kp:=by
  unfold e7 at h
  simp only [fm,hg,cA,hx,pP] at h
  split at h
  · rename_i z hz
    simp only [rE] at h
    exact ⟨z,hz,h.1,h.2.2⟩
  · simp only [rE] at h
def ghT:Gh:=⟨fun b=>(tbC b).map fun c=>.cells c 0 (0,0),fun _=>none,[],⟨default,[]⟩,0,fun b c h=>⟨0,(0,0),by simp [h]⟩⟩
theorem D3{ops:Array Oper}{y:Oper}{T:TypeId}{t s:Nat}{z:List CV}{rest:List Oper}{E:Env}{σ:List OB}{k:Env→List OB→Prop}{kp:PV→Env→List OB→Prop}(hy:y.op=.store T (.tmp t) (.tmp s))(hg:y.guard=none)(hd:y.dst=none)(ht:t<512)(hst:s≠t)
    (hz:mG P T=some z) (h:e7 P ops (y :: rest) (E.putD (some t) ⟨true,.c (.optr σ.length 0)⟩) (σ++[.box z]) k kp) :
    tR P E T s∧e7 P ops rest (E.putD (some t) ⟨true,.c (.optr σ.length 0)⟩) (σ++[.box (E.get s).v.cells]) k kp:=by
  obtain ⟨inf,u,e1,e2,e3,e4,_,e5⟩:=jM ghT hz
  have hzl:z.length=P.cellsOf T:=by have:=e5.length;simp at this;omega
  unfold e7 at h
  have g1:ev (E.putD (some t) ⟨true,.c (.optr σ.length 0)⟩) (.tmp t)=⟨true,.c (.optr σ.length 0)⟩:=by
    show (E.put t _).get t=_
    rw [Env.get_put' E t t _ ht,iP rfl]
  have g2:ev (E.putD (some t) ⟨true,.c (.optr σ.length 0)⟩) (.tmp s)=E.get s:=by
    show (E.put t _).get s=_
    rw [Env.get_put' E t s _ ht,iN hst]
  have g3:(σ++[OB.box z])[σ.length]? = some (.box z):=by simp
  simp only [fm,hg,cA,hy,g1,g2,qp,g3,rE] at h
  obtain ⟨_,⟨_,c2,c3,c4,c5,c6⟩,h⟩:=h
  refine ⟨⟨c2,c3,c4,c5⟩,?_⟩
  rw [hd] at h
  have:(σ++[OB.box z]).set σ.length (.box (ik z 0 (E.get s).v.cells))=σ++[.box (E.get s).v.cells]:=by
    have e:ik z 0 (E.get s).v.cells=(E.get s).v.cells:=by
      unfold ik
      rw [List.take_zero,List.nil_append,List.drop_eq_nil_of_le (by omega),List.append_nil]
    rw [e,List.set_append_right _ _ (Nat.le_refl _)]
    simp
  rw [this] at h
  exact h
theorem wE(t:Nat):∀ r:List Oper,(sZ t r=[]∧∀ (j:Nat) (y:Oper) (T:TypeId) (x:Operand),r[j]? = some y→j+1<r.length→y.op≠.store T (.tmp t) x) ∨
    ∃ (j:Nat) (y:Oper) (T:TypeId) (x:Operand),r[j]? = some y∧j+1<r.length∧y.op=.store T (.tmp t) x∧sZ t r=[y]
  |[]=>.inl ⟨rfl,fun j y T x h=>by simp at h⟩
  |[q]=>.inl ⟨rfl,fun j y T x _ h=>by simp at h⟩
  |o :: o2 :: r=>by
    have rest:(∀ T x,o.op≠.store T (.tmp t) x)→sZ t (o :: o2 :: r)=sZ t (o2 :: r):=by
      intro hn
      unfold sZ
      split
      · rename_i T t' x e
        by_cases ht:t'=t
        · subst ht;exact (hn T x e).elim
        · rw [iN ht]
          cases r<;>rfl
      · cases r<;>rfl
    by_cases hf:∃ T x,o.op=.store T (.tmp t) x
    · obtain ⟨T,x,hf⟩:=hf
      exact .inr ⟨0,o,T,x,rfl,by simp,hf,by unfold sZ;simp only [hf,if_true]⟩
    · have hn:∀ T x,o.op≠.store T (.tmp t) x:=fun T x e=>hf ⟨T,x,e⟩
      rw [rest hn]
      rcases wE t (o2 :: r) with ⟨h1,h2⟩|⟨j,y,T,x,h1,h2,h3,h4⟩
      · refine .inl ⟨h1,fun j y T x hy hj=>?_⟩
        cases j with
        |zero=>simp at hy;subst hy;exact hn T x
        |succ j=>exact h2 j y T x (by simpa using hy) (by simp at hj ⊢;omega)
      · exact .inr ⟨j+1,y,T,x,by simpa using h1,by simp at h2 ⊢;omega,h3,h4⟩
theorem wF{x o2:Oper}{r:List Oper}(h:∀ T,x.op≠.alloc T):pY (x :: o2 :: r)=pY (o2 :: r):=by
  unfold pY
  split
  · rename_i T t e _;exact (h T e).elim
  · cases r<;>rfl
theorem D4{x o2:Oper}{r:List Oper}{T:TypeId}{t:Nat}(h:x.op=.alloc T)(hd:x.dst=some t):pY (x :: o2 :: r)=x :: (sZ t (o2 :: r)++pY (o2 :: r)):=by
  simp only [pY,h,hd]
theorem wG{ts masks:List Nat}{l:List Oper}{bs:List Bool}(v:yN l ts masks bs){x:Oper}{T:TypeId}{t m:Nat}(hx:l[m]? = some x)(hop:x.op=.alloc T)(hm:m+1<l.length)(hd:x.dst=some t){j:Nat}{y:Oper}{T':TypeId}{q:Operand}(hy:l[j]? = some y)(hj:j+1<l.length)(hf:pS ts y T' t q):m<j∧T'=T:=by
  obtain ⟨_,_,_,_,_,_,_,⟨i0,y0,g1,g2,g3,g4,_⟩,_⟩:=v.fl j y T' t q hy hj hf
  obtain ⟨_,t',e1,_,_,e2⟩:=v.al m x T hx hm hop
  rw [hd] at e1
  simp only [sJ] at e1
  subst e1
  have e:i0=m:=Classical.byContradiction fun e=>e2 i0 y0 g1 e g3
  subst e
  rw [hx] at g1
  simp only [sJ] at g1
  subst g1
  rw [hop] at g4
  simp only [Op.alloc.injEq] at g4
  exact ⟨g2,g4.symm⟩
theorem AO{ts masks:List Nat}{l:List Oper}{bs:List Bool}(v:yN l ts masks bs){ops:Array Oper}{k:Env→List OB→Prop}{kp:PV→Env→List OB→Prop}{x o2:Oper}{r:List Oper}{m:Nat}(hr:∀ i,(x :: o2 :: r)[i]? = l[m+i]?)(hlen:m+(x :: o2 :: r).length=l.length)
    {T:TypeId} (hop:x.op=.alloc T) {t:Nat} (hd:x.dst=some t) {E:Env} {σ:List OB} (h:e7 P ops (pY (x :: o2 :: r)) E σ k kp) :
    ∃ z cs,mG P T=some z∧eW E x.dst∧e7 P ops (pY (o2 :: r)) (E.putD (some t) ⟨true,.c (.optr σ.length 0)⟩) (σ++[.box cs]) k kp ∧
      (((∀ (j : Nat) (y : Oper) (T' : TypeId) (q : Operand), l[j]? = some y → j + 1 < l.length → ¬ pS ts y T' t q) ∧ cs = z) ∨
       ∃ (j:Nat) (y:Oper) (s:Nat),l[j]? = some y∧j+1<l.length∧pS ts y T t (.tmp s)∧tR P E T s∧cs=(E.get s).v.cells):=by
  have hx:l[m]? = some x:=by have:=hr 0;simpa using this.symm
  have hm:m+1<l.length:=by simp at hlen;omega
  obtain ⟨hg,t',e1,ht512,hts,huniq⟩:=v.al m x T hx hm hop
  rw [hd] at e1
  simp only [sJ] at e1
  subst e1
  rw [D4 hop hd] at h
  obtain ⟨z,hz,hdk,h⟩:=C6 hop hg h
  rw [hd] at h
  rcases wE t (o2 :: r) with ⟨h1,h2⟩|⟨j,y,T',q,h1,h2,h3,h4⟩
  · rw [h1,List.nil_append] at h
    refine ⟨z,z,hz,hdk,h,.inl ⟨fun j y T' q hy hj hf=>?_,rfl⟩⟩
    obtain ⟨g1,_⟩:=wG v hx hop hm hd hy hj hf
    obtain ⟨d,rfl⟩:∃ d,j=m+(d+1):=⟨j - m - 1,by omega⟩
    have:=hr (d+1)
    rw [hy] at this
    exact h2 d y T' q (by simpa using this) (by simp at hlen hj ⊢;omega) hf.1
  · rw [h4] at h
    have hy:l[m+(j+1)]? = some y:=by rw [← hr (j+1)];simpa using h1
    have hj:m+(j+1)+1<l.length:=by simp at hlen h2;omega
    have hf:pS ts y T' t q:=⟨h3,hts⟩
    obtain ⟨_,rfl⟩:=wG v hx hop hm hd hy hj hf
    obtain ⟨f1,f2,s,rfl,f3,f4,_⟩:=v.fl _ y T' t q hy hj hf
    obtain ⟨fo,h⟩:=D3 h3 f1 f2 ht512 (fun e=>by subst e;rw [hts] at f3;cases f3) hz h
    exact ⟨z,_,hz,hdk,h,.inr ⟨_,y,s,hy,hj,hf,fo,rfl⟩⟩
theorem tR.put{E:Env}{t s:Nat}{e:Ent}{T:TypeId}(ht:t<512)(hst:s≠t)(h:tR P (E.putD (some t) e) T s):tR P E T s:=by
  have g:(E.putD (some t) e).get s=E.get s:=by
    show (E.put t e).get s=_
    rw [Env.get_put' E t s _ ht,iN hst]
  exact ⟨g ▸ h.cond,h.known,h.pos,g ▸ h.len⟩
theorem C7{ts masks:List Nat}{l:List Oper}{bs:List Bool}(v:yN l ts masks bs){i j:Nat}{o y:Oper}{T T':TypeId}{t s s':Nat}(ho:l[i]? = some o)(hi:i+1<l.length)(hy:l[j]? = some y)(hj:j+1<l.length)(h1:pS ts o T t (.tmp s))(h2:pS ts y T' t (.tmp s')):s=s'∧T=T':=by
  obtain ⟨_,_,_,_,_,_,_,_,hu⟩:=v.fl i o T t _ ho hi h1
  have e:j=i:=Classical.byContradiction fun e=>hu j y T' _ hy e hj h2.1
  subst e
  rw [ho] at hy
  simp only [sJ] at hy
  subst hy
  have:=h1.1.symm.trans h2.1
  simp only [Op.store.injEq,Operand.tmp.injEq,true_and] at this
  exact ⟨this.2,this.1⟩
theorem tS{ts masks:List Nat}{l:List Oper}{bs:List Bool}(v:yN l ts masks bs){ops:Array Oper}{k:Env→List OB→Prop}{kp:PV→Env→List OB→Prop}:∀ (r:List Oper) (m:Nat) (E:Env) (σ:List OB),(∀ i,r[i]? = l[m+i]?)→m+r.length=l.length →
    e7 P ops (pY r) E σ k kp →
    (∀ (i:Nat) (o:Oper) (T:TypeId),m≤i→l[i]? = some o→i+1<l.length→o.op=.alloc T→(∃ z,mG P T=some z)∧eW E o.dst) ∧
    (∀ (i:Nat) (o:Oper) (T:TypeId) (t s i0:Nat) (y0:Oper),l[i]? = some o→i+1<l.length→pS ts o T t (.tmp s)→l[i0]? = some y0→m≤i0→i0+1<l.length→y0.dst=some t→y0.op=.alloc T→tR P E T s)
  |[],m,E,σ,hr,hlen,h=>⟨fun i o T h1 h2 h3=>by simp at hlen;omega,fun i o T t s i0 y0 _ _ _ _ h1 h2=>by simp at hlen;omega⟩
  |[q],m,E,σ,hr,hlen,h=>⟨fun i o T h1 h2 h3=>by simp at hlen;omega,fun i o T t s i0 y0 _ _ _ _ h1 h2=>by simp at hlen;omega⟩
  |x :: o2 :: r,m,E,σ,hr,hlen,h=>by
    have hx:l[m]? = some x:=by have:=hr 0;simpa using this.symm
    have hr':∀ i,(o2 :: r)[i]? = l[m+1+i]? := fun i=>by have:=hr (i+1);rw [show m+(i+1)=m+1+i by omega] at this;simpa using this
    have hlen':m+1+(o2 :: r).length=l.length:=by simp at hlen ⊢;omega
    have hm:m+1<l.length:=by simp at hlen;omega
    by_cases ha:∀ T,x.op≠.alloc T
    · rw [wF ha] at h
      obtain ⟨k1,k2⟩:=tS v (o2 :: r) (m+1) E σ hr' hlen' h
      refine ⟨fun i o T h1 h2 h3 h4=>?_,fun i o T t s i0 y0 h1 h2 h3 h4 h5 h6 h7 h8=>?_⟩
      · have:i≠m:=fun e=>by subst e;rw [hx] at h2;simp only [sJ] at h2;subst h2;exact ha T h4
        exact k1 i o T (by omega) h2 h3 h4
      · have:i0≠m:=fun e=>by subst e;rw [hx] at h4;simp only [sJ] at h4;subst h4;exact ha T h8
        exact k2 i o T t s i0 y0 h1 h2 h3 h4 (by omega) h6 h7 h8
    · obtain ⟨T0,ha⟩:∃ T,x.op=.alloc T:=Classical.byContradiction fun h=>ha fun T e=>h ⟨T,e⟩
      obtain ⟨_,t0,hd,ht512,hts,_⟩:=v.al m x T0 hx hm ha
      obtain ⟨z,cs,hz,hdk,h',hcs⟩:=AO v hr hlen ha hd h
      obtain ⟨k1,k2⟩:=tS v (o2 :: r) (m+1) _ _ hr' hlen' h'
      refine ⟨fun i o T h1 h2 h3 h4=>?_,fun i o T t s i0 y0 h1 h2 h3 h4 h5 h6 h7 h8=>?_⟩
      · by_cases e:i=m
        · subst e;rw [hx] at h2;simp only [sJ] at h2;subst h2
          rw [ha] at h4;simp only [Op.alloc.injEq] at h4;subst h4
          exact ⟨⟨z,hz⟩,hdk⟩
        · obtain ⟨g1,g2⟩:=k1 i o T (by omega) h2 h3 h4
          exact ⟨g1,w8 (DQ E (some t0) _) g2⟩
      · by_cases e:i0=m
        · subst e;rw [hx] at h4;simp only [sJ] at h4;subst h4
          rw [hd] at h7;simp only [sJ] at h7;subst h7
          rcases hcs with ⟨g,_⟩|⟨j,y,s',g1,g2,g3,g4,_⟩
          · exact (g i o T _ h1 h2 h3).elim
          · obtain ⟨e1,e2⟩:=C7 v h1 h2 g1 g2 h3 g3
            subst e1;subst e2;exact g4
        · obtain ⟨_,_,s',e',hs',_⟩:=v.fl i o T t _ h1 h2 h3
          simp only [Operand.tmp.injEq] at e'
          subst e'
          exact (k2 i o T t s i0 y0 h1 h2 h3 h4 (by omega) h6 h7 h8).put ht512 fun e=>by subst e;rw [hts] at hs';cases hs'
def Gv(P:Program)(ts:List Nat)(l:List Oper)(a:Act)(T:TypeId)(t:Nat)(x:Obj):Prop :=
  ((∀ (j:Nat) (y:Oper) (T':TypeId) (q:Operand),l[j]? = some y→j+1<l.length→¬ pS ts y T' t q)→∃ inf u,P.info? T=some inf∧inf.zero=some u∧x=.cells u.cells T) ∧
  ∀ (j:Nat) (y:Oper) (T':TypeId) (s:Nat),l[j]? = some y→j+1<l.length→pS ts y T' t (.tmp s)→∃ c,x=.cells c T∧c.toList=(a.tmps.getD s undef).cells.toList
theorem Gw{ts masks:List Nat}{l:List Oper}{bs:List Bool}(v:yN l ts masks bs){ops:Array Oper}{pb:Nat→Nat}{kp:PV→Env→List OB→Prop}{k:Env→List OB→Prop}{a:Act}{w:World}
    (hdist:∀ (i j:Nat) (o o':Oper) (T T':TypeId),l[i]? = some o→l[j]? = some o'→i+1<l.length→j+1<l.length→o.op=.alloc T→o'.op=.alloc T'→pb i=pb j→i=j) :
    ∀ (r:List Oper) (m:Nat) (G:Gh) (E:Env) (σ:List OB),(∀ i,r[i]? = l[m+i]?)→m+r.length=l.length→Sim G E σ a w →
    (∀ (i:Nat) (o:Oper) (T:TypeId) (t:Nat),m≤i→l[i]? = some o→i+1<l.length→o.op=.alloc T→o.dst=some t→a.tmps.getD t undef=.pointer (some ⟨pb i,0,none⟩)∧G.F (pb i)=none∧G.H (pb i)=none ∧
      (∀ (b:Nat) (og:OG),G.own[b]? = some (some og)→og.has=true→og.blk≠pb i)∧∃ x,w.heap[pb i]? = some x∧Gv P ts l a T t x) →
    e7 P ops (pY r) E σ k kp→∀ q,r.getLast? = some q→∃ G' E' σ',Gle G G'∧Sim G' E' σ' a w∧e7 P ops [q] E' σ' k kp
  |[],m,G,E,σ,hr,hlen,hs,hf,h,q,hq=>by simp at hq
  |[x],m,G,E,σ,hr,hlen,hs,hf,h,q,hq=>by simp at hq;subst hq;exact ⟨G,E,σ,Gle.refl G,hs,h⟩
  |x :: o2 :: r,m,G,E,σ,hr,hlen,hs,hf,h,q,hq=>by
    have hq':(o2 :: r).getLast? = some q:=by simpa [List.getLast?_cons_cons] using hq
    have hx:l[m]? = some x:=by have:=hr 0;simpa using this.symm
    have hr':∀ i,(o2 :: r)[i]? = l[m+1+i]? := fun i=>by have:=hr (i+1);rw [show m+(i+1)=m+1+i by omega] at this;simpa using this
    have hlen':m+1+(o2 :: r).length=l.length:=by simp at hlen ⊢;omega
    have hm:m+1<l.length:=by simp at hlen;omega
    by_cases ha:∀ T,x.op≠.alloc T
    · rw [wF ha] at h
      exact Gw v hdist (o2 :: r) (m+1) G E σ hr' hlen' hs (fun i o T t h1=>hf i o T t (by omega)) h q hq'
    · obtain ⟨T0,ha⟩:∃ T,x.op=.alloc T:=Classical.byContradiction fun h=>ha fun T e=>h ⟨T,e⟩
      obtain ⟨_,t,hd,ht512,hts,_⟩:=v.al m x T0 hx hm ha
      obtain ⟨z,cs,hz,hdk,hrun,hcs⟩:=AO v hr hlen ha hd h
      obtain ⟨g1,g2,g3,g4,ob,g5,g6,g7⟩:=hf m x T0 t (Nat.le_refl _) hx hm ha hd
      obtain ⟨inf',u',k1,k2,_,_,_,k5⟩:=jM G hz
      have hobj:∃ c,ob=.cells c T0∧aW (Rep G) cs c.toList:=by
        rcases hcs with ⟨n1,rfl⟩|⟨j,y,s,n1,n2,n3,n4,rfl⟩
        · obtain ⟨inf,u,e1,e2,rfl⟩:=g6 n1
          rw [e1] at k1;simp only [sJ] at k1;subst k1
          rw [e2] at k2;simp only [sJ] at k2;subst k2
          exact ⟨_,rfl,aW.mono (fun _ _ hr=>br.rep hr) k5⟩
        · obtain ⟨c,rfl,e⟩:=g7 j y T0 s n1 n2 n3
          refine ⟨c,rfl,?_⟩
          rw [e]
          exact oU (hs.slot s n4.cond) (by rw [n4.len];exact n4.pos)
      obtain ⟨c,rfl,hrep⟩:=hobj
      have hinv:=hs.inv.gain (cs:=cs) g5 g3 g2 g4 hrep
      have hle:bG G.own (G.own++[some (⟨pb m,0,0,0,true,0⟩:OG)]):=bG.append _ _
      have hsim:Sim { G with own:=G.own++[some ⟨pb m,0,0,0,true,0⟩] } (E.putD (some t) ⟨true,.c (.optr σ.length 0)⟩) (σ++[.box cs]) a w:=by
        refine ⟨hinv,hs.defers,hs.size,hs.na,fun i hc=>?_⟩
        have hg:=Env.get_put E t i _ hc
        show bg _ ((E.put t _).get i).v _
        rw [hg]
        by_cases ei:i=t
        · rw [iP ei,ei,g1]
          refine ⟨rfl,some ⟨pb m,0,0,0,true,0⟩,?_,fun og e _=>by simp only [sJ] at e;subst e;rfl⟩
          show (G.own++_)[σ.length]? = _
          rw [← hs.inv.len];simp
        · rw [iN ei]
          have hc':(E.get i).cond=true:=by
            have:((E.put t ⟨true,.c (.optr σ.length 0)⟩).get i).cond=true:=hc
            rw [hg,iN ei] at this;exact this
          exact bg.mono (G:=G) (G':={ G with own:=G.own++[some ⟨pb m,0,0,0,true,0⟩] }) (fun _ _ h=>h) hle (hs.slot i hc')
      obtain ⟨G',E',σ',q1,q2,q3⟩:=Gw v hdist (o2 :: r) (m+1) _ _ _ hr' hlen' hsim (fun i o T t' h1 h2 h3 h4 h5=>by
        obtain ⟨f1,f2,f3,f4,f5⟩:=hf i o T t' (by omega) h2 h3 h4 h5
        refine ⟨f1,f2,f3,fun b og hb hh=>?_,f5⟩
        rcases Nat.lt_or_ge b G.own.length with hb'|hb'
        · rw [List.getElem?_append_left hb'] at hb;exact f4 b og hb hh
        · rw [List.getElem?_append_right hb'] at hb
          rcases Nat.eq_zero_or_pos (b - G.own.length) with e0|e0
          · rw [e0] at hb
            simp only [List.getElem?_cons_zero,sJ] at hb
            subst hb
            intro e1
            have:=hdist m i x o T0 T hx h2 hm h3 ha h4 e1
            omega
          · rw [List.getElem?_eq_none (by simp;omega)] at hb;cases hb) hrun q hq'
      have hGle:Gle G { G with own:=G.own++[some ⟨pb m,0,0,0,true,0⟩] }:=⟨⟨fun _ _ h=>h,rfl,rfl,rfl⟩,oV.of_le hle⟩
      exact ⟨G',E',σ',hGle.trans q1,q2,q3⟩
theorem BH{ts:List Nat}{l:List Oper}{i:Nat}{q:Oper}{K:Act→World→Prop}{a:Act}{w:World}(ho:(ii ts l)[i]? = some (ox q))(hg:q.guard=none)(h:wpOp P (ii ts l).toArray (fun _ _ _=>False) i K a w):K a w:=by
  unfold wpOp at h
  simp only [List.getElem?_toArray,ho] at h
  rw [iP (by unfold Region.wanted;simp [ox,hg])] at h
  rcases h with h|⟨_,_,_,h⟩
  · unfold Oper.wp at h
    have:(execOp a.eval (ox q)).run P w=.ok (.value (.bool true)) w:=by simp [execOp,ox,Act.eval]
    rw [this] at h
    exact h
  · exact h.elim
theorem E8{id:Nat}{l:List Oper}{K:Kt}{E:Env}{σ:List OB}(hm:P.follows .mixedOrders=true)(ts masks:List Nat)(bs:List Bool)(hc:Gu l ts masks bs=true){k:Env→List OB→Prop}{kp:PV→Env→List OB→Prop}(hkn:∀ E σ,k E σ→K .normal E σ)(hkp:∀ p E σ,kp p E σ→K (.panic p) E σ)
    (h:TR P (ii ts l).toArray (ii ts l) bs (E.forget ts) σ (fun E σ=>e7 P l.toArray (pY l) E σ k kp)):W P (.region id l.toArray true) K E σ:=fun G a w hs0=>by
  have hs:=Env.forget_sim ts hs0
  unfold Gu at hc
  simp only [Bool.and_eq_true] at hc
  have c:=FD hc.1
  have v:=E7 hc.2
  have hE:∀ t,inL t ts=true→((E.forget ts).get t).cond=false:=fun t ht=>xO ts E t v.small (Aa ht)
  generalize E.forget ts=E1 at hs hE h
  obtain ⟨tr,ht,hk⟩:=h
  obtain ⟨z1,z2⟩:=tS v l 0 _ _ (fun i=>by rw [Nat.zero_add]) (by omega) hk
  have hz:∀ (i:Nat) (o:Oper) (T:TypeId),l[i]? = some o→i+1<l.length→o.op=.alloc T→(∃ z,mG P T=some z)∧eW E1 o.dst:=fun i o T h1 h2 h3=>by
    obtain ⟨q1,q2⟩:=z1 i o T (Nat.zero_le _) h1 h2 h3
    exact ⟨q1,w8 (ug (ii ts l) tr E1 (ii ts l).length).1 q2⟩
  have hfl:∀ (i:Nat) (o:Oper) (T:TypeId) (t s:Nat),l[i]? = some o→i+1<l.length→pS ts o T t (.tmp s)→tR P (cR E1 (ii ts l) tr (ii ts l).length) T s:=fun i o T t s h1 h2 h3=>by
    obtain ⟨_,_,_,_,_,_,_,⟨i0,y0,g1,g2,g3,g4,_⟩,_⟩:=v.fl i o T t _ h1 h2 h3
    exact z2 i o T t s i0 y0 h1 h2 h3 g1 (Nat.zero_le _) (by omega) g3 g4
  have hpos:=v.pos
  obtain ⟨q,hq⟩:∃ q,l[l.length - 1]? = some q:=⟨_,List.getElem?_eq_getElem (by omega)⟩
  obtain ⟨hqd,hqg⟩:=v.last _ q hq (by omega)
  have hvq:=nM ts l _ q hq
  rw [iN (by omega)] at hvq
  refine wp_region_any hm ?_
  have key:∀ (fuel:Nat) (listed:Array Bool) (a:Act) (w:World),listed.toList.count false≤fuel→listed.getD (l.length - 1) false=false→StB P ts l tr E1 σ G listed a w→wpAny P .any l.toArray (fj G K) fuel listed a w:=by
    have some_ready:∀ (listed:Array Bool) (a:Act) (w:World),listed.getD (l.length - 1) false=false→StB P ts l tr E1 σ G listed a w→Region.ready .any l.toArray listed≠[]:=by
      intro listed a w h1 ⟨G1,_,hS⟩ hr
      have hr':Region.ready .any (ii ts l).toArray listed=[]:=by
        rw [List.eq_nil_iff_forall_not_mem] at hr ⊢
        exact fun i hi=>hr i (AM hi)
      have:=CM c hS.1 hr' (l.length - 1) (by rw [pK];omega)
      rw [h1] at this;cases this
    intro fuel
    induction fuel with
    |zero =>
      intro listed a w hf hl hJ
      exfalso
      have hsz:listed.size=l.length:=by obtain ⟨_,_,hS⟩:=hJ;rw [hS.1,pK]
      have:listed.toList[l.length - 1]? = some false:=by
        rw [Array.getD_eq_getD_getElem?,Array.getElem?_eq_getElem (by omega)] at hl
        rw [Array.getElem?_toList,Array.getElem?_eq_getElem (by omega)]
        simpa using hl
      have hpos:=List.count_pos_iff.2 (List.mem_of_getElem? this)
      omega
    |succ fuel ih =>
      intro listed a w hf hl hJ
      refine ⟨fun hr=>(some_ready listed a w hl hJ hr).elim,fun i hi=>?_⟩
      have hsz:listed.size=l.length:=by obtain ⟨_,_,hS⟩:=hJ;rw [hS.1,pK]
      obtain ⟨hi0,hil,o,ho,hr⟩:=m6 hsz hi
      have hset:∀ j,(listed.setIfInBounds i true).getD j false=if j=i then true else listed.getD j false:=fun j=>yD _ _ _ (by omega)
      by_cases hlt:i+1<l.length
      · refine wpOp_mono (fun a' w' hJ'=>ih _ a' w' ?_ ?_ hJ') (StB.step c v ht hE hz hfl G listed a w i hJ hi hlt)
        · have:listed.toList[i]? = some false:=by
            rw [Array.getD_eq_getD_getElem?,Array.getElem?_eq_getElem (by omega)] at hi0
            rw [Array.getElem?_toList,Array.getElem?_eq_getElem (by omega)]
            simpa using hi0
          have hc:=qj _ _ this
          simp only [Array.toList_setIfInBounds]
          omega
        · rw [hset,iN (by omega)];exact hl
      · have hie:i=l.length - 1:=by omega
        subst hie
        rw [hq] at ho
        simp only [sJ] at ho
        subst ho
        obtain ⟨G1,⟨p1,p2,p3,p4,p5,pb,p6,p7⟩,hS⟩:=hJ
        have hdone:∀ (j:Nat),j<l.length - 1→listed.getD j false=true:=by
          intro j hj
          have hy:=nM ts l j l[j] (List.getElem?_eq_getElem (by omega))
          have:=c.done hS.2.1 hvq hl (fun k hk=>by
            have:ep (ox q)=ep q:=rfl
            rw [this] at hk;exact hr k hk) hy (.inl (c.bar (l.length - 1) j _ _ hvq hy v.bar))
          rw [this];simp;omega
        have hst:=BH hvq hqg (StJ.step (Q:=fun _ _ _=>False) c ht G1 listed a w (l.length - 1) hS (xW hi))
        have hall:∀ j,j<l.length→(listed.setIfInBounds (l.length - 1) true).getD j false=true:=by
          intro j hj
          rw [hset]
          by_cases e:j=l.length - 1
          · rw [iP e]
          · rw [iN e];exact hdone j (by omega)
        obtain ⟨G2,hG2,hsim⟩:=(Dy (Q:=fun _ a' w'=>∃ G2,Gle G1 G2∧Sim G2 (cR E1 (ii ts l) tr (ii ts l).length) (bh σ tr (ii ts l).length) a' w') c ht G1 (fun G2 a' w' h1 h2=>⟨G2,h1,h2⟩) 0 (listed.setIfInBounds (l.length - 1) true) a w (by
          refine Nat.le_of_eq (List.count_eq_zero.2 fun hm=>?_)
          obtain ⟨j,hj,he⟩:=List.getElem_of_mem hm
          have hj':j<l.length:=by simpa [hsz] using hj
          have:=hall j hj'
          rw [Array.getD_eq_getD_getElem?,Array.getElem?_eq_getElem (by simpa [hsz] using hj')] at this
          rw [Array.getElem_toList] at he
          simp only [Option.getD_some] at this
          rw [he] at this;cases this) hst).2
        have hF2:G2.F=G1.F:=hG2.le.F
        have hsim':Sim { G2 with F:=G.F } (cR E1 (ii ts l) tr (ii ts l).length) (bh σ tr (ii ts l).length) a w :=
          ⟨hsim.inv.less G.F (fun b x hb=>by rw [hF2];exact p5 b x hb),hsim.defers,hsim.size,hsim.na,fun i hc=>bg.mono (G:=G2) (G':={ G2 with F:=G.F }) (fun _ _ h=>h) (bG.refl _) (hsim.slot i hc)⟩
        obtain ⟨G3,E3,σ3,r1,r2,r3⟩:=Gw v (pb:=pb) (fun j k y y' T T' h1 h2 h3 h4 h5 h6 h7=>p6 j k y y' T T' h1 h2 h3 h4 h5 h6 (hdone j (by omega)) (hdone k (by omega)) h7) l 0 _ _ _ (fun i=>by rw [Nat.zero_add]) (by omega) hsim' (fun j y T t _ h1 h2 h3 e2=>by
          obtain ⟨f1,f2,x,f5,f6,f7⟩:=p7 j y T t h1 h2 h3 e2 (hdone j (by omega))
          rw [← hF2] at f5
          refine ⟨f1,f2,hsim.inv.HF _ _ f5,fun b og hb hh he=>?_,x,hsim.inv.hF _ _ f5,fun h=>f6 fun k z T' q hz hk hf=>(h k z T' q hz hk hf).elim,fun k z T' s hz hk hf=>f7 k z T' s hz hk hf (hdone k (by omega))⟩
          have:=(hsim.inv.sep b og hb hh).2
          rw [he,f5] at this;cases this) hk q (by rw [List.getLast?_eq_getElem?];exact hq)
        have hGle:Gle G { G2 with F:=G.F }:=by
          refine ⟨⟨fun b x hb=>hG2.le.H b x (by rw [p1];exact hb),rfl,hG2.le.w0.trans p3,hG2.le.na.trans p4⟩,?_⟩
          have:=hG2.own
          rw [p2,p4] at this
          exact this
        have hw:=mm [q] E3 σ3 _ _ r3 G3 a w r2
        have hw':wpList P l.toArray (fj G K) [q] a w:=fC (fun e a' w' hp=>fj.back (hGle.trans r1) (fj.mono (fun x E σ hx=>by
          cases x with
          |normal=>exact hkn E σ hx
          |exit id=>exact hx.elim
          |ret=>exact hx.elim
          |panic p=>exact hkp p E σ hx) hp)) _ _ _ hw
        have hnil:Region.ready .any l.toArray (listed.setIfInBounds (l.length - 1) true)=[]:=by
          rw [List.eq_nil_iff_forall_not_mem]
          intro j hj
          obtain ⟨g1,g2,_⟩:=m6 (by simpa using hsz) hj
          rw [hall j g2] at g1;cases g1
        have hop:wpOp P l.toArray (fj G K) (l.length - 1) (fun a' w'=>fj G K .normal a' w') a w:=by
          unfold wpOp
          simp only [List.getElem?_toArray,hq]
          unfold wpList at hw'
          exact hw'
        exact wpOp_mono (fun a' w' hn=>yZ hnil fuel a' w' hn) hop
  refine key _ _ a _ (Nat.le_refl _) ?_ ?_ |> fun h=>by
    have e:(Array.replicate l.toArray.size false).toList.count false=l.toArray.size:=by simp
    rw [e] at h;exact h
  · rw [Array.getD_eq_getD_getElem?,Array.getElem?_replicate];split<;>rfl
  · have hfalse:∀ i,(Array.replicate l.toArray.size false).getD i false=false:=by
      intro i
      rw [Array.getD_eq_getD_getElem?,Array.getElem?_replicate]
      split<;>rfl
    refine ⟨G,⟨rfl,rfl,rfl,rfl,fun _ _ h=>h,fun _=>0,(fun i j o o' T T' _ _ _ _ _ _ h _ _=>by rw [hfalse] at h;cases h),(fun i o T t _ _ _ _ h=>by rw [hfalse] at h;cases h)⟩,?_⟩
    refine ⟨by simp [pK],(fun i o ho hd=>by simp only [hfalse] at hd;cases hd),G,0,Gle.refl G,by omega,(fun j o ho hl=>by rw [hfalse];simp),?_,hs.defers,hs.size,hs.na,fun t ht hc=>?_⟩
    · have:bh σ tr 0=σ:=by cases tr<;>rfl
      rw [this];exact hs.inv.drawn
    · have:io t (ii ts l) tr (fun i=>(Array.replicate l.toArray.size false).getD i false) (E1.get t)=E1.get t:=kq t (ii ts l) tr _ _ fun j o _ _=>hfalse j
      rw [this] at hc ⊢
      exact hs.slot t hc
theorem Cr{id:Nat}{l:List Oper}{y:Code}{K:Kt}{E:Env}{σ:List OB}(ms ts masks:List Nat)(bs:List Bool)(hm:P.follows .mixedOrders=true)(hc:Gu l ts masks bs=true)
    (h:∀ (k:Env→List OB→Prop) (kp:PV→Env→List OB→Prop),(∀ E σ,W P y K E σ→k E σ)→jL P (ii ts l).toArray (ii ts l) bs (E.forget ts) σ (fun E σ=>e7 P l.toArray (pY l) E σ (fun E σ=>k (E.forget ms) σ) kp)):W P (.seq (.region id l.toArray true) y) K E σ :=
  oL (E8 (k:=fun E σ=>W P y K (E.forget ms) σ) (kp:=fun _ _ _=>False) hm ts masks bs hc (fun _ _ h=>pA ms h) (fun _ _ _ h=>h.elim) (kN _ bs _ σ _ (h (fun E σ=>W P y K E σ) (fun _ _ _=>False) fun _ _ h=>h)))
end
end Pam
namespace Pam
open Go
section
variable {P:Program} {E:Env} {σ:List OB}
theorem zI(k:IntKind)(L:List Int)(n:Nat)(h:n<L.length):(L.map (CV.int k)).getD n .junk=.int k (L.getD n 0):=by
 simp [List.getD,h]
theorem EV{o:Oper}{T:TypeId}{x i:Operand}{ys:List CV}{k k':IntKind}{n:Int}(L:List Int)(m:Nat)(ho:o.op=.index T x i)(hx:ev E x=⟨true,.a ys⟩)(hi:ev E i=⟨true,.c (.int k' n)⟩)
  (hy:ys=L.map (CV.int k)) (hC:pt P T=true∧cx P (P.elem T)=true∧P.arrayLen T * P.cellsOf (P.elem T)≤L.length∧n7 P (P.elem T)=false∧P.cellsOf (P.elem T)=1) (hl:P.arrayLen T=m) (hm:L.length=m)
  (h0:0≤n) (h1:n<(m:Int)):oN P E σ o (.c (.int k (L.getD n.toNat 0))) σ:=.quiet fun G a w hs=>by
 subst hy
 have h:∃ C,oe P true T (ev E x) (ev E i)=.ok C (.c ((L.map (CV.int k)).getD n.toNat .junk))∧C:=by
  rw [hx,hi]
  refine ⟨_,by unfold oe;rfl,?_⟩
  exact ⟨fun _=>rfl,fun _=>rfl,hC.1,hC.2.1,by simpa using hC.2.2.1,hC.2.2.2.1,hC.2.2.2.2,fun _=>⟨h0,by rw [hl];exact h1⟩⟩
 obtain ⟨C,h,hc⟩:=h
 obtain ⟨r,e1,e2⟩:=vZ (P:=P) (G:=G) (w:=w) h hc rfl (eG hs x) (eG hs i)
 have:n.toNat<L.length:=by omega
 rw [zI k L n.toNat this] at e2
 exact ⟨r,by simp only [execOp,ho];exact oK e1,e2⟩
end
end Pam
namespace Pam
open Go
def CS(ops:Array Oper)(l:List Oper)(masks:List Nat)(bar prv:List Bool)(rd:List (List Nat)):Bool :=
  chk ops l masks bar &&
  (l.zipIdx.all fun (x,i)=>kG x || (x.looksAt ops).all (fun t=>(rd.getD i []).contains t) || l.zipIdx.all fun (_,j)=>!(prv.getD j false) || om masks i j)
def DM(P:Program)(ops:Array Oper)(pv:List Nat)(E:Env)(σ:List OB)(o:Oper)(bar prv:Bool)(rd:List Nat)(ts:TS):Prop :=
  fm ops E o.guard=some ts.γ∧eW E o.dst ∧
  ((∃ C v, cA P ts.γ E σ o.op = .ok C v ∧ C ∧ (rd.all fun t => B8 pv (E.get t).v) = true ∧ ts.e = ⟨ts.γ, v⟩ ∧ ts.σ = σ) ∨
   (ts.γ=true∧∃ C v,cA P ts.γ E σ o.op=.upd C v ts.σ∧C∧ts.e=⟨true,v⟩∧(bar=true∨Ext σ ts.σ∨(prv=true∧nq pv σ ts.σ))) ∨
   (∃ C f args r,cA P ts.γ E σ o.op=.call C f args∧(ts.γ=true→C∧a8 P f args r)∧args.all PV.noOwn=true∧(∀ n,r.ren (du n [])=r)∧ts.e=⟨ts.γ,r⟩∧ts.σ=σ) ∨
   (ts.γ=false∧ts.e=⟨true,.t []⟩∧ts.σ=σ) ∨
   (ts.γ=true∧∃ C f args p,cA P ts.γ E σ o.op=.call C f args∧C∧rm P σ f args p ts.σ∧ts.e=⟨true,p⟩∧(bar=true∨Ext σ ts.σ∨(prv=true∧nq pv σ ts.σ))) ∨
   (ts.γ=true∧kG o=true∧∃ v,(∀ E',(∀ x∈o.op.operands,ev E' x=ev E x)→∀ G a w,Sim G E' σ a w→zt P G (execOp a.eval o) w v ts.σ)∧ts.e=⟨true,v⟩∧(bar=true∨Ext σ ts.σ∨(prv=true∧nq pv σ ts.σ))))
def zB(P:Program)(ops:Array Oper)(pv:List Nat):List Oper→List Bool→List Bool→List (List Nat)→Env→List OB→List TS→Prop
  |[],_,_,_,_,_,tr=>tr=[]
  |o :: l,bs,ps,rd,E,σ,tr=>∃ ts r,tr=ts :: r∧DM P ops pv E σ o (bs.headD false) (ps.headD false) (rd.headD []) ts∧zB P ops pv l bs.tail ps.tail rd.tail (E.putD o.dst ts.e) ts.σ r
section
variable {P:Program} {ops:Array Oper} {pv:List Nat}
theorem lL.ofP:∀ {l:List Oper} {bs ps:List Bool} {rd:List (List Nat)} {E:Env} {σ:List OB} {tr:List TS},zB P ops pv l bs ps rd E σ tr→lL P ops pv l bs ps rd [] E σ tr
  |[],_,_,_,_,_,_,h=>h
  |o :: l,_,_,_,_,_,_,⟨ts,r,h1,⟨h2,h3,h4⟩,h5⟩=>⟨ts,r,h1,⟨h2,h3,.inl ⟨rfl,h4⟩⟩,lL.ofP h5⟩
theorem AF{ops:Array Oper}{l:List Oper}{masks:List Nat}{bs ps:List Bool}{rd:List (List Nat)}(h:CS ops l masks bs ps rd=true):yE ops l masks bs ps rd []=true:=by
  unfold CS chk at h
  unfold yE
  rw [show ld ([]:List Bool)=fun _ o=>kG o from by funext i o;exact xB i o]
  exact h
def TRP(P:Program)(ops:Array Oper)(pv:List Nat)(l:List Oper)(bs ps:List Bool)(rd:List (List Nat))(E:Env)(σ:List OB)(k:Env→List OB→Prop):Prop :=
  ∃ tr,zB P ops pv l bs ps rd E σ tr∧k (cR E l tr l.length) (bh σ tr l.length)
def vz(pv:List Nat):Nat→List OB→List OB→Prop
  |_,[],_=>True
  |i,a :: as_,b :: bs=>(pv.contains i=true∨a=b)∧vz pv (i+1) as_ bs
  |_,_ :: _,[]=>False
theorem xI:∀ {i:Nat} {σ σ':List OB},vz pv i σ σ'→σ.length≤σ'.length∧∀ b,b+i ∉ pv→b<σ.length→σ'[b]? = σ[b]?
  |_,[],_,_=>⟨by simp,fun b _ h=>by simp at h⟩
  |i,a :: as_,b :: bs,⟨h1,h2⟩=>by
    obtain ⟨k1,k2⟩:=xI h2
    refine ⟨by simpa using k1,fun c hc hl=>?_⟩
    cases c with
    |zero =>
      rcases h1 with h|h
      · simp at hc;simp at h;exact (hc h).elim
      · simp [h]
    |succ c=>simpa using k2 c (by simpa [Nat.add_assoc,Nat.add_comm 1] using hc) (by simpa using hl)
def qw(P:Program)(ops:Array Oper)(pv:List Nat)(γ:Bool)(C:Prop)(f:FuncId)(args:List PV)(o:Oper)(r:List Oper)(bs ps:List Bool)(rd:List (List Nat))(E:Env)(σ:List OB)(k:Env→List OB→Prop):Prop :=
  cA P γ E σ o.op=.call C f args→fm ops E o.guard=some γ→TRP P ops pv (o :: r) bs ps rd E σ k
def v6(P:Program)(ops:Array Oper)(pv:List Nat)(γ:Bool)(o:Oper)(r:List Oper)(bs ps:List Bool)(rd:List (List Nat))(E:Env)(σ:List OB)(k run:Env→List OB→Prop):R→Prop
  |.ok C v=>eW E o.dst∧C∧((rd.headD []).all fun t=>B8 pv (E.get t).v)=true∧run (E.putD o.dst ⟨γ,v⟩) σ
  |.upd C v σ'=>eW E o.dst∧γ=true∧C∧(bs.headD false=true∨uS σ σ'∨(ps.headD false=true∧vz pv 0 σ σ'))∧run (E.putD o.dst ⟨true,v⟩) σ'
  |.call C f args=>qw P ops pv γ C f args o r bs ps rd E σ k
  |.bad=>False
def jH(P:Program)(ops:Array Oper)(pv:List Nat):List Oper→List Bool→List Bool→List (List Nat)→Env→List OB→(Env→List OB→Prop)→Prop
  |[],_,_,_,E,σ,k=>k E σ
  |o :: r,bs,ps,rd,E,σ,k =>
    match fm ops E o.guard with
    |none=>False
    |some false=>eW E o.dst∧jH P ops pv r bs.tail ps.tail rd.tail (E.putD o.dst ⟨true,.t []⟩) σ k
    |some true=>v6 P ops pv true o r bs ps rd E σ k (fun E' σ'=>jH P ops pv r bs.tail ps.tail rd.tail E' σ' k) (cA P true E σ o.op)
theorem TRP.cons{o:Oper}{r:List Oper}{bs ps:List Bool}{rd:List (List Nat)}{E:Env}{σ:List OB}{k:Env→List OB→Prop}{ts:TS}(h:DM P ops pv E σ o (bs.headD false) (ps.headD false) (rd.headD []) ts)(ht:TRP P ops pv r bs.tail ps.tail rd.tail (E.putD o.dst ts.e) ts.σ k):TRP P ops pv (o :: r) bs ps rd E σ k:=by
  obtain ⟨tr,h1,h2⟩:=ht
  refine ⟨ts :: tr,⟨ts,tr,rfl,h,h1⟩,?_⟩
  simpa [cR,bh] using h2
theorem kt:∀ (l:List Oper) (bs ps:List Bool) (rd:List (List Nat)) (E:Env) (σ:List OB) (k:Env→List OB→Prop),jH P ops pv l bs ps rd E σ k→TRP P ops pv l bs ps rd E σ k
  |[],bs,ps,rd,E,σ,k,h=>⟨[],rfl,by unfold jH at h;simpa [cR,bh] using h⟩
  |o :: r,bs,ps,rd,E,σ,k,h=>by
    unfold jH at h
    split at h
    · exact h.elim
    · rename_i hγ
      exact TRP.cons (ts:=⟨false,⟨true,.t []⟩,σ⟩) ⟨hγ,h.1,.inr (.inr (.inr (.inl ⟨rfl,rfl,rfl⟩)))⟩ (kt r _ _ _ _ _ _ h.2)
    · rename_i hγ
      unfold v6 at h
      split at h
      · rename_i C v hrun
        obtain ⟨hd,hC,hrd,hr⟩:=h
        exact TRP.cons (ts:=⟨true,⟨true,v⟩,σ⟩) ⟨hγ,hd,.inl ⟨C,v,hrun,hC,hrd,rfl,rfl⟩⟩ (kt r _ _ _ _ _ _ hr)
      · rename_i C v σ' hrun
        obtain ⟨hd,hg,hC,hb,hr⟩:=h
        refine TRP.cons (ts:=⟨true,⟨true,v⟩,σ'⟩) ⟨hγ,hd,.inr (.inl ⟨rfl,C,v,hrun,hC,rfl,?_⟩)⟩ (kt r _ _ _ _ _ _ hr)
        rcases hb with h|h|⟨h,h'⟩
        · exact .inl h
        · exact .inr (.inl (w6 h))
        · exact .inr (.inr ⟨h,by have:=xI h';exact ⟨this.1,fun b hb hl=>this.2 b hb hl⟩⟩)
      · rename_i C f args hrun
        exact h hrun hγ
      · exact h.elim
theorem yG{γ:Bool}{C:Prop}{f:FuncId}{args:List PV}{o:Oper}{r:List Oper}{bs ps:List Bool}{rd:List (List Nat)}{E:Env}{σ:List OB}{k:Env→List OB→Prop}{res:PV}
    (hs:γ=true→a8 P f args res) (hd:eW E o.dst) (hC:γ=true→C) (hargs:args.all PV.noOwn=true) (hres:∀ n,res.ren (du n [])=res)
    (next:jH P ops pv r bs.tail ps.tail rd.tail (E.putD o.dst ⟨γ,res⟩) σ k):qw P ops pv γ C f args o r bs ps rd E σ k:=fun hrun hγ =>
  TRP.cons (ts:=⟨γ,⟨γ,res⟩,σ⟩) ⟨hγ,hd,.inr (.inr (.inl ⟨C,f,args,res,hrun,fun h=>⟨hC h,hs h⟩,hargs,hres,rfl,rfl⟩))⟩ (kt r _ _ _ _ _ _ next)
theorem qY{C:Prop}{f:FuncId}{args:List PV}{o:Oper}{r:List Oper}{bs ps:List Bool}{rd:List (List Nat)}{E:Env}{σ σ2:List OB}{k:Env→List OB→Prop}{res:PV}
    (hs:rm P σ f args res σ2) (hd:eW E o.dst) (hC:C) (hb:bs.headD false=true∨uS σ σ2)
    (next:jH P ops pv r bs.tail ps.tail rd.tail (E.putD o.dst ⟨true,res⟩) σ2 k):qw P ops pv true C f args o r bs ps rd E σ k:=fun hrun hγ =>
  TRP.cons (ts:=⟨true,⟨true,res⟩,σ2⟩) ⟨hγ,hd,.inr (.inr (.inr (.inr (.inl ⟨rfl,C,f,args,res,hrun,hC,hs,rfl,hb.imp id fun h=>.inl (w6 h)⟩))))⟩ (kt r _ _ _ _ _ _ next)
theorem vA{C:Prop}{f:FuncId}{args:List PV}{o:Oper}{r:List Oper}{bs ps:List Bool}{rd:List (List Nat)}{E:Env}{σ σ2:List OB}{k:Env→List OB→Prop}{res:PV}
    (hs:rm P σ f args res σ2) (hd:eW E o.dst) (hC:C) (hb:ps.headD false=true∧vz pv 0 σ σ2)
    (next:jH P ops pv r bs.tail ps.tail rd.tail (E.putD o.dst ⟨true,res⟩) σ2 k):qw P ops pv true C f args o r bs ps rd E σ k:=fun hrun hγ =>
  TRP.cons (ts:=⟨true,⟨true,res⟩,σ2⟩) ⟨hγ,hd,.inr (.inr (.inr (.inr (.inl ⟨rfl,C,f,args,res,hrun,hC,hs,rfl,.inr (.inr ⟨hb.1,by have:=xI hb.2;exact ⟨this.1,fun b h hl=>this.2 b h hl⟩⟩)⟩))))⟩ (kt r _ _ _ _ _ _ next)
theorem Ci{id:Nat}{l:List Oper}{K:Kt}{E:Env}{σ:List OB}(hm:P.follows .mixedOrders=true)(pv masks:List Nat)(bs ps:List Bool)(rd:List (List Nat))(hc:CS l.toArray l masks bs ps rd=true)
    (h:TRP P l.toArray pv l bs ps rd E σ (K .normal)):W P (.region id l.toArray true) K E σ:=by
  obtain ⟨tr,ht,hk⟩:=h
  exact zx hm pv masks bs ps rd [] (AF hc) ⟨tr,lL.ofP ht,hk⟩
theorem uX{id:Nat}{l:List Oper}{K:Kt}{E:Env}{σ:List OB}(hm:P.follows .mixedOrders=true)(pv masks:List Nat)(bs ps:List Bool)(rd:List (List Nat))(hc:CS l.toArray l masks bs ps rd=true)
    (h:∀ (k:Env→List OB→Prop),(∀ E σ,K .normal E σ→k E σ)→jH P l.toArray pv l bs ps rd E σ k):W P (.region id l.toArray true) K E σ :=
  Ci hm pv masks bs ps rd hc (kt l bs ps rd E σ _ (h (K .normal) fun _ _ h=>h))
theorem sE{id:Nat}{l:List Oper}{y:Code}{K:Kt}{E:Env}{σ:List OB}(ms:List Nat)(hm:P.follows .mixedOrders=true)(pv masks:List Nat)(bs ps:List Bool)(rd:List (List Nat))(hc:CS l.toArray l masks bs ps rd=true)
    (h:∀ (k:Env→List OB→Prop),(∀ E σ,W P y K E σ→k E σ)→jH P l.toArray pv l bs ps rd E σ (fun E σ=>k (E.forget ms) σ)):W P (.seq (.region id l.toArray true) y) K E σ :=
  oL (Ci hm pv masks bs ps rd hc (by
    obtain ⟨tr,h1,h2⟩:=kt l bs ps rd E σ _ (h (W P y K) fun _ _ h=>h)
    exact ⟨tr,h1,pA ms h2⟩))
end
def bAP:=And.intro (And.intro (And.intro @jH.eq_1 @jH.eq_2) bL) (And.intro bM (And.intro (And.intro @v6.eq_1 @v6.eq_2) (And.intro @v6.eq_3 @v6.eq_4)))
end Pam
namespace Pam
open Go
section
variable {P:Program} {ops:Array Oper}
theorem lM{l:List Oper}{bs:List Bool}{E:Env}{σ:List OB}{k:Env→List OB→Prop}(h:jL P ops l bs E σ k):TR P ops l bs E σ k:=kN l bs E σ k h
theorem Ch:∀ {l l':List Oper} {bs bs':List Bool} {E:Env} {σ:List OB} {k:Env→List OB→Prop},bs.length=l.length→TR P ops l bs E σ (fun E' σ'=>TR P ops l' bs' E' σ' k)→TR P ops (l++l') (bs++bs') E σ k
 |[],l',bs,bs',E,σ,k,hl,⟨tr,h1,h2⟩=>by
  have:bs=[]:=List.eq_nil_of_length_eq_zero (by simpa using hl)
  subst this
  simp only [tu] at h1
  subst h1
  simpa [cR,bh] using h2
 |o :: l,l',bs,bs',E,σ,k,hl,⟨tr,h1,h2⟩=>by
  obtain ⟨ts,r,rfl,h3,h4⟩:=h1
  match bs,hl with
  |b :: bs,hl =>
   refine TR.cons (bs:=b :: bs++bs') (ts:=ts) ?_ ?_
   ·simpa using h3
   ·exact Ch (by simpa using hl) ⟨r,h4,by simpa [cR,bh] using h2⟩
theorem tD(n:Nat){l:List Oper}{bs:List Bool}{E:Env}{σ:List OB}{k:Env→List OB→Prop}(hn:bs.length=l.length)(h:jL P ops (l.take n) (bs.take n) E σ (fun E' σ'=>TR P ops (l.drop n) (bs.drop n) E' σ' k)):TR P ops l bs E σ k:=by
 have:=Ch (by simp [hn]) (kN _ _ _ _ _ h)
 rwa [List.take_append_drop,List.take_append_drop] at this
theorem yF{γ:Bool}{C:Prop}{f:FuncId}{args:List PV}{o:Oper}{r:List Oper}{bs:List Bool}{E:Env}{σ:List OB}{k:Env→List OB→Prop}{res:PV}
  (hs:γ=true→a8 P f args res) (hd:eW E o.dst) (hC:γ=true→C) (hargs:args.all PV.noOwn=true) (hres:∀ n,res.ren (du n [])=res)
  (next:TR P ops r bs.tail (E.putD o.dst ⟨γ,res⟩) σ k):vx P ops γ C f args o r bs E σ k:=fun hrun hγ =>
 TR.cons (ts:=⟨γ,⟨γ,res⟩,σ⟩) ⟨hγ,hd,.inr (.inr (.inl ⟨C,f,args,res,hrun,fun h=>⟨hC h,hs h⟩,hargs,hres,rfl,rfl⟩))⟩ next
theorem EQ{id:Nat}{l:List Oper}{K:Kt}{E:Env}{σ:List OB}(hm:P.follows .mixedOrders=true)(masks:List Nat)(bs:List Bool)(hc:chk l.toArray l masks bs=true)
  (h:∀ (k:Env→List OB→Prop),(∀ E σ,K .normal E σ→k E σ)→TR P l.toArray l bs E σ k):W P (.region id l.toArray true) K E σ :=
 zy hm masks bs hc (h (K .normal) fun _ _ h=>h)
theorem ER{id:Nat}{l:List Oper}{y:Code}{K:Kt}{E:Env}{σ:List OB}(ms:List Nat)(hm:P.follows .mixedOrders=true)(masks:List Nat)(bs:List Bool)(hc:chk l.toArray l masks bs=true)
  (h:∀ (k:Env→List OB→Prop),(∀ E σ,W P y K E σ→k E σ)→TR P l.toArray l bs E σ (fun E σ=>k (E.forget ms) σ)):W P (.seq (.region id l.toArray true) y) K E σ :=
 oL (zy hm masks bs hc (by
  obtain ⟨tr,h1,h2⟩:=h (W P y K) fun _ _ h=>h
  exact ⟨tr,h1,pA ms h2⟩))
end
end Pam
namespace Pam
open Go
section
variable {P:Program} {ops:Array Oper}
variable {pv:List Nat}
end
end Pam
namespace Pam
open Go
section
variable {P:Program} {ops:Array Oper} {pv:List Nat}
theorem TRQ.cons{o:Oper}{r:List Oper}{bs ps:List Bool}{rd:List (List Nat)}{lt:List Bool}{E:Env}{σ:List OB}{k:Env→List OB→Prop}{ts:TS}(h:Br P ops pv E σ o (bs.headD false) (ps.headD false) (rd.headD []) (lt.headD false) ts)(ht:TRQ P ops pv r bs.tail ps.tail rd.tail lt.tail (E.putD o.dst ts.e) ts.σ k):TRQ P ops pv (o :: r) bs ps rd lt E σ k:=by
 obtain ⟨tr,h1,h2⟩:=ht
 refine ⟨ts :: tr,⟨ts,tr,rfl,h,h1⟩,?_⟩
 simpa [cR,bh] using h2
theorem DN:∀ {l:List Oper} {bs ps:List Bool} {rd:List (List Nat)} {lt:List Bool} {E:Env} {σ:List OB} {k:Env→List OB→Prop},lt.any id=false→TRP P ops pv l bs ps rd E σ k→TRQ P ops pv l bs ps rd lt E σ k
 |[],_,_,_,_,_,_,_,_,⟨tr,h1,h2⟩=>by
  simp only [zB] at h1
  subst h1
  exact ⟨[],rfl,h2⟩
 |o :: l,bs,ps,rd,lt,E,σ,k,hl,⟨tr,h1,h2⟩=>by
  obtain ⟨ts,r,rfl,h3,h4⟩:=h1
  have hh:lt.headD false=false∧lt.tail.any id=false:=by
   cases lt with
   |nil=>exact ⟨rfl,rfl⟩
   |cons a lt=>simpa using hl
  exact TRQ.cons (ts:=ts) ⟨h3.1,h3.2.1,.inl ⟨hh.1,h3.2.2⟩⟩ (DN hh.2 ⟨r,h4,by simpa [cR,bh] using h2⟩)
theorem w7{l:List Oper}{bs ps:List Bool}{rd:List (List Nat)}{lt:List Bool}{E:Env}{σ:List OB}{k:Env→List OB→Prop}(hl:lt.any id=false)(h:jH P ops pv l bs ps rd E σ k):TRQ P ops pv l bs ps rd lt E σ k:=DN hl (kt l bs ps rd E σ k h)
theorem AG:∀ {l l':List Oper} {bs bs' ps ps' lt lt':List Bool} {rd rd':List (List Nat)} {E:Env} {σ:List OB} {k:Env→List OB→Prop},bs.length=l.length→ps.length=l.length→rd.length=l.length→lt.length=l.length →
  TRQ P ops pv l bs ps rd lt E σ (fun E' σ'=>TRQ P ops pv l' bs' ps' rd' lt' E' σ' k)→TRQ P ops pv (l++l') (bs++bs') (ps++ps') (rd++rd') (lt++lt') E σ k
 |[],l',bs,bs',ps,ps',lt,lt',rd,rd',E,σ,k,hl,hl2,hl3,hl4,⟨tr,h1,h2⟩=>by
  have e1:bs=[]:=List.eq_nil_of_length_eq_zero (by simpa using hl)
  have e2:ps=[]:=List.eq_nil_of_length_eq_zero (by simpa using hl2)
  have e3:rd=[]:=List.eq_nil_of_length_eq_zero (by simpa using hl3)
  have e4:lt=[]:=List.eq_nil_of_length_eq_zero (by simpa using hl4)
  subst e1;subst e2;subst e3;subst e4
  simp only [lL] at h1
  subst h1
  simpa [cR,bh] using h2
 |o :: l,l',bs,bs',ps,ps',lt,lt',rd,rd',E,σ,k,hl,hl2,hl3,hl4,⟨tr,h1,h2⟩=>by
  obtain ⟨ts,r,rfl,h3,h4⟩:=h1
  match bs,hl,ps,hl2,rd,hl3,lt,hl4 with
  |b :: bs,hl,p :: ps,hl2,q :: rd,hl3,t :: lt,hl4 =>
   refine TRQ.cons (bs:=b :: bs++bs') (ps:=p :: ps++ps') (rd:=q :: rd++rd') (lt:=t :: lt++lt') (ts:=ts) ?_ ?_
   ·simpa using h3
   ·exact AG (by simpa using hl) (by simpa using hl2) (by simpa using hl3) (by simpa using hl4) ⟨r,h4,by simpa [cR,bh] using h2⟩
theorem Cj(n:Nat){l:List Oper}{bs ps lt:List Bool}{rd:List (List Nat)}{E:Env}{σ:List OB}{k:Env→List OB→Prop}(hn:bs.length=l.length)(hn2:ps.length=l.length)(hn3:rd.length=l.length)(hn4:lt.length=l.length)(hl:(lt.take n).any id=false)
  (h:jH P ops pv (l.take n) (bs.take n) (ps.take n) (rd.take n) E σ (fun E' σ'=>TRQ P ops pv (l.drop n) (bs.drop n) (ps.drop n) (rd.drop n) (lt.drop n) E' σ' k)):TRQ P ops pv l bs ps rd lt E σ k:=by
 have:=AG (by simp [hn]) (by simp [hn2]) (by simp [hn3]) (by simp [hn4]) (w7 hl h)
 rwa [List.take_append_drop,List.take_append_drop,List.take_append_drop,List.take_append_drop,List.take_append_drop] at this
theorem zE{o:Oper}{l:List Oper}{bs ps lt:List Bool}{rd:List (List Nat)}{E:Env}{σ:List OB}{k:Env→List OB→Prop}{v:PV}
  (hx:∀ E',(∀ x∈o.op.operands,ev E' x=ev E x)→∀ σ',oN P E' σ' o v σ') (hg:fm ops E o.guard=some true) (hd:eW E o.dst)
  (next:TRQ P ops pv l bs.tail ps.tail rd.tail lt.tail (E.putD o.dst ⟨true,v⟩) σ k):TRQ P ops pv (o :: l) bs ps rd lt E σ k :=
 TRQ.cons (ts:=⟨true,⟨true,v⟩,σ⟩) ⟨hg,hd,.inr (.inl ⟨rfl,⟨v,fun E' h σ' G a w hs=>hx E' h σ' G a w hs,rfl⟩,rfl⟩)⟩ next
theorem nq.set{pv:List Nat}{σ:List OB}{b:Nat}{ob:OB}(h:pv.contains b=true):nq pv σ (σ.set b ob) :=
 ⟨by simp, fun c hc _ => by
  have:b≠c:=fun e=>by subst e;exact hc (by simpa using h)
  rw [List.getElem?_set_ne this]⟩
theorem zG{id:Nat}{l:List Oper}{y:Code}{K:Kt}{E:Env}{σ:List OB}(ms:List Nat)(hm:P.follows .mixedOrders=true)(pv masks:List Nat)(bs ps:List Bool)(rd:List (List Nat))(lt:List Bool)(hc:yE l.toArray l masks bs ps rd lt=true)
  (h:∀ (k:Env→List OB→Prop),(∀ E σ,W P y K E σ→k E σ)→TRQ P l.toArray pv l bs ps rd lt E σ (fun E σ=>k (E.forget ms) σ)):W P (.seq (.region id l.toArray true) y) K E σ :=
 oL (zx hm pv masks bs ps rd lt hc (by
  obtain ⟨tr,h1,h2⟩:=h (W P y K) fun _ _ h=>h
  exact ⟨tr,h1,pA ms h2⟩))
end
end Pam
namespace Pam
open Go
section
variable {P:Program} {ops:Array Oper}
end
end Pam
namespace Pam
open Go
section
variable {P:Program} {ops:Array Oper} {pv:List Nat} {E E':Env} {σ σ' σ2:List OB} {k:Env→List OB→Prop} {kp:PV→Env→List OB→Prop}
theorem kr{rs:List ResultVar}{n:Nat}{post pp:PV→List OB→Prop}(N:Nat)
  (h : match im P E σ rs with | some (C, ps) => C ∧ ps.all PV.isV = true ∧ (rG (σ.take N) σ ∧ n ≤ (σ.take N).length ∧ bY (σ.take N).length (σ.take N) ∧ (gn ps).underP (σ.take N).length ∧ post (gn ps) (σ.take N)) | none => False := by
   simp only [List.take_succ_cons,List.take_zero,List.take_nil,bF,bT,tab,bX,Sum.elim_inl,Sum.elim_inr,reduceIte,↓reduceIte,reduceCtorEq,Int.reduceToNat,Nat.reduceDiv,Nat.reduceMod,Nat.reduceLT,Nat.reduceLeDiff,Nat.reduceAdd,Nat.reduceSub,Nat.reduceMul,Nat.reduceEqDiff,Nat.reduceBEq,Nat.reduceBNe,Nat.reduceGT]<;>first|done|rfl|(and_intros<;>first|rfl|omega|(simp;done)|(simp [eK,eB,eS,eL];done)|(simp [lit,bX,eK,eB,eS,eL];done)|(simp [CV.under,dK,CV.frO];done))):qr P rs (Bv n post) pp .ret E σ:=CO (σ.take N) h
theorem kn{rs:List ResultVar}{n:Nat}{post pp:PV→List OB→Prop}(N:Nat)
  (h : match im P E σ rs with | some (C, ps) => C ∧ ps.all PV.isV = true ∧ (rG (σ.take N) σ ∧ n ≤ (σ.take N).length ∧ bY (σ.take N).length (σ.take N) ∧ (gn ps).underP (σ.take N).length ∧ post (gn ps) (σ.take N)) | none => False := by
   simp only [List.take_succ_cons,List.take_zero,List.take_nil,bF,bT,tab,bX,Sum.elim_inl,Sum.elim_inr,reduceIte,↓reduceIte,reduceCtorEq,Int.reduceToNat,Nat.reduceDiv,Nat.reduceMod,Nat.reduceLT,Nat.reduceLeDiff,Nat.reduceAdd,Nat.reduceSub,Nat.reduceMul,Nat.reduceEqDiff,Nat.reduceBEq,Nat.reduceBNe,Nat.reduceGT]<;>first|done|rfl|(and_intros<;>first|rfl|omega|(simp;done)|(simp [eK,eB,eS,eL];done)|(simp [lit,bX,eK,eB,eS,eL];done)|(simp [CV.under,dK,CV.frO];done))):qr P rs (Bv n post) pp .normal E σ:=ui (σ.take N) h
theorem sp{p q:Prop}(hq:q)(hp:p:=by first|omega|assumption|decide|exact dq fun _=>rfl|(intro _;omega)|rfl|exact fun e=>absurd (List.map_eq_nil_iff.1 e) (by assumption)|(and_intros<;>first|omega|assumption|decide|exact dq fun _=>rfl)|(refine .inl ?_;simp only [uS];and_intros<;>first|rfl|trivial)|(refine .inr (.inl ?_);simp only [uS];and_intros<;>first|rfl|trivial)|(refine .inr ?_;simp only [vz];and_intros<;>first|exact .inl rfl|exact .inr rfl|trivial)|(refine .inr (.inr ⟨rfl,?_⟩);simp only [vz];and_intros<;>first|exact .inl rfl|exact .inr rfl|trivial)|exact .inl rfl):p∧q:=⟨hp,hq⟩
theorem gp{p q:Prop} (hq:q) (h:Bx q→p:=by
  intro hq
  simp only [bAP,bT,tab,bX,reduceIte,↓reduceIte,reduceCtorEq,Int.reduceToNat,Nat.reduceDiv,Nat.reduceMod,Nat.reduceLT,Nat.reduceLeDiff,Nat.reduceAdd,Nat.reduceSub,Nat.reduceMul,Nat.reduceEqDiff,Nat.reduceBEq,Nat.reduceBNe,Nat.reduceGT,List.replicate,List.foldr]
  repeat refine sp ?_
  exact hq.1):p:=h ⟨hq⟩
theorem gpx{p q F:Prop} (fx:F) (hq:q) (h:F→Bx q→p:=by
  intro fx hq
  simp only [bAP,bT,tab,bX,reduceIte,↓reduceIte,reduceCtorEq,Int.reduceToNat,Nat.reduceDiv,Nat.reduceMod,Nat.reduceLT,Nat.reduceLeDiff,Nat.reduceAdd,Nat.reduceSub,Nat.reduceMul,Nat.reduceEqDiff,Nat.reduceBEq,Nat.reduceBNe,Nat.reduceGT,List.replicate,List.foldr,fx]
  repeat refine sp ?_
  exact hq.1):p:=h fx ⟨hq⟩
theorem gt{p q:Prop} (hq:q) (h:Bx q→p:=by
  intro hq
  simp only [bR,bT,tab,bX,reduceIte,↓reduceIte,reduceCtorEq,Int.reduceToNat,Nat.reduceDiv,Nat.reduceMod,Nat.reduceLT,Nat.reduceLeDiff,Nat.reduceAdd,Nat.reduceSub,Nat.reduceMul,Nat.reduceEqDiff,Nat.reduceBEq,Nat.reduceBNe,Nat.reduceGT,bZ]
  repeat refine sd ?_
  exact hq.1):p:=h ⟨hq⟩
theorem gtx{p q F:Prop} (fx:F) (hq:q) (h:F→Bx q→p:=by
  intro fx hq
  simp only [bR,bT,tab,bX,reduceIte,↓reduceIte,reduceCtorEq,Int.reduceToNat,Nat.reduceDiv,Nat.reduceMod,Nat.reduceLT,Nat.reduceLeDiff,Nat.reduceAdd,Nat.reduceSub,Nat.reduceMul,Nat.reduceEqDiff,Nat.reduceBEq,Nat.reduceBNe,Nat.reduceGT,bZ,fx]
  repeat refine sd ?_
  exact hq.1):p:=h fx ⟨hq⟩
theorem gl{p q:Prop} (hq:q) (h:Bx q→p:=by
  intro hq
  simp only [bAP,bT,tab,bX,reduceIte,↓reduceIte,reduceCtorEq,Int.reduceToNat,Nat.reduceDiv,Nat.reduceMod,Nat.reduceLT,Nat.reduceLeDiff,Nat.reduceAdd,Nat.reduceSub,Nat.reduceMul,Nat.reduceEqDiff,Nat.reduceBEq,Nat.reduceBNe,Nat.reduceGT,List.tail_cons]
  exact hq.1):p:=h ⟨hq⟩
theorem la{p:Prop}(h:p:=by first|(simp only [bS,bX,reduceIte,↓reduceIte,reduceCtorEq,Int.reduceToNat,Nat.reduceDiv,Nat.reduceMod,Nat.reduceLT,Nat.reduceLeDiff,Nat.reduceAdd,Nat.reduceSub,Nat.reduceMul,Nat.reduceEqDiff,Nat.reduceBEq,Nat.reduceBNe,Nat.reduceGT]<;>first|done|(and_intros<;>first|rfl|(simp;done)|omega|(simp [lit,bX,eK,eB,eS,eL];done)|(simp only [qc,List.length_cons,List.length_nil,List.length_append,List.length_set,List.length_replicate,List.length_map,List.length_take,List.length_drop];omega)))|(simp only [bS,bX,reduceIte,↓reduceIte,reduceCtorEq,Int.reduceToNat,Nat.reduceDiv,Nat.reduceMod,Nat.reduceLT,Nat.reduceLeDiff,Nat.reduceAdd,Nat.reduceSub,Nat.reduceMul,Nat.reduceEqDiff,Nat.reduceBEq,Nat.reduceBNe,Nat.reduceGT, *]<;>first|done|(and_intros<;>first|rfl|(simp;done)|omega|(simp [lit,bX,eK,eB,eS,eL];done)|(simp only [qc,List.length_cons,List.length_nil,List.length_append,List.length_set,List.length_replicate,List.length_map,List.length_take,List.length_drop];omega)))):p:=h
theorem ct{f:FuncId}{args:List PV}{p:PV}(ρ:List Nat){args':List PV}{σc:List OB}{post pp:PV→List OB→Prop}(hs:cT P f args' σc post pp)
  (h1:ρ.Nodup:=by simp) (h2:∀ b∈ρ,b<σ.length:=by simp) (h3:args=args'.map (PV.ren (du σ.length ρ)):=by exact rfl) (h4:ρ.map (fun b=>σ[b]?)=σc.map (fun ob=>some (ob.ren (du σ.length ρ))):=by exact rfl)
  (h5:fp ρ.length args':=by first|trivial|(simp [bX,eK,eB,eS,eL,qV,fp,PV.under,CV.under,bY,OB.under,dK];done)) (h6:bY ρ.length σc:=by first|trivial|(simp [bX,eK,eB,eS,eL,qV,fp,PV.under,CV.under,bY,OB.under,dK];done))
  (h7:∀ q τ,post q τ→ρ.length≤τ.length→q.ren (du σ.length ρ)=p∧dJ σ ρ (τ.map (OB.ren (du σ.length ρ)))=σ2:=by intro q τ hq _;obtain ⟨rfl,rfl⟩:=hq;exact ⟨rfl,rfl⟩) (h8:∀ q τ,pp q τ→False:=by exact fun _ _ h=>h.elim):rm P σ f args p σ2:=⟨args',σc,post,pp,ρ,hs,h1,h2,h3,h4,h5,h6,h7,h8⟩
theorem cap{C:Prop}{f:FuncId}{args:List PV}{o:Oper}{r:List Oper}{bs ps:List Bool}{rd:List (List Nat)}{res:PV}{ops:Array Oper}(hs:rm P σ f args res σ2)(next:jH P ops pv r bs.tail ps.tail rd.tail (E.putD o.dst ⟨true,res⟩) σ2 k)
  (hd:eW E o.dst:=by first|trivial|exact oY rfl) (hC:C:=by first|trivial|(intro _;first|trivial|simp [aR])|simp [aR]) (hb:bs.headD false=true∨uS σ σ2:=by first|exact .inl rfl|exact .inr (by simp only [uS];and_intros<;>first|rfl|trivial)):qw P ops pv true C f args o r bs ps rd E σ k:=qY hs hd hC hb next
theorem pat{γ:Bool}{C:Prop}{f:FuncId}{args:List PV}{o:Oper}{r:List Oper}{bs:List Bool}{res:PV}(hs:γ=true→a8 P f args res)(next:TR P ops r bs.tail (E.putD o.dst ⟨γ,res⟩) σ k)
  (hd:eW E o.dst:=by first|trivial|exact oY rfl) (hC:γ=true→C:=by first|trivial|(intro _;first|trivial|simp [aR])|simp [aR]) (hargs:args.all PV.noOwn=true:=by exact rfl) (hres:∀ n,res.ren (du n [])=res:=by exact fun _=>rfl):vx P ops γ C f args o r bs E σ k:=yF hs hd hC hargs hres next
theorem pap{γ:Bool}{C:Prop}{f:FuncId}{args:List PV}{o:Oper}{r:List Oper}{bs ps:List Bool}{rd:List (List Nat)}{res:PV}(hs:γ=true→a8 P f args res)(next:jH P ops pv r bs.tail ps.tail rd.tail (E.putD o.dst ⟨γ,res⟩) σ k)
  (hd:eW E o.dst:=by first|trivial|exact oY rfl) (hC:γ=true→C:=by first|trivial|(intro _;first|trivial|simp [aR])|simp [aR]) (hargs:args.all PV.noOwn=true:=by exact rfl) (hres:∀ n,res.ren (du n [])=res:=by exact fun _=>rfl):qw P ops pv γ C f args o r bs ps rd E σ k:=yG hs hd hC hargs hres next
end
end Pam
namespace Pam
open Go
class RB (p:Prop) (b:outParam Bool):Prop where
 t:p→b=true
 f:¬ p→b=false
instance (priority:=low) rbD {p:Prop} [Decidable p]:RB p (decide p):=⟨dT,dF⟩
instance rbE {α:Type} [BEq α] [LawfulBEq α] {a b:α}:RB (a=b) (a == b):=⟨eQ,nB⟩
instance (priority:=high) rbV {b:Bool}:RB (b=true) b:=⟨id,fB⟩
theorem RB.e{p:Prop}{b:Bool}(h:RB p b):p↔b=true:=⟨h.t,fun x=>Classical.byContradiction fun n=>by rw [h.f n] at x;cases x⟩
instance rbN {p:Prop} {b:Bool} [h:RB p b]:RB (¬ p) (!b):=⟨fun x=>by rw [h.f x];rfl,fun x=>by rw [h.t (Classical.not_not.1 x)];rfl⟩
instance (priority:=high) rbM {α:Type} [BEq α] [LawfulBEq α] {a b:α}:RB (¬ a=b) (a != b):=⟨bne_iff_ne.2,fun h=>bne_eq_false_iff_eq.2 (Classical.not_not.1 h)⟩
instance rbA {p q:Prop} {a b:Bool} [h:RB p a] [i:RB q b]:RB (p∧q) (a && b):=⟨fun x=>by rw [h.t x.1,i.t x.2];rfl,fun x=>fB fun y=>x ⟨h.e.2 (Bool.and_eq_true_iff.1 y).1,i.e.2 (Bool.and_eq_true_iff.1 y).2⟩⟩
section
variable {P:Program} {E:Env} {σ:List OB} {K:Kt} {p:Prop} {α:Type} {a b:Option α} {r:α} {X:Bool} {G:Prop}
theorem ci{d:Decidable p}(hm:ite p a b=some r)(h1:p→a=some r→G)(h2:¬ p→b=some r→G):G:=by
 by_cases h:p
 ·rw [iP h] at hm;exact h1 h hm
 ·rw [iN h] at hm;exact h2 h hm
theorem cb{d:Decidable p}[RB p X](hm:ite p a b=some r)(h1:p→X=true→a=some r→G)(h2:¬ p→X=false→b=some r→G):G:=ci hm (fun h=>h1 h (RB.t h)) fun h=>h2 h (RB.f h)
theorem cd{d:Decidable p}[RB p X]{c:Operand}{x y:Code}(hm:ite p a b=some r)(hc:ev E c=⟨true,.c (.bool X)⟩)(h1:p→a=some r→W P x K E σ)(h2:¬ p→b=some r→W P y K E σ):W P (.cond c x y) K E σ :=
 cb hm (fun h hx hm=>bw hc hx (h1 h hm)) fun h hx hm=>cH hc hx (h2 h hm)
theorem cn{d:Decidable p}[RB p X]{c:Operand}{x y:Code}(hm:ite p a b=some r)(hc:ev E c=⟨true,.c (.bool (!X))⟩)(h1:p→a=some r→W P y K E σ)(h2:¬ p→b=some r→W P x K E σ):W P (.cond c x y) K E σ :=
 cb hm (fun h hx hm=>cH hc (by rw [hx];rfl) (h1 h hm)) fun h hx hm=>bw hc (by rw [hx];rfl) (h2 h hm)
end
def mkM(l:List Oper):List Nat:=l.foldl (fun ms o=>ms++[orM ms (ep o)]) []
def bl:Nat→Nat→List Bool
 |0,_=>[]
 |n+1,b=>(b % 2 == 1) :: bl n (b / 2)
theorem bl0(b:Nat):bl 0 b=[]:=rfl
theorem blS(n b:Nat):bl (n+1) b=(b % 2 == 1) :: bl n (b / 2):=rfl
section
variable {P:Program} {E E':Env} {σ σ':List OB} {K:Kt} {y:Code} {id:Nat} {l:List Oper} {bs:List Bool}
theorem DO(ms:List Nat)(n b:Nat)(h:∀ (k:Env→List OB→Prop),(∀ E σ,W P y K E σ→k E σ)→TR P l.toArray l bs E σ (fun E σ=>k (E.forget ms) σ))(hb:bl n b=bs:=by simp only [blS,bl0,Nat.reduceMod,Nat.reduceDiv,Nat.reduceBEq,Nat.reduceEqDiff];exact rfl)(hm:P.follows .mixedOrders=true:=by kernel_rfl)(hc:chk l.toArray l (mkM l) bs=true:=by kernel_rfl):W P (.seq (.region id l.toArray true) y) K E σ:=ER ms hm (mkM l) bs hc h
theorem Hw(n b:Nat)(h:∀ (k:Env→List OB→Prop),(∀ E σ,K .normal E σ→k E σ)→TR P l.toArray l bs E σ k)(hb:bl n b=bs:=by simp only [blS,bl0,Nat.reduceMod,Nat.reduceDiv,Nat.reduceBEq,Nat.reduceEqDiff];exact rfl)(hm:P.follows .mixedOrders=true:=by kernel_rfl)(hc:chk l.toArray l (mkM l) bs=true:=by kernel_rfl):W P (.region id l.toArray true) K E σ:=EQ hm (mkM l) bs hc h
theorem xJ(ms:List Nat)(n b:Nat)(h:∀ (k:Env→List OB→Prop),(∀ E σ,W P y K E σ→k E σ)→jL P l.toArray l bs E σ (fun E σ=>k (E.forget ms) σ))(hb:bl n b=bs:=by simp only [blS,bl0,Nat.reduceMod,Nat.reduceDiv,Nat.reduceBEq,Nat.reduceEqDiff];exact rfl)(hm:P.follows .mixedOrders=true:=by kernel_rfl)(hc:chk l.toArray l (mkM l) bs=true:=by kernel_rfl):W P (.seq (.region id l.toArray true) y) K E σ:=Bu ms hm (mkM l) bs hc h
theorem Gn(n b:Nat)(h:∀ (k:Env→List OB→Prop),(∀ E σ,K .normal E σ→k E σ)→jL P l.toArray l bs E σ k)(hb:bl n b=bs:=by simp only [blS,bl0,Nat.reduceMod,Nat.reduceDiv,Nat.reduceBEq,Nat.reduceEqDiff];exact rfl)(hm:P.follows .mixedOrders=true:=by kernel_rfl)(hc:chk l.toArray l (mkM l) bs=true:=by kernel_rfl):W P (.region id l.toArray true) K E σ:=Fo hm (mkM l) bs hc h
theorem BB(ms:List Nat)(n b:Nat)(next:W P y K E' σ')(hb:bl n b=bs:=by simp only [blS,bl0,Nat.reduceMod,Nat.reduceDiv,Nat.reduceBEq,Nat.reduceEqDiff];exact rfl)(hm:P.follows .mixedOrders=true:=by kernel_rfl)(hc:chk l.toArray l (mkM l) bs=true:=by kernel_rfl)
  (h : ∀ (k : Env → List OB → Prop), k E' σ' → jL P l.toArray l bs E σ (fun E σ => k (E.forget ms) σ) := by
   intro k hk
   refine ga ?_
   exact hk):W P (.seq (.region id l.toArray true) y) K E σ:=Bu ms hm (mkM l) bs hc fun k hk=>h k (hk _ _ next)
theorem H1(n b:Nat)(next:K .normal E' σ')(hb:bl n b=bs:=by simp only [blS,bl0,Nat.reduceMod,Nat.reduceDiv,Nat.reduceBEq,Nat.reduceEqDiff];exact rfl)(hm:P.follows .mixedOrders=true:=by kernel_rfl)(hc:chk l.toArray l (mkM l) bs=true:=by kernel_rfl)
  (h : ∀ (k : Env → List OB → Prop), k E' σ' → jL P l.toArray l bs E σ k := by
   intro k hk
   refine ga ?_
   exact hk):W P (.region id l.toArray true) K E σ:=Fo hm (mkM l) bs hc fun k hk=>h k (hk _ _ next)
theorem Ft{F:Prop}(fx:F)(ms:List Nat)(n b:Nat)(next:W P y K E' σ')(hb:bl n b=bs:=by simp only [blS,bl0,Nat.reduceMod,Nat.reduceDiv,Nat.reduceBEq,Nat.reduceEqDiff];exact rfl)(hm:P.follows .mixedOrders=true:=by kernel_rfl)(hc:chk l.toArray l (mkM l) bs=true:=by kernel_rfl)
  (h : F → ∀ (k : Env → List OB → Prop), k E' σ' → jL P l.toArray l bs E σ (fun E σ => k (E.forget ms) σ) := by
   intro fx k hk
   refine gax fx ?_
   exact hk):W P (.seq (.region id l.toArray true) y) K E σ:=Bu ms hm (mkM l) bs hc fun k hk=>h fx k (hk _ _ next)
end
theorem sf{P:Program}{σ:List OB}{f:FuncId}{fn:Func}{c:Code}{args:List PV}{post pp:PV→List OB→Prop}{E':Env}(n:Nat)(rs:List ResultVar)(hf:P.funcs[f]? = some fn)(h:W P c (qr P rs (Bv σ.length post) pp) E' σ)
  (hb:fn.body=some c:=by exact rfl) (hn:fn.ntmps=n:=by exact rfl) (hr:fn.results.toList=rs:=by exact rfl) (hname:(fn.name == "runtime.NumGoroutine")=false:=by kernel_rfl) (hlen:args.length≤n:=by simp)
  (he:Env.ofList n σ.length (j9 0 args)=E':=by simp only [j9,Env.ofList,List.length_nil,List.length_cons,bE,Nat.reduceDiv,Nat.reduceMod,Nat.reduceLT,Nat.reduceLeDiff,Nat.reduceAdd,Nat.reduceSub,Nat.reduceMul,Nat.reduceEqDiff,Nat.reduceBEq,Nat.reduceBNe,Nat.reduceGT,Int.reduceToNat];rfl):cT P f args σ post pp :=
 xE n rs hf hb hn hr hname hlen (by rw [he];exact h)
theorem goK{p q:Prop} (h:Bx q→p:=by
  intro hq
  refine go ?_
  exact hq.1) (hq:q):p:=h ⟨hq⟩
theorem gaK{p q:Prop} (h:Bx q→p:=by
  intro hq
  refine ga ?_
  exact hq.1) (hq:q):p:=h ⟨hq⟩
theorem gzK{p q:Prop} (h:Bx q→p:=by
  intro hq
  refine gz ?_
  exact hq.1) (hq:q):p:=h ⟨hq⟩
theorem gpK{p q:Prop} (h:Bx q→p:=by
  intro hq
  refine gp ?_
  exact hq.1) (hq:q):p:=h ⟨hq⟩
theorem gtK{p q:Prop} (h:Bx q→p:=by
  intro hq
  refine gt ?_
  exact hq.1) (hq:q):p:=h ⟨hq⟩
theorem glK{p q:Prop} (h:Bx q→p:=by
  intro hq
  refine gl ?_
  exact hq.1) (hq:q):p:=h ⟨hq⟩
theorem aE{p q F:Prop} (fx:F) (h:F→Bx q→p:=by
  intro fx hq
  refine gox fx ?_
  exact hq.1) (hq:q):p:=h fx ⟨hq⟩
theorem xK{p q F:Prop} (fx:F) (h:F→Bx q→p:=by
  intro fx hq
  refine gax fx ?_
  exact hq.1) (hq:q):p:=h fx ⟨hq⟩
theorem H2{p q F:Prop} (fx:F) (h:F→Bx q→p:=by
  intro fx hq
  refine gpx fx ?_
  exact hq.1) (hq:q):p:=h fx ⟨hq⟩
theorem Gp{p q F:Prop} (fx:F) (h:F→Bx q→p:=by
  intro fx hq
  refine gtx fx ?_
  exact hq.1) (hq:q):p:=h fx ⟨hq⟩
end Pam
namespace Pam
open Go
theorem zR{p:Prop}(h:p:=by first|rfl|(simp only [bR,bT,tab,bX,reduceIte,↓reduceIte,reduceCtorEq,Int.reduceToNat,Nat.reduceDiv,Nat.reduceMod,Nat.reduceLT,Nat.reduceLeDiff,Nat.reduceAdd,Nat.reduceSub,Nat.reduceMul,Nat.reduceEqDiff,Nat.reduceBEq,Nat.reduceBNe,Nat.reduceGT];done)):p:=h
theorem zK{p:Prop}(h:p:=by first|kernel_rfl|exact of_decide_eq_true (by kernel_rfl)):p:=h
theorem zD{p:Prop}(h:p:=by first|trivial|exact oY rfl):p:=h
theorem zC{p:Prop}(h:p:=by first|trivial|(intro _;first|trivial|simp [aR])|simp [aR]):p:=h
theorem zU{p:Prop}(h:p:=by first|trivial|(simp [bX,eK,eB,eS,eL,qV,fp,PV.under,CV.under,bY,OB.under,dK];done)):p:=h
theorem zL{p:Prop}(h:p:=by first|rfl|(simp only [lit,List.map_cons,List.map_nil,bX,eK,eB,eS,eL];rfl)):p:=h
theorem zO{p:Prop}(h:p:=by first|exact .inl rfl|exact .inr rfl):p:=h
theorem zF{p:Prop}(h:p:=by simp only [bZ,bL,reduceIte,↓reduceIte,reduceCtorEq,Int.reduceToNat,Nat.reduceDiv,Nat.reduceMod,Nat.reduceLT,Nat.reduceLeDiff,Nat.reduceAdd,Nat.reduceSub,Nat.reduceMul,Nat.reduceEqDiff,Nat.reduceBEq,Nat.reduceBNe,Nat.reduceGT];rfl):p:=h
theorem zN{p:Prop}(h:p:=by first|rfl|(simp [PV.ren,CV.ren,CV.ren0,du,lit];omega)):p:=h
theorem oM{p:Prop}(h:p:=by omega):p:=h
theorem xM{p:Prop}(h:p:=by unfold maxLen;omega):p:=h
theorem lO{p:Prop}(h:p:=by simp only [List.length_append,List.length_cons,List.length_nil];omega):p:=h
theorem dM{p:Prop}(h:p:=by decide):p:=h
section
variable {P:Program} {ops:Array Oper} {pv:List Nat} {E:Env} {σ σ2:List OB} {k:Env→List OB→Prop} {kp:PV→Env→List OB→Prop}
theorem Rb2{C:Prop}{f:FuncId}{args:List PV}{o:Oper}{r:List Oper}{args':List PV}{σc:List OB}{post pp:PV→List OB→Prop}(hs:cT P f args' σc post pp)(ρ:List Nat)
  (next:∀ p σ',post p σ'→ρ.length≤σ'.length→i6 P ops r (E.putD o.dst ⟨true,p.ren (du σ.length ρ)⟩) (dJ σ ρ (σ'.map (OB.ren (du σ.length ρ)))) k kp)
  (npanic:∀ p σ',pp p σ'→ρ.length≤σ'.length→kp (p.ren (du σ.length ρ)) E (dJ σ ρ (σ'.map (OB.ren (du σ.length ρ)))))
  (hd:eW E o.dst:=by first|trivial|exact oY rfl) (hC:C:=by first|trivial|(intro _;first|trivial|simp [aR])|simp [aR]) (hnd:ρ.Nodup:=by simp) (hlt:∀ b∈ρ,b<σ.length:=by simp)
  (hargs:args=args'.map (PV.ren (du σ.length ρ)):=by exact rfl) (hσ:ρ.map (fun b=>σ[b]?)=σc.map (fun ob=>some (ob.ren (du σ.length ρ))):=by exact rfl) (hu:fp ρ.length args':=by first|trivial|(simp [bX,eK,eB,eS,eL,qV,fp,PV.under,CV.under,bY,OB.under,dK];done)) (hub:bY ρ.length σc:=by first|trivial|(simp [bX,eK,eB,eS,eL,qV,fp,PV.under,CV.under,bY,OB.under,dK];done)) :
  oj P ops true C f args o r E σ k kp:=pB hs ρ hd hC hnd hlt hargs hσ hu hub next npanic
theorem ctN{f:FuncId}{args:List PV}{p:PV}(ρ:List Nat){args':List PV}{σc:List OB}{post pp:PV→List OB→Prop}(hs:cT P f args' σc post pp)
  (h1:ρ.Nodup:=by simp) (h2:∀ b∈ρ,b<σ.length:=by simp) (h3:args=args'.map (PV.ren (du σ.length ρ)):=by first|rfl|(simp [PV.ren,CV.ren,CV.ren0,du,lit];omega)) (h4:ρ.map (fun b=>σ[b]?)=σc.map (fun ob=>some (ob.ren (du σ.length ρ))):=by exact rfl)
  (h5:fp ρ.length args':=by first|trivial|(simp [bX,eK,eB,eS,eL,qV,fp,PV.under,CV.under,bY,OB.under,dK];done)) (h6:bY ρ.length σc:=by first|trivial|(simp [bX,eK,eB,eS,eL,qV,fp,PV.under,CV.under,bY,OB.under,dK];done))
  (h7:∀ q τ,post q τ→ρ.length≤τ.length→q.ren (du σ.length ρ)=p∧dJ σ ρ (τ.map (OB.ren (du σ.length ρ)))=σ2:=by intro q τ hq _;obtain ⟨rfl,rfl⟩:=hq;exact ⟨rfl,rfl⟩) (h8:∀ q τ,pp q τ→False:=by exact fun _ _ h=>False.elim h):rm P σ f args p σ2:=⟨args',σc,post,pp,ρ,hs,h1,h2,h3,h4,h5,h6,h7,h8⟩
theorem caN{C:Prop}{f:FuncId}{args:List PV}{o:Oper}{r:List Oper}{bs ps:List Bool}{rd:List (List Nat)}{res:PV}(hs:rm P σ f args res σ2)(next:jH P ops pv r bs.tail ps.tail rd.tail (E.putD o.dst ⟨true,res⟩) σ2 k)
  (hd:eW E o.dst:=by first|trivial|exact oY rfl) (hC:C:=by first|trivial|(intro _;first|trivial|simp [aR])|simp [aR]) (hb:ps.headD false=true∧vz pv 0 σ σ2:=by exact ⟨rfl,by simp only [vz];and_intros<;>first|exact .inl rfl|exact .inr rfl|trivial⟩):qw P ops pv true C f args o r bs ps rd E σ k:=vA hs hd hC hb next
theorem Rq{C:Prop}{f:FuncId}{args:List PV}{o:Oper}{r:List Oper}{args':List PV}{σc:List OB}{a:PV}{b:List OB}(hs:cT P f args' σc (fun p σ=>p=a∧σ=b) (fun _ _=>False))(ρ:List Nat)
  (next:i6 P ops r (E.putD o.dst ⟨true,a.ren (du σ.length ρ)⟩) (dJ σ ρ (b.map (OB.ren (du σ.length ρ)))) k kp)
  (hd:eW E o.dst:=by first|trivial|exact oY rfl) (hC:C:=by first|trivial|(intro _;first|trivial|simp [aR])|simp [aR]) (hnd:ρ.Nodup:=by simp) (hlt:∀ b∈ρ,b<σ.length:=by simp)
  (hargs:args=args'.map (PV.ren (du σ.length ρ)):=by exact rfl) (hσ:ρ.map (fun b=>σ[b]?)=σc.map (fun ob=>some (ob.ren (du σ.length ρ))):=by exact rfl) (hu:fp ρ.length args':=by first|trivial|(simp [bX,eK,eB,eS,eL,qV,fp,PV.under,CV.under,bY,OB.under,dK];done)) (hub:bY ρ.length σc:=by first|trivial|(simp [bX,eK,eB,eS,eL,qV,fp,PV.under,CV.under,bY,OB.under,dK];done)) :
  oj P ops true C f args o r E σ k kp:=pB hs ρ hd hC hnd hlt hargs hσ hu hub (fun p σ' h _=>by obtain ⟨rfl,rfl⟩:=h;exact next) (fun _ _ h _=>h.elim)
theorem Rb3{C:Prop}{f:FuncId}{args:List PV}{o:Oper}{r:List Oper}{args':List PV}{σc:List OB}{α β γ:Type}{y:α ⊕ β}{a:α→PV}{b:α→List OB}{c:β→PV}{F:α→Option γ}{G:β→Option γ}{v:γ}
  (hs:cT P f args' σc (fun p σ=>Sum.elim (fun z=>p=a z∧σ=b z) (fun _=>False) y) (fun p _=>Sum.elim (fun _=>False) (fun z=>p=c z) y)) (ρ:List Nat) (hm:Sum.elim F G y=some v)
  (next:∀ z,F z=some v→i6 P ops r (E.putD o.dst ⟨true,(a z).ren (du σ.length ρ)⟩) (dJ σ ρ ((b z).map (OB.ren (du σ.length ρ)))) k kp)
  (np:∀ z,G z=some v→∀ σ',ρ.length≤σ'.length→kp ((c z).ren (du σ.length ρ)) E (dJ σ ρ (List.map (OB.ren (du σ.length ρ)) σ')))
  (hd:eW E o.dst:=by first|trivial|exact oY rfl) (hC:C:=by first|trivial|(intro _;first|trivial|simp [aR])|simp [aR]) (hnd:ρ.Nodup:=by simp) (hlt:∀ b∈ρ,b<σ.length:=by simp)
  (hargs:args=args'.map (PV.ren (du σ.length ρ)):=by exact rfl) (hσ:ρ.map (fun b=>σ[b]?)=σc.map (fun ob=>some (ob.ren (du σ.length ρ))):=by exact rfl) (hu:fp ρ.length args':=by first|trivial|(simp [bX,eK,eB,eS,eL,qV,fp,PV.under,CV.under,bY,OB.under,dK];done)) (hub:bY ρ.length σc:=by first|trivial|(simp [bX,eK,eB,eS,eL,qV,fp,PV.under,CV.under,bY,OB.under,dK];done)) :
  oj P ops true C f args o r E σ k kp:=by
 cases y with
 |inl z=>exact pB hs ρ hd hC hnd hlt hargs hσ hu hub (fun p σ' h _=>by obtain ⟨rfl,rfl⟩:=h;exact next z hm) (fun _ _ h _=>h.elim)
 |inr z=>exact pB hs ρ hd hC hnd hlt hargs hσ hu hub (fun _ _ h _=>h.elim) (fun p σ' h hl=>by cases h;exact np z hm σ' hl)
theorem gM{p q:Prop} (hq:q) (h:Bx q→p:=by
  intro hq
  simp (maxSteps:=3000000) only [bA,bT,tab,bX,reduceIte,↓reduceIte,reduceCtorEq,Int.reduceToNat,Nat.reduceDiv,Nat.reduceMod,Nat.reduceLT,Nat.reduceLeDiff,Nat.reduceAdd,Nat.reduceSub,Nat.reduceMul,Nat.reduceEqDiff,Nat.reduceBEq,Nat.reduceBNe,Nat.reduceGT]
  repeat refine sd ?_
  exact hq.1):p:=h ⟨hq⟩
theorem gMx{p q F:Prop} (fx:F) (hq:q) (h:F→Bx q→p:=by
  intro fx hq
  simp (maxSteps:=3000000) only [bA,bT,tab,bX,reduceIte,↓reduceIte,reduceCtorEq,Int.reduceToNat,Nat.reduceDiv,Nat.reduceMod,Nat.reduceLT,Nat.reduceLeDiff,Nat.reduceAdd,Nat.reduceSub,Nat.reduceMul,Nat.reduceEqDiff,Nat.reduceBEq,Nat.reduceBNe,Nat.reduceGT,fx]
  repeat refine sd ?_
  exact hq.1):p:=h fx ⟨hq⟩
theorem gMK{p q:Prop} (h:Bx q→p:=by
  intro hq
  refine gM ?_
  exact hq.1) (hq:q):p:=h ⟨hq⟩
theorem tE{p q F:Prop} (fx:F) (h:F→Bx q→p:=by
  intro fx hq
  refine gMx fx ?_
  exact hq.1) (hq:q):p:=h fx ⟨hq⟩
theorem gr{p q:Prop} (hq:q) (h:Bx q→p:=by
  intro hq
  simp only [bR,bT,tab,bX,reduceIte,↓reduceIte,reduceCtorEq,Int.reduceToNat,Nat.reduceDiv,Nat.reduceMod,Nat.reduceLT,Nat.reduceLeDiff,Nat.reduceAdd,Nat.reduceSub,Nat.reduceMul,Nat.reduceEqDiff,Nat.reduceBEq,Nat.reduceBNe,Nat.reduceGT]
  exact hq.1):p:=h ⟨hq⟩
theorem grK{p q:Prop} (h:Bx q→p:=by
  intro hq
  refine gr ?_
  exact hq.1) (hq:q):p:=h ⟨hq⟩
end
def lA:=And.intro @List.length_append.{0} (And.intro @List.length_cons.{0} @List.length_nil.{0})
end Pam
namespace Pam
open Go
theorem Lw1{p:Prop} (h:p:=by
  refine (ip∘aC∘bu) ?_
  cases hm
  exact kr 0):p:=h
theorem Lw2{p:Prop} (h:p:=by
  refine bm ?_
  cases hm
  exact kr 0):p:=h
theorem Lw3{p:Prop} (h:p:=by
  refine (bn∘aX∘aI∘ag () () hm) ?_
  exact ls):p:=h
theorem Lw4{p:Prop} (h:p:=by
  refine (bm∘bj) ?_
  cases hm
  exact kr 0):p:=h
theorem Lw5{p:Prop} (h:p:=by
  refine (aa∘goK∘hk _ _∘bm∘aC∘bu) ?_
  cases hm
  exact kr 1):p:=h
theorem Lw6{p:Prop} (h:p:=by
  refine (bm∘aC∘bj) ?_
  cases hm
  exact kr 0):p:=h
theorem Lw7{p:Prop} (h:p:=by
  refine bm ?_
  cases hm
  exact kr 1):p:=h
theorem Lw8{p:Prop} (h:p:=by
  refine (hk _ _∘cH rfl rfl∘ai∘ag () () hm) ?_
  exact ls):p:=h
theorem Lw9{p:Prop} (h:p:=by
  refine (bn∘aX∘aI) ?_
  cases hm
  exact kn 1):p:=h
theorem rn{p:Prop} (h:p:=by
  refine bu ?_
  cases hm
  exact kr 0):p:=h
theorem uY{p:Prop} (h:p:=by
  refine ag () () hm ?_
  exact ls):p:=h
theorem CT{p:Prop} (h:p:=by
  refine (hk _ _∘ag false () hm) ?_
  exact ls):p:=h
theorem ES{p:Prop} (h:p:=by
  refine (bm∘aC∘ip∘aC) ?_
  cases hm
  exact kr 1):p:=h
theorem CU{p:Prop} (h:p:=by
  refine (bm∘bj) ?_
  cases hm
  exact kr 1):p:=h
theorem CW{p:Prop} (h:p:=by
  refine (ai∘ag () () hm) ?_
  exact la):p:=h
theorem zH{p:Prop} (h:p:=by
  refine bm ?_
  cases hm
  exact kr 2):p:=h
theorem Gq{p:Prop} (h:p:=by
  refine (gpK∘hk _ _∘bm∘aC∘bu) ?_
  cases hm
  exact kr 1):p:=h
theorem ET{p:Prop} (h:p:=by
  refine (hk _ _∘ag true () hm) ?_
  exact ls):p:=h
theorem Hx{p:Prop} (h:p:=by
  refine (aa∘goK∘hk _ _∘ah [0,24,25,26,27,28,29,30]∘ah [5,31]∘bm) ?_
  cases hm
  exact kr 3):p:=h
theorem EU{p:Prop} (h:p:=by
  refine (aC∘bu) ?_
  cases hm
  exact kr 2):p:=h
end Pam
namespace Pam
def AC(s:List UInt8):Option Int:=if s.length≤18 then Go.Lib.atoi s else none
end Pam
namespace Pam
open Go Go.Shelf Go.Proofs Go.RowKit
theorem Inv.grown0{G:Gh}{w w':World}(hi:Inv G [] w)(h:Below w.heap.size w w'):Inv G [] w':=by
 have hk:∀ (b:Nat) (o:Obj),w.heap[b]? = some o→w'.heap[b]? = some o:=fun b o hb=>by
  have hlt:=(Array.getElem?_eq_some_iff.1 hb).1
  rw [← hb];exact h.block b hlt
 refine ⟨fun b o hb=>hk b o (hi.hH b o hb),fun b o hb=>hk b o (hi.hF b o hb),hi.HF,hi.len,fun b ob hb=>by simp at hb,hi.inj,hi.sep,?_,?_,?_,?_⟩
 ·exact h.os.trans hi.os
 ·exact h.tape.trans hi.tape
 ·exact h.output.trans hi.output
 ·exact Nat.le_trans hi.grow h.size
theorem Bw {P:Program} {ρ:Ren} (Ly:LaysC.n174 P ρ) {f:FuncId} (hf:ρ.f 174=f) (hb:∃ fn,P.funcs[f]? = some fn∧fn.body.isSome=true∧(fn.name == "runtime.NumGoroutine")=false)
  (s:List UInt8) (v:Int) (h:AC s=some v) :
  a8 P f [.c (.str s),.c (.int .i64 10),.c (.int .i64 64)] (.t [.c (.int .i64 v),.c .nili]):=by
 subst hf
 unfold AC at h
 split at h
 case isFalse=>cases h
 rename_i hl
 refine ⟨hb,fun G w vs hna _ hi ha=>?_⟩
 match vs,ha with
 |[v0,v1,v2],ha =>
  obtain ⟨ha0,ha1,ha2,_⟩:=ha
  have e0:=qa ha0
  have e1:=ez ha1
  have e2:=ez ha2
  subst e0;subst e1;subst e2
  have hs:(⟨s.toArray⟩:ByteArray).data.toList=s:=rfl
  have hz:(⟨s.toArray⟩:ByteArray).size=s.length:=by simp [ByteArray.size]
  refine (Any.strconv_ParseInt_10_at64_ok Ly ⟨s.toArray⟩ (by rw [hz];omega) v (by rw [hs,Go.Lib.parseIntB_64,Go.Lib.atoiAll_short _ hl,h];rfl) w).mono ?_
  rintro e w' ⟨rfl,hw⟩
  have hbel:Below w.heap.size w w':=by
   rcases hw with rfl|⟨t,rfl⟩
   ·exact Below.refl _ _
   ·exact Lib.bytesWorld_below _ _ _
  exact ⟨G,[],.t [.c (.int .i64 v),.c .nili],_,Gle.refl G,hi.grown0 hbel,⟨[.int .i64 v,.nilIface],rfl,.int _ _,.nili,trivial⟩,.inl ⟨rfl,rfl,rfl⟩⟩
 |[],ha=>exact absurd ha (by simp [aW])
 |[_],ha=>exact absurd ha (by simp [aW])
 |[_,_],ha=>exact absurd ha (by simp [aW])
 |_ :: _ :: _ :: _ :: _,ha=>exact absurd ha (by simp [aW])
end Pam
namespace Pam
open Go
section
variable {P:Program} {E:Env} {σ:List OB}
def DY(P:Program)(T:TypeId):Bool:=match P.underlying T with|some (.interface _)=>true|_=>false
theorem Cp{o:Oper}{op:BinOp}{T T':TypeId}{x:Operand}(ho:o.op=.binOp op T x (.const .nilIface) T')(hop:op=.eql∨op=.neq)
  (hx:ev E x=⟨true,.c .nili⟩) (hT:DY P T=true):oN P E σ o (.c (.bool (match op with|.eql=>true|_=>false))) σ:=.quiet fun G a w hs=>by
 have hr:br G.H .nili (a.eval x):=sT hs hx
 have hu:∃ ms,P.underlying T=some (.interface ms):=by
  unfold DY at hT
  cases hu:P.underlying T with
  |none=>simp [hu] at hT
  |some d=>cases d<;>simp [hu] at hT;simp
 obtain ⟨ms,hu⟩:=hu
 generalize hv:a.eval x=u at hr
 cases hr
 have hc:a.eval (.const .nilIface)=.nilIface:=rfl
 have q0:∀ op,(eqGuard op T x (.const .nilIface) .nilIface .nilIface).run P w=.ok () w:=fun op=>by
  cases op<;>simp [eqGuard]
 have q1:∀ d:Nat,(Op.equalIn (d+1) T .nilIface .nilIface).run P w=.ok true w:=fun d=>by
  simp [Op.equalIn,run_underlying hu]
 rcases hop with rfl|rfl
 ·refine ⟨.bool true,?_,qb _⟩
  simp only [execOp,ho,hv,hc,Sem.run_bind,q0,Result.andThen_ok]
  simp [binOp,Op.equal,Op.maxDepth,q1 9999]
 ·refine ⟨.bool false,?_,qb _⟩
  simp only [execOp,ho,hv,hc,Sem.run_bind,q0,Result.andThen_ok]
  simp [binOp,Op.equal,Op.maxDepth,q1 9999]
theorem zV(n:Int)(h0:0≤n)(h1:n<128):Utf8.encode n=⟨([UInt8.ofNat n.toNat]:List UInt8).toArray⟩:=by
 have hv:Utf8.valid n=true:=by unfold Utf8.valid;simp;omega
 unfold Utf8.encode
 rw [hv]
 simp only [if_true]
 rw [iP (by omega)]
theorem DZ{o:Oper}{T D:TypeId}{x:Operand}{k:IntKind}{n:Int}(ho:o.op=.convert T D x)(hx:ev E x=⟨true,.c (.int k n)⟩)(hT:xh P T=true)(hD:pV P D=true)(h:0≤n∧n<128) :
  oN P E σ o (.c (.str [UInt8.ofNat n.toNat])) σ:=.quiet fun G a w hs=>by
 have e:=ez (sT hs hx)
 have hu:=yR hT
 have hd:P.underlying D=some .string:=by unfold pV at hD;split at hD<;>simp_all
 refine ⟨_,?_,zp _⟩
 have:=run_convert_int_string (P:=P) w T D k n (by rw [hu];rfl) hd
 rw [zV n h.1 h.2] at this
 simp only [execOp,ho,e,Sem.run_bind]
 rw [this]
 rfl
theorem D0{o:Oper}{op:BinOp}{T T':TypeId}{x:Operand}(ho:o.op=.binOp op T x (.const .nilIface) T')(hop:op=.eql∨op=.neq)
  (hx:ev E x=⟨true,.c .nili⟩) (hT:DY P T=true):∀ E',(∀ y∈o.op.operands,ev E' y=ev E y)→∀ σ,oN P E' σ o (.c (.bool (match op with|.eql=>true|_=>false))) σ:=fun E' h σ =>
 Cp ho hop (by rw [h x (by rw [ho];simp [Op.operands])];exact hx) hT
end
end Pam
namespace Pam
open Go
section
variable {P:Program} {E:Env} {σ:List OB}
end
end Pam
namespace Pam
open Go
section
variable {P:Program} {E:Env} {σ:List OB}
end
section
variable {P:Program} {ops:Array Oper} {pv:List Nat}
end
end Pam
namespace Pam
open Go
section
variable {P:Program} {E:Env} {σ:List OB}
theorem C4{o:Oper}{x:Operand}{v:PV}(ho:o.op=.move x)(hx:ev E x=⟨true,v⟩) :
  ∀ E',(∀ y∈o.op.operands,ev E' y=ev E y)→∀ σ,oN P E' σ o v σ:=fun E' h σ=>.quiet fun G a w hs=>by
 have hx':ev E' x=⟨true,v⟩:=(h x (by rw [ho];simp [Op.operands])).trans hx
 refine ⟨a.eval x,?_,sT hs hx'⟩
 simp only [execOp,ho]
 rfl
end
theorem emL{α:Type}[Inhabited α](f:α→List CV)(xs:List α)(i:Nat)(ys:List (List CV))(hy:ys=xs.map f)(h:i<xs.length:=by first|omega|(simp only [qc,List.length_cons,List.length_nil,List.length_append,List.length_set,List.length_replicate,List.length_map,List.length_take,List.length_drop];omega)):elt ys i=f (xs.getD i default):=by rw [hy];exact em f xs i h
end Pam
namespace Pam
open Go
section
variable {P:Program} {E:Env} {σ:List OB}
def vC:List (Int×Int)→Int→Option Int
 |[],_=>none
 |(a,c) :: r,n=>if a=n then some c else vC r n
def mII(p:Int×Int):Lit×CV:=(.int .i64 p.1,.int .i64 p.2)
theorem DS:∀ (M:List (Int×Int)) (n:Int),lk (M.map mII) (.int .i64 n)=(vC M n).map (CV.int .i64)
 |[],n=>rfl
 |(a,c) :: r,n=>by
  rw [List.map_cons]
  unfold lk vC mII
  simp only [Lit.int.injEq,true_and]
  by_cases e:a=n
  ·rw [iP e,iP e];rfl
  ·rw [iN e,iN e,← DS r n];rfl
def vD(P:Program)(t k e:TypeId):Bool:=(match P.underlying t with|some (.map k' e')=>k' == k && e' == e|_=>false) && (match P.underlying k with|some (.int .i64)=>true|_=>false)
theorem xQ{t k e:TypeId}(h:vD P t k e=true):P.underlying t=some (.map k e)∧P.underlying k=some (.int .i64):=by
 unfold vD at h
 rw [Bool.and_eq_true] at h
 obtain ⟨h1,h2⟩:=h
 constructor
 ·split at h1
  ·rename_i k' e' hu
   simp only [Bool.and_eq_true,beq_iff_eq] at h1
   rw [hu,h1.1,h1.2]
  ·cases h1
 ·split at h2
  ·assumption
  ·cases h2
theorem Hz{n:Int}(h:-9223372036854775808≤n∧n≤9223372036854775807):(Lit.int .i64 n).wf=true:=by
 have e1:IntKind.i64.min = -9223372036854775808:=by decide
 have e2:IntKind.i64.max=9223372036854775807:=by decide
 simp [Lit.wf,e1,e2,h.1,h.2]
theorem za{o:Oper}{t k e:TypeId}(ho:o.op=.makeMap t none)(ht:vD P t k e=true):oN P E σ o (.c (.optr σ.length 0)) (σ++[.mp P k (([]:List (Int×Int)).map mII)]):=fun G a w hs=>by
 have hi:=hs.inv
 have hle:bG G.own (G.own++[some ⟨w.heap.size,1,0,0,true,0⟩]):=bG.append _ _
 have hlast:(G.own++[some (⟨w.heap.size,1,0,0,true,0⟩:OG)])[σ.length]? = some (some ⟨w.heap.size,1,0,0,true,0⟩):=by rw [← hi.len];simp
 refine ⟨_,.map (some w.heap.size),w.alloc (.map #[] 0),{ G with own:=G.own++[some ⟨w.heap.size,1,0,0,true,0⟩] },?_,.inl rfl,⟨fun _ _ h=>h,rfl,rfl,rfl⟩,hle,?_,?_⟩
 ·simp only [execOp,ho]
  rfl
 ·refine hi.push (.mp P k []) _ (by simp) (fun b hb=>heap_alloc_old w _ hb) (fun _=>rfl) rfl rfl rfl ?_
  exact ⟨_,hlast,rfl,rfl,rfl,.map [],World.ownsMap_made w P k _,fun kl=>by simp [lk,DataW.atKey]⟩
 ·exact ⟨rfl,_,hlast,fun o e _=>by simp only [sJ] at e;subst e;rfl⟩
theorem Cm{G:Gh}{w:World}{b:Nat}{k:TypeId}{m:List (Lit×CV)}{v:Value}(hi:Inv G σ w)(hσ:σ[b]? = some (.mp P k m))(hr:bg G (.c (.optr b 0)) v):∃ o,G.own[b]? = some (some o)∧o.has=true∧o.ver=0∧o.sz=1∧Dl G.H w P k m o.blk∧v=.map (some o.blk):=by
 obtain ⟨o,h1,h2,h3,h4,h5⟩:=hi.own b _ hσ
 obtain ⟨_,oo,q1,q2⟩:=hr
 rw [h1] at q1
 simp only [sJ] at q1
 exact ⟨o,h1,h2,h3,h4,h5,(q2 o q1.symm h3).trans (iN (by omega))⟩
end
end Pam
namespace Pam
open Go
section
variable {P:Program} {E:Env} {σ:List OB}
theorem rR{o:Oper}{t k e:TypeId}{m x y:Operand}{M:List (Int×Int)}{b:Nat}{n c:Int}(ho:o.op=.insert t m x y)(hm:ev E m=⟨true,.c (.optr b 0)⟩)(hx:ev E x=⟨true,.c (.int .i64 n)⟩)(hy:ev E y=⟨true,.c (.int .i64 c)⟩)
  (hσ:σ[b]? = some (.mp P k (M.map mII))) (ht:vD P t k e=true) (hn:-9223372036854775808≤n∧n≤9223372036854775807) (hl:M.length<1000000) :
  oN P E σ o .x (σ.set b (.mp P k (((n,c) :: M).map mII))):=fun G a w hs=>by
 obtain ⟨ht1,hk⟩:=xQ ht
 have hi:=hs.inv
 obtain ⟨og,g1,g2,g3,g4,⟨D,hown,hlk⟩,hv⟩:=Cm hi hσ (sT hs hm)
 have ex:=ez (sT hs hx)
 have ey:=ez (sT hs hy)
 have hkey:=Maps.keyOf_int_mk hk (Hz hn)
 have K:=Maps.int_keyed hk
 have hDm:Maps.IsMap D:=by obtain ⟨es,clock,_,_,_,hD⟩:=hown;exact ⟨_,hD⟩
 obtain ⟨w',hrun,hown',hg⟩:=hown.update (val:=.int .i64 c) (d:=.held (.int .i64 c)) (ps:=[]) K ht1 (by simp [maxLen];omega) hkey rfl
 have hG:({ G with own:=G.own.set b (some og) }:Gh)=G:=by
  have:G.own.set b (some og)=G.own:=by
   apply List.ext_getElem?
   intro k
   by_cases e:b=k
   ·subst e;rw [g1];simp [(List.getElem?_eq_some_iff.1 g1).1]
   ·rw [List.getElem?_set_ne e]
  cases G;simp_all
 refine ⟨.skip,undef,w',G,?_,.inr ⟨rfl,rfl⟩,rk.refl G,bG.refl _,?_,trivial⟩
 ·simp only [execOp,ho,hv,ex,ey,Sem.run_bind,hrun,Result.andThen_ok,Sem.run_pure]
 ·have key:=hi.change (w':=w') b (.mp P k (((n,c) :: M).map mII)) og og g1 (.inl rfl) hg.size (fun q hq hne=>hg.block q hq (fun e=>hne g2 (by simpa using e))) (fun hh'=>.inl ⟨rfl,hh'⟩) hg.os hg.tape hg.output (by
   rw [hG]
   refine ⟨og,g1,g2,g3,g4,D.put (.int .i64 n) (.held (.int .i64 c)),by simpa using hown',fun kl=>?_⟩
   rw [List.map_cons]
   unfold lk mII
   simp only
   by_cases ek:Lit.int .i64 n=kl
   ·rw [iP ek,← ek]
    exact ⟨.int .i64 c,fun z=>Maps.atKey_put_same hDm (K.key hkey) _ z,.int _ _⟩
   ·rw [iN ek]
    have:=hlk kl
    simp only [Maps.atKey_put_other (fun e=>ek e.symm)]
    exact this)
  rw [hG] at key
  exact key
theorem zc{o:Oper}{t k e:TypeId}{m x:Operand}{M:List (Int×Int)}{b:Nat}{n:Int}(ho:o.op=.lookup t m x false)(hm:ev E m=⟨true,.c (.optr b 0)⟩)(hx:ev E x=⟨true,.c (.int .i64 n)⟩)
  (hσ:σ[b]? = some (.mp P k (M.map mII))) (ht:vD P t k e=true) (hz:(P.info? e).map (·.zero)=some (some (.int .i64 0))) (hn:-9223372036854775808≤n∧n≤9223372036854775807) :
  oN P E σ o (.c (.int .i64 ((vC M n).getD 0))) σ:=.quiet fun G a w hs=>by
 obtain ⟨ht1,hk⟩:=xQ ht
 obtain ⟨og,g1,g2,g3,g4,⟨D,⟨es,clock,hb,F,hsz,hD⟩,hlk⟩,hv⟩:=Cm hs.inv hσ (sT hs hm)
 have ex:=ez (sT hs hx)
 have hz':(zeroValue e).run P w=.ok (.int .i64 0) w:=by
  cases hi:P.info? e with
  |none=>rw [hi] at hz;cases hz
  |some q =>
   rw [hi] at hz
   simp only [Option.map_some,sJ] at hz
   exact jd hi hz
 have hkey:=Maps.keyOf_int_mk hk (Hz hn)
 have hl:=hlk (.int .i64 n)
 rw [DS] at hl
 have fin:∀ (val:Value) (c:Int),(Instr.lookup t (.map (some og.blk)) (.int .i64 n) false).run P w=.ok val w→val=.int .i64 c→(vC M n).getD 0=c →
   ∃ vv,(execOp a.eval o).run P w=.ok (.value vv) w∧bg G (.c (.int .i64 ((vC M n).getD 0))) vv:=by
  intro val c hrun h1 h2
  refine ⟨val,?_,?_⟩
  ·simp only [execOp,ho,hv,ex]
   exact oK hrun
  ·rw [h1,h2];exact iY _ _
 rcases Maps.fit_look false (Maps.int_keyed hk) ht1 hz' hb F hkey with ⟨hrun,_,hat⟩|⟨e0,y,_,_,hrun,hRv,hat,_⟩
 ·cases hg:vC M n with
  |none=>rw [← hg];exact fin _ 0 hrun rfl (by rw [hg];rfl)
  |some c =>
   rw [hg] at hl
   obtain ⟨v,h1,_⟩:=hl
   have e1:=h1 (.held (.bool true))
   have e2:=h1 (.held (.bool false))
   rw [hD,hat] at e1 e2
   rw [← e1] at e2
   simp at e2
 ·simp only [sJ] at hRv
  cases hg:vC M n with
  |none =>
   rw [hg] at hl
   have e1:=hl (.lit (.bool true))
   rw [hD,hat,← hRv] at e1
   cases e1
  |some c =>
   rw [hg] at hl
   obtain ⟨v,h1,h2⟩:=hl
   have e1:=h1 (.lit (.bool true))
   rw [hD,hat,← hRv] at e1
   simp only [DataW.held.injEq] at e1
   rw [← hg]
   refine fin _ c hrun ?_ (by rw [hg];rfl)
   rw [e1]
   cases h2
   rfl
end
end Pam
namespace Pam
open Go
section
variable {P:Program} {E:Env} {σ:List OB} {ops:Array Oper} {k:Env→List OB→Prop} {kp:PV→Env→List OB→Prop}
def nsC(ns:List (IntKind×Int)):List CV:=ns.map fun p=>.int p.1 p.2
def zS(P:Program)(T:TypeId):Bool:=match P.underlying T with|some (.interface _)=>false|some _=>true|none=>false
def DV(P:Program)(T:TypeId):Bool:=match P.underlying T with|some (.interface _)=>true|_=>false
theorem Cn{G:Gh}:∀ {ns:List (IntKind×Int)} {vs:List Value},aW (Rep G) (nsC ns) vs→vs=ns.map fun p=>Value.int p.1 p.2
 |[],[],_=>rfl
 |p :: ns,v :: vs,h=>by
  have h1:=ez (G:=G) (k:=p.1) (n:=p.2) h.1
  rw [Cn (ns:=ns) h.2,h1]
  rfl
theorem xa{o:Oper}{T:TypeId}{x:Operand}{ns:List (IntKind×Int)}(ho:o.op=.makeInterface T x)(hx:ev E x=⟨true,.a (nsC ns)⟩)(hT:zS P T=true) :
  oN P E σ o (.c (.ifc T true (nsC ns))) σ:=.quiet fun G a w hs=>by
 obtain ⟨vs,hv,h2⟩:=sT hs hx
 have hvs:=Cn h2
 have hu:∃ d,P.underlying T=some d∧∀ ms,d≠.interface ms:=by
  unfold zS at hT
  cases hd:P.underlying T with
  |none=>simp [hd] at hT
  |some d=>exact ⟨d,rfl,fun ms e=>by subst e;simp [hd] at hT⟩
 obtain ⟨d,hd,hne⟩:=hu
 refine ⟨.iface T (a.eval x),?_,?_⟩
 ·simp only [execOp,ho,Instr.makeInterface,Sem.run_bind,run_underlying hd,Result.andThen_ok]
  cases d<;>first|(exact absurd rfl (hne _))|rfl
 ·rw [hv,hvs]
  exact br.rep (.ifc T ns)
theorem zT{G:Gh}{T:TypeId}{ns:List (IntKind×Int)}{v:Value}(h:bg G (.c (.ifc T true (nsC ns))) v):v=.iface T (.agg (ns.map fun p=>Value.int p.1 p.2).toArray):=by
 have h':br G.H (.ifc T true (nsC ns)) v:=h
 generalize hc:nsC ns=cs at h'
 cases h' with
 |ifc _ ns' =>
  have:ns=ns':=by
   unfold nsC at hc
   clear h
   induction ns generalizing ns' with
   |nil=>cases ns'<;>simp_all
   |cons p ns ih =>
    cases ns' with
    |nil=>simp at hc
    |cons q ns' =>
     simp only [List.map_cons,List.cons.injEq,CV.int.injEq] at hc
     obtain ⟨⟨h1,h2⟩,h3⟩:=hc
     rw [ih _ h3]
     congr 1
     exact Prod.ext h1 h2
  rw [this]
theorem po{o:Oper}{l:List Oper}{x:Operand}{T:TypeId}{ns:List (IntKind×Int)}(ho:o.op=.panic x)(hx:ev E x=⟨true,.c (.ifc T true (nsC ns))⟩)(hg:fm ops E o.guard=some true)
  (h:kp (.c (.ifc T true (nsC ns))) E σ):i6 P ops (o :: l) E σ k kp:=fun G a w hs=>by
 have hw:=pz (P:=P) hs hg
 have hr:=sT hs hx
 have hv:=zT hr
 unfold wpList
 rw [iP hw]
 left
 unfold Oper.wp
 have e1:(execOp a.eval o).run P w=.halt (.panic (.iface T (.agg (ns.map fun p=>Value.int p.1 p.2).toArray))) w:=by
  simp only [execOp,ho,hv,Instr.panic,goPanic]
  rfl
 rw [e1]
 exact ⟨G,E,σ,.panic (.c (.ifc T true (nsC ns))),Gle.refl G,hs,⟨_,rfl,by rw [hv] at hr;exact hr⟩,h⟩
theorem u9{o:Oper}{x:Operand}{X T:TypeId}{ns:List (IntKind×Int)}(cs:List CV)(hcs:nsC ns=cs)(ho:o.op=.typeAssert x X T true)(hx:ev E x=⟨true,.c (.ifc T true (nsC ns))⟩)(hT:zS P T=true) :
  oN P E σ o (.t [.a cs,.c (.bool true)]) σ:=.quiet fun G a w hs=>by
 subst hcs
 have hv:=zT (sT hs hx)
 have hu:∃ d,P.underlying T=some d∧∀ ms,d≠.interface ms:=by
  unfold zS at hT
  cases hd:P.underlying T with
  |none=>simp [hd] at hT
  |some d=>exact ⟨d,rfl,fun ms e=>by subst e;simp [hd] at hT⟩
 obtain ⟨d,hd,hne⟩:=hu
 refine ⟨.tuple #[.agg (ns.map fun p=>Value.int p.1 p.2).toArray,.bool true],?_,?_⟩
 ·simp only [execOp,ho,hv,Instr.typeAssert,Sem.run_bind,run_underlying hd,Result.andThen_ok]
  cases d<;>first|(exact absurd rfl (hne _))|(simp;done)|(simp;rfl)
 ·refine ⟨[_,_],rfl,⟨_,rfl,?_⟩,br.rep (.bool true),trivial⟩
  clear hx hv
  unfold nsC
  induction ns with
  |nil=>trivial
  |cons p ns ih=>exact ⟨br.rep (.int p.1 p.2),ih⟩
theorem wi{o:Oper}{op:BinOp}{T T' S:TypeId}{x:Operand}{ns:List (IntKind×Int)}(ho:o.op=.binOp op T x (.const .nilIface) T')(hop:op=.eql∨op=.neq)
  (hx:ev E x=⟨true,.c (.ifc S true (nsC ns))⟩) (hT:DV P T=true):oN P E σ o (.c (.bool (match op with|.eql=>false|_=>true))) σ:=.quiet fun G a w hs=>by
 have hu:∃ ms,P.underlying T=some (.interface ms):=by
  unfold DV at hT
  cases hu:P.underlying T with
  |none=>simp [hu] at hT
  |some d=>cases d<;>simp [hu] at hT;simp
 obtain ⟨ms,hu⟩:=hu
 have hv:=zT (sT hs hx)
 have hc:a.eval (.const .nilIface)=.nilIface:=rfl
 have q0:∀ op S v,(eqGuard op T x (.const .nilIface) (.iface S v) .nilIface).run P w=.ok () w:=fun op S v=>by
  cases op<;>simp [eqGuard]
 have q1:∀ (d:Nat) (t:TypeId) (v:Value),(Op.equalIn (d+1) T (.iface t v) .nilIface).run P w=.ok false w:=fun d t v=>by
  simp [Op.equalIn,run_underlying hu]
 rcases hop with rfl|rfl
 ·refine ⟨.bool false,?_,qb _⟩
  simp only [execOp,ho,hv,hc,Sem.run_bind,q0,Result.andThen_ok]
  simp [binOp,Op.equal,Op.maxDepth,q1 9999]
 ·refine ⟨.bool true,?_,qb _⟩
  simp only [execOp,ho,hv,hc,Sem.run_bind,q0,Result.andThen_ok]
  simp [binOp,Op.equal,Op.maxDepth,q1 9999]
end
end Pam
namespace Pam
open Go
structure Clo (P:Program) (cf:FuncId) (z:Code) (nz r5 r2:Nat):Prop where
 hf:∃ (fz:Func) (j0:Nat) (rc sa:Oper) (cl:Call),P.funcs[cf]? = some fz∧fz.body=some (.seq (.region j0 [rc,sa].toArray false) z)∧fz.ntmps=nz∧fz.results.toList=[]∧(fz.name == "runtime.NumGoroutine")=false ∧
  rc.op=.call cl∧cl.callee=.builtin .recover∧cl.args=#[]∧rc.dst=some r5∧rc.guard=none∧sa.op=.assign (.tmp r5)∧sa.dst=some r2∧sa.guard=none
 n5:r5<nz
 n2:r2<nz
 g5:2≤r5
 g2:2≤r2
 ne:r5≠r2
theorem re{o:Oper}(h:o.guard=none)(ops:Array Oper)(t:Array Value):Region.wanted o (yielded ops t)=true:=by
 unfold Region.wanted;rw [h]
def KG(K:Kt):Kt:=fun x E σ=>∃ E1 σ1,lE E σ E1 σ1∧K x E1 σ1
theorem zb{P:Program}{cf:FuncId}{z:Code}{nz r5 r2:Nat}(c:Clo P cf z nz r5 r2){G:Gh}{σ:List OB}{w:World}{pa pb rp:PV}{va vb rv:Value}{u u2:FrameMode}{KZ:Kt}
  (hrec:∀ (c₀:Frame) (cs:List Frame),c₀.mode=u→recoverD (c₀ :: cs)=some (rv,{ c₀ with mode:=u2 } :: cs)∨(recoverD (c₀ :: cs)=none∧rv=.nilIface∧u2=u))
  (hi:Inv G σ w) (ha:bg G pa va) (hb:bg G pb vb) (hr:bg G rp rv)
  (hKe:∀ i E σ,¬ KZ (.exit i) E σ) (hKp:∀ p E σ,¬ KZ (.panic p) E σ)
  (hz:W P z (KG KZ) (Env.ofList nz σ.length [(r2,rp),(r5,rp),(0,pa),(1,pb)]) σ) :
  CallsD P cf #[va,vb] u w fun e u' w'=>∃ r G' E' σ',e=.returned r∧u'=u2∧Gle G G'∧bG G.own G'.own∧Inv G' σ' w'∧(KZ .normal E' σ'∨KZ .ret E' σ'):=by
 obtain ⟨fz,j0,rc,sa,cl,hf,hbd,hnt,hrs,hname,q1,q2,q3,q4,q5,q6,q7,q8⟩:=c.hf
 have c5:=c.n5
 have c2:=c.n2
 have d5:=c.g5
 have d2:=c.g2
 have dn:=c.ne
 refine callsD_of_wpS hf hbd fun c₀ cs hm=>?_
 refine wpS_seq ?_
 refine wpS_region ?_
 have tm0:∀ (k:Nat) (v:Value),(#[va,vb]:Array Value)[k]? = some v→((#[va,vb]++Array.replicate (fz.ntmps - 2) undef:Array Value)).getD k undef=v:=fun k v h=>by
  rw [Array.getD_eq_getD_getElem?,Array.getElem?_append_left (Array.getElem?_eq_some_iff.1 h).1,h];rfl
 have hsz:((#[va,vb]++Array.replicate (fz.ntmps - 2) undef:Array Value)).size=nz:=by simp;omega
 generalize hT0:(#[va,vb]++Array.replicate (fz.ntmps - 2) undef:Array Value)=T0 at tm0 hsz
 have hiz:Inv ({ G with w0:={ G.w0 with ds:=[] },na:=σ.length }:Gh) σ w:=⟨hi.hH,hi.hF,hi.HF,hi.len,fun b ob h=>by
   have:=hi.own b ob h
   cases ob with
   |dead=>exact this
   |box cs =>
    obtain ⟨o,c,T,h1,h2,h3,h4,h5⟩:=this
    exact ⟨o,c,T,h1,h2,h3,h4,h5.mono fun _ _ h=>Rep.mono (G:=G) (fun _ _ h=>h) (bG.refl _) h⟩
   |mp=>exact this
   |arr=>exact this,hi.inj,hi.sep,hi.os,hi.tape,hi.output,hi.grow⟩
 have hRz:∀ p v,bg G p v→bg ({ G with w0:={ G.w0 with ds:=[] },na:=σ.length }:Gh) p v:=fun p v h=>bg.mono (G:=G) (fun _ _ h=>h) (bG.refl _) h
 have hsim:Sim ({ G with w0:={ G.w0 with ds:=[] },na:=σ.length }:Gh) (Env.ofList nz σ.length [(r2,rp),(r5,rp),(0,pa),(1,pb)]) σ { tmps:=(T0.setIfInBounds r5 rv).setIfInBounds r2 rv,defers:=[] } w:=by
  refine ⟨hiz,rfl,by rw [(mM _ _ _).1];simpa using hsz,by rw [(mM _ _ _).2],fun i hc=>?_⟩
  obtain ⟨p,h1,h2⟩:=qq.sim _ i hc
  rw [h2]
  have g:∀ k,((T0.setIfInBounds r5 rv).setIfInBounds r2 rv).getD k undef=if k=r2∨k=r5 then rv else T0.getD k undef:=fun k=>by
   simp only [Array.getD_eq_getD_getElem?,Array.getElem?_setIfInBounds,Array.size_setIfInBounds,hsz]
   by_cases e2:r2=k
   ·subst e2;simp [c2]
   ·by_cases e5:r5=k
    ·subst e5;simp [e2,c5]
    ·simp [e2,e5,Ne.symm e2,Ne.symm e5]
  show bg _ p (((T0.setIfInBounds r5 rv).setIfInBounds r2 rv).getD i undef)
  rw [g]
  simp only [List.mem_cons,Prod.mk.injEq,List.not_mem_nil,or_false] at h1
  rcases h1 with ⟨rfl,rfl⟩|⟨rfl,rfl⟩|⟨rfl,rfl⟩|⟨rfl,rfl⟩
  ·rw [iP (.inl rfl)];exact hRz _ _ hr
  ·rw [iP (.inr rfl)];exact hRz _ _ hr
  ·rw [iN (by omega),tm0 0 va rfl];exact hRz _ _ ha
  ·rw [iN (by omega),tm0 1 vb rfl];exact hRz _ _ hb
 have hwp:=hz _ _ w hsim
 have rest:z.wpS P (bodyPostS P fz c₀ cs fun e u' w'=>∃ r G' E' σ',e=.returned r∧u'=u2∧Gle G G'∧bG G.own G'.own∧Inv G' σ' w'∧(KZ .normal E' σ'∨KZ .ret E' σ')) { tmps:=(T0.setIfInBounds r5 rv).setIfInBounds r2 rv,defers:=[] } ({ c₀ with mode:=u2 } :: cs) w:=by
  refine wpS_of_wp (Code.wp_mono (fun e a w' hp=>?_) hwp)
  obtain ⟨G0,E0,σ0,x,h1,h2,h3,E1,σ1,hgh,h4⟩:=hp
  obtain ⟨G1,hg1,h2⟩:=hgh _ _ _ h2
  have h1:=h1.trans hg1
  have fin:(KZ .normal E1 σ1∨KZ .ret E1 σ1)→a.defers=[]∧∃ u',({ c₀ with mode:=u2 } :: cs:List Frame)={ c₀ with mode:=u' } :: cs∧∃ v,(results fz a.tmps).run P w'=.ok v w' ∧
    ∃ r G' E' σ',(Ending.returned v)=.returned r∧u'=u2∧Gle G G'∧bG G.own G'.own∧Inv G' σ' w'∧(KZ .normal E' σ'∨KZ .ret E' σ'):=fun hk=>by
   obtain ⟨v,k1,_⟩:=sv h2 hrs (C:=True) (ps:=[]) rfl trivial rfl
   have hlen:∀ b oo,G.own[b]? = some oo→b<σ.length:=fun b oo h=>by rw [← hi.len];exact (List.getElem?_eq_some_iff.1 h).1
   have hol:bG G.own G1.own:=fun b oo h=>h1.own b oo (hlen b oo h) h
   refine ⟨h2.defers.trans (by rw [h1.le.w0]),u2,rfl,v,k1,v,{ G1 with w0:=G.w0,na:=G.na },E1,σ1,rfl,rfl,⟨⟨h1.le.H,h1.le.F,rfl,rfl⟩,.of_le hol⟩,hol,?_,hk⟩
   have hw:G1.w0.toWorld=G.w0.toWorld:=by rw [h1.le.w0]
   have h5:=h2.inv
   refine ⟨h5.hH,h5.hF,h5.HF,h5.len,fun b ob h=>?_,h5.inj,h5.sep,by show w'.os=G.w0.toWorld.os;rw [← hw];exact h5.os,by show w'.tape=G.w0.toWorld.tape;rw [← hw];exact h5.tape,by show w'.output=G.w0.toWorld.output;rw [← hw];exact h5.output,by show G.w0.toWorld.heap.size≤_;rw [← hw];exact h5.grow⟩
   have:=h5.own b ob h
   cases ob with
   |dead=>exact this
   |box cs =>
    obtain ⟨o,c,T,j1,j2,j3,j4,j5⟩:=this
    exact ⟨o,c,T,j1,j2,j3,j4,j5.mono fun _ _ h=>Rep.mono (G:=G1) (fun _ _ h=>h) (bG.refl _) h⟩
   |mp=>exact this
   |arr=>exact this
  cases x with
  |normal=>cases h3;exact fin (.inl h4)
  |ret=>cases h3;exact fin (.inr h4)
  |exit i=>exact (hKe _ _ _ h4).elim
  |panic p=>exact (hKp _ _ _ h4).elim
 have hT5:(T0.setIfInBounds r5 rv).getD r5 undef=rv:=by
  simp [Array.getD_eq_getD_getElem?,hsz,c5]
 have e0:∀ a:Act,(execOp a.eval rc).run P w=.ok .recover w:=fun a=>by
  simp [execOp,q1,resolve,q2,q3,invoke,builtin]
 have e1:∀ a:Act,(execOp a.eval sa).run P w=.ok (.value (a.tmps.getD r5 undef)) w:=fun a=>by
  simp only [execOp,q6];rfl
 show wpOpsS P [rc,sa].toArray _ [0,1] _ _ _
 simp only [wpOpsS,List.getElem?_toArray,List.getElem?_cons_zero,List.getElem?_cons_succ,re q5,re q8,if_true,e0,e1,q4,q7]
 rcases hrec c₀ cs hm with h|⟨h,rfl,rfl⟩
 ·rw [h]
  simp only [Oper.upon,q7,Act.put,hT5]
  exact rest
 ·rw [h]
  simp only [Oper.upon,q7,Act.put,hT5]
  have hcc:({ c₀ with mode:=u2 }:Frame)=c₀:=by rw [← hm]
  rw [hcc] at rest
  exact rest
def KS(σ0:List OB):Kt
 |.normal,_,σ'=>σ'=σ0
 |.ret,_,σ'=>σ'=σ0
 |.exit _,_,_=>False
 |.panic _,_,_=>False
def KZ(P:Program)(rs:List ResultVar)(post:PV→List OB→Prop)(E0:Env):Kt
 |.normal,_,σ'=>(match im P E0 σ' rs with|some (C,ps)=>C∧ps.all PV.isV=true∧post (gn ps) σ'|none=>False)
 |.ret,_,σ'=>(match im P E0 σ' rs with|some (C,ps)=>C∧ps.all PV.isV=true∧post (gn ps) σ'|none=>False)
 |.exit _,_,_=>False
 |.panic _,_,_=>False
theorem AK{G G':Gh}{n b off:Nat}{v:Value}(h:bg G (.c (.optr b off)) v)(ho:oV n G.own G'.own)(hb:b<n):bg G' (.c (.optr b off)) v:=by
 obtain ⟨h1,oo,h2,h3⟩:gm G (.optr b off) v:=h
 obtain ⟨oo',q1,q2⟩:=ho b oo hb h2
 refine (show gm G' (.optr b off) v from ⟨h1,oo',q1,fun o' e hv=>?_⟩)
 obtain ⟨o,e2,e3⟩:=q2 o' e
 rcases e3 with rfl|e3
 ·exact h3 _ e2 hv
 ·omega
theorem Clo.invoke{P:Program}{cf:FuncId}{z:Code}{nz r5 r2:Nat}(c:Clo P cf z nz r5 r2)(cap:Array Value)(w:World):(Go.invoke (.fn (.func cf) cap) #[]).run P w=.ok (.enter cf cap) w:=by
 obtain ⟨fz,j0,rc,sa,cl,hf,hbd,hnt,hrs,hname,_⟩:=c.hf
 have k2':¬ fz.body=none:=by rw [hbd];simp
 have k3':¬ fz.name = "runtime.NumGoroutine":=by simpa using hname
 simp [Go.invoke,callFunc,hf,k2',k3']
theorem Gs{K:Kt}{x:PX}{E E1:Env}{σ σ1:List OB}(hg:lE E σ E1 σ1)(h:KG K x E1 σ1):KG K x E σ:=by
 obtain ⟨E2,σ2,g,k⟩:=h
 exact ⟨E2,σ2,hg.trans g,k⟩
theorem Co{K:Kt}{x:PX}{E:Env}{σ:List OB}(h:K x E σ):KG K x E σ:=⟨E,σ,lE.refl E σ,h⟩
theorem BF{P:Program}{rs:List ResultVar}{post:PV→List OB→Prop}{E0 E:Env}{σ:List OB}(h:qr P rs post (fun _ _=>False) .normal E0 σ):KZ P rs post E0 .normal E σ:=h
end Pam
namespace Pam
open Go
def KN2(P:Program)(rs:List ResultVar)(post:PV→List OB→Prop)(D:Env→List OB→Prop):Kt
 |.normal,E,σ=>D E σ
 |.ret,E,σ=>(match im P E σ rs with|some (C,ps)=>C∧ps.all PV.isV=true∧post (gn ps) σ|none=>False)
 |.exit _,_,_=>False
 |.panic _,_,_=>False
def Pfx(P:Program)(rs:List ResultVar)(post:PV→List OB→Prop)(D:Env→List OB→Prop):List Code→Env→List OB→Prop
 |[],E,σ=>D E σ
 |c :: cs,E,σ=>W P c (KN2 P rs post (Pfx P rs post D cs)) E σ
def pfx(T:Code):List Code→Code
 |[]=>T
 |c :: cs=>.seq c (pfx T cs)
def KD2(P:Program)(z:Code)(nz r5 r2:Nat)(rs:List ResultVar)(post:PV→List OB→Prop)(ba bb:Nat):Kt
 |.normal,E,σ=>(match im P E σ rs with|some (C,ps)=>C∧ps.all PV.isV=true∧post (gn ps) σ|none=>False)
 |.ret,E,σ=>(match im P E σ rs with|some (C,ps)=>C∧ps.all PV.isV=true∧post (gn ps) σ|none=>False)
 |.exit _,_,_=>False
 |.panic p,E,σ=>∃ (E1:Env) (σ1:List OB),lE E σ E1 σ1∧∃ (l:List (Nat×PV)) (τ:List OB) (T:TypeId) (ns:List (IntKind×Int)),p=.c (.ifc T true (nsC ns))∧FC E1 σ1 l τ ∧
   W P z (KG (KZ P rs post (Env.ofList E1.n E1.na l))) (Env.ofList nz τ.length [(r2,p),(r5,p),(0,.c (.optr ba 0)),(1,.c (.optr bb 0))]) τ
theorem E6{P:Program}{z:Code}{nz r5 r2:Nat}{rs:List ResultVar}{post:PV→List OB→Prop}{ba bb:Nat}{E:Env}{σ:List OB}(h:qr P rs post (fun _ _=>False) .ret E σ):KD2 P z nz r5 r2 rs post ba bb .ret E σ:=h
theorem AL{P:Program}{f:FuncId}{fn:Func}{i1:Nat}{mf df:Oper}{y z:Code}{cf:FuncId}{nz r5 r2:Nat}{args:List PV}{σ:List OB}{post:PV→List OB→Prop}(n:Nat)(rs:List ResultVar)(ta tb t:Nat)(dc:Call)
  (hf:P.funcs[f]? = some fn) (cs:List Code) (hb:fn.body=some (pfx (.seq (.region i1 [mf,df].toArray false) y) cs)) (hn:fn.ntmps=n) (hr:fn.results.toList=rs)
  (hname:(fn.name == "runtime.NumGoroutine")=false) (hlen:args.length≤n)
  (m1:mf.op=.makeFunc (.func cf) #[] #[.tmp ta,.tmp tb]) (m2:mf.dst=some t) (m3:mf.guard=none)
  (d1:df.op=.defer dc) (d2:dc.callee=.value (.tmp t)) (d3:dc.args=#[]) (d4:df.dst=none) (d5:df.guard=none)
  (c:Clo P cf z nz r5 r2) (hret:∀ σ',W P z (KG (KS σ')) (Env.ofList nz σ'.length [(r2,.c .nili),(r5,.c .nili),(0,.x),(1,.x)]) σ')
  (h0 : Pfx P rs post (fun E σ1 => ∃ ba bb, E.get ta = ⟨true, .c (.optr ba 0)⟩ ∧ E.get tb = ⟨true, .c (.optr bb 0)⟩ ∧ ba < σ1.length ∧ bb < σ1.length ∧ t < E.n ∧
   W P y (KD2 P z nz r5 r2 rs post ba bb) { E.put t ⟨true,.x⟩ with na:=σ1.length } σ1) cs (Env.ofList n σ.length (j9 0 args)) σ) :
  cT P f args σ post (fun _ _=>False):=by
 refine ⟨⟨fn,hf,by rw [hb];rfl,hname⟩,fun G w vs hna hds hi hargs=>?_⟩
 have hl:=hargs.length
 refine calls_of_wp_defers hf hb ?_
 have hs:Sim G (Env.ofList n σ.length (j9 0 args)) σ { tmps:=vs.toArray++Array.replicate (fn.ntmps - vs.toArray.size) undef,defers:=[] } w:=by
  refine ⟨hi,hds.symm,by rw [(mM _ _ _).1,hn];simp;omega,by rw [(mM _ _ _).2];exact hna,fun i hc=>?_⟩
  obtain ⟨p,h1,h2⟩:=qq.sim _ i hc
  rw [h2]
  obtain ⟨_,h3⟩:=su args 0 i p h1
  simp only [Nat.sub_zero] at h3
  obtain ⟨v,hv,hrep⟩:=hargs.get i p h3
  have hlt:i<vs.length:=(List.getElem?_eq_some_iff.1 hv).1
  have:(vs.toArray++Array.replicate (fn.ntmps - vs.toArray.size) undef).getD i undef=v:=by
   rw [Array.getD_eq_getD_getElem?,Array.getElem?_append_left (by simpa using hlt)]
   simp [hv]
  simp only [this]
  exact hrep
 suffices key:∀ (cs:List Code) (G1:Gh) (E1:Env) (σ1:List OB) (a1:Act) (w1:World),Gle G G1→Sim G1 E1 σ1 a1 w1→Pfx P rs post (fun E σ1=>∃ ba bb,E.get ta=⟨true,.c (.optr ba 0)⟩∧E.get tb=⟨true,.c (.optr bb 0)⟩∧ba<σ1.length∧bb<σ1.length∧t<E.n ∧
   W P y (KD2 P z nz r5 r2 rs post ba bb) { E.put t ⟨true,.x⟩ with na:=σ1.length } σ1) cs E1 σ1 →
   (pfx (.seq (.region i1 [mf,df].toArray false) y) cs).wp P (bodyPostD P fn (fun e w'=>∃ G' σ' p v,Gle G G'∧Inv G' σ' w'∧bg G' p v∧((e=.returned v∧post p σ')∨(e=.panicked [{ v:=v,recovered:=false }]∧False)))) a1 w1 from key cs G _ σ _ w (Gle.refl G) hs h0
 intro cs
 induction cs with
 |cons c1 cs ih =>
  intro G1 E1 σ1 a1 w1 p1 p2 p4
  have p4':W P c1 (KN2 P rs post (Pfx P rs post _ cs)) E1 σ1:=p4
  refine wp_seq (Code.wp_mono (fun e a2 w2 hp=>?_) (p4' G1 _ w1 p2))
  obtain ⟨G2,E2,σ2,x,q1,q2,q3,q4⟩:=hp
  have p1':=p1.trans q1
  cases x with
  |normal=>cases q3;exact ih G2 E2 σ2 a2 w2 p1' q2 q4
  |exit i=>exact q4.elim
  |panic p=>exact q4.elim
  |ret =>
   cases q3
   have hads:a2.defers=[]:=q2.defers.trans (by rw [p1'.le.w0];exact hds)
   have q4':(match im P E2 σ2 rs with|some (C,ps)=>C∧ps.all PV.isV=true∧post (gn ps) σ2|none=>False):=q4
   show Leaves P fn a2.tmps _ a2.defers .returning w2
   rw [hads]
   split at q4'
   ·rename_i C ps hres
    obtain ⟨hC,hv,hpost⟩:=q4'
    obtain ⟨v,k1,k2⟩:=sv q2 hr hres hC hv
    exact ⟨v,k1,G2,σ2,gn ps,v,p1',q2.inv,k2,.inl ⟨rfl,hpost⟩⟩
   ·exact q4'.elim
 |nil =>
 intro G1 E1 σ1 a1 w1 p1 p2 p4
 change ∃ ba bb,_ at p4
 obtain ⟨ba,bb,ea,eb,hba,hbb,ht,hy⟩:=p4
 refine wp_seq (wp_region ?_)
 have hads:a1.defers=[]:=p2.defers.trans (by rw [p1.le.w0];exact hds)
 obtain ⟨va,hva⟩:∃ va,va=a1.tmps.getD ta undef:=⟨_,rfl⟩
 obtain ⟨vb,hvb⟩:∃ vb,vb=a1.tmps.getD tb undef:=⟨_,rfl⟩
 have ra:bg G1 (.c (.optr ba 0)) va:=by have:=p2.slot ta (by rw [ea]);rw [ea] at this;rw [hva];exact this
 have rb:bg G1 (.c (.optr bb 0)) vb:=by have:=p2.slot tb (by rw [eb]);rw [eb] at this;rw [hvb];exact this
 have e0:(execOp a1.eval mf).run P w1=.ok (.value (.func (.func cf) #[] #[va,vb])) w1:=by
  simp [execOp,m1,Instr.makeFunc,hva,hvb,Act.eval]
 have hts:t<a1.tmps.size:=by rw [p2.size];exact ht
 have e1:(execOp ({ a1 with tmps:=a1.tmps.setIfInBounds t (.func (.func cf) #[] #[va,vb]) }:Act).eval df).run P w1=.ok (.defer { target:=.fn (.func cf) #[va,vb],args:=#[] }) w1:=by
  have:({ a1 with tmps:=a1.tmps.setIfInBounds t (.func (.func cf) #[] #[va,vb]) }:Act).eval (.tmp t)=.func (.func cf) #[] #[va,vb]:=by
   simp [Act.eval,Array.getD_eq_getD_getElem?,hts]
  simp [execOp,d1,resolve,d2,d3,this,Deferred.ofValue]
 show wpOps P [mf,df].toArray _ [0,1] a1 w1
 simp only [wpOps,List.getElem?_toArray,List.getElem?_cons_zero,List.getElem?_cons_succ,re m3,re d5,if_true,Oper.wp,e0,Oper.upon,m2,Act.put,e1,d4]
 left
 left
 have hlen1:G1.own.length=σ1.length:=p2.inv.len
 have h2:Sim ({ G1 with w0:={ G1.w0 with ds:=[{ target:=.fn (.func cf) #[va,vb],args:=#[] }] },na:=σ1.length }:Gh) { E1.put t ⟨true,.x⟩ with na:=σ1.length } σ1
   { tmps:=a1.tmps.setIfInBounds t (.func (.func cf) #[] #[va,vb]),defers:={ target:=.fn (.func cf) #[va,vb],args:=#[] } :: a1.defers } w1:=by
  have q:=p2.put t ht ⟨true,.x⟩ (.func (.func cf) #[] #[va,vb]) fun _=>trivial
  have qi:=p2.inv
  refine ⟨⟨qi.hH,qi.hF,qi.HF,qi.len,fun b ob h=>?_,qi.inj,qi.sep,qi.os,qi.tape,qi.output,qi.grow⟩,by rw [hads],by have:=q.size;simpa [Act.put] using this,rfl,fun i hc=>?_⟩
  ·have:=qi.own b ob h
   cases ob with
   |dead=>exact this
   |box cs =>
    obtain ⟨o,c,T,j1,j2,j3,j4,j5⟩:=this
    exact ⟨o,c,T,j1,j2,j3,j4,j5.mono fun _ _ h=>Rep.mono (G:=G1) (fun _ _ h=>h) (bG.refl _) h⟩
   |mp=>exact this
   |arr=>exact this
  ·exact bg.mono (G:=G1) (fun _ _ h=>h) (bG.refl _) (q.slot i hc)
 refine Code.wp_mono (fun e a w' hp=>?_) (hy _ _ w1 h2)
 obtain ⟨G3,E3,σ3,x,r1,r2',r3,r4⟩:=hp
 have hd3:a.defers=[{ target:=.fn (.func cf) #[va,vb],args:=#[] }]:=r2'.defers.trans (by rw [r1.le.w0])
 have fin:∀ (G3:Gh) (E3:Env) (σ3:List OB),Gle ({ G1 with w0:={ G1.w0 with ds:=[{ target:=.fn (.func cf) #[va,vb],args:=#[] }] },na:=σ1.length }:Gh) G3→Sim G3 E3 σ3 a w'→∀ (G4:Gh) (σ4:List OB) (w4:World) (C:Prop) (ps:List PV),Gle G3 G4→bG G3.own G4.own→Inv G4 σ4 w4→im P E3 σ4 rs=some (C,ps)→C→ps.all PV.isV=true→post (gn ps) σ4 →
   Leaves P fn a.tmps (fun e w'=>∃ G' σ' p v,Gle G G'∧Inv G' σ' w'∧bg G' p v∧((e=.returned v∧post p σ')∨(e=.panicked [{ v:=v,recovered:=false }]∧False))) [] .returning w4:=by
  intro G3 E3 σ3 r1 r2' G4 σ4 w4 C ps t1 t2 t3 t4 t5 t6 t7
  have hs4:Sim G4 E3 σ4 a w4:=r2'.ghost t3 t1.le.H t1.le.w0 t1.le.na t2
  obtain ⟨v,k1,k2⟩:=sv hs4 hr t4 t5 t6
  refine ⟨v,k1,{ G4 with w0:=G.w0,na:=G.na },σ4,gn ps,v,⟨⟨fun b o h=>t1.le.H _ _ (r1.le.H _ _ (p1.le.H _ _ h)),?_,rfl,rfl⟩,?_⟩,?_,bg.mono (G:=G4) (fun _ _ h=>h) (bG.refl _) k2,.inl ⟨rfl,t7⟩⟩
  ·exact t1.le.F.trans (r1.le.F.trans p1.le.F)
  ·intro b oo hbn hbo
   obtain ⟨o1,u1,u2⟩:=p1.own b oo hbn hbo
   have hb1:b<σ1.length:=by rw [← hlen1];exact (List.getElem?_eq_some_iff.1 u1).1
   obtain ⟨o3,u3,u4⟩:=r1.own b o1 hb1 u1
   obtain ⟨o4,u5,u6⟩:=t2 b o3 u3
   refine ⟨o4,u5,fun o' eo=>?_⟩
   obtain ⟨oa,w1',w2'⟩:=u6 o' eo
   obtain ⟨ob,w3',w4'⟩:=u4 oa w1'
   obtain ⟨oc,w5',w6'⟩:=u2 ob w3'
   refine ⟨oc,w5',?_⟩
   rcases w2' with rfl|w2'<;>rcases w4' with rfl|w4'<;>rcases w6' with rfl|w6'
   ·exact .inl rfl
   all_goals first|exact .inr (by omega)|exact .inr w6'|exact .inr w4'|exact .inr w2'
  ·have hw:G4.w0.toWorld=G.w0.toWorld:=by
    rw [t1.le.w0,r1.le.w0]
    show G1.w0.toWorld=G.w0.toWorld
    rw [p1.le.w0]
   have h5:=t3
   refine ⟨h5.hH,h5.hF,h5.HF,h5.len,fun b ob h=>?_,h5.inj,h5.sep,by show w4.os=G.w0.toWorld.os;rw [← hw];exact h5.os,by show w4.tape=G.w0.toWorld.tape;rw [← hw];exact h5.tape,by show w4.output=G.w0.toWorld.output;rw [← hw];exact h5.output,by show G.w0.toWorld.heap.size≤_;rw [← hw];exact h5.grow⟩
   have:=h5.own b ob h
   cases ob with
   |dead=>exact this
   |box cs =>
    obtain ⟨o,c,T,j1,j2,j3,j4,j5⟩:=this
    exact ⟨o,c,T,j1,j2,j3,j4,j5.mono fun _ _ h=>Rep.mono (G:=G4) (fun _ _ h=>h) (bG.refl _) h⟩
   |mp=>exact this
   |arr=>exact this
 have normal:(match im P E3 σ3 rs with|some (C,ps)=>C∧ps.all PV.isV=true∧post (gn ps) σ3|none=>False) →
   Leaves P fn a.tmps (fun e w'=>∃ G' σ' p v,Gle G G'∧Inv G' σ' w'∧bg G' p v∧((e=.returned v∧post p σ')∨(e=.panicked [{ v:=v,recovered:=false }]∧False))) a.defers .returning w':=by
  intro hk
  split at hk
  ·rename_i C ps hres
   obtain ⟨hC,hv,hpost⟩:=hk
   rw [hd3]
   refine leaves_cons (by intro h;cases h) (c.invoke _ _) (CallsD.mono (zb c (u:=.returning) (u2:=.returning) (rv:=.nilIface) (rp:=.c .nili) (pa:=.x) (pb:=.x) (KZ:=KS σ3)
    (fun c₀ cs h=>.inr ⟨by simp [recoverD,h],rfl,rfl⟩) r2'.inv trivial trivial (br.rep .nili) (fun _ _ _ h=>h) (fun _ _ _ h=>h) (hret σ3)) fun e u' w4 hq=>?_)
   obtain ⟨r,G4,E4,σ4,rfl,rfl,t1,t2,t3,t4⟩:=hq
   have:σ4=σ3:=by rcases t4 with h|h<;>exact h
   subst this
   exact fin G3 E3 _ r1 r2' G4 _ w4 C ps t1 t2 t3 hres hC hv hpost
  ·exact hk.elim
 cases x with
 |normal=>cases r3;exact normal r4
 |ret=>cases r3;exact normal r4
 |exit i=>exact r4.elim
 |panic p =>
  obtain ⟨v,rfl,hv⟩:=r3
  obtain ⟨E9,σ9,hgh,l,τ,T,ns,rfl,hless,hz⟩:=r4
  obtain ⟨G3x,gx,r2x⟩:=hgh _ _ _ r2'
  have hv':=zT hv
  obtain ⟨G3',q1,q2⟩:=hless.sim r2x
  have hle3:=(r1.trans gx).trans q1
  have ra3:bg G3' (.c (.optr ba 0)) va:=AK (G:={ G1 with w0:={ G1.w0 with ds:=[{ target:=.fn (.func cf) #[va,vb],args:=#[] }] },na:=σ1.length }) (bg.mono (G:=G1) (fun _ _ h=>h) (bG.refl _) ra) hle3.own hba
  have rb3:bg G3' (.c (.optr bb 0)) vb:=AK (G:={ G1 with w0:={ G1.w0 with ds:=[{ target:=.fn (.func cf) #[va,vb],args:=#[] }] },na:=σ1.length }) (bg.mono (G:=G1) (fun _ _ h=>h) (bG.refl _) rb) hle3.own hbb
  have hv3:bg G3' (.c (.ifc T true (nsC ns))) v:=by rw [hv'];exact br.rep (.ifc T ns)
  show Leaves P fn a.tmps _ a.defers (.panicking [{ v:=v,recovered:=false }]) w'
  rw [hd3]
  refine leaves_cons (by intro h;cases h) (c.invoke _ _) (CallsD.mono (zb c (u:=.panicking [{ v:=v,recovered:=false }]) (u2:=.panicking [{ v:=v,recovered:=true }]) (rv:=v) (rp:=.c (.ifc T true (nsC ns))) (KZ:=KZ P rs post (Env.ofList E9.n E9.na l))
   (fun c₀ cs h=>.inl (by simp [recoverD,h])) q2.inv ra3 rb3 hv3 (fun _ _ _ h=>h) (fun _ _ _ h=>h) hz) fun e u' w4 hq=>?_)
  obtain ⟨r,G4,E4,σ4,rfl,rfl,t1,t2,t3,t4⟩:=hq
  have t5:(match im P (Env.ofList E9.n E9.na l) σ4 rs with|some (C,ps)=>C∧ps.all PV.isV=true∧post (gn ps) σ4|none=>False):=by rcases t4 with h|h<;>exact h
  split at t5
  ·rename_i C ps hres
   exact fin G3' _ τ hle3 q2 G4 _ w4 C ps t1 t2 t3 hres t5.1 t5.2.1 t5.2.2
  ·exact t5.elim
theorem HA{P:Program}{rs:List ResultVar}{post:PV→List OB→Prop}{D:Env→List OB→Prop}{E:Env}{σ:List OB}(h:qr P rs post (fun _ _=>False) .ret E σ):KN2 P rs post D .ret E σ:=h
theorem DW{P:Program}{rs:List ResultVar}{post:PV→List OB→Prop}{D:Env→List OB→Prop}{E:Env}{σ:List OB}(h:D E σ):KN2 P rs post D .normal E σ:=h
theorem DX{P:Program}{rs:List ResultVar}{post:PV→List OB→Prop}{D:Env→List OB→Prop}{c:Code}{cs:List Code}{E:Env}{σ:List OB}(h:W P c (KN2 P rs post (Pfx P rs post D cs)) E σ):Pfx P rs post D (c :: cs) E σ:=h
theorem HD{P:Program}{rs:List ResultVar}{post:PV→List OB→Prop}{D:Env→List OB→Prop}{E:Env}{σ:List OB}(h:D E σ):Pfx P rs post D [] E σ:=h
end Pam
namespace Pam
open Go
def Cl(P:Program)(σ:List OB)(f:FuncId)(args:List PV)(kp:PV→List OB→Prop):Prop :=
 ∃ (args':List PV) (σc:List OB) (post pp:PV→List OB→Prop) (ρ:List Nat),cT P f args' σc post pp∧ρ.Nodup∧(∀ b∈ρ,b<σ.length)∧args=args'.map (PV.ren (du σ.length ρ)) ∧
  ρ.map (fun b=>σ[b]?)=σc.map (fun ob=>some (ob.ren (du σ.length ρ)))∧fp ρ.length args'∧bY ρ.length σc ∧
  (∀ q τ,post q τ→False)∧(∀ q τ,pp q τ→ρ.length≤τ.length→kp (q.ren (du σ.length ρ)) (dJ σ ρ (τ.map (OB.ren (du σ.length ρ)))))
theorem BE{P:Program}{G:Gh}{E:Env}{σ:List OB}{a:Act}{w:World}{C:Prop}{f:FuncId}{args:List PV}{kp:PV→List OB→Prop}{K:Act→World→Prop}{Q:Exit→Act→World→Prop}(hsim:Sim G E σ a w)(o:Oper)
  (hrun:cA P true E σ o.op=.call C f args) (hC:C) (hs:Cl P σ f args kp)
  (next:∀ G' σ2 w' q v,Gle G G'→bG G.own G'.own→Inv G' σ2 w'→bg G' q v→kp q σ2→Q (.panic [{ v:=v,recovered:=false }]) a w'):o.wp P a w K Q:=by
 obtain ⟨args',σc,post,pp,ρ,⟨hf,hcall⟩,hnd,hlt,hargs,hσ,hu,hub,hpost,hpp⟩:=hs
 obtain ⟨vs,e1,e2⟩:=ue hsim rfl o hrun hC hf
 have hi:=hsim.inv
 have hlen:σc.length=ρ.length:=by have:=congrArg List.length hσ;simpa using this.symm
 have hσ':∀ (k:Nat) (ob:OB),σc[k]? = some ob→∃ b,ρ[k]? = some b∧σ[b]? = some (ob.ren (du σ.length ρ)):=by
  intro k ob h
  have hk:k<ρ.length:=by rw [← hlen];exact (List.getElem?_eq_some_iff.1 h).1
  have:=congrArg (fun l=>l[k]?) hσ
  simp only [List.getElem?_map,h,Option.map_some,List.getElem?_eq_getElem hk,sJ] at this
  exact ⟨ρ[k],List.getElem?_eq_getElem hk,this⟩
 have hci:=sx hi hnd hlt hlen hσ' hub
 have hown:=oX (w:=w) hi hlt
 rw [hargs] at e2
 have hcv:=hcall (cY G w ρ) w vs (by simp [cY,hlen]) rfl hci (aW.unmapP (G:=G) (G':=cY G w ρ) rfl _ hown hu e2)
 unfold Oper.wp
 rw [e1]
 refine hcv.mono fun e w' hres=>?_
 obtain ⟨G',σ',p,v,h1,h2,h3,h4⟩:=hres
 have hl:ρ.length≤σ'.length:=by
  rw [← h2.len]
  rcases Nat.eq_zero_or_pos ρ.length with e0|e0
  ·omega
  ·have hlast:(cY G w ρ).own[ρ.length - 1]? = some ((cY G w ρ).own[ρ.length - 1]'(by simp [cY];omega)):=List.getElem?_eq_getElem _
   obtain ⟨oo',q1,_⟩:=h1.own _ _ (by simp [cY];omega) hlast
   have:=(List.getElem?_eq_some_iff.1 q1).1
   omega
 obtain ⟨G'',g1,g2,g3,g4⟩:=qT hi hnd hlt h1 h2 hl
 rcases h4 with ⟨rfl,h4⟩|⟨rfl,h4⟩
 ·exact (hpost _ _ h4).elim
 ·exact next G'' _ w' _ v g1 g2 g3 (g4 p v h3) (hpp p σ' h4 hl)
def Hy(P:Program)(σ:List OB)(kp:PV→List OB→Prop):R→Prop
 |.call C f args=>C∧Cl P σ f args kp
 |_=>False
theorem Inv.junk{G:Gh}{σ:List OB}{w:World}(hi:Inv G σ w)(x:Obj):Inv G σ (w.alloc x):=by
 have old:∀ b,b<w.heap.size→(w.alloc x).heap[b]? = w.heap[b]? := fun b hb=>heap_alloc_old w _ hb
 refine ⟨fun b y h=>by rw [old b (dD (hi.hH b y h))];exact hi.hH b y h,fun b y h=>by rw [old b (dD (hi.hF b y h))];exact hi.hF b y h,hi.HF,hi.len,fun b ob h=>(hi.own b ob h).keep (fun _ _ h=>h) (bG.refl _) rfl fun o ho hh=>old _ (rl hi ho hh),hi.inj,hi.sep,hi.os,hi.tape,hi.output,Nat.le_trans hi.grow (by simp)⟩
section
variable {P:Program} {ops:Array Oper}
def DR(P:Program)(n:Nat):List Oper→List Bool→List Bool→Bool
 |[],_,_=>true
 |o :: l,lt,fz=>(fz.headD false || (lt.headD false && o.guard.isNone && (match o.op with|.alloc T=>(mG P T).isSome|_=>false) && (match o.dst with|some d=>decide (d<n)|none=>true))) && DR P n l lt.tail fz.tail
theorem u7:∀ (l:List Oper) (bs lt fz:List Bool) (E:Env) (σ:List OB),DR P E.n l lt fz=true→∃ tr,jl P ops [] l bs [] [] lt fz E σ tr
 |[],_,_,_,_,_,_=>⟨[],rfl⟩
 |o :: l,bs,lt,fz,E,σ,h=>by
  simp only [DR,Bool.and_eq_true,Bool.or_eq_true] at h
  obtain ⟨h1,h2⟩:=h
  cases hf:fz.headD false with
  |true =>
   obtain ⟨tr,k⟩:=u7 l bs.tail lt.tail fz.tail (E.putD o.dst ⟨false,.x⟩) σ (by rw [show (E.putD o.dst ⟨false,.x⟩).n=E.n from by cases o.dst<;>rfl];exact h2)
   exact ⟨⟨true,⟨false,.x⟩,σ⟩ :: tr,_,_,rfl,.inl ⟨hf,rfl,rfl⟩,k⟩
  |false =>
   rw [hf] at h1
   obtain ⟨⟨⟨hl,hg⟩,hop⟩,hd⟩:=h1.resolve_left (by simp)
   obtain ⟨tr,k⟩:=u7 l bs.tail lt.tail fz.tail (E.putD o.dst ⟨true,.x⟩) σ (by rw [show (E.putD o.dst ⟨true,.x⟩).n=E.n from by cases o.dst<;>rfl];exact h2)
   refine ⟨⟨true,⟨true,.x⟩,σ⟩ :: tr,_,_,rfl,.inr ⟨hf,?_,?_,?_⟩,k⟩
   ·have:o.guard=none:=by simpa using hg
    rw [this];rfl
   ·cases hdd:o.dst with
    |none=>trivial
    |some d=>rw [hdd] at hd;exact (show d<E.n from by simpa using hd)
   ·rw [hl]
    refine .inr (.inl ⟨rfl,⟨.x,fun E' _ σ' G a w hs=>?_,rfl⟩,rfl⟩)
    cases hop':o.op with
    |alloc T =>
     rw [hop'] at hop
     obtain ⟨z,hz⟩:=Option.isSome_iff_exists.1 hop
     obtain ⟨inf,u,e1,e2,e3,e4,_,e5⟩:=jM G hz
     have hrun:(execOp a.eval o).run P w=.ok (.value (.pointer (some ⟨w.heap.size,0,none⟩))) (w.alloc (.cells u.cells T)):=by
      simp [execOp,hop',Instr.alloc,jd e1 e2,newVar,newRow]
     exact ⟨_,_,_,G,hrun,.inl rfl,rk.refl G,bG.refl _,hs.inv.junk _,trivial⟩
    |_=>rw [hop'] at hop;cases hop
theorem xP:∀ (n:Nat) (l:List Oper) (bs lt fz:List Bool) (E:Env) (σ:List OB) (tr1:List TS),n≤l.length→lL P ops [] (l.take n) bs [] [] [] E σ tr1 →
  (∀ j,j<n→lt.getD j false=false∧fz.getD j false=false)→DR P E.n (l.drop n) (lt.drop n) (fz.drop n)=true →
  ∃ tr,jl P ops [] l bs [] [] lt fz E σ tr∧cR E l tr n=cR E (l.take n) tr1 n∧bh σ tr n=bh σ tr1 n
 |0,l,bs,lt,fz,E,σ,tr1,_,_,_,hs=>by
  obtain ⟨tr,h⟩:=u7 (P:=P) (ops:=ops) l bs lt fz E σ (by simpa using hs)
  refine ⟨tr,h,?_,?_⟩
  ·cases l<;>cases tr<;>cases tr1<;>rfl
  ·cases tr<;>cases tr1<;>rfl
 |n+1,[],_,_,_,_,_,_,h,_,_,_=>by simp at h
 |n+1,o :: l,bs,lt,fz,E,σ,tr1,h,ht,hf,hs=>by
  obtain ⟨ts,r,rfl,h1,h2⟩:=ht
  have hn:(E.putD o.dst ts.e).n=E.n:=by cases o.dst<;>rfl
  obtain ⟨tr,k1,k2,k3⟩:=xP n l bs.tail lt.tail fz.tail _ _ r (by simpa using h) h2 (fun j hj=>by
   have:=hf (j+1) (by omega)
   cases lt<;>cases fz<;>simpa using this) (by rw [hn];cases lt<;>cases fz<;>simpa using hs)
  have h0:=hf 0 (by omega)
  refine ⟨ts :: tr,⟨ts,tr,rfl,.inr ⟨?_,?_⟩,?_⟩,k2,k3⟩
  ·cases fz<;>simpa using h0.2
  ·have:lt.headD false=false:=by cases lt<;>simpa using h0.1
   rw [this];exact h1
  ·exact k1
end
theorem pQ.pan{P:Program}{l:List Oper}{bs lt fz:List Bool}{masks:List Nat}{E:Env}{σ:List OB}{tr:List TS}(c:xz l.toArray l masks bs [] [] lt)(ht:jl P l.toArray [] l bs [] [] lt fz E σ tr){G0:Gh}{listed:Array Bool}{a:Act}{w:World}{i:Nat}{o:Oper}(ho:l[i]? = some o)(hlo:ld lt i o=true)
  (hJ:pQ lt l tr E σ G0 listed a w) (hready:i∈Region.ready .any l.toArray listed) (ks:List Nat) (hks:∀ t∈ks,t<512∧∀ (j:Nat) (y:Oper),l[j]? = some y→y.dst≠some t) :
  ∃ G,Gle G0 G∧Sim G (fv (cR E l tr i) (o.looksAt l.toArray)) (bh σ tr i) a w∧Sim G (fv E ks) (bh σ tr i) a w:=by
 obtain ⟨hsz,hcl,G,p,hG,hp,hloud,hinv,hdef,htm,hna,hslot⟩:=hJ
 obtain ⟨hun,o',ho',hdeps⟩:=mem_ready.1 hready
 obtain rfl:o'=o:=by rw [show l.toArray[i]? = l[i]? from by simp,ho] at ho';exact (sI ho').symm
 have hil:i<l.length:=(List.getElem?_eq_some_iff.1 ho).1
 have hi0:listed.getD i false=false:=by
  rw [Array.getD_eq_getD_getElem?] at hun ⊢
  rw [Array.getElem?_eq_getElem (by omega)] at hun ⊢
  simpa using hun
 have hr:∀ j∈ep o',listed.getD j false=true:=by
  intro j hj
  simp only [ep,List.mem_map,List.mem_filter] at hj
  obtain ⟨e,⟨h1,h2⟩,rfl⟩:=hj
  exact hdeps e (by simpa using h1) h2
 have hdone:=fun {j:Nat} {y:Oper} (hy:l[j]? = some y) (hord:om masks i j=true∨om masks j i=true)=>c.done hcl ho hi0 hr hy hord
 obtain ⟨htl,hat⟩:=ht.at
 have hEn:=ug l tr E i
 have hlook:=c.look i o' ho
 have hreads:∀ t∈o'.looksAt l.toArray,(cR E l tr i).get t=io t l tr (fun j=>listed.getD j false) (E.get t):=by
  intro t htm'
  rw [rF t l tr E i (fun j o x hj hd=>c.dst j o hj x hd) htl]
  apply je
  intro j y hy hd
  refine (hdone hy (.inr ?_)).symm
  refine c.hit j i y o' hy ho ?_
  simp only [zw,hd,Bool.or_eq_true]
  left
  simpa using htm'
 have hres:=oq (cR E l tr i) (o'.looksAt l.toArray)
 have hgetr:∀ t∈o'.looksAt l.toArray,(fv (cR E l tr i) (o'.looksAt l.toArray)).get t=(cR E l tr i).get t:=fun t h=>(hres t hlook).1 h
 have hll:ld lt i o'=true:=hlo
 have hheap:bh σ tr p=bh σ tr i:=by
  have key:∀ (j:Nat) (y:Oper),l[j]? = some y→ld lt j y=true→(j<p↔j<i):=by
   intro j y hy hly
   have h1:=hloud j y hy hly
   have h2:=hdone hy (.inl (c.loud i j o' y ho hy hll hly))
   rw [h2] at h1
   simpa using h1.symm
  rcases Nat.le_total p i with h|h
  ·exact (qt ht h (by omega) fun j y hy h1 h2=>by
    cases hly:ld lt j y with
    |false=>rfl
    |true=>have:=(key j y hy hly).2 h2;omega).symm
  ·exact qt ht h hp fun j y hy h1 h2=>by
    cases hly:ld lt j y with
    |false=>rfl
    |true=>have:=(key j y hy hly).1 h2;omega
 rw [hheap] at hinv
 refine ⟨G,hG,⟨hinv,hdef,by rw [(nO _ _).1,hEn.1];exact htm,by rw [(nO _ _).2,hEn.2];exact hna,fun t hc=>?_⟩,⟨hinv,hdef,by rw [(nO _ _).1];exact htm,by rw [(nO _ _).2];exact hna,fun t hc=>?_⟩⟩
 ·by_cases hmem:t∈o'.looksAt l.toArray
  ·rw [hgetr t hmem,hreads t hmem] at hc ⊢
   exact hslot t (hlook t hmem) hc
  ·rw [(hres t hlook).2 hmem] at hc;cases hc
 ·have hr2:=oq E ks t fun x hx=>(hks x hx).1
  by_cases hmem:t∈ks
  ·have e1:=hr2.1 hmem
   have e2:io t l tr (fun j=>listed.getD j false) (E.get t)=E.get t:=kq t l tr _ _ fun j y hy hd=>absurd hd ((hks t hmem).2 j y hy)
   rw [e1] at hc ⊢
   have:=hslot t (hks t hmem).1
   rw [e2] at this
   exact this hc
  ·rw [hr2.2 hmem] at hc;cases hc
theorem uG{P:Program}{K:Kt}{E:Env}{σ:List OB}{id:Nat}{l:List Oper}(i0:Nat)(ks:List Nat)(bs lt:List Bool)(o0:Oper)(ho:l[i0]? = some o0)
  (h:jL P l.toArray (l.take i0) bs E σ fun E1 σ1=>fm l.toArray E1 o0.guard=some true∧Hy P σ1 (fun p σ2=>K (.panic p) (fv E ks) σ2) (cA P true E1 σ1 o0.op))
  (hm:P.follows .mixedOrders=true:=by kernel_rfl) (masks:List Nat:=l.foldl (fun ms o=>ms++[orM ms (ep o)]) []) (hc:yE l.toArray l masks bs [] [] lt=true:=by kernel_rfl)
  (fz:List Bool:=(List.range l.length).map fun j=>decide (i0≤j) && !(lt.getD j false)) (hx:((List.range l.length).all fun j=>(decide (i0<j) || !(lt.getD j false)) && (fz.getD j false == (decide (i0≤j) && !(lt.getD j false))) && (decide (j≤i0) || lt.getD j false || (masks.getD j 0).testBit i0))=true:=by kernel_rfl)
  (hsf:DR P E.n (l.drop i0) (lt.drop i0) (fz.drop i0)=true:=by kernel_rfl)
  (hk:(ks.all fun t=>decide (t<512) && l.all fun y=>y.dst != some t)=true:=by kernel_rfl) (hlo:ld lt i0 o0=true:=by kernel_rfl) :
  W P (.region id l.toArray true) K E σ:=fun G a w hs=>by
 have c:=wZ hc
 have hi:i0<l.length:=(List.getElem?_eq_some_iff.1 ho).1
 obtain ⟨tr1,ht1,hg1,hp1⟩:=kN _ _ _ _ _ h
 rw [show (l.take i0).length=i0 from by simp;omega] at hg1 hp1
 have hxx:∀ j,j<l.length→(i0<j∨lt.getD j false=false)∧fz.getD j false=(decide (i0≤j) && !(lt.getD j false))∧(j≤i0∨lt.getD j false=true∨(masks.getD j 0).testBit i0=true):=by
  intro j hj
  have:=List.all_eq_true.1 hx j (by simpa using hj)
  simp only [Bool.and_eq_true,Bool.or_eq_true,decide_eq_true_eq,Bool.not_eq_true',beq_iff_eq] at this
  exact ⟨this.1.1,this.1.2,by rcases this.2 with (h|h)|h;exact .inl h;exact .inr (.inl h);exact .inr (.inr h)⟩
 have hfz:∀ j,j<i0→lt.getD j false=false∧fz.getD j false=false:=by
  intro j hj
  obtain ⟨h1,h2,_⟩:=hxx j (by omega)
  refine ⟨h1.resolve_left (by omega),?_⟩
  rw [h2,dF (by omega)];rfl
 obtain ⟨tr,ht,hE,hH⟩:=xP i0 l bs lt fz E σ tr1 (by omega) (lL.of ht1) hfz hsf
 rw [← hE] at hg1 hp1
 rw [← hH] at hp1
 have hks:∀ t∈ks,t<512∧∀ (j:Nat) (y:Oper),l[j]? = some y→y.dst≠some t:=by
  intro t ht
  have:=List.all_eq_true.1 hk t ht
  simp only [Bool.and_eq_true,decide_eq_true_eq,List.all_eq_true] at this
  exact ⟨this.1,fun j y hy=>by simpa using this.2 y (List.mem_of_getElem? hy)⟩
 refine wp_region_any hm ?_
 have main:∀ (fuel:Nat) (listed:Array Bool) (a:Act) (w:World),listed.toList.count false≤fuel→pQ lt l tr E σ G listed a w→listed.getD i0 false=false→wpAny P .any l.toArray (fj G K) fuel listed a w:=by
  have none:∀ (listed:Array Bool) (a:Act) (w:World),pQ lt l tr E σ G listed a w→listed.getD i0 false=false→Region.ready .any l.toArray listed=[]→False:=fun listed a w hJ hl hr=>by
   have:=uR c hJ.1 hr i0 hi
   rw [hl] at this;cases this
  intro fuel
  induction fuel with
  |zero =>
   intro listed a w hf hJ hl
   have hr:Region.ready .any l.toArray listed=[]:=by
    rw [List.eq_nil_iff_forall_not_mem]
    intro i hi
    obtain ⟨h1,o,ho,_⟩:=mem_ready.1 hi
    have hlt:i<listed.size:=by rw [hJ.1];have:=(Array.getElem?_eq_some_iff.1 ho).1;simpa using this
    have:listed.toList[i]? = some false:=by
     rw [Array.getD_eq_getD_getElem?,Array.getElem?_eq_getElem hlt] at h1
     rw [Array.getElem?_toList,Array.getElem?_eq_getElem hlt]
     simpa using h1
    have hpos:=List.count_pos_iff.2 (List.mem_of_getElem? this)
    omega
   exact (none listed a w hJ hl hr).elim
  |succ fuel ih =>
   intro listed a w hf hJ hl
   refine ⟨fun hr=>(none listed a w hJ hl hr).elim,fun i hi'=>?_⟩
   rcases Nat.lt_trichotomy i i0 with hlt'|rfl|hgt
   ·have hstep:=pQ.stepQ (Q:=fj G K) c ht G listed a w i hJ hi' (hfz i hlt').2
    refine wpOp_mono (fun a' w' hJ'=>ih _ a' w' ?_ hJ' ?_) hstep
    ·obtain ⟨h1,o,ho,_⟩:=mem_ready.1 hi'
     have hlt:i<listed.size:=by rw [hJ.1];have:=(Array.getElem?_eq_some_iff.1 ho).1;simpa using this
     have:listed.toList[i]? = some false:=by
      rw [Array.getD_eq_getD_getElem?,Array.getElem?_eq_getElem hlt] at h1
      rw [Array.getElem?_toList,Array.getElem?_eq_getElem hlt]
      simpa using h1
     have hc:=qj _ _ this
     simp only [Array.toList_setIfInBounds]
     omega
    ·rw [yD _ _ _ (by rw [hJ.1];omega),iN (by omega)];exact hl
   ·obtain ⟨G1,hG1,hs1,hs2⟩:=pQ.pan c ht ho hlo hJ hi' ks hks
    obtain ⟨_,hat⟩:=ht.at
    have hlook:=c.look i o0 ho
    have hres:=oq (cR E l tr i) (o0.looksAt l.toArray)
    have hgetr:∀ t∈o0.looksAt l.toArray,(fv (cR E l tr i) (o0.looksAt l.toArray)).get t=(cR E l tr i).get t:=fun t h=>(hres t hlook).1 h
    have hops:∀ x∈o0.op.operands,ev (fv (cR E l tr i) (o0.looksAt l.toArray)) x=ev (cR E l tr i) x:=by
     intro x hx
     refine AB (ts:=o0.looksAt l.toArray) (fun t h=>hgetr t h) x fun t e=>?_
     subst e
     simp only [Oper.looksAt,List.mem_append,List.mem_filterMap]
     left
     exact ⟨.tmp t,by simpa using hx,rfl⟩
    have hguard':fm l.toArray (fv (cR E l tr i) (o0.looksAt l.toArray)) o0.guard=some true:=by
     rw [uC o0 hgetr];exact hg1
    have hwant:=pz (P:=P) hs1 hguard'
    rw [← qs o0.op hops] at hp1
    obtain ⟨R,hR⟩:∃ R,R=cA P true (fv (cR E l tr i) (o0.looksAt l.toArray)) (bh σ tr i) o0.op:=⟨_,rfl⟩
    rw [← hR] at hp1
    cases R with
    |call C f args =>
     obtain ⟨hC,hpan⟩:=hp1
     have h0:l.toArray[i]? = some o0:=by simpa using ho
     unfold wpOp
     simp only [h0]
     rw [hwant]
     simp only [if_true]
     refine .inl (BE hs1 o0 hR.symm hC hpan fun G' σ2 w' q v g1 g2 g3 g4 g5 =>
      ⟨G',fv E ks,σ2,.panic q,hG1.trans g1,hs2.ghost g3 g1.le.H g1.le.w0 g1.le.na g2,⟨v,rfl,g4⟩,g5⟩)
    |ok=>exact hp1.elim
    |upd=>exact hp1.elim
    |bad=>exact hp1.elim
   ·obtain ⟨hun,o',ho',hdeps⟩:=mem_ready.1 hi'
    have ho'':l[i]? = some o':=by simpa using ho'
    have hil:i<l.length:=(List.getElem?_eq_some_iff.1 ho'').1
    have hi0:listed.getD i false=false:=by
     have:=hJ.1
     rw [Array.getD_eq_getD_getElem?] at hun ⊢
     rw [Array.getElem?_eq_getElem (by omega)] at hun ⊢
     simpa using hun
    have hr:∀ j∈ep o',listed.getD j false=true:=by
     intro j hj
     simp only [ep,List.mem_map,List.mem_filter] at hj
     obtain ⟨e,⟨h1,h2⟩,rfl⟩:=hj
     exact hdeps e (by simpa using h1) h2
    rcases ((hxx i hil).2.2.resolve_left (by omega)) with hl0|hb
    ·have hfi:fz.getD i false=false:=by rw [(hxx i hil).2.1,hl0];simp
     have hstep:=pQ.stepQ (Q:=fj G K) c ht G listed a w i hJ hi' hfi
     refine wpOp_mono (fun a' w' hJ'=>ih _ a' w' ?_ hJ' ?_) hstep
     ·have hlt:i<listed.size:=by rw [hJ.1];omega
      have:listed.toList[i]? = some false:=by
       rw [Array.getD_eq_getD_getElem?,Array.getElem?_eq_getElem hlt] at hi0
       rw [Array.getElem?_toList,Array.getElem?_eq_getElem hlt]
       simpa using hi0
      have hc:=qj _ _ this
      simp only [Array.toList_setIfInBounds]
      omega
     ·rw [yD _ _ _ (by rw [hJ.1];omega),iN (by omega)];exact hl
    have:=c.done hJ.2.1 ho'' hi0 hr ho (.inl (by unfold om;rw [hb];simp))
    rw [hl] at this
    have:decide (i0<i)=true:=by simpa using hgt
    simp_all
 refine main _ _ a _ (by simp) ?_ ?_
 ·have hfalse:∀ i,(Array.replicate l.length false).getD i false=false:=by
   intro i
   rw [Array.getD_eq_getD_getElem?,Array.getElem?_replicate]
   split<;>rfl
  refine ⟨by simp,fun i o ho hd=>by simp [hfalse] at hd,G,0,Gle.refl G,by omega,fun j o ho hl=>by simp [hfalse],?_,hs.defers,hs.size,hs.na,fun t ht hc=>?_⟩
  ·have:bh σ tr 0=σ:=by cases tr<;>rfl
   rw [this];exact hs.inv.drawn
  ·have:io t l tr (fun i=>(Array.replicate l.length false).getD i false) (E.get t)=E.get t:=kq t l tr _ _ fun j o _ _=>hfalse j
   simp only [List.size_toArray] at hc ⊢
   rw [this] at hc ⊢
   exact hs.slot t hc
 ·rw [Array.getD_eq_getD_getElem?,Array.getElem?_replicate]
  split<;>rfl
end Pam
namespace Pam
open Go
section
variable {P:Program}
theorem DT{id:Nat}{l:List Oper}{y:Code}{K:Kt}{E:Env}{σ:List OB}(ms ts pv masks:List Nat)(bs ps:List Bool)(rd:List (List Nat))(hm:P.follows .mixedOrders=true)(hc:(CS (jK l).toArray (jK l) masks bs ps rd && EW l ts bs)=true)(hts:∀ t∈ts,t<512)
  (h:∀ (k:Env→List OB→Prop) (kp:PV→Env→List OB→Prop),(∀ E σ,W P y K E σ→k E σ)→jH P (jK l).toArray pv (jK l) bs ps rd (E.forget ts) σ (fun E σ=>e7 P l.toArray (sG l) E σ (fun E σ=>k (E.forget ms) σ) kp)):W P (.seq (.region id l.toArray true) y) K E σ:=by
 simp only [Bool.and_eq_true] at hc
 obtain ⟨tr,ht,hk⟩:=kt _ bs ps rd _ σ _ (h (fun E σ=>W P y K E σ) (fun _ _ _=>False) fun _ _ h=>h)
 exact oL (E5 (k:=fun E σ=>W P y K (E.forget ms) σ) (kp:=fun _ _ _=>False) hm ts pv masks bs ps rd (AF hc.1) hc.2 hts (fun _ _ h=>pA ms h) (fun _ _ _ h=>h.elim) ⟨tr,lL.ofP ht,hk⟩)
end
end Pam
namespace Pam
open Go
section
variable {P:Program}
theorem zP{l n:Nat}{row:String}{args:Array Value}{w:World}{R:Value→World→Prop}(h:Rows P row args w R):RowsIn (Fence.wide.inRound l) n P row args w R :=
 fun c cs _=>let ⟨v,w',r,s⟩:=h c cs;⟨v,w',r,stepsIn_wide.2 s⟩
theorem DU{l n:Nat}{o:Oper}{a:Act}{w:World}{K:Act→World→Prop}{Q:Exit→Act→World→Prop}(hd:∀ c,o.op≠.defer c)(h:o.wp P a w K Q):o.wpIn (Fence.wide.inRound l) n P a w K Q:=by
 refine ⟨fun _ _=>trivial,?_⟩
 rw [Oper.semAt_eq _ _ _ hd]
 unfold Oper.wp at h
 generalize (execOp a.eval o).run P w=r at *
 cases r with
 |ok x w' =>
  cases x<;>simp only [Oper.upon,Oper.uponIn] at h ⊢ <;>
   first
    |exact h
    |exact ⟨fun k=>by simp [Fence.wide,Fence.inRound] at k,CallsIn.mono (callsIn_wide.2 h) (fun e w'' he=>by cases e<;>exact he)⟩
    |exact ⟨fun k=>by simp [Fence.wide,Fence.inRound] at k,zP h⟩
 |halt x w'=>cases x<;>simp only [Oper.upon,Oper.uponIn] at h ⊢<;>exact h
theorem uk{l n:Nat}{md:Region.Mode}{ops:Array Oper}{Q:Exit→Act→World→Prop}(hd:∀ (i:Nat) (o:Oper),ops[i]? = some o→∀ c,o.op≠.defer c)(hq:¬ LetsOut Q) :
  ∀ (fuel:Nat) (listed:Array Bool) (a:Act) (w:World),wpAny P md ops Q fuel listed a w→wpAnyIn (Fence.wide.inRound l) n P md ops Q fuel listed a w
 |0,_,_,_,h=>h
 |fuel+1,listed,a,w,h=>by
  refine ⟨h.1,fun i hi=>?_⟩
  have:=h.2 i hi
  unfold wpOp at this
  unfold wpOpIn
  split at this
  ·rename_i he
   simp only [he]
   exact uk hd hq fuel _ _ _ this
  ·rename_i o he
   simp only [he]
   split at this
   ·rename_i hw
    rw [iP hw]
    exact Oper.wpIn_mono (fun a w h=>uk hd hq fuel _ _ _ h) (DU (hd i o he) (this.resolve_right fun k=>hq k.2))
   ·rename_i hw
    rw [iN hw]
    exact ⟨fun _ _=>trivial,uk hd hq fuel _ _ _ this⟩
theorem Gr{id r n:Nat}{l:List Oper}{K:Kt}{E:Env}{σ:List OB}(hm:P.follows .mixedOrders=true)(masks:List Nat)(bs:List Bool)(hc:chk l.toArray l masks bs=true)
  (hd:∀ (i:Nat) (o:Oper),l.toArray[i]? = some o→∀ c,o.op≠.defer c)
  (h:∀ (k:Env→List OB→Prop),(∀ E σ,K .normal E σ→k E σ)→jL P l.toArray l bs E σ k) {G:Gh} {a:Act} {w:World} (hs:Sim G E σ a w) :
  (Code.region id l.toArray true).wpIn (Fence.wide.inRound r) n P (fj G K) a w:=by
 obtain ⟨tr,ht,hk⟩:TR P l.toArray l bs E σ (K .normal):=kN l bs E σ _ (h (K .normal) fun _ _ h=>h)
 refine wpIn_region_any hm (uk hd (fun k=>?_) _ _ _ _ ?_)
 ·obtain ⟨a1,w1,_,_,_,x,_,_,h3,_⟩:=k
  cases x<;>simp [FB] at h3
 refine uh (fz:=[]) (fun i=>by simp) (wZ (B9 hc)) (jl.of (lL.of ht)) G (fun G' a' w' hG hs'=>⟨G',_,_,.normal,hG,hs',rfl,hk⟩) _ _ a _ ?_ ?_
 ·simp
 ·have hfalse:∀ i,(Array.replicate l.length false).getD i false=false:=by
   intro i
   rw [Array.getD_eq_getD_getElem?,Array.getElem?_replicate]
   split<;>rfl
  refine ⟨by simp,fun i o ho hd=>by simp [hfalse] at hd,G,0,Gle.refl G,by omega,fun j o ho hl=>by simp [hfalse],?_,hs.defers,hs.size,hs.na,fun t ht hc=>?_⟩
  ·have:bh σ tr 0=σ:=by cases tr<;>rfl
   rw [this];exact hs.inv.drawn
  ·have:io t l tr (fun i=>(Array.replicate l.length false).getD i false) (E.get t)=E.get t:=kq t l tr _ _ fun j o _ _=>hfalse j
   simp only [List.size_toArray] at hc ⊢
   rw [this] at hc ⊢
   exact hs.slot t hc
theorem Inv.putF{G:Gh}{σ:List OB}{w:World}(hi:Inv G σ w){b:Nat}{x:Obj}(y:Obj)(hb:G.F b=some x) :
  Inv { G with F:=fun k=>if k=b then some y else G.F k } σ (w.putObj b y):=by
 have hlt:b<w.heap.size:=(Array.getElem?_eq_some_iff.1 (hi.hF _ _ hb)).1
 have other:∀ k,k≠b→(w.putObj b y).heap[k]? = w.heap[k]? := fun k hk=>World.putObj_heap_other hk
 refine ⟨fun k o h=>?_,fun k o h=>?_,fun k o h=>?_,hi.len,fun k ob h=>?_,hi.inj,fun k o h hh=>?_,hi.os,hi.tape,hi.output,?_⟩
 ·have hne:k≠b:=by rintro rfl;rw [hi.HF _ _ hb] at h;cases h
  rw [other k hne];exact hi.hH k o h
 ·simp only at h
  split at h
  ·rename_i e;subst e;cases h
   exact World.putObj_heap_same hlt
  ·rename_i e;rw [other k e];exact hi.hF k o h
 ·simp only at h
  split at h
  ·rename_i e;subst e;exact hi.HF _ _ hb
  ·exact hi.HF k o h
 ·refine (hi.own k ob h).keep (fun _ _ h=>h) (bG.refl _) rfl (fun o ho hh=>other _ ?_)
  rintro rfl
  have:=(hi.sep k o ho hh).2
  rw [hb] at this;cases this
 ·obtain ⟨s1,s2⟩:=hi.sep k o h hh
  refine ⟨s1,?_⟩
  simp only
  split
  ·rename_i e;rw [e] at s2;rw [hb] at s2;cases s2
  ·exact s2
 ·have:=hi.grow
  simpa [World.putObj] using this
end
end Pam
namespace Pam
open Go
section
variable {P:Program} {E:Env} {σ:List OB}
theorem zJ(L:List (List UInt8))(n:Nat)(h:n<L.length):(L.map CV.str).getD n .junk=.str (L.getD n []):=by
 simp [List.getD,h]
theorem vB{o:Oper}{T:TypeId}{x i:Operand}{ys:List CV}{k':IntKind}{n:Int}(L:List (List UInt8))(m:Nat)(ho:o.op=.index T x i)(hx:ev E x=⟨true,.a ys⟩)(hi:ev E i=⟨true,.c (.int k' n)⟩)
  (hy:ys=L.map CV.str) (hC:pt P T=true∧cx P (P.elem T)=true∧P.arrayLen T * P.cellsOf (P.elem T)≤L.length∧n7 P (P.elem T)=false∧P.cellsOf (P.elem T)=1) (hl:P.arrayLen T=m) (hm:L.length=m)
  (hn:0≤n∧n<(m:Int)):oN P E σ o (.c (.str (L.getD n.toNat []))) σ:=.quiet fun G a w hs=>by
 obtain ⟨h0,h1⟩:=hn
 subst hy
 have h:∃ C,oe P true T (ev E x) (ev E i)=.ok C (.c ((L.map CV.str).getD n.toNat .junk))∧C:=by
  rw [hx,hi]
  refine ⟨_,by unfold oe;rfl,?_⟩
  exact ⟨fun _=>rfl,fun _=>rfl,hC.1,hC.2.1,by simpa using hC.2.2.1,hC.2.2.2.1,hC.2.2.2.2,fun _=>⟨h0,by rw [hl];exact h1⟩⟩
 obtain ⟨C,h,hc⟩:=h
 obtain ⟨r,e1,e2⟩:=vZ (P:=P) (G:=G) (w:=w) h hc rfl (eG hs x) (eG hs i)
 have:n.toNat<L.length:=by omega
 rw [zJ L n.toNat this] at e2
 exact ⟨r,by simp only [execOp,ho];exact oK e1,e2⟩
theorem CY{o:Oper}{T:TypeId}{x i:Operand}{ys:List CV}{k':IntKind}{n:Int}(L:List (List UInt8))(m:Nat)(ho:o.op=.index T x i)(hx:ev E x=⟨true,.a ys⟩)(hi:ev E i=⟨true,.c (.int k' n)⟩)
  (hy:ys=L.map CV.str) (hC:pt P T=true∧cx P (P.elem T)=true∧P.arrayLen T * P.cellsOf (P.elem T)≤L.length∧n7 P (P.elem T)=false∧P.cellsOf (P.elem T)=1) (hl:P.arrayLen T=m) (hm:L.length=m)
  (hn:0≤n∧n<(m:Int)):∀ E',(∀ y∈o.op.operands,ev E' y=ev E y)→∀ σ,oN P E' σ o (.c (.str (L.getD n.toNat []))) σ:=fun E' h σ =>
 vB L m ho (by rw [h x (by rw [ho];simp [Op.operands])];exact hx) (by rw [h i (by rw [ho];simp [Op.operands])];exact hi) hy hC hl hm hn
end
def ku(m:Int)(name:List UInt8):List UInt8:=if name=[] then Go.Lib.itoa m else if m=1 then name else Go.Lib.itoa m++42 :: name
def ny(first:Bool)(n:Int)(name:List UInt8):List UInt8 :=
 if n<0 then (if first then [45] else [32,45,32])++ku (-n) name else (if first then [] else [32,43,32])++ku n name
def fq:Bool→List (Int×List UInt8)→List UInt8
 |_,[]=>[]
 |first,x :: l=>ny first x.1 x.2++fq false l
end Pam
namespace Pam
open Go Go.Shelf Go.Proofs Go.RowKit
theorem AD {P:Program} {G:Gh} {σ:List OB} {w:World} (hi:Inv G σ w) (hg:P.globalNamed "internal/strconv.uint64pow10"=some Bk):Lib.TabIs P w "internal/strconv.uint64pow10" .u64 Lib.pow10Tab:=by
 obtain ⟨T,fr,h⟩:=G.tabs Bk _ (iP rfl)
 have:=hi.hH _ _ h
 unfold Lib.TabIs World.var?
 rw [hg]
 simp only [bSq,this,Lib.pow10Tab,List.map_map]
 rfl
theorem DH {P:Program} {ρ:Ren} (Ly:LaysM.n173 P ρ) {f:FuncId} (hf:ρ.f 173=f) (hb:∃ fn,P.funcs[f]? = some fn∧fn.body.isSome=true∧(fn.name == "runtime.NumGoroutine")=false)
  (hg:P.globalNamed "internal/strconv.uint64pow10"=some Bk) (n:Int) (h0:-9223372036854775808≤n) (h1:n≤9223372036854775807) :
  a8 P f [.c (.int .i64 n),.c (.int .i64 10)] (.c (.str (Lib.itoa n))):=by
 subst hf
 refine ⟨hb,fun G w vs hna _ hi ha=>?_⟩
 match vs,ha with
 |[v0,v1],ha =>
  obtain ⟨ha0,ha1,_⟩:=ha
  have e0:=ez ha0
  have e1:=ez ha1
  subst e0;subst e1
  refine (Any.strconv_FormatInt_10 Ly n h0 h1 w (AD hi hg)).mono ?_
  rintro e w' ⟨rfl,k,os,rfl⟩
  have hbel:Below w.heap.size w (Go.Sort.grow (w.drewN k) os):=by
   refine ⟨rfl,rfl,rfl,by simp [Go.Sort.grow,World.drewN],fun j hj=>?_⟩
   simp only [Go.Sort.grow,World.drewN]
   exact Array.getElem?_append_left hj
  exact ⟨G,[],.c (.str (Lib.itoa n)),_,Gle.refl G,hi.grown0 hbel,.str _,.inl ⟨rfl,rfl,rfl⟩⟩
 |[],ha=>exact absurd ha (by simp [aW])
 |[_],ha=>exact absurd ha (by simp [aW])
 |_ :: _ :: _ :: _,ha=>exact absurd ha (by simp [aW])
theorem CP {P:Program} {ρ:Ren} (Ly:Lays.n156 P ρ) (X:Builder.Extra P ρ) {f:FuncId} (hf:ρ.f 156=f) (hb:∃ fn,P.funcs[f]? = some fn∧fn.body.isSome=true∧(fn.name == "runtime.NumGoroutine")=false)
  (l:List (List UInt8)) (sep:List UInt8) (h:l.length≤1048576) (h2:(Lib.join l sep).length≤140737488355328) :
  a8 P f [.c (.tree 1 (l.map eS)),.c (.str sep)] (.c (.str (Lib.join l sep))):=by
 subst hf
 refine ⟨hb,fun G w vs hna _ hi ha=>?_⟩
 match vs,ha with
 |[v0,v1],ha =>
  obtain ⟨ha0,ha1,_⟩:=ha
  have e1:=qa ha1
  subst e1
  have ha0:br G.H (.tree 1 (l.map eS)) v0:=ha0
  generalize hes:l.map eS=es at ha0
  cases ha0 with
  |tree0 _ a cap hc =>
   have hl:l=[]:=by simpa using hes
   subst hl
   refine (Any.strings_Join_none Ly X a cap ⟨sep.toArray⟩ w).mono ?_
   rintro e w' ⟨rfl,rfl⟩
   exact ⟨G,[],.c (.str (Lib.join [] sep)),_,Gle.refl G,hi,.str _,.inl ⟨rfl,rfl,rfl⟩⟩
  |tree _ _ blk off cap c T fz g hbk hcap hs hg hr =>
   subst hes
   have hw:=hi.hH _ _ hbk
   have hlen:(l.map eS).length=(l.map fun s=>(⟨s.toArray⟩:ByteArray)).length:=by simp
   have hback:(l.map fun s=>(⟨s.toArray⟩:ByteArray)).map (·.data.toList)=l:=by simp [Function.comp_def]
   rw [hlen] at hcap ⊢
   refine (Any.strings_Join Ly X blk off cap (l.map fun s=>(⟨s.toArray⟩:ByteArray)) ⟨sep.toArray⟩ w (fun j x hx=>?_) (Array.getElem?_eq_some_iff.1 hw).1 (by simp;omega) hcap (by rw [hback];exact h2)).mono ?_
   ·rw [List.getElem?_map,Option.map_eq_some_iff] at hx
    obtain ⟨s,hs1,rfl⟩:=hx
    have h3:=hg j 0 [.str s] (.str s) (by rw [List.getElem?_map,hs1];rfl) rfl
    have h4:=hr j 0 [.str s] (.str s) (by rw [List.getElem?_map,hs1];rfl) rfl
    rw [Nat.mul_one,Nat.add_zero] at h3
    show World.cell? w _=_
    unfold World.cell?
    simp only [hw,h3]
    generalize g j 0=y at h4
    cases h4
    rfl
   ·rintro e w' ⟨rfl,hbel⟩
    rw [hback]
    exact ⟨G,[],.c (.str (Lib.join l sep)),_,Gle.refl G,hi.grown0 hbel,.str _,.inl ⟨rfl,rfl,rfl⟩⟩
 |[],ha=>exact absurd ha (by simp [aW])
 |[_],ha=>exact absurd ha (by simp [aW])
 |_ :: _ :: _ :: _,ha=>exact absurd ha (by simp [aW])
end Pam
