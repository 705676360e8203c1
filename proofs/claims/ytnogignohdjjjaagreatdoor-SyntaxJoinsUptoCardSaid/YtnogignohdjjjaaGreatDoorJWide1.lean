/- What a law is handed, read as_ data, are trees of cells; and the way from a contract to the given statement. -/
import Derived.Test.YtnogignohdjjjaaGreatDoorJBase2
import Derived.ProofKit
import Derived.OpenShut
import Derived.JoinedCond
import Derived.Carry
set_option linter.all false
namespace Pam
open Go
structure yX where
 b:∀ {H:Type},DataW H→Nat
 ba:∀ {H:Type},List (DataW H)→Nat
 str:∀ {H:Type} (s:List UInt8),b (H:=H) (.lit (.string s))=s.length+1
 one:∀ {H:Type} (d:DataW H),1≤b d
 slice:∀ {H:Type} (e r:List (DataW H)),b (.slice e r)=ba e+ba r+1
 agg:∀ {H:Type} (e:List (DataW H)),b (.agg e)=ba e+1
 nil:∀ {H:Type},ba (H:=H) []=0
 cons:∀ {H:Type} (d:DataW H) (r:List (DataW H)),ba (d :: r)=b d+ba r
def Ap(B:yX){α:Type}(P:Program)(w:World)(t:TypeId)(e:α→List CV)(ok:α→Prop)(sz:α→Nat):Prop :=
 ∀ (H:Type) (en:TypeId×Value→H) (fuel:Nat) (cs:List Value) (x:DataW H×List MemPlace),DataW.trod en P w 0 (fun _=>true) true fuel t cs=some x →
  ∃ y:α,aS (bz (fun b=>w.heap[b]?)) (e y) cs∧ok y∧sz y≤B.b x.1
section
variable {B:yX} {P:Program} {w:World} {t:TypeId}
theorem vZ(ht:P.underlying t=some .string):Ap B P w t eS okT szS:=by
 intro H en fuel cs x h
 cases fuel with
 |zero=>simp [DataW.trod] at h
 |succ fuel =>
  unfold DataW.trod at h
  rw [ht] at h
  split at h<;>simp_all
  rename_i s
  obtain ⟨hs,rfl⟩:=h
  refine ⟨s.data.toList,⟨.str s.data.toList,trivial⟩,trivial,?_⟩
  rw [B.str];exact Nat.le_refl _
theorem ui{W:World}{w0:W0}{own:List (Option OG)}{F:Nat→Option Obj}{na:Nat}{c:CV}{v:Value}{cs:List Value}(hc:cs=[v])(h:aS (bz (fun b=>W.heap[b]?)) [c] cs):aN ⟨fun b=>W.heap[b]?,F,own,w0,na⟩ (.c c) v:=by
 subst hc;exact bz.rep h.1
end
end Pam
namespace Pam
open Go Go.RowKit
def gh0(W:World):Gh:=⟨fun b=>W.heap[b]?,fun _=>none,[],⟨W,[]⟩,0⟩
theorem AX(W:World):Inv (gh0 W) [] W :=
 ⟨(fun _ _ h=>h),(fun _ _ h=>nomatch h),(fun _ _ h=>nomatch h),rfl,(fun b ob h=>absurd h (by simp)),(fun b b' o o' h=>absurd h (by simp [gh0])),(fun b o h=>absurd h (by simp [gh0])),rfl,rfl,rfl,Nat.le_refl _⟩
theorem tq{P:Program}{f:FuncId}{args:List PV}{res:PV}(h:dA P f args res)(W:World)(vs:List Value)(ha:aS (aN (gh0 W)) args vs) :
  Calls P f vs.toArray W fun e W'=>∃ v G',e=.returned v∧aN G' res v∧Below W.heap.size W W':=by
 refine (h.2 (gh0 W) W vs rfl rfl (AX W) ha).mono fun e w' hq=>?_
 obtain ⟨G',σ',p,v,h1,h2,h3,h4⟩:=hq
 rcases h4 with ⟨rfl,rfl,rfl⟩|⟨_,h4⟩
 ·refine ⟨v,G',rfl,h3,?_⟩
  have hw:=h1.le.w0
  refine ⟨by rw [h2.os,hw];rfl,by rw [h2.tape,hw];rfl,by rw [h2.output,hw];rfl,?_,fun k hk=>?_⟩
  ·have:=h2.grow;rw [hw] at this;exact this
  ·have e:W.heap[k]? = some W.heap[k]:=Array.getElem?_eq_getElem hk
   rw [e]
   exact h2.hH _ _ (h1.le.H k _ e)
 ·exact h4.elim
theorem tt{W W':World}(h:Below W.heap.size W W')(may:MemPlace→Prop):W.keptBut W' may:=by
 refine ⟨h.os,h.output,fun i hi=>?_⟩
 rw [h.block i hi]
 cases W.heap[i]? with
 |none=>rfl
 |some o=>cases o<;>first|exact ⟨rfl,rfl,rfl,fun _ _=>rfl⟩|exact .inr ⟨rfl,rfl⟩|rfl
theorem nW{H:Type}{enc:TypeId×Value→H}{P:Program}(hl:laidOutB P=true){W W':World}(hb:Below W.heap.size W W') :
  ∀ {ts:List TypeId} {vs:List Value} {ds:List (DataW H)} {ps:List MemPlace},(∀ t∈ts,P.readableRec t=true∧t<P.types.size)→(∀ x∈ps,x.block<W.heap.size) →
   DataW.TrodAll enc P W 0 (fun _=>true) true ts vs ds ps→DataW.TrodAll enc P W' 0 (fun b=>decide (b<W.heap.size)) true ts vs ds ps
 |[],[],[],_,_,_,h=>h
 |t :: ts,v :: vs,d :: ds,ps,ht,hlt,h=>by
  obtain ⟨p,q,h1,h2,rfl⟩:=h
  exact ⟨p,q,Below.trod hl (ht t (by simp)).1 (ht t (by simp)).2 h1 hb (fun x hx=>hlt x (by simp [hx])),nW hl hb (fun t h=>ht t (by simp [h])) (fun x hx=>hlt x (by simp [hx])) h2,rfl⟩
 |[],_ :: _,_,_,_,_,h=>by cases h
 |[],[],_ :: _,_,_,_,h=>by cases h
 |_ :: _,[],_,_,_,_,h=>by cases h
 |_ :: _,_ :: _,[],_,_,_,h=>by cases h
theorem v6{H:Type}{enc:TypeId×Value→H}{P:Program}{fn:Func}{s:ChangeSpec}{W W':World}{args:Array Value}{ds gs:List (DataW H)}{before:List MemPlace}{T:TypeId}
  (hl:laidOutB P=true) (ht:∀ t∈fn.params.toList,P.readableRec t=true∧t<P.types.size) (hv:s.vars=[])
  (hW:DataW.Whole enc P fn.params.toList s.vars false W args.toList ds gs before) (hb:Below W.heap.size W W')
  (hr:fn.resultTypes=#[T]) (hT:P.underlying T=some .bool)
  (hs:(s.fn H (ds++gs)).results=[.lit (.bool true)]) (hs':(s.fn H (ds++gs)).args=ds) (hs'':(s.fn H (ds++gs)).vars=[]):s.post enc P fn false true false false W args (.bool true) W':=by
 have hW0:=hW
 have hlt:=hW.lt
 obtain ⟨p,q,h1,h2,h3,h4,h5⟩:=hW0
 have hvars:gs=[]∧q=[]:=by
  rw [hv] at h2
  cases gs with
  |nil=>exact ⟨rfl,h2⟩
  |cons g gs=>exact h2.elim
 obtain ⟨rfl,rfl⟩:=hvars
 simp only [List.append_nil] at h3;subst h3
 refine ⟨ds,[],before,[],before,[],hW,?_,?_,?_,tt hb _,fun h=>by cases h⟩
 ·rw [hs,hr]
  refine ⟨[],[],⟨1,?_⟩,?_,rfl⟩
  ·simp [DataW.trod,hT,Value.resultList,Value.cells]
  ·rfl
 ·rw [hs']
  exact nW hl hb ht (fun x hx=>hlt x hx) h1
 ·rw [hv,hs''];rfl
theorem v7{P:Program}{W:World}{r:Reach}{base:Nat}{t:TypeId}{v:Value}(h:Value.okWide P W r base t v)(ht:jJ P t=false)(hu:(P.underlying t).isSome=true):v.cells.toList=[v]:=by
 cases v
 case agg cs =>
  exfalso
  unfold jJ at ht
  cases hd:P.underlying t with
  |none=>rw [hd] at hu;cases hu
  |some d =>
   rw [hd] at ht
   cases d<;>simp [Value.okWide,Cell.okWide,Cell.ok,hd] at h ht
 all_goals rfl
end Pam
namespace Pam
open Go
theorem wr{n:Int}(h1:-9223372036854775808≤n)(h2:n≤9223372036854775807):IntKind.wrap .i64 n=n:=by
 rw [IntKind.wrap_i64];omega
theorem wrs(i:Nat)(h:i<9223372036854775807):IntKind.wrap .i64 ((i:Int)+1)=((i+1:Nat):Int):=by
 rw [wr (by omega) (by omega)];omega
def sT{T Z:Type}(n:Nat)(f:Nat→Option Z)(t:T):T ⊕ Z :=
 match (List.range n).findSome? f with
 |some z=>.inr z
 |none=>.inl t
theorem rt{T Z:Type}{body:Int→Option (Int ⊕ (T ⊕ Z))}(f:Nat→Option Z)(t:T):∀ (k i n:Nat),i+k=n →
  (∀ i:Nat,i<n→body i=some (match f i with|some z=>.inr (.inr z)|none=>.inl ((i+1:Nat):Int)))→body n=some (.inr (.inl t)) →
  db body (i:Int)=some (match (List.range' i k).findSome? f with|some z=>.inr z|none=>.inl t)
 |0,i,n,hi,h,he=>by
  have:i=n:=by omega
  subst this
  rw [cQ he];rfl
 |k+1,i,n,hi,h,he=>by
  have hb:=h i (by omega)
  rw [List.range'_succ,List.findSome?_cons]
  cases hf:f i with
  |some z=>rw [hf] at hb;exact cQ hb
  |none =>
   rw [hf] at hb
   rw [eT hb]
   exact rt f t k (i+1) n (by omega) h he
theorem nv{T Z:Type}{body:Int→Option (Int ⊕ (T ⊕ Z))}(n:Nat)(f:Nat→Option Z)(t:T)
  (h:∀ i:Nat,i<n→body i=some (match f i with|some z=>.inr (.inr z)|none=>.inl ((i+1:Nat):Int))) (he:body n=some (.inr (.inl t))) :
  db body 0=some (sT n f t):=by
 have:=rt f t n 0 n (by omega) h he
 rw [sT,List.range_eq_range']
 exact this
theorem ru{T Z:Type}{n:Nat}{f:Nat→Option Z}{t:T}(h:∀ i,i<n→f i=none):sT n f t=.inl t:=by
 unfold sT
 rw [List.findSome?_eq_none_iff.2 (fun i hi=>h i (List.mem_range.1 hi))]
theorem kU{T Z:Type}(n:Nat)(f:Nat→Option Z)(t:T):(sT n f t=.inl t∧∀ i,i<n→f i=none)∨∃ i z,i<n∧f i=some z∧sT n f t=.inr z:=by
 unfold sT
 cases h:(List.range n).findSome? f with
 |none=>exact .inl ⟨rfl,fun i hi=>List.findSome?_eq_none_iff.1 h i (List.mem_range.2 hi)⟩
 |some z =>
  obtain ⟨i,hi,hz⟩:=List.exists_of_findSome?_eq_some h
  exact .inr ⟨i,z,List.mem_range.1 hi,hz,rfl⟩
theorem iD{α:Type}[Inhabited α]{l:List α}{i:Nat}(h:i<l.length):l.getD i default∈l:=by
 have:l.getD i default=l[i]:=by simp [List.getD,h]
 rw [this];exact List.getElem_mem h
theorem ltI{i n:Nat}(h:i<n):(i:Int)<(n:Int):=by omega
theorem inI{i n:Nat}(h:i<n):0≤(i:Int)∧(i:Int)<(n:Int):=by omega
theorem gS(n:Nat):¬ (n:Int)<(n:Int):=by omega
end Pam
namespace Pam
open Go
end Pam
namespace Pam
open Go
theorem wz{S T:Type}(mk:Nat→S){body:S→Option (S ⊕ T)}(n:Nat)(t:T)
  (h:∀ i,i<n→body (mk i)=some (.inl (mk (i+1)))) (he:body (mk n)=some (.inr t)):db body (mk 0)=some t:=by
 have key:∀ (k i:Nat),i+k=n→db body (mk i)=some t:=by
  intro k
  induction k with
  |zero =>
   intro i hi
   have:i=n:=by omega
   subst this
   exact cQ he
  |succ k ih =>
   intro i hi
   rw [eT (h i (by omega))]
   exact ih (i+1) (by omega)
 exact key n 0 (by omega)
theorem ng{T:Type}[Inhabited T](l:List T){i:Nat}(h:i<l.length):l.take (i+1)=l.take i++[l.getD i default]:=by
 rw [List.take_add_one]
 simp [List.getD,h]
end Pam
