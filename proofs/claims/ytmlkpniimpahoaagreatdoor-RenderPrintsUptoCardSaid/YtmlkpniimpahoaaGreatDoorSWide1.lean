/- What a law is handed, read as_ data, are trees of cells; and the way from a contract to the given statement. -/
import Derived.Test.YtmlkpniimpahoaaGreatDoorSBase2
import Derived.ProofKit
import Derived.OpenShut
import Derived.JoinedCond
import Derived.Carry
set_option linter.all false
namespace Pam
open Go
structure EO where
 b:∀ {H:Type},DataW H→Nat
 ba:∀ {H:Type},List (DataW H)→Nat
 str:∀ {H:Type} (s:List UInt8),b (H:=H) (.lit (.string s))=s.length+1
 one:∀ {H:Type} (d:DataW H),1≤b d
 slice:∀ {H:Type} (e r:List (DataW H)),b (.slice e r)=ba e+ba r+1
 agg:∀ {H:Type} (e:List (DataW H)),b (.agg e)=ba e+1
 nil:∀ {H:Type},ba (H:=H) []=0
 cons:∀ {H:Type} (d:DataW H) (r:List (DataW H)),ba (d :: r)=b d+ba r
def tC(B:EO){α:Type}(P:Program)(w:World)(t:TypeId)(e:α→List CV)(ok:α→Prop)(sz:α→Nat):Prop :=
 ∀ (H:Type) (en:TypeId×Value→H) (fuel:Nat) (cs:List Value) (x:DataW H×List MemPlace),DataW.trod en P w 0 (fun _=>true) true fuel t cs=some x →
  ∃ y:α,aW (br (fun b=>w.heap[b]?)) (e y) cs∧ok y∧sz y≤B.b x.1
def RdN(B:EO){α:Type}(P:Program)(w:World)(t:TypeId)(e:α→List CV)(ok:α→Prop)(sz:α→Nat)(H:Type)(en:TypeId×Value→H)(fuel:Nat):Prop :=
 ∀ (cs:List Value) (x:DataW H×List MemPlace),DataW.trod en P w 0 (fun _=>true) true fuel t cs=some x →
  ∃ y:α,aW (br (fun b=>w.heap[b]?)) (e y) cs∧ok y∧sz y≤B.b x.1
section
variable {B:EO} {P:Program} {w:World} {t:TypeId}
theorem uV{k:IntKind}(ht:P.underlying t=some (.int k)):tC B P w t (eK k) (okI k) szI:=by
 intro H en fuel cs x h
 cases fuel with
 |zero=>simp [DataW.trod] at h
 |succ fuel =>
  unfold DataW.trod at h
  rw [ht] at h
  split at h<;>simp_all
  rename_i k' n e
  obtain ⟨⟨rfl,hw⟩,rfl⟩:=h
  simp only [Lit.wf,Bool.and_eq_true,decide_eq_true_eq] at hw
  exact ⟨n,⟨.int _ _,trivial⟩,hw,B.one _⟩
theorem uW(ht:P.underlying t=some .string):tC B P w t eS okT szS:=by
 intro H en fuel cs x h
 cases fuel with
 |zero=>simp [DataW.trod] at h
 |succ fuel =>
  unfold DataW.trod at h
  rw [ht] at h
  split at h<;>simp_all
  rename_i s
  obtain ⟨hs,rfl⟩:=h
  refine ⟨s.data.toList,⟨.str s.data.toList,trivial⟩,trivial,?_⟩
  rw [B.str];exact Nat.le_refl _
theorem sU{α:Type}{f:Nat→Option α}:∀ {n k:Nat} {l:List α},(List.range' k n).mapM f=some l→l.length=n∧∀ i,i<n→f (k+i)=l[i]?
 |0,k,l,h=>by simp at h;subst h;exact ⟨rfl,fun i hi=>by omega⟩
 |n+1,k,l,h=>by
  rw [List.range'_succ,List.mapM_cons] at h
  cases hf:f k with
  |none=>rw [hf] at h;cases h
  |some a =>
   rw [hf] at h
   cases hm:(List.range' (k+1) n).mapM f with
   |none=>simp [hm] at h
   |some r =>
    simp [hm] at h;subst h
    obtain ⟨h1,h2⟩:=sU hm
    refine ⟨by simp [h1],fun i hi=>?_⟩
    cases i with
    |zero=>simpa using hf
    |succ i=>have:=h2 i (by omega);simp only [List.getElem?_cons_succ];rw [← this];congr 1;omega
theorem By{a:Addr}{n:Nat}{vs:List Value}(h:w.cells? 0 a n=some vs):vs.length=n∧∀ i,i<n→w.cell? (a.add i)=vs[i]? := by
 unfold World.cells? at h
 rw [iP (Nat.zero_le _)] at h
 rw [List.range_eq_range'] at h
 obtain ⟨h1,h2⟩:=sU h
 exact ⟨h1,fun i hi=>by have:=h2 i hi;rwa [Nat.zero_add] at this⟩
theorem xG{α:Type}{e:α→List CV}{ok:α→Prop}{sz:α→Nat}{el:TypeId}{H:Type}{en:TypeId×Value→H}{fuel:Nat}(hr:RdN B P w el e ok sz H en fuel)(cells:Nat→Option (List Value)) :
  ∀ (elems:List (DataW H×List MemPlace)) (k:Nat),(∀ i,i<elems.length→(cells (k+i)).bind (DataW.trod en P w 0 (fun _=>true) true fuel el)=elems[i]?) →
  ∃ l:List α,l.length=elems.length∧(∀ y∈l,ok y)∧(l.map sz).sum≤B.ba (elems.map (·.1))∧∀ i y,l[i]? = some y→∃ cs,cells (k+i)=some cs∧aW (br (fun b=>w.heap[b]?)) (e y) cs
 |[],_,_=>⟨[],rfl,(fun y hy=>absurd hy (by simp)),by simp [B.nil],(fun i y h=>by simp at h)⟩
 |x :: r,k,h=>by
  have h0:=h 0 (by simp)
  simp only [Nat.add_zero,List.getElem?_cons_zero] at h0
  cases hc:cells k with
  |none=>rw [hc] at h0;cases h0
  |some cs =>
   rw [hc] at h0
   obtain ⟨y,q1,q2,q3⟩:=hr cs x h0
   obtain ⟨l,p1,p2,p3,p4⟩:=xG hr cells r (k+1) fun i hi=>by
    have:=h (i+1) (by simpa using hi)
    simp only [List.getElem?_cons_succ] at this
    rw [← this];congr 2;omega
   refine ⟨y :: l,by simp [p1],fun z hz=>?_,?_,fun i z hz=>?_⟩
   ·rcases List.mem_cons.1 hz with rfl|hz
    ·exact q2
    ·exact p2 z hz
   ·simp only [List.map_cons,List.sum_cons];rw [B.cons];omega
   ·cases i with
    |zero=>simp at hz;subst hz;exact ⟨cs,hc,q1⟩
    |succ i =>
     obtain ⟨cs',k1,k2⟩:=p4 i z (by simpa using hz)
     exact ⟨cs',by rw [← k1];congr 1;omega,k2⟩
theorem CQ{a:Addr}{v:Value}(h:w.cell? a=some v):a.spot=none∧∃ c T fz,w.heap[a.block]? = some (.cells c T fz)∧c[a.off]? = some v:=by
 unfold World.cell? at h
 split at h
 ·rename_i c T fz hb
  split at h
  ·cases h
  ·rename_i hs
   exact ⟨by simpa using hs,c,T,fz,hb,h⟩
 ·cases h
theorem yY{α:Type}{e:α→List CV}{ok:α→Prop}{sz:α→Nat}{el:TypeId}{s:Nat}{H:Type}{en:TypeId×Value→H}{fuel:Nat}(ht:P.underlying t=some (.slice el))(hs:P.cellsOf el=s)(hpos:0<s)(he:∀ y,(e y).length=s)(hr:∀ n,n<fuel→RdN B P w el e ok sz H en n) :
  RdN B P w t (eL s e) (okL ok) (szL sz) H en fuel:=by
 intro cs x h
 rcases DataW.trod_slice ht h with ⟨rfl,rfl⟩|⟨a,len,cap,elems,rest,n,rfl,rfl,rfl,_,hlc,hcap,hlen,hel,_,_⟩
 ·exact ⟨[],⟨.tree0 _ _ _ (fun _=>rfl),trivial⟩,(fun y hy=>absurd hy (by simp)),B.one _⟩
 ·rw [hs] at hel
  obtain ⟨l,p1,p2,p3,p4⟩:=xG (H:=H) (en:=en) (fuel:=n) (hr n (by omega)) (fun i=>w.cells? 0 (a.add (i * s)) s) elems 0 fun i hi=>by rw [Nat.zero_add];exact hel i (by omega)
  refine ⟨l,⟨?_,trivial⟩,p2,by unfold szL;simp only;rw [B.slice];omega⟩
  cases l with
  |nil=>simp at p1;subst hlen;rw [← p1];exact .tree0 _ _ _ (fun h=>by cases h)
  |cons y0 l0 =>
   have hget:∀ i y,(y0 :: l0)[i]? = some y→∀ j v,(e y)[j]? = some v→∃ u,w.cell? ((a.add (i * s)).add j)=some u∧br (fun b=>w.heap[b]?) v u:=by
    intro i y hy j v hv
    obtain ⟨cs,k1,k2⟩:=p4 i y hy
    rw [Nat.zero_add] at k1
    obtain ⟨q1,q2⟩:=By k1
    obtain ⟨u,r1,r2⟩:=aW.get k2 j v hv
    have hj:j<s:=by rw [← he y];exact (List.getElem?_eq_some_iff.1 hv).1
    exact ⟨u,by rw [q2 j hj];exact r1,r2⟩
   have h00:∃ v,(e y0)[0]? = some v:=⟨_,List.getElem?_eq_getElem (by rw [he];exact hpos)⟩
   obtain ⟨v0,hv0⟩:=h00
   obtain ⟨u0,hu0,_⟩:=hget 0 y0 rfl 0 v0 hv0
   have ea:(a.add (0 * s)).add 0=a:=by simp [Addr.add]
   rw [ea] at hu0
   obtain ⟨hspot,c,T,fz,hb,_⟩:=CQ hu0
   obtain ⟨blk,off,spot⟩:=a
   simp only at hspot hb;subst hspot
   have hlen':((y0 :: l0).map e).length=len:=by rw [List.length_map,p1,hlen]
   rw [← hlen']
   refine .tree s _ blk off cap c T fz (fun i j=>(c[off+i * s+j]?).getD undef) hb (by rw [hlen'];exact hlc) (fun i x hx=>?_) (fun i j x v hx hv=>?_) (fun i j x v hx hv=>?_)
   ·rw [List.getElem?_map] at hx
    cases hy:(y0 :: l0)[i]? with
    |none=>rw [hy] at hx;cases hx
    |some y=>rw [hy] at hx;simp at hx;subst hx;exact he y
   all_goals
    rw [List.getElem?_map] at hx
    cases hy:(y0 :: l0)[i]? with
    |none=>rw [hy] at hx;cases hx
    |some y =>
     rw [hy] at hx
     simp only [Option.map_some,sJ] at hx
     subst hx
     obtain ⟨u,hu,hru⟩:=hget i y hy j v hv
     rw [no,no] at hu
     have hc:=ub hb (off+i * s+j)
     rw [hu] at hc
     first
      |(rw [← hc];rfl)
      |(rw [← hc];exact hru)
theorem kP{α:Type}{e:α→List CV}{ok:α→Prop}{sz:α→Nat}{el:TypeId}{s:Nat}(ht:P.underlying t=some (.slice el))(hs:P.cellsOf el=s)(hpos:0<s)(he:∀ y,(e y).length=s)(hr:tC B P w el e ok sz) :
  tC B P w t (eL s e) (okL ok) (szL sz):=fun H en _=>yY ht hs hpos he fun n _=>hr H en n
theorem CR{α β:Type}{R:α→β→Prop}{as_ bs:List α}{cs:List β}{n m:Nat}(h:aW R as_ (cs.take n))(h':aW R bs ((cs.drop n).take m)):aW R (as_++bs) (cs.take (n+m)):=by
 rw [List.take_add];exact h.append h'
theorem eH{α β:Type}{R:α→β→Prop}{as_ bs:List α}{cs:List β}{n m k:Nat}(hk:n+m=k)(h:aW R as_ (cs.take n))(h':aW R bs ((cs.drop n).take m)):aW R (as_++bs) (cs.take k):=by
 subst hk;exact CR h h'
theorem fN{α β:Type}{R:α→β→Prop}{as_:List α}{cs:List β}{o n m:Nat}(h:n=m)(h':aW R as_ ((cs.drop o).take n)):aW R as_ ((cs.drop o).take m):=h ▸ h'
theorem nP{α β:Type}{R:α→β→Prop}{as_:List α}{cs:List β}{n:Nat}(hl:cs.length=n)(h:aW R as_ (cs.take n)):aW R as_ cs:=by
 rwa [List.take_of_length_le (by omega)] at h
theorem EP{W:World}{w0:W0}{own:List (Option OG)}{F:Nat→Option Obj}{na:Nat}{hT:wQ fun b=>W.heap[b]?}{cs:List CV}{vs:Array Value}(h:aW (br (fun b=>W.heap[b]?)) cs (Value.agg vs).cells.toList):bg ⟨fun b=>W.heap[b]?,F,own,w0,na,hT⟩ (.a cs) (.agg vs) :=
 ⟨vs.toList,by simp,aW.mono (fun _ _ h=>br.rep h) h⟩
end
end Pam
namespace Pam
open Go Go.RowKit
def gh0(W:World)(hT:wQ fun b=>W.heap[b]?):Gh:=⟨fun b=>W.heap[b]?,fun _=>none,[],⟨W,[]⟩,0,hT⟩
theorem Hu(W:World)(hT:wQ fun b=>W.heap[b]?):Inv (gh0 W hT) [] W :=
 ⟨(fun _ _ h=>h),(fun _ _ h=>nomatch h),(fun _ _ h=>nomatch h),rfl,(fun b ob h=>absurd h (by simp)),(fun b b' o o' h=>absurd h (by simp [gh0])),(fun b o h=>absurd h (by simp [gh0])),rfl,rfl,rfl,Nat.le_refl _⟩
theorem Bz{P:Program}{f:FuncId}{args:List PV}{res:PV}(h:a8 P f args res)(W:World)(hT:wQ fun b=>W.heap[b]?)(vs:List Value)(ha:aW (bg (gh0 W hT)) args vs) :
  Calls P f vs.toArray W fun e W'=>∃ v G',e=.returned v∧bg G' res v∧Below W.heap.size W W':=by
 refine (h.2 (gh0 W hT) W vs rfl rfl (Hu W hT) ha).mono fun e w' hq=>?_
 obtain ⟨G',σ',p,v,h1,h2,h3,h4⟩:=hq
 rcases h4 with ⟨rfl,rfl,rfl⟩|⟨_,h4⟩
 ·refine ⟨v,G',rfl,h3,?_⟩
  have hw:=h1.le.w0
  refine ⟨by rw [h2.os,hw];rfl,by rw [h2.tape,hw];rfl,by rw [h2.output,hw];rfl,?_,fun k hk=>?_⟩
  ·have:=h2.grow;rw [hw] at this;exact this
  ·have e:W.heap[k]? = some W.heap[k]:=Array.getElem?_eq_getElem hk
   rw [e]
   exact h2.hH _ _ (h1.le.H k _ e)
 ·exact h4.elim
theorem BA{W W':World}(h:Below W.heap.size W W')(may:MemPlace→Prop):W.keptBut W' may:=by
 refine ⟨h.os,h.output,fun i hi=>?_⟩
 rw [h.block i hi]
 cases W.heap[i]? with
 |none=>rfl
 |some o=>cases o<;>first|exact ⟨rfl,rfl,rfl,fun _ _=>rfl⟩|exact .inr ⟨rfl,rfl⟩|rfl
theorem uF{H:Type}{enc:TypeId×Value→H}{P:Program}(hl:laidOutB P=true){W W':World}(hb:Below W.heap.size W W') :
  ∀ {ts:List TypeId} {vs:List Value} {ds:List (DataW H)} {ps:List MemPlace},(∀ t∈ts,P.readableRec t=true∧t<P.types.size)→(∀ x∈ps,x.block<W.heap.size) →
   DataW.TrodAll enc P W 0 (fun _=>true) true ts vs ds ps→DataW.TrodAll enc P W' 0 (fun b=>decide (b<W.heap.size)) true ts vs ds ps
 |[],[],[],_,_,_,h=>h
 |t :: ts,v :: vs,d :: ds,ps,ht,hlt,h=>by
  obtain ⟨p,q,h1,h2,rfl⟩:=h
  exact ⟨p,q,Below.trod hl (ht t (by simp)).1 (ht t (by simp)).2 h1 hb (fun x hx=>hlt x (by simp [hx])),uF hl hb (fun t h=>ht t (by simp [h])) (fun x hx=>hlt x (by simp [hx])) h2,rfl⟩
 |[],_ :: _,_,_,_,_,h=>by cases h
 |[],[],_ :: _,_,_,_,h=>by cases h
 |_ :: _,[],_,_,_,_,h=>by cases h
 |_ :: _,_ :: _,[],_,_,_,h=>by cases h
theorem DJ{H:Type}{enc:TypeId×Value→H}{P:Program}{fn:Func}{s:ChangeSpec}{W W':World}{args:Array Value}{ds gs:List (DataW H)}{before:List MemPlace}{T:TypeId}
  (hl:laidOutB P=true) (ht:∀ t∈fn.params.toList,P.readableRec t=true∧t<P.types.size) (hv:s.vars=[])
  (hW:DataW.Whole enc P fn.params.toList s.vars false W args.toList ds gs before) (hb:Below W.heap.size W W')
  (hr:fn.resultTypes=#[T]) (hT:P.underlying T=some .bool)
  (hs:(s.fn H (ds++gs)).results=[.lit (.bool true)]) (hs':(s.fn H (ds++gs)).args=ds) (hs'':(s.fn H (ds++gs)).vars=[]):s.post enc P fn false true false false W args (.bool true) W':=by
 have hW0:=hW
 have hlt:=hW.lt
 obtain ⟨p,q,h1,h2,h3,h4,h5⟩:=hW0
 have hvars:gs=[]∧q=[]:=by
  rw [hv] at h2
  cases gs with
  |nil=>exact ⟨rfl,h2⟩
  |cons g gs=>exact h2.elim
 obtain ⟨rfl,rfl⟩:=hvars
 simp only [List.append_nil] at h3;subst h3
 refine ⟨ds,[],before,[],before,[],hW,?_,?_,?_,BA hb _,fun h=>by cases h⟩
 ·rw [hs,hr]
  refine ⟨[],[],⟨1,?_⟩,?_,rfl⟩
  ·simp [DataW.trod,hT,Value.resultList,Value.cells]
  ·rfl
 ·rw [hs']
  exact uF hl hb ht (fun x hx=>hlt x hx) h1
 ·rw [hv,hs''];rfl
theorem Gm{P:Program}{W:World}{r:Reach}{base:Nat}{t:TypeId}{v:Value}(h:Value.okWide P W r base t v)(ht:n7 P t=true):∃ cs,v=.agg cs:=by
 unfold n7 at ht
 cases hd:P.underlying t with
 |none=>rw [hd] at ht;cases ht
 |some d =>
  rw [hd] at ht
  cases d<;>simp [Value.okWide,hd] at h ht<;>exact ⟨_,h.choose_spec.1⟩
end Pam
namespace Pam
open Go
theorem wr{n:Int}(h1:-9223372036854775808≤n)(h2:n≤9223372036854775807):IntKind.wrap .i64 n=n:=by
 rw [IntKind.wrap_i64];omega
theorem wrs(i:Nat)(h:i<9223372036854775807):IntKind.wrap .i64 ((i:Int)+1)=((i+1:Nat):Int):=by
 rw [wr (by omega) (by omega)];omega
def AQ{T Z:Type}(n:Nat)(f:Nat→Option Z)(t:T):T ⊕ Z :=
 match (List.range n).findSome? f with
 |some z=>.inr z
 |none=>.inl t
theorem zd{T Z:Type}{body:Int→Option (Int ⊕ (T ⊕ Z))}(f:Nat→Option Z)(t:T):∀ (k i n:Nat),i+k=n →
  (∀ i:Nat,i<n→body i=some (match f i with|some z=>.inr (.inr z)|none=>.inl ((i+1:Nat):Int)))→body n=some (.inr (.inl t)) →
  bD body (i:Int)=some (match (List.range' i k).findSome? f with|some z=>.inr z|none=>.inl t)
 |0,i,n,hi,h,he=>by
  have:i=n:=by omega
  subst this
  rw [gB he];rfl
 |k+1,i,n,hi,h,he=>by
  have hb:=h i (by omega)
  rw [List.range'_succ,List.findSome?_cons]
  cases hf:f i with
  |some z=>rw [hf] at hb;exact gB hb
  |none =>
   rw [hf] at hb
   rw [m4 hb]
   exact zd f t k (i+1) n (by omega) h he
theorem ql{T Z:Type}{body:Int→Option (Int ⊕ (T ⊕ Z))}(n:Nat)(f:Nat→Option Z)(t:T)
  (h:∀ i:Nat,i<n→body i=some (match f i with|some z=>.inr (.inr z)|none=>.inl ((i+1:Nat):Int))) (he:body n=some (.inr (.inl t))) :
  bD body 0=some (AQ n f t):=by
 have:=zd f t n 0 n (by omega) h he
 rw [AQ,List.range_eq_range']
 exact this
theorem C8{T Z:Type}{n:Nat}{f:Nat→Option Z}{t:T}(h:∀ i,i<n→f i=none):AQ n f t=.inl t:=by
 unfold AQ
 rw [List.findSome?_eq_none_iff.2 (fun i hi=>h i (List.mem_range.1 hi))]
theorem qF{T Z:Type}(n:Nat)(f:Nat→Option Z)(t:T):(AQ n f t=.inl t∧∀ i,i<n→f i=none)∨∃ i z,i<n∧f i=some z∧AQ n f t=.inr z:=by
 unfold AQ
 cases h:(List.range n).findSome? f with
 |none=>exact .inl ⟨rfl,fun i hi=>List.findSome?_eq_none_iff.1 h i (List.mem_range.2 hi)⟩
 |some z =>
  obtain ⟨i,hi,hz⟩:=List.exists_of_findSome?_eq_some h
  exact .inr ⟨i,z,List.mem_range.1 hi,hz,rfl⟩
theorem bi{α:Type}[Inhabited α]{l:List α}{i:Nat}(h:i<l.length):l.getD i default∈l:=by
 have:l.getD i default=l[i]:=by simp [List.getD,h]
 rw [this];exact List.getElem_mem h
theorem ltI{i n:Nat}(h:i<n):(i:Int)<(n:Int):=by omega
theorem inI{i n:Nat}(h:i<n):0≤(i:Int)∧(i:Int)<(n:Int):=by omega
theorem bp(n:Nat):¬ (n:Int)<(n:Int):=by omega
end Pam
namespace Pam
open Go
theorem ph{T:Type}[Inhabited T](l:List T)(i:Nat)(h:i<l.length):l.drop i=l.getD i default :: l.drop (i+1):=by
 rw [List.drop_eq_getElem_cons h]
 simp [List.getD,h]
end Pam
namespace Pam
open Go
theorem yd{T:Type}[Inhabited T](l:List T){i:Nat}(h:i<l.length):l.take (i+1)=l.take i++[l.getD i default]:=by
 rw [List.take_add_one]
 simp [List.getD,h]
end Pam
