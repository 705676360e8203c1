/- What a law is handed, read as_ data, are trees of cells; and the way from a contract to the given statement. -/
import Derived.Test.YtohhobobecjigaaGreatQBase2
import Derived.ProofKit
import Derived.OpenShut
import Derived.JoinedCond
import Derived.Carry
set_option linter.all false
namespace Pam
open Go
structure Fg where
 b:∀ {H:Type},DataW H→Nat
 ba:∀ {H:Type},List (DataW H)→Nat
 str:∀ {H:Type} (s:List UInt8),b (H:=H) (.lit (.string s))=s.length+1
 one:∀ {H:Type} (d:DataW H),1≤b d
 slice:∀ {H:Type} (e r:List (DataW H)),b (.slice e r)=ba e+ba r+1
 agg:∀ {H:Type} (e:List (DataW H)),b (.agg e)=ba e+1
 nil:∀ {H:Type},ba (H:=H) []=0
 cons:∀ {H:Type} (d:DataW H) (r:List (DataW H)),ba (d :: r)=b d+ba r
def ux(B:Fg){α:Type}(P:Program)(w:World)(t:TypeId)(e:α→List CV)(ok:α→Prop)(sz:α→Nat):Prop :=
 ∀ (H:Type) (en:TypeId×Value→H) (fuel:Nat) (cs:List Value) (x:DataW H×List MemPlace),DataW.trod en P w 0 (fun _=>true) true fuel t cs=some x →
  ∃ y:α,aS (bm (fun b=>w.heap[b]?)) (e y) cs∧ok y∧sz y≤B.b x.1
section
variable {B:Fg} {P:Program} {w:World} {t:TypeId}
theorem lP{k:IntKind}(ht:P.underlying t=some (.int k)):ux B P w t (eK k) (okI k) szI:=by
 intro H en fuel cs x h
 cases fuel with
 |zero=>simp [DataW.trod] at h
 |succ fuel =>
  unfold DataW.trod at h
  rw [ht] at h
  split at h<;>simp_all
  rename_i k' n e
  obtain ⟨⟨rfl,hw⟩,rfl⟩:=h
  simp only [Lit.wf,Bool.and_eq_true,decide_eq_true_eq] at hw
  exact ⟨n,⟨.int _ _,trivial⟩,hw,B.one _⟩
theorem ql{α:Type}{f:Nat→Option α}:∀ {n k:Nat} {l:List α},(List.range' k n).mapM f=some l→l.length=n∧∀ i,i<n→f (k+i)=l[i]?
 |0,k,l,h=>by simp at h;subst h;exact ⟨rfl,fun i hi=>by omega⟩
 |n+1,k,l,h=>by
  rw [List.range'_succ,List.mapM_cons] at h
  cases hf:f k with
  |none=>rw [hf] at h;cases h
  |some a =>
   rw [hf] at h
   cases hm:(List.range' (k+1) n).mapM f with
   |none=>simp [hm] at h
   |some r =>
    simp [hm] at h;subst h
    obtain ⟨h1,h2⟩:=ql hm
    refine ⟨by simp [h1],fun i hi=>?_⟩
    cases i with
    |zero=>simpa using hf
    |succ i=>have:=h2 i (by omega);simp only [List.getElem?_cons_succ];rw [← this];congr 1;omega
theorem Ab{a:Addr}{n:Nat}{vs:List Value}(h:w.cells? 0 a n=some vs):vs.length=n∧∀ i,i<n→w.cell? (a.add i)=vs[i]? := by
 unfold World.cells? at h
 rw [iP (Nat.zero_le _)] at h
 rw [List.range_eq_range'] at h
 obtain ⟨h1,h2⟩:=ql h
 exact ⟨h1,fun i hi=>by have:=h2 i hi;rwa [Nat.zero_add] at this⟩
theorem vC{α:Type}{e:α→List CV}{ok:α→Prop}{sz:α→Nat}{el:TypeId}{H:Type}{en:TypeId×Value→H}{fuel:Nat}(hr:ux B P w el e ok sz)(cells:Nat→Option (List Value)) :
  ∀ (elems:List (DataW H×List MemPlace)) (k:Nat),(∀ i,i<elems.length→(cells (k+i)).bind (DataW.trod en P w 0 (fun _=>true) true fuel el)=elems[i]?) →
  ∃ l:List α,l.length=elems.length∧(∀ y∈l,ok y)∧(l.map sz).sum≤B.ba (elems.map (·.1))∧∀ i y,l[i]? = some y→∃ cs,cells (k+i)=some cs∧aS (bm (fun b=>w.heap[b]?)) (e y) cs
 |[],_,_=>⟨[],rfl,(fun y hy=>absurd hy (by simp)),by simp [B.nil],(fun i y h=>by simp at h)⟩
 |x :: r,k,h=>by
  have h0:=h 0 (by simp)
  simp only [Nat.add_zero,List.getElem?_cons_zero] at h0
  cases hc:cells k with
  |none=>rw [hc] at h0;cases h0
  |some cs =>
   rw [hc] at h0
   obtain ⟨y,q1,q2,q3⟩:=hr H en fuel cs x h0
   obtain ⟨l,p1,p2,p3,p4⟩:=vC hr cells r (k+1) fun i hi=>by
    have:=h (i+1) (by simpa using hi)
    simp only [List.getElem?_cons_succ] at this
    rw [← this];congr 2;omega
   refine ⟨y :: l,by simp [p1],fun z hz=>?_,?_,fun i z hz=>?_⟩
   ·rcases List.mem_cons.1 hz with rfl|hz
    ·exact q2
    ·exact p2 z hz
   ·simp only [List.map_cons,List.sum_cons];rw [B.cons];omega
   ·cases i with
    |zero=>simp at hz;subst hz;exact ⟨cs,hc,q1⟩
    |succ i =>
     obtain ⟨cs',k1,k2⟩:=p4 i z (by simpa using hz)
     exact ⟨cs',by rw [← k1];congr 1;omega,k2⟩
theorem BD{a:Addr}{v:Value}(h:w.cell? a=some v):a.spot=none∧∃ c T fz,w.heap[a.block]? = some (.cells c T fz)∧c[a.off]? = some v:=by
 unfold World.cell? at h
 split at h
 ·rename_i c T fz hb
  split at h
  ·cases h
  ·rename_i hs
   exact ⟨by simpa using hs,c,T,fz,hb,h⟩
 ·cases h
theorem mL{α:Type}{e:α→List CV}{ok:α→Prop}{sz:α→Nat}{el:TypeId}{s:Nat}(ht:P.underlying t=some (.slice el))(hs:P.cellsOf el=s)(hpos:0<s)(he:∀ y,(e y).length=s)(hr:ux B P w el e ok sz) :
  ux B P w t (eL s e) (okL ok) (szL sz):=by
 intro H en fuel cs x h
 rcases DataW.trod_slice ht h with ⟨rfl,rfl⟩|⟨a,len,cap,elems,rest,n,rfl,rfl,rfl,_,hlc,hcap,hlen,hel,_,_⟩
 ·exact ⟨[],⟨.tree0 _ _ _ (fun _=>rfl),trivial⟩,(fun y hy=>absurd hy (by simp)),B.one _⟩
 ·rw [hs] at hel
  obtain ⟨l,p1,p2,p3,p4⟩:=vC (H:=H) (en:=en) (fuel:=n) hr (fun i=>w.cells? 0 (a.add (i * s)) s) elems 0 fun i hi=>by rw [Nat.zero_add];exact hel i (by omega)
  refine ⟨l,⟨?_,trivial⟩,p2,by unfold szL;simp only;rw [B.slice];omega⟩
  cases l with
  |nil=>simp at p1;subst hlen;rw [← p1];exact .tree0 _ _ _ (fun h=>by cases h)
  |cons y0 l0 =>
   have hget:∀ i y,(y0 :: l0)[i]? = some y→∀ j v,(e y)[j]? = some v→∃ u,w.cell? ((a.add (i * s)).add j)=some u∧bm (fun b=>w.heap[b]?) v u:=by
    intro i y hy j v hv
    obtain ⟨cs,k1,k2⟩:=p4 i y hy
    rw [Nat.zero_add] at k1
    obtain ⟨q1,q2⟩:=Ab k1
    obtain ⟨u,r1,r2⟩:=aS.get k2 j v hv
    have hj:j<s:=by rw [← he y];exact (List.getElem?_eq_some_iff.1 hv).1
    exact ⟨u,by rw [q2 j hj];exact r1,r2⟩
   have h00:∃ v,(e y0)[0]? = some v:=⟨_,List.getElem?_eq_getElem (by rw [he];exact hpos)⟩
   obtain ⟨v0,hv0⟩:=h00
   obtain ⟨u0,hu0,_⟩:=hget 0 y0 rfl 0 v0 hv0
   have ea:(a.add (0 * s)).add 0=a:=by simp [Addr.add]
   rw [ea] at hu0
   obtain ⟨hspot,c,T,fz,hb,_⟩:=BD hu0
   obtain ⟨blk,off,spot⟩:=a
   simp only at hspot hb;subst hspot
   have hlen':((y0 :: l0).map e).length=len:=by rw [List.length_map,p1,hlen]
   rw [← hlen']
   refine .tree s _ blk off cap c T fz (fun i j=>(c[off+i * s+j]?).getD undef) hb (by rw [hlen'];exact hlc) (fun i x hx=>?_) (fun i j x v hx hv=>?_) (fun i j x v hx hv=>?_)
   ·rw [List.getElem?_map] at hx
    cases hy:(y0 :: l0)[i]? with
    |none=>rw [hy] at hx;cases hx
    |some y=>rw [hy] at hx;simp at hx;subst hx;exact he y
   all_goals
    rw [List.getElem?_map] at hx
    cases hy:(y0 :: l0)[i]? with
    |none=>rw [hy] at hx;cases hx
    |some y =>
     rw [hy] at hx
     simp only [Option.map_some,sJ] at hx
     subst hx
     obtain ⟨u,hu,hru⟩:=hget i y hy j v hv
     rw [jO,jO] at hu
     have hc:=qX hb (off+i * s+j)
     rw [hu] at hc
     first
      |(rw [← hc];rfl)
      |(rw [← hc];exact hru)
theorem BE{α β:Type}{R:α→β→Prop}{as_ bs:List α}{cs:List β}{n m:Nat}(h:aS R as_ (cs.take n))(h':aS R bs ((cs.drop n).take m)):aS R (as_++bs) (cs.take (n+m)):=by
 rw [List.take_add];exact h.append h'
theorem fV{α β:Type}{R:α→β→Prop}{as_ bs:List α}{cs:List β}{n m k:Nat}(hk:n+m=k)(h:aS R as_ (cs.take n))(h':aS R bs ((cs.drop n).take m)):aS R (as_++bs) (cs.take k):=by
 subst hk;exact BE h h'
theorem iK{α β:Type}{R:α→β→Prop}{as_:List α}{cs:List β}{o n m:Nat}(h:n=m)(h':aS R as_ ((cs.drop o).take n)):aS R as_ ((cs.drop o).take m):=h ▸ h'
theorem pU{α β:Type}{R:α→β→Prop}{as_:List α}{cs:List β}{n:Nat}(hl:cs.length=n)(h:aS R as_ (cs.take n)):aS R as_ cs:=by
 rwa [List.take_of_length_le (by omega)] at h
theorem DV{W:World}{w0:W0}{own:List (Option OG)}{F:Nat→Option Obj}{na:Nat}{cs:List CV}{vs:Array Value}(h:aS (bm (fun b=>W.heap[b]?)) cs (Value.agg vs).cells.toList):a8 ⟨fun b=>W.heap[b]?,F,own,w0,na⟩ (.a cs) (.agg vs) :=
 ⟨vs.toList,by simp,aS.mono (fun _ _ h=>bm.rep h) h⟩
theorem DW{W:World}{w0:W0}{own:List (Option OG)}{F:Nat→Option Obj}{na:Nat}{c:CV}{v:Value}{cs:List Value}(hc:cs=[v])(h:aS (bm (fun b=>W.heap[b]?)) [c] cs):a8 ⟨fun b=>W.heap[b]?,F,own,w0,na⟩ (.c c) v:=by
 subst hc;exact bm.rep h.1
end
end Pam
namespace Pam
open Go Go.RowKit
def gh0(W:World):Gh:=⟨fun b=>W.heap[b]?,fun _=>none,[],⟨W,[]⟩,0⟩
theorem GG(W:World):Inv (gh0 W) [] W :=
 ⟨(fun _ _ h=>h),(fun _ _ h=>nomatch h),(fun _ _ h=>nomatch h),rfl,(fun b ob h=>absurd h (by simp)),(fun b b' o o' h=>absurd h (by simp [gh0])),(fun b o h=>absurd h (by simp [gh0])),rfl,rfl,rfl,Nat.le_refl _⟩
theorem Ac{P:Program}{f:FuncId}{args:List PV}{res:PV}(h:ce P f args res)(W:World)(vs:List Value)(ha:aS (a8 (gh0 W)) args vs) :
  Calls P f vs.toArray W fun e W'=>∃ v G',e=.returned v∧a8 G' res v∧Below W.heap.size W W':=by
 refine (h.2 (gh0 W) W vs rfl rfl (GG W) ha).mono fun e w' hq=>?_
 obtain ⟨G',σ',p,v,h1,h2,h3,h4⟩:=hq
 rcases h4 with ⟨rfl,rfl,rfl⟩|⟨_,h4⟩
 ·refine ⟨v,G',rfl,h3,?_⟩
  have hw:=h1.le.w0
  refine ⟨by rw [h2.os,hw];rfl,by rw [h2.tape,hw];rfl,by rw [h2.output,hw];rfl,?_,fun k hk=>?_⟩
  ·have:=h2.grow;rw [hw] at this;exact this
  ·have e:W.heap[k]? = some W.heap[k]:=Array.getElem?_eq_getElem hk
   rw [e]
   exact h2.hH _ _ (h1.le.H k _ e)
 ·exact h4.elim
theorem Ad{W W':World}(h:Below W.heap.size W W')(may:MemPlace→Prop):W.keptBut W' may:=by
 refine ⟨h.os,h.output,fun i hi=>?_⟩
 rw [h.block i hi]
 cases W.heap[i]? with
 |none=>rfl
 |some o=>cases o<;>first|exact ⟨rfl,rfl,rfl,fun _ _=>rfl⟩|exact .inr ⟨rfl,rfl⟩|rfl
theorem rJ{H:Type}{enc:TypeId×Value→H}{P:Program}(hl:laidOutB P=true){W W':World}(hb:Below W.heap.size W W') :
  ∀ {ts:List TypeId} {vs:List Value} {ds:List (DataW H)} {ps:List MemPlace},(∀ t∈ts,P.readableRec t=true∧t<P.types.size)→(∀ x∈ps,x.block<W.heap.size) →
   DataW.TrodAll enc P W 0 (fun _=>true) true ts vs ds ps→DataW.TrodAll enc P W' 0 (fun b=>decide (b<W.heap.size)) true ts vs ds ps
 |[],[],[],_,_,_,h=>h
 |t :: ts,v :: vs,d :: ds,ps,ht,hlt,h=>by
  obtain ⟨p,q,h1,h2,rfl⟩:=h
  exact ⟨p,q,Below.trod hl (ht t (by simp)).1 (ht t (by simp)).2 h1 hb (fun x hx=>hlt x (by simp [hx])),rJ hl hb (fun t h=>ht t (by simp [h])) (fun x hx=>hlt x (by simp [hx])) h2,rfl⟩
 |[],_ :: _,_,_,_,_,h=>by cases h
 |[],[],_ :: _,_,_,_,h=>by cases h
 |_ :: _,[],_,_,_,_,h=>by cases h
 |_ :: _,_ :: _,[],_,_,_,h=>by cases h
theorem Cy{H:Type}{enc:TypeId×Value→H}{P:Program}{fn:Func}{s:ChangeSpec}{W W':World}{args:Array Value}{ds gs:List (DataW H)}{before:List MemPlace}{T:TypeId}
  (hl:laidOutB P=true) (ht:∀ t∈fn.params.toList,P.readableRec t=true∧t<P.types.size) (hv:s.vars=[])
  (hW:DataW.Whole enc P fn.params.toList s.vars false W args.toList ds gs before) (hb:Below W.heap.size W W')
  (hr:fn.resultTypes=#[T]) (hT:P.underlying T=some .bool)
  (hs:(s.fn H (ds++gs)).results=[.lit (.bool true)]) (hs':(s.fn H (ds++gs)).args=ds) (hs'':(s.fn H (ds++gs)).vars=[]):s.post enc P fn false true false false W args (.bool true) W':=by
 have hW0:=hW
 have hlt:=hW.lt
 obtain ⟨p,q,h1,h2,h3,h4,h5⟩:=hW0
 have hvars:gs=[]∧q=[]:=by
  rw [hv] at h2
  cases gs with
  |nil=>exact ⟨rfl,h2⟩
  |cons g gs=>exact h2.elim
 obtain ⟨rfl,rfl⟩:=hvars
 simp only [List.append_nil] at h3;subst h3
 refine ⟨ds,[],before,[],before,[],hW,?_,?_,?_,Ad hb _,fun h=>by cases h⟩
 ·rw [hs,hr]
  refine ⟨[],[],⟨1,?_⟩,?_,rfl⟩
  ·simp [DataW.trod,hT,Value.resultList,Value.cells]
  ·rfl
 ·rw [hs']
  exact rJ hl hb ht (fun x hx=>hlt x hx) h1
 ·rw [hv,hs''];rfl
theorem Fh{P:Program}{W:World}{r:Reach}{base:Nat}{t:TypeId}{v:Value}(h:Value.okWide P W r base t v)(ht:lG P t=false)(hu:(P.underlying t).isSome=true):v.cells.toList=[v]:=by
 cases v
 case agg cs =>
  exfalso
  unfold lG at ht
  cases hd:P.underlying t with
  |none=>rw [hd] at hu;cases hu
  |some d =>
   rw [hd] at ht
   cases d<;>simp [Value.okWide,Cell.okWide,Cell.ok,hd] at h ht
 all_goals rfl
theorem Fi{P:Program}{W:World}{r:Reach}{base:Nat}{t:TypeId}{v:Value}(h:Value.okWide P W r base t v)(ht:lG P t=true):∃ cs,v=.agg cs:=by
 unfold lG at ht
 cases hd:P.underlying t with
 |none=>rw [hd] at ht;cases ht
 |some d =>
  rw [hd] at ht
  cases d<;>simp [Value.okWide,hd] at h ht<;>exact ⟨_,h.choose_spec.1⟩
end Pam
namespace Pam
open Go
theorem wr{n:Int}(h1:-9223372036854775808≤n)(h2:n≤9223372036854775807):IntKind.wrap .i64 n=n:=by
 rw [IntKind.wrap_i64];omega
theorem wrs(i:Nat)(h:i<9223372036854775807):IntKind.wrap .i64 ((i:Int)+1)=((i+1:Nat):Int):=by
 rw [wr (by omega) (by omega)];omega
def dG{T Z:Type}(n:Nat)(f:Nat→Option Z)(t:T):T ⊕ Z :=
 match (List.range n).findSome? f with
 |some z=>.inr z
 |none=>.inl t
theorem xi{T Z:Type}{body:Int→Option (Int ⊕ (T ⊕ Z))}(f:Nat→Option Z)(t:T):∀ (k i n:Nat),i+k=n →
  (∀ i:Nat,i<n→body i=some (match f i with|some z=>.inr (.inr z)|none=>.inl ((i+1:Nat):Int)))→body n=some (.inr (.inl t)) →
  aM body (i:Int)=some (match (List.range' i k).findSome? f with|some z=>.inr z|none=>.inl t)
 |0,i,n,hi,h,he=>by
  have:i=n:=by omega
  subst this
  rw [cP he];rfl
 |k+1,i,n,hi,h,he=>by
  have hb:=h i (by omega)
  rw [List.range'_succ,List.findSome?_cons]
  cases hf:f i with
  |some z=>rw [hf] at hb;exact cP hb
  |none =>
   rw [hf] at hb
   rw [cH hb]
   exact xi f t k (i+1) n (by omega) h he
theorem bW{T Z:Type}{body:Int→Option (Int ⊕ (T ⊕ Z))}(n:Nat)(f:Nat→Option Z)(t:T)
  (h:∀ i:Nat,i<n→body i=some (match f i with|some z=>.inr (.inr z)|none=>.inl ((i+1:Nat):Int))) (he:body n=some (.inr (.inl t))) :
  aM body 0=some (dG n f t):=by
 have:=xi f t n 0 n (by omega) h he
 rw [dG,List.range_eq_range']
 exact this
theorem jH{T Z:Type}{n:Nat}{f:Nat→Option Z}{t:T}(h:∀ i,i<n→f i=none):dG n f t=.inl t:=by
 unfold dG
 rw [List.findSome?_eq_none_iff.2 (fun i hi=>h i (List.mem_range.1 hi))]
theorem cS{T Z:Type}(n:Nat)(f:Nat→Option Z)(t:T):(dG n f t=.inl t∧∀ i,i<n→f i=none)∨∃ i z,i<n∧f i=some z∧dG n f t=.inr z:=by
 unfold dG
 cases h:(List.range n).findSome? f with
 |none=>exact .inl ⟨rfl,fun i hi=>List.findSome?_eq_none_iff.1 h i (List.mem_range.2 hi)⟩
 |some z =>
  obtain ⟨i,hi,hz⟩:=List.exists_of_findSome?_eq_some h
  exact .inr ⟨i,z,List.mem_range.1 hi,hz,rfl⟩
theorem aI{α:Type}[Inhabited α]{l:List α}{i:Nat}(h:i<l.length):l.getD i default∈l:=by
 have:l.getD i default=l[i]:=by simp [List.getD,h]
 rw [this];exact List.getElem_mem h
theorem ltI{i n:Nat}(h:i<n):(i:Int)<(n:Int):=by omega
theorem inI{i n:Nat}(h:i<n):0≤(i:Int)∧(i:Int)<(n:Int):=by omega
theorem aW(n:Nat):¬ (n:Int)<(n:Int):=by omega
end Pam
namespace Pam
open Go
theorem xj{T:Type}[Inhabited T](l:List T)(i:Nat)(h:i<l.length):l.drop i=l.getD i default :: l.drop (i+1):=by
 rw [List.drop_eq_getElem_cons h]
 simp [List.getD,h]
theorem nL{A T O S:Type}[Inhabited T](mk:A→Int→S){body:S→Option (S ⊕ O)}(l:List T)(f:A→T→A)(I:Nat→A→Prop)(fin:A→O)(a0:A)(h0:I 0 a0)
  (h:∀ (i:Nat) (a:A),i<l.length→I i a→body (mk a (i:Int))=some (.inl (mk (f a (l.getD i default)) ((i+1:Nat):Int)))∧I (i+1) (f a (l.getD i default)))
  (he:∀ a,I l.length a→body (mk a (l.length:Int))=some (.inr (fin a))) :
  aM body (mk a0 0)=some (fin (l.foldl f a0))∧I l.length (l.foldl f a0):=by
 have key:∀ (k i:Nat) (a:A),i+k=l.length→I i a→aM body (mk a (i:Int))=some (fin ((l.drop i).foldl f a))∧I l.length ((l.drop i).foldl f a):=by
  intro k
  induction k with
  |zero =>
   intro i a hi ha
   have:i=l.length:=by omega
   subst this
   rw [cP (he a ha),List.drop_length]
   exact ⟨rfl,ha⟩
  |succ k ih =>
   intro i a hi ha
   obtain ⟨h1,h2⟩:=h i a (by omega) ha
   rw [cH h1,xj l i (by omega),List.foldl_cons]
   exact ih (i+1) _ (by omega) h2
 have:=key l.length 0 a0 (by omega) h0
 simpa using this
def oe{A T Z:Type}(f:Nat→A→T→A ⊕ Z):Nat→List T→A→A ⊕ Z
 |_,[],a=>.inl a
 |i,x :: l,a=>match f i a x with|.inl a'=>oe f (i+1) l a'|.inr z=>.inr z
theorem pY{A T O S Z:Type}[Inhabited T](mk:A→Int→S){body:S→Option (S ⊕ (O ⊕ Z))}(l:List T)(f:Nat→A→T→A ⊕ Z)(I:Nat→A→Prop)(fin:A→O)(a0:A)(h0:I 0 a0)
  (h : ∀ (i : Nat) (a : A), i < l.length → I i a → body (mk a (i : Int)) = some (match f i a (l.getD i default) with | .inl a' => .inl (mk a' ((i + 1 : Nat) : Int)) | .inr z => .inr (.inr z)) ∧
   ∀ a',f i a (l.getD i default)=.inl a'→I (i+1) a')
  (he:∀ a,I l.length a→body (mk a (l.length:Int))=some (.inr (.inl (fin a)))) :
  aM body (mk a0 0)=some (match oe f 0 l a0 with|.inl a=>.inl (fin a)|.inr z=>.inr z)∧∀ a,oe f 0 l a0=.inl a→I l.length a:=by
 have key:∀ (k i:Nat) (a:A),i+k=l.length→I i a→aM body (mk a (i:Int))=some (match oe f i (l.drop i) a with|.inl a=>.inl (fin a)|.inr z=>.inr z) ∧
   ∀ b,oe f i (l.drop i) a=.inl b→I l.length b:=by
  intro k
  induction k with
  |zero =>
   intro i a hi ha
   have:i=l.length:=by omega
   subst this
   rw [cP (he a ha),List.drop_length]
   refine ⟨rfl,fun b hb=>?_⟩
   simp only [oe,Sum.inl.injEq] at hb
   subst hb;exact ha
  |succ k ih =>
   intro i a hi ha
   obtain ⟨h1,h2⟩:=h i a (by omega) ha
   rw [xj l i (by omega),oe]
   cases hf:f i a (l.getD i default) with
   |inl a' =>
    rw [hf] at h1
    rw [cH h1]
    exact ih (i+1) a' (by omega) (h2 a' hf)
   |inr z =>
    rw [hf] at h1
    rw [cP h1]
    exact ⟨rfl,fun b hb=>by cases hb⟩
 have:=key l.length 0 a0 (by omega) h0
 simpa using this
end Pam
namespace Pam
open Go
theorem u4{S T Z:Type}(mk:Nat→S){body:S→Option (S ⊕ (T ⊕ Z))}(n:Nat)(f:Nat→Option Z)(t:T)
  (h:∀ i,i<n→body (mk i)=some (match f i with|some z=>.inr (.inr z)|none=>.inl (mk (i+1)))) (he:body (mk n)=some (.inr (.inl t))) :
  aM body (mk 0)=some (dG n f t):=by
 have key:∀ (k i:Nat),i+k=n→aM body (mk i)=some (match (List.range' i k).findSome? f with|some z=>.inr z|none=>.inl t):=by
  intro k
  induction k with
  |zero =>
   intro i hi
   have:i=n:=by omega
   subst this
   rw [cP he];rfl
  |succ k ih =>
   intro i hi
   have hb:=h i (by omega)
   rw [List.range'_succ,List.findSome?_cons]
   cases hf:f i with
   |some z=>rw [hf] at hb;exact cP hb
   |none =>
    rw [hf] at hb
    rw [cH hb]
    exact ih (i+1) (by omega)
 have:=key n 0 (by omega)
 rw [dG,List.range_eq_range']
 exact this
theorem e8{S T:Type}(mk:Nat→S){body:S→Option (S ⊕ T)}(n:Nat)(t:T)
  (h:∀ i,i<n→body (mk i)=some (.inl (mk (i+1)))) (he:body (mk n)=some (.inr t)):aM body (mk 0)=some t:=by
 have key:∀ (k i:Nat),i+k=n→aM body (mk i)=some t:=by
  intro k
  induction k with
  |zero =>
   intro i hi
   have:i=n:=by omega
   subst this
   exact cP he
  |succ k ih =>
   intro i hi
   rw [cH (h i (by omega))]
   exact ih (i+1) (by omega)
 exact key n 0 (by omega)
def dZ{α:Type}(n:Nat)(g:Nat→α):List α:=(List.range n).map g
theorem jD{α:Type}(n:Nat)(g:Nat→α):(dZ n g).length=n:=by simp [dZ]
theorem qM{α:Type}[Inhabited α]{n:Nat}{g:Nat→α}{v:Nat}(h:v<n):(dZ n g).getD v default=g v:=by simp [dZ,List.getD,h]
theorem vU{α:Type}{n:Nat}{g:Nat→α}{v:Nat}{x:α}:(dZ n g).set v x=dZ n (fun u=>if u=v then x else g u):=by
 apply List.ext_getElem
 ·simp [dZ]
 ·intro i h1 h2
  rw [List.getElem_set]
  simp only [dZ,List.getElem_map,List.getElem_range]
  by_cases h:v=i
  ·rw [iP h,iP h.symm]
  ·rw [iN h,iN (fun e=>h e.symm)]
theorem xo{α:Type}(n:Nat)(g:Nat→α):dZ (n+1) g=dZ n g++[g n]:=by simp [dZ,List.range_succ]
theorem kj{α:Type}{n:Nat}{g g':Nat→α}(h:∀ v,v<n→g v=g' v):dZ n g=dZ n g':=by
 unfold dZ
 apply List.map_congr_left
 intro v hv
 exact h v (List.mem_range.1 hv)
theorem zc{α:Type}(n:Nat)(x:α):List.replicate n x=dZ n (fun _=>x):=by
 apply List.ext_getElem
 ·simp [dZ]
 ·intro i h1 h2;simp [dZ]
theorem yk{α:Type}[Inhabited α](l:List α):l=dZ l.length (fun v=>l.getD v default):=by
 apply List.ext_getElem
 ·simp [dZ]
 ·intro i h1 h2;simp [dZ,List.getD,h1]
theorem b8{T:Type}[Inhabited T](l:List T){i:Nat}(h:i<l.length):l.take (i+1)=l.take i++[l.getD i default]:=by
 rw [List.take_add_one]
 simp [List.getD,h]
end Pam
namespace Pam
open Go
theorem ua:∀ {l m:List Nat},l.Nodup→(∀ x∈l,x∈m)→l.length≤m.length
 |[],_,_,_=>Nat.zero_le _
 |x :: l,m,hn,hs=>by
  obtain ⟨h1,h2⟩:=List.nodup_cons.1 hn
  have hx:=hs x (by simp)
  have:=ua (l:=l) (m:=m.erase x) h2 (fun y hy=>by
   have hne:y≠x:=fun e=>h1 (e ▸ hy)
   exact (List.mem_erase_of_ne hne).2 (hs y (by simp [hy])))
  rw [List.length_erase_of_mem hx] at this
  have:0<m.length:=List.length_pos_of_mem hx
  simp only [List.length_cons]
  omega
theorem tk{l:List Nat}{n:Nat}(hn:l.Nodup)(h:∀ x∈l,x<n):l.length≤n:=by
 have:=ua (m:=List.range n) hn (fun x hx=>List.mem_range.2 (h x hx))
 simpa using this
theorem sv{l:List Nat}{n:Nat}(hn:l.Nodup)(h:∀ x∈l,x<n)(hl:l.length=n):∀ i,i<n→i∈l:=by
 intro i hi
 refine Classical.byContradiction fun hc=>?_
 have:=tk (l:=i :: l) (n:=n) (List.nodup_cons.2 ⟨hc,hn⟩) (fun x hx=>by
  rcases List.mem_cons.1 hx with rfl|hx
  ·exact hi
  ·exact h x hx)
 simp only [List.length_cons] at this
 omega
section turns
variable (n:Nat) (c:List Nat→Nat→Bool)
def jM(d:List Nat):Option Nat:=(List.range n).find? (fun i=>!d.contains i && c d i)
def ji:Nat→List Nat
 |0=>[]
 |k+1=>match jM n c (ji k) with|some i=>ji k++[i]|none=>ji k
def mg:List Nat:=ji n c n
variable {n c}
theorem sw{d:List Nat}{i:Nat}(h:jM n c d=some i):i<n∧¬ i∈d∧c d i=true:=by
 unfold jM at h
 have h1:=List.find?_some h
 have h2:=List.mem_of_find?_eq_some h
 simp only [Bool.and_eq_true,Bool.not_eq_true'] at h1
 refine ⟨List.mem_range.1 h2,fun hc=>?_,h1.2⟩
 rw [List.contains_iff_mem.2 hc] at h1
 cases h1.1
theorem nO:∀ k,(ji n c k).Nodup∧∀ i∈ji n c k,i<n
 |0=>⟨List.nodup_nil,fun i hi=>by cases hi⟩
 |k+1=>by
  obtain ⟨h1,h2⟩:=nO k
  rw [ji]
  cases h:jM n c (ji n c k) with
  |none=>exact ⟨h1,h2⟩
  |some i =>
   obtain ⟨h3,h4,_⟩:=sw h
   refine ⟨?_,fun j hj=>?_⟩
   ·rw [List.nodup_append]
    refine ⟨h1,by simp,fun a ha b hb e=>?_⟩
    simp only [List.mem_singleton] at hb
    subst hb;subst e;exact h4 ha
   ·rcases List.mem_append.1 hj with hj|hj
    ·exact h2 j hj
    ·simp only [List.mem_singleton] at hj;subst hj;exact h3
theorem yl:∀ k,(ji n c k).length=k∨jM n c (ji n c k)=none
 |0=>.inl rfl
 |k+1=>by
  rw [ji]
  cases h:jM n c (ji n c k) with
  |none=>exact .inr h
  |some i =>
   refine .inl ?_
   rcases yl k with h1|h1
   ·simp [h1]
   ·rw [h1] at h;cases h
theorem xr{k:Nat}(h:jM n c (ji n c k)=none):∀ j,ji n c (k+j)=ji n c k
 |0=>rfl
 |j+1=>by
  rw [← Nat.add_assoc,ji,xr h j,h]
theorem CT:jM n c (mg n c)=none:=by
 unfold mg
 rcases yl (n:=n) (c:=c) n with h|h
 ·obtain ⟨h1,h2⟩:=nO (n:=n) (c:=c) n
  have hf:=sv h1 h2 h
  cases hq:jM n c (ji n c n) with
  |none=>rfl
  |some i =>
   obtain ⟨h3,h4,_⟩:=sw hq
   exact absurd (hf i h3) h4
 ·exact h
theorem ym:(mg n c).length≤n:=tk (nO n).1 (nO n).2
theorem qN{k:Nat}(hk:k≤(mg n c).length):(ji n c k).length=k:=by
 rcases yl (n:=n) (c:=c) k with h|h
 ·exact h
 ·have hle:=ym (n:=n) (c:=c)
  have:=xr h (n - k)
  rw [show k+(n - k)=n from by omega] at this
  have hk2:mg n c=ji n c k:=this
  have h3:(ji n c k).length≤k:=by
   clear h this hk2 hk hle
   induction k with
   |zero=>exact Nat.le_refl 0
   |succ k ih =>
    rw [ji]
    cases jM n c (ji n c k) with
    |none=>simp only;omega
    |some i=>simp;omega
  rw [hk2] at hk
  omega
theorem xt{k:Nat}(hk:k<(mg n c).length):∃ i,jM n c (ji n c k)=some i∧ji n c (k+1)=ji n c k++[i]:=by
 cases h:jM n c (ji n c k) with
 |none =>
  have h1:=qN (n:=n) (c:=c) (k:=k) (by omega)
  have h2:=qN (n:=n) (c:=c) (k:=k+1) (by omega)
  rw [ji,h] at h2
  simp only at h2
  omega
 |some i=>exact ⟨i,rfl,by rw [ji,h]⟩
theorem CU:ji n c (mg n c).length=mg n c:=by
 have hle:=ym (n:=n) (c:=c)
 have key:∀ j,∃ l,ji n c ((mg n c).length+j)=ji n c (mg n c).length++l:=by
  intro j
  induction j with
  |zero=>exact ⟨[],by simp⟩
  |succ j ih =>
   obtain ⟨l,hl⟩:=ih
   rw [← Nat.add_assoc,ji]
   cases jM n c (ji n c ((mg n c).length+j)) with
   |none=>exact ⟨l,hl⟩
   |some i=>exact ⟨l++[i],by simp only [hl,List.append_assoc]⟩
 obtain ⟨l,hl⟩:=key (n - (mg n c).length)
 rw [show (mg n c).length+(n - (mg n c).length)=n from by omega] at hl
 have h1:=qN (n:=n) (c:=c) (k:=(mg n c).length) (by omega)
 have h2:(mg n c).length=(ji n c (mg n c).length++l).length:=by rw [← hl];rfl
 rw [List.length_append,h1] at h2
 have:l=[]:=List.eq_nil_of_length_eq_zero (by omega)
 rw [this,List.append_nil] at hl
 exact hl.symm
theorem As:(mg n c).Nodup:=(nO n).1
theorem Eh{i:Nat}(h:i∈mg n c):i<n:=(nO n).2 i h
theorem ub{k:Nat}(hk:k≤(mg n c).length):ji n c k=(mg n c).take k:=by
 have key:∀ j,k+j≤(mg n c).length→(ji n c (k+j)).take k=ji n c k:=by
  intro j
  induction j with
  |zero=>intro _;rw [Nat.add_zero,List.take_of_length_le (by rw [qN hk];exact Nat.le_refl _)]
  |succ j ih =>
   intro hj
   obtain ⟨i,_,e⟩:=xt (n:=n) (c:=c) (k:=k+j) (by omega)
   rw [← Nat.add_assoc,e,List.take_append_of_le_length (by rw [qN (by omega)];omega),ih (by omega)]
 have:=key ((mg n c).length - k) (by omega)
 rw [show k+((mg n c).length - k)=(mg n c).length from by omega,CU] at this
 exact this.symm
theorem CW{k:Nat}(hk:k<(mg n c).length):jM n c ((mg n c).take k)=some ((mg n c).getD k default):=by
 obtain ⟨i,h1,h2⟩:=xt hk
 rw [ub (by omega),b8 _ hk,ub (by omega)] at h2
 rw [ub (by omega)] at h1
 have:=List.append_cancel_left h2
 simp only [List.cons.injEq,and_true] at this
 rw [this,h1]
end turns
def cA(n:Nat)(d:List Nat):List Nat:=(List.range n).filter (fun i=>!d.contains i)
theorem qO(n:Nat)(d:List Nat):(cA n d).Nodup:=List.nodup_range.filter _
theorem mF{n:Nat}{d:List Nat}{i:Nat}:i∈cA n d↔i<n∧¬ i∈d:=by
 unfold cA
 rw [List.mem_filter,List.mem_range]
 simp
theorem wa(n:Nat)(c:List Nat→Nat→Bool)(d:List Nat):jM n c d=(cA n d).find? (c d):=by
 unfold jM cA
 rw [List.find?_filter]
 congr 1
 funext i
 cases d.contains i<;>cases c d i<;>rfl
theorem wb{n:Nat}{c:List Nat→Nat→Bool}{d:List Nat}{j:Nat}(hj:j<(cA n d).length)(h1:c d ((cA n d).getD j default)=true)(h2:∀ i,i<j→c d ((cA n d).getD i default)=false) :
  jM n c d=some ((cA n d).getD j default):=by
 rw [wa]
 rw [List.find?_eq_some_iff_getElem]
 have e:∀ i,(h:i<(cA n d).length)→(cA n d).getD i default=(cA n d)[i]:=fun i h=>by simp [List.getD,h]
 refine ⟨h1,j,hj,(e j hj).symm,fun i hi=>?_⟩
 have:=h2 i hi
 rw [e i (by omega)] at this
 rw [this];rfl
theorem At{n:Nat}{c:List Nat→Nat→Bool}{d:List Nat}(h:∀ i,i<(cA n d).length→c d ((cA n d).getD i default)=false):jM n c d=none:=by
 rw [wa]
 rw [List.find?_eq_none]
 intro x hx
 obtain ⟨i,hi,rfl⟩:=List.mem_iff_getElem.1 hx
 have:=h i hi
 simp only [List.getD,hi,List.getElem?_eq_getElem,Option.getD_some] at this
 rw [this];simp
theorem tm:∀ {l:List Nat} {j:Nat},l.Nodup→j<l.length→l.take j++l.drop (j+1)=l.filter (fun i=>i != l.getD j default)
 |[],_,_,h=>by cases h
 |x :: l,0,hn,_=>by
  obtain ⟨h1,_⟩:=List.nodup_cons.1 hn
  have e:(x :: l).getD 0 default=x:=rfl
  rw [e,List.filter_cons_of_neg (by simp)]
  simp only [List.take_zero,List.drop_succ_cons,List.drop_zero,List.nil_append]
  rw [List.filter_eq_self.2]
  intro y hy
  exact bne_iff_ne.2 (fun e=>h1 (e ▸ hy))
 |x :: l,j+1,hn,h=>by
  obtain ⟨h1,h2⟩:=List.nodup_cons.1 hn
  have hj:j<l.length:=by simpa using h
  have e:(x :: l).getD (j+1) default=l.getD j default:=rfl
  have hm:l.getD j default∈l:=aI hj
  have hx:(x != l.getD j default)=true:=bne_iff_ne.2 (fun q=>h1 (by rw [q];exact hm))
  rw [e,List.filter_cons_of_pos (p:=fun i=>i != l.getD j default) hx]
  simp only [List.take_succ_cons,List.drop_succ_cons,List.cons_append]
  rw [tm h2 hj]
theorem BP{n:Nat}{d:List Nat}{j:Nat}(hj:j<(cA n d).length):(cA n d).take j++(cA n d).drop (j+1)=cA n (d++[(cA n d).getD j default]):=by
 rw [tm (qO n d) hj]
 generalize (cA n d).getD j default=x
 unfold cA
 rw [List.filter_filter]
 apply List.filter_congr
 intro i _
 simp [List.contains_append,Bool.and_comm,bne]
 grind
theorem xu{n:Nat}:∀ {d:List Nat},d.Nodup→(∀ i∈d,i<n)→(cA n d).length+d.length=n:=by
 intro d hn hl
 have h1:(cA n d++d).length≤n:=tk (by
  rw [List.nodup_append]
  refine ⟨qO n d,hn,fun a ha b hb e=>?_⟩
  subst e
  exact (mF.1 ha).2 hb) (fun x hx=>by
   rcases List.mem_append.1 hx with h|h
   ·exact (mF.1 h).1
   ·exact hl x h)
 have h2:n≤(cA n d++d).length:=by
  have:=ua (l:=List.range n) (m:=cA n d++d) List.nodup_range (fun x hx=>by
   by_cases hd:x∈d
   ·exact List.mem_append.2 (.inr hd)
   ·exact List.mem_append.2 (.inl (mF.2 ⟨List.mem_range.1 hx,hd⟩)))
  simpa using this
 rw [List.length_append] at h1 h2
 omega
theorem zl{n:Nat}{d:List Nat}(h:0<(cA n d).length):(cA n d).getD 0 default<n∧¬ (cA n d).getD 0 default∈d∧∀ i,i<(cA n d).getD 0 default→i∈d:=by
 obtain ⟨h1,h2⟩:=mF.1 (aI h)
 refine ⟨h1,h2,fun i hi=>Classical.byContradiction fun hc=>?_⟩
 have hm:i∈cA n d:=mF.2 ⟨by omega,hc⟩
 obtain ⟨k,hk,e⟩:=List.mem_iff_getElem.1 hm
 have hp:(cA n d).Pairwise (·<·):=List.pairwise_lt_range.filter _
 have e0:(cA n d).getD 0 default=(cA n d)[0]:=by simp [List.getD,h]
 rw [e0] at hi
 rcases Nat.eq_zero_or_pos k with rfl|hk0
 ·rw [e] at hi;exact Nat.lt_irrefl _ hi
 ·have:=List.pairwise_iff_getElem.1 hp 0 k h hk hk0
  rw [e] at this
  omega
theorem Gr{p:Nat→Prop}:∀ {i:Nat},p i→∃ j,j≤i∧p j∧∀ k,k<j→¬ p k:=by
 intro i
 induction i using Nat.strongRecOn with
 |_ i ih =>
  intro h
  by_cases hc:∃ k,k<i∧p k
  ·obtain ⟨k,hk,hp⟩:=hc
   obtain ⟨j,h1,h2⟩:=ih k hk hp
   exact ⟨j,by omega,h2⟩
  ·exact ⟨i,Nat.le_refl _,h,fun k hk hp=>hc ⟨k,hk,hp⟩⟩
theorem Ei{T Z:Type}{n i:Nat}{f:Nat→Option Z}{t:T}{z:Z}(hi:i<n)(h:∀ j,j<i→f j=none)(hz:f i=some z):dG n f t=.inr z:=by
 have e:(List.range n).findSome? f=some z:=by
  rw [List.range_eq_range',show n=i+(n - i - 1+1) from by omega,← List.range'_append_1,List.findSome?_append]
  have:(List.range' 0 i).findSome? f=none:=List.findSome?_eq_none_iff.2 (fun x hx=>by
   obtain ⟨_,h2⟩:=List.mem_range'_1.1 hx
   exact h x (by omega))
  rw [this,Nat.zero_add,List.range'_succ,List.findSome?_cons,hz]
  rfl
 unfold dG
 rw [e]
theorem CX{T Z:Type}(n:Nat)(f:Nat→Option Z)(t:T):(dG n f t=.inl t∧∀ i,i<n→f i=none)∨∃ i z,i<n∧f i=some z∧(∀ j,j<i→f j=none)∧dG n f t=.inr z:=by
 rcases cS n f t with h|⟨i,z,hi,hz,_⟩
 ·exact .inl h
 ·obtain ⟨j,h1,h2,h3⟩:=Gr (p:=fun j=>¬ f j=none) (i:=i) (by rw [hz];exact fun h=>nomatch h)
  have h4:∀ k,k<j→f k=none:=fun k hk=>Classical.not_not.1 (h3 k hk)
  cases hj:f j with
  |none=>exact absurd hj h2
  |some y=>exact .inr ⟨j,y,by omega,hj,h4,Ei (by omega) h4 hj⟩
theorem BQ{S O:Type}(mk:Nat→S){body:S→Option (S ⊕ O)}(n:Nat)(p:Nat→Bool)(g:Nat→O)(o:O)
  (h:∀ i,i<n→body (mk i)=some (if p i=true then .inr (g i) else .inl (mk (i+1)))) (he:body (mk n)=some (.inr o)) :
  aM body (mk 0)=some (match (List.range n).find? p with|some i=>g i|none=>o):=by
 have key:∀ (k i:Nat),i+k=n→aM body (mk i)=some (match (List.range' i k).find? p with|some i=>g i|none=>o):=by
  intro k
  induction k with
  |zero =>
   intro i hi
   have:i=n:=by omega
   subst this
   rw [cP he];rfl
  |succ k ih =>
   intro i hi
   have hb:=h i (by omega)
   rw [List.range'_succ]
   by_cases hp:p i=true
   ·rw [iP hp] at hb
    rw [cP hb,List.find?_cons_of_pos hp]
   ·rw [iN hp] at hb
    rw [cH hb,List.find?_cons_of_neg hp]
    exact ih (i+1) (by omega)
 have:=key n 0 (by omega)
 rw [List.range_eq_range']
 exact this
end Pam
