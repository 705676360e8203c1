/- The pure abstract machine: values as trees, a small own heap, and what they stand for in the model's world. Plain definitions and the first facts on them; no program in sight. -/
import Derived.WalkKit
import Derived.Maps.Own
import Derived.Maps.Views
import Derived.WalkLawsBesides
set_option linter.all false
namespace Pam
open Go
abbrev Ω:=List UInt8
theorem iP.{u}{c:Prop}{h:Decidable c}(hc:c){α:Sort u}{t e:α}:ite c t e=t:=if_pos hc
theorem iN.{u}{c:Prop}{h:Decidable c}(hc:¬ c){α:Sort u}{t e:α}:ite c t e=e:=if_neg hc
theorem nB{α:Type}[BEq α][LawfulBEq α]{a b:α}(h:¬ a=b):(a == b)=false:=beq_eq_false_iff_ne.2 h
theorem eQ{α:Type}[BEq α][LawfulBEq α]{a b:α}(h:a=b):(a == b)=true:=beq_iff_eq.2 h
theorem dT{p:Prop}[Decidable p](h:p):decide p=true:=decide_eq_true h
theorem dF{p:Prop}[Decidable p](h:¬ p):decide p=false:=decide_eq_false h
theorem fB{b:Bool}(h:¬ b=true):b=false:=Bool.eq_false_iff.2 h
theorem sJ{α:Type}(a b:α):(some a=some b)=(a=b):=Option.some.injEq a b
theorem bSq{α β:Type}(a:α)(f:α→Option β):(some a).bind f=f a:=rfl
theorem tN(n:Nat):((n:Int)).toNat=n:=rfl
theorem sI{α:Type}{a b:α}(h:some a=some b):a=b:=Option.some.inj h
inductive CV where
 |junk
 |bool (b:Bool)
 |int (k:IntKind) (n:Int)
 |str (s:List UInt8)
 |nilp|nils|nilf|nili
 |emp
 |emn
 |tree (s:Nat) (es:List (List CV))
 |tptr (s:Nat) (es:List (List CV)) (i j:Nat)
 |optr (b off:Nat)
 |osl (b ver lo len:Nat)
 |oel (b ver i j:Nat)
 |fn (f:FuncId) (caps:List CV)
 |ifc (t:TypeId) (agg:Bool) (cs:List CV)
instance:Inhabited CV:=⟨.junk⟩
inductive PV where
 |x
 |c (y:CV)
 |a (ys:List CV)
 |t (ps:List PV)
instance:Inhabited PV:=⟨.x⟩
inductive OB where
 |dead
 |box (cs:List CV)
 |arr (s ver:Nat) (T:TypeId) (es:List (List CV))
 |mp (P:Program) (k:TypeId) (m:List (Lit×CV))
open Classical in
noncomputable def lk:List (Lit×CV)→Lit→Option CV
 |[],_=>none
 |(a,c) :: r,l=>if a=l then some c else lk r l
def aW{α β:Type}(R:α→β→Prop):List α→List β→Prop
 |[],[]=>True
 |a :: az,b :: bs=>R a b∧aW R az bs
 |_,_=>False
theorem aW.mono{α β:Type}{R R':α→β→Prop}(h:∀ a b,R a b→R' a b):∀ {az:List α} {bs:List β},aW R az bs→aW R' az bs
 |[],[],_=>trivial
 |_ :: _,_ :: _,⟨h1,h2⟩=>⟨h _ _ h1,aW.mono h h2⟩
theorem aW.length{α β:Type}{R:α→β→Prop}:∀ {az:List α} {bs:List β},aW R az bs→az.length=bs.length
 |[],[],_=>rfl
 |_ :: _,_ :: _,⟨_,h2⟩=>by simp [aW.length h2]
theorem aW.get{α β:Type}{R:α→β→Prop}:∀ {az:List α} {bs:List β},aW R az bs→∀ (i:Nat) (x:α),az[i]? = some x→∃ y,bs[i]? = some y∧R x y
 |a :: az,b :: bs,⟨h1,h2⟩,i,x,hx=>by
  cases i with
  |zero=>simp at hx;subst hx;exact ⟨b,by simp,h1⟩
  |succ i=>simp at hx;obtain ⟨y,hy,hr⟩:=aW.get h2 i x hx;exact ⟨y,by simpa using hy,hr⟩
theorem aW.of_get{α β:Type}{R:α→β→Prop}:∀ {az:List α} {bs:List β},az.length=bs.length→(∀ (i:Nat) (x:α) (y:β),az[i]? = some x→bs[i]? = some y→R x y)→aW R az bs
 |[],[],_,_=>trivial
 |a :: az,b :: bs,hl,h=>⟨h 0 a b (by simp) (by simp),aW.of_get (by simpa using hl) fun i x y hx hy=>h (i+1) x y (by simpa using hx) (by simpa using hy)⟩
theorem aW.append{α β:Type}{R:α→β→Prop}:∀ {az:List α} {bs:List β} {as':List α} {bs':List β},aW R az bs→aW R as' bs'→aW R (az++as') (bs++bs')
 |[],[],_,_,_,h=>h
 |_ :: _,_ :: _,_,_,⟨h1,h2⟩,h=>⟨h1,aW.append h2 h⟩
theorem aW.take{α β:Type}{R:α→β→Prop}:∀ (n:Nat) {az:List α} {bs:List β},aW R az bs→aW R (az.take n) (bs.take n)
 |0,_,_,_=>by simp [aW]
 |_+1,[],[],_=>by simp [aW]
 |n+1,_ :: _,_ :: _,⟨h1,h2⟩=>by simpa [aW] using ⟨h1,aW.take n h2⟩
theorem aW.drop{α β:Type}{R:α→β→Prop}:∀ (n:Nat) {az:List α} {bs:List β},aW R az bs→aW R (az.drop n) (bs.drop n)
 |0,_,_,h=>by simpa using h
 |_+1,[],[],_=>by simp [aW]
 |n+1,_ :: _,_ :: _,⟨_,h2⟩=>by simpa using aW.drop n h2
inductive br (H:Nat→Option Obj):CV→Value→Prop
 |junk (v:Value):v.oneCell'=true→br H .junk v
 |bool (b:Bool):br H (.bool b) (.bool b)
 |int (k:IntKind) (n:Int):br H (.int k n) (.int k n)
 |str (s:List UInt8):br H (.str s) (.string ⟨s.toArray⟩)
 |nilp:br H .nilp (.pointer none)
 |nils:br H .nils (.slice none 0 0)
 |nilf:br H .nilf .nilFunc
 |nili:br H .nili .nilIface
 |emp (a:Option Addr):br H .emp (.slice a 0 0)
 |emn (a:Addr) (cap:Nat):br H .emn (.slice (some a) 0 cap)
 |tree0 (s:Nat) (a:Option Addr) (cap:Nat) (hc:a=none→cap=0):br H (.tree s []) (.slice a 0 cap)
 |tree (s:Nat) (es:List (List CV)) (blk off cap:Nat) (c:Array Value) (T:TypeId) (fz:Nat×Nat) (g:Nat→Nat→Value) :
   H blk=some (.cells c T fz)→es.length≤cap →
   (∀ (i:Nat) (e:List CV),es[i]? = some e→e.length=s) →
   (∀ (i j:Nat) (e:List CV) (x:CV),es[i]? = some e→e[j]? = some x→c[off+i * s+j]? = some (g i j)) →
   (∀ (i j:Nat) (e:List CV) (x:CV),es[i]? = some e→e[j]? = some x→br H x (g i j)) →
   br H (.tree s es) (.slice (some ⟨blk,off,none⟩) es.length cap)
 |ifc (T:TypeId) (ns:List (IntKind×Int)):br H (.ifc T true (ns.map fun p=>.int p.1 p.2)) (.iface T (.agg (ns.map fun p=>Value.int p.1 p.2).toArray))
 |tptr (s:Nat) (es:List (List CV)) (i j:Nat) (blk off cap n:Nat) :
   br H (.tree s es) (.slice (some ⟨blk,off,none⟩) n cap)→i<es.length →
   br H (.tptr s es i j) (.pointer (some ⟨blk,off+i * s+j,none⟩))
theorem br.mono{H H':Nat→Option Obj}(h:∀ b o,H b=some o→H' b=some o){c:CV}{v:Value}(hr:br H c v):br H' c v:=by
 induction hr with
 |junk v h=>exact .junk v h
 |bool b=>exact .bool b
 |int k n=>exact .int k n
 |str s=>exact .str s
 |nilp=>exact .nilp
 |nils=>exact .nils
 |nilf=>exact .nilf
 |nili=>exact .nili
 |emp a=>exact .emp a
 |emn a cap=>exact .emn a cap
 |ifc T ns=>exact .ifc T ns
 |tree0 s a cap hc=>exact .tree0 s a cap hc
 |tree s es blk off cap c T fz g hb hc hl hg _ ih=>exact .tree s es blk off cap c T fz g (h _ _ hb) hc hl hg ih
 |tptr s es i j blk off cap n _ hi ih=>exact .tptr s es i j blk off cap n ih hi
theorem br.one{H:Nat→Option Obj}{c:CV}{v:Value}(hr:br H c v):v.oneCell'=true:=by
 cases hr<;>first|rfl|assumption
structure OG where
 blk:Nat
 sz:Nat
 cap:Nat
 ver:Nat
 has:Bool
 off:Nat
structure W0 extends World where
 ds:List Deferred
def Bk:Nat:=1
def tbC(b:Nat):Option (Array Value):=if b=Bk then some ((List.range 20).map fun i=>Value.int .u64 ((10 ^ i:Nat):Int)).toArray else none
def wQ(H:Nat→Option Obj):Prop:=∀ b c,tbC b=some c→∃ T fr,H b=some (.cells c T fr)
theorem wQ.mono{H H':Nat→Option Obj}(t:wQ H)(h:∀ b o,H b=some o→H' b=some o):wQ H':=fun b c e=>by
 obtain ⟨T,fr,k⟩:=t b c e
 exact ⟨T,fr,h _ _ k⟩
structure Gh where
 H:Nat→Option Obj
 F:Nat→Option Obj
 own:List (Option OG)
 w0:W0
 na:Nat
 tabs:wQ H
def SlV(o:OG)(lo len:Nat)(v:Value):Prop :=
 lo+len≤o.cap∧∃ a,v=.slice a len (o.cap - lo)∧(o.has=true→∃ a',a=some a'∧(lo<o.cap→a'=⟨o.blk,o.off+lo * o.sz,none⟩))
def gm(G:Gh):CV→Value→Prop
 |.optr b off,v=>v.oneCell'=true∧∃ oo,G.own[b]? = some oo∧∀ o,oo=some o→o.ver=0→v=if o.sz=0 then .pointer (some ⟨o.blk,off,none⟩) else .map (some o.blk)
 |.osl b ver lo len,v=>v.oneCell'=true∧∃ oo,G.own[b]? = some oo∧∀ o,oo=some o→ver≤o.ver∧(ver=o.ver→SlV o lo len v)
 |.oel b ver i j,v=>v.oneCell'=true∧∃ oo,G.own[b]? = some oo∧∀ o,oo=some o→ver≤o.ver∧(ver=o.ver→v=.pointer (some ⟨o.blk,o.off+i * o.sz+j,none⟩))
 |c,v=>br G.H c v
def Rep(G:Gh):CV→Value→Prop
 |.fn f caps,v=>∃ vs,v=(if f<4096 then .func (.func f) #[] vs.toArray else .func (.func (f - 4096)) vs.toArray #[])∧aW (gm G) caps vs
 |c,v=>gm G c v
def si(G:Gh):PV→Value→Prop
 |.x,_=>True
 |.c y,v=>Rep G y v
 |.a ys,v=>∃ vs,v=.agg vs.toArray∧aW (Rep G) ys vs
 |.t _,_=>False
def bg(G:Gh):PV→Value→Prop
 |.t ps,v=>∃ vs,v=.tuple vs.toArray∧aW (si G) ps vs
 |p,v=>si G p v
theorem gm.one{G:Gh}{c:CV}{v:Value}(h:gm G c v):v.oneCell'=true:=by
 cases c
 case optr=>exact h.1
 case osl=>exact h.1
 case oel=>exact h.1
 all_goals (simp only [gm] at h;exact br.one h)
theorem Rep.one{G:Gh}{c:CV}{v:Value}(h:Rep G c v):v.oneCell'=true:=by
 cases c
 case fn f caps=>obtain ⟨vs,rfl,_⟩:=h;split<;>rfl
 all_goals (simp only [Rep] at h;exact gm.one h)
structure rk (G G':Gh):Prop where
 H:∀ b o,G.H b=some o→G'.H b=some o
 F:G'.F=G.F
 w0:G'.w0=G.w0
 na:G'.na=G.na
theorem rk.refl(G:Gh):rk G G:=⟨fun _ _ h=>h,rfl,rfl,rfl⟩
theorem rk.trans{G G' G'':Gh}(h:rk G G')(h':rk G' G''):rk G G'' :=
 ⟨fun b o hb=>h'.H b o (h.H b o hb),h'.F.trans h.F,h'.w0.trans h.w0,h'.na.trans h.na⟩
def bG(l l':List (Option OG)):Prop :=
 ∀ (b:Nat) (oo:Option OG),l[b]? = some oo→∃ oo':Option OG,l'[b]? = some oo'∧∀ o':OG,oo'=some o'→∃ o:OG,oo=some o∧(o'=o∨o.ver<o'.ver)
theorem bG.refl(l:List (Option OG)):bG l l:=fun _ oo h=>⟨oo,h,fun o' ho=>⟨o',ho,.inl rfl⟩⟩
theorem bG.append(l l':List (Option OG)):bG l (l++l'):=fun b oo h=>by
 refine ⟨oo,?_,fun o' ho=>⟨o',ho,.inl rfl⟩⟩
 have hb:b<l.length:=by
  rcases Nat.lt_or_ge b l.length with h'|h'
  ·exact h'
  ·rw [List.getElem?_eq_none h'] at h;cases h
 rw [List.getElem?_append_left hb];exact h
theorem bG.trans{l l' l'':List (Option OG)}(h:bG l l')(h':bG l' l''):bG l l'':=fun b oo hb=>by
 obtain ⟨oo',hb',k⟩:=h b oo hb
 obtain ⟨oo'',hb'',k'⟩:=h' b oo' hb'
 refine ⟨oo'',hb'',fun o'' ho''=>?_⟩
 obtain ⟨o',ho',e'⟩:=k' o'' ho''
 obtain ⟨o,ho,e⟩:=k o' ho'
 refine ⟨o,ho,?_⟩
 rcases e' with rfl|e'<;>rcases e with rfl|e
 ·exact .inl rfl
 ·exact .inr e
 ·exact .inr e'
 ·exact .inr (Nat.lt_trans e e')
theorem gm.mono{G G':Gh}(hH:∀ b o,G.H b=some o→G'.H b=some o)(ho:bG G.own G'.own){c:CV}{v:Value}(h:gm G c v):gm G' c v:=by
 cases c
 case optr b off =>
  obtain ⟨h1,oo,hb,k⟩:=h
  obtain ⟨oo',hb',k'⟩:=ho b oo hb
  refine ⟨h1,oo',hb',fun o' e hv=>?_⟩
  obtain ⟨o,e1,e2⟩:=k' o' e
  rcases e2 with rfl|e2
  ·exact k _ e1 hv
  ·omega
 case osl b ver lo len =>
  obtain ⟨h1,oo,hb,k⟩:=h
  obtain ⟨oo',hb',k'⟩:=ho b oo hb
  refine ⟨h1,oo',hb',fun o' e=>?_⟩
  obtain ⟨o,e1,e2⟩:=k' o' e
  obtain ⟨k1,k2⟩:=k _ e1
  rcases e2 with rfl|e2
  ·exact ⟨k1,k2⟩
  ·exact ⟨by omega,fun hv=>by omega⟩
 case oel b ver i j =>
  obtain ⟨h1,oo,hb,k⟩:=h
  obtain ⟨oo',hb',k'⟩:=ho b oo hb
  refine ⟨h1,oo',hb',fun o' e=>?_⟩
  obtain ⟨o,e1,e2⟩:=k' o' e
  obtain ⟨k1,k2⟩:=k _ e1
  rcases e2 with rfl|e2
  ·exact ⟨k1,k2⟩
  ·exact ⟨by omega,fun hv=>by omega⟩
 all_goals (simp only [gm] at h ⊢;exact br.mono hH h)
theorem Rep.mono{G G':Gh}(hH:∀ b o,G.H b=some o→G'.H b=some o)(ho:bG G.own G'.own){c:CV}{v:Value}(h:Rep G c v):Rep G' c v:=by
 cases c
 case fn f caps=>obtain ⟨vs,rfl,h2⟩:=h;exact ⟨vs,rfl,aW.mono (fun _ _ h=>gm.mono hH ho h) h2⟩
 all_goals (simp only [Rep] at h ⊢;exact gm.mono hH ho h)
theorem si.mono{G G':Gh}(hH:∀ b o,G.H b=some o→G'.H b=some o)(ho:bG G.own G'.own){p:PV}{v:Value}(h:si G p v):si G' p v:=by
 cases p with
 |x=>trivial
 |c y=>exact Rep.mono hH ho h
 |a ys=>obtain ⟨vs,rfl,h2⟩:=h;exact ⟨vs,rfl,aW.mono (fun _ _ h=>Rep.mono hH ho h) h2⟩
 |t ps=>exact h.elim
theorem bg.mono{G G':Gh}(hH:∀ b o,G.H b=some o→G'.H b=some o)(ho:bG G.own G'.own){p:PV}{v:Value}(h:bg G p v):bg G' p v:=by
 cases p with
 |t ps=>obtain ⟨vs,rfl,h2⟩:=h;exact ⟨vs,rfl,aW.mono (fun _ _ h=>si.mono hH ho h) h2⟩
 |x=>trivial
 |c y=>exact si.mono (p:=.c y) hH ho h
 |a ys=>exact si.mono (p:=.a ys) hH ho h
def Dl(H:Nat→Option Obj)(w:World)(P:Program)(k:TypeId)(m:List (Lit×CV))(blk:Nat):Prop :=
 ∃ D:DataW Value,w.ownsMap P k (fun v=>some (.held v,[])) blk m.length D ∧
  ∀ kl:Lit,match lk m kl with
   |none=>∀ z,D.atKey kl z=z
   |some c=>∃ v,(∀ z,D.atKey kl z=.held v)∧br H c v
theorem Dl.keep{H H':Nat→Option Obj}{w w':World}{P:Program}{k:TypeId}{m:List (Lit×CV)}{blk:Nat}(h:Dl H w P k m blk)(hH:∀ b o,H b=some o→H' b=some o)(hw:w'.heap[blk]? = w.heap[blk]?):Dl H' w' P k m blk:=by
 obtain ⟨D,⟨es,clock,h1,h2,h3,h4⟩,h5⟩:=h
 refine ⟨D,⟨es,clock,hw.trans h1,h2,h3,h4⟩,fun kl=>?_⟩
 have:=h5 kl
 split at this
 ·exact this
 ·obtain ⟨v,e1,e2⟩:=this
  exact ⟨v,e1,br.mono hH e2⟩
def qn(G:Gh)(w:World)(b:Nat):OB→Prop
 |.dead=>G.own[b]? = some none
 |.box cs=>∃ o c T,G.own[b]? = some (some o)∧o.has=true∧(o.ver=0∧o.sz=0)∧w.heap[o.blk]? = some (.cells c T (0,0))∧aW (Rep G) cs c.toList
 |.arr s ver T es=>∃ o,G.own[b]? = some (some o)∧o.ver=ver∧o.sz=s∧0<s∧es.length≤o.cap∧o.cap≤maxLen∧(∀ e∈es,e.length=s) ∧
   (o.has=false→o.cap=0) ∧
   (o.has = true → ∃ c fz, w.heap[o.blk]? = some (.cells c T fz) ∧ (fz = (0, 0) ∨ c.size ≤ fz.1) ∧ c.size = o.off + o.cap * s ∧
    ∀ (i j:Nat) (e:List CV) (x:CV),es[i]? = some e→e[j]? = some x→∃ v,c[o.off+i * s+j]? = some v∧br G.H x v)
 |.mp P k m=>∃ o,G.own[b]? = some (some o)∧o.has=true∧o.ver=0∧o.sz=1∧Dl G.H w P k m o.blk
structure Inv (G:Gh) (σ:List OB) (w:World):Prop where
 hH:∀ b o,G.H b=some o→w.heap[b]? = some o
 hF:∀ b o,G.F b=some o→w.heap[b]? = some o
 HF:∀ b o,G.F b=some o→G.H b=none
 len:G.own.length=σ.length
 own:∀ (b:Nat) (ob:OB),σ[b]? = some ob→qn G w b ob
 inj:∀ (b b':Nat) (o o':OG),G.own[b]? = some (some o)→G.own[b']? = some (some o')→o.has=true→o'.has=true→o.blk=o'.blk→b=b'
 sep:∀ (b:Nat) (o:OG),G.own[b]? = some (some o)→o.has=true→G.H o.blk=none∧G.F o.blk=none
 os:w.os=G.w0.os
 tape:w.tape=G.w0.tape
 output:w.output=G.w0.output
 grow:G.w0.heap.size≤w.heap.size
structure Ent where
 cond:Bool
 v:PV
inductive Tr where
 |nil
 |leaf (e:Ent)
 |node (a0 a1 a2 a3 a4 a5 a6 a7:Tr)
def Tr.get:Tr→Nat→Tr
 |.node a0 a1 a2 a3 a4 a5 a6 a7,i =>
  match i with
  |0=>a0|1=>a1|2=>a2|3=>a3|4=>a4|5=>a5|6=>a6|7=>a7|_=>.nil
 |_,_=>.nil
def Tr.put:Tr→Nat→Tr→Tr
 |.node a0 a1 a2 a3 a4 a5 a6 a7,i,x =>
  match i with
  |0=>.node x a1 a2 a3 a4 a5 a6 a7|1=>.node a0 x a2 a3 a4 a5 a6 a7|2=>.node a0 a1 x a3 a4 a5 a6 a7|3=>.node a0 a1 a2 x a4 a5 a6 a7
  |4=>.node a0 a1 a2 a3 x a5 a6 a7|5=>.node a0 a1 a2 a3 a4 x a6 a7|6=>.node a0 a1 a2 a3 a4 a5 x a7|7=>.node a0 a1 a2 a3 a4 a5 a6 x
  |_=>.node a0 a1 a2 a3 a4 a5 a6 a7
 |_,i,x =>
  match i with
  |0=>.node x .nil .nil .nil .nil .nil .nil .nil|1=>.node .nil x .nil .nil .nil .nil .nil .nil|2=>.node .nil .nil x .nil .nil .nil .nil .nil
  |3=>.node .nil .nil .nil x .nil .nil .nil .nil|4=>.node .nil .nil .nil .nil x .nil .nil .nil|5=>.node .nil .nil .nil .nil .nil x .nil .nil
  |6=>.node .nil .nil .nil .nil .nil .nil x .nil|7=>.node .nil .nil .nil .nil .nil .nil .nil x|_=>.nil
theorem Tr.get_put(t:Tr)(i j:Nat)(x:Tr)(hi:i<8):(t.put i x).get j=if j=i then x else t.get j:=by
 have h:i=0∨i=1∨i=2∨i=3∨i=4∨i=5∨i=6∨i=7:=by omega
 have hj:j=0∨j=1∨j=2∨j=3∨j=4∨j=5∨j=6∨j=7∨8≤j:=by omega
 rcases hj with rfl|rfl|rfl|rfl|rfl|rfl|rfl|rfl|hj
 all_goals try (cases t<;>rcases h with rfl|rfl|rfl|rfl|rfl|rfl|rfl|rfl<;>rfl)
 obtain ⟨k,rfl⟩:∃ k,j=k+8:=⟨j - 8,by omega⟩
 rw [if_neg (by omega)]
 cases t<;>rcases h with rfl|rfl|rfl|rfl|rfl|rfl|rfl|rfl<;>rfl
def Tr.ent:Tr→Ent
 |.leaf e=>e
 |_=>⟨false,.x⟩
structure Env where
 n:Nat
 na:Nat
 t:Tr
def Env.get(E:Env)(i:Nat):Ent:=(((E.t.get (i / 64)).get (i / 8 % 8)).get (i % 8)).ent
def Env.put(E:Env)(i:Nat)(e:Ent):Env :=
 ⟨E.n,E.na,E.t.put (i / 64) ((E.t.get (i / 64)).put (i / 8 % 8) (((E.t.get (i / 64)).get (i / 8 % 8)).put (i % 8) (.leaf e)))⟩
theorem Tr.get_big(t:Tr)(i:Nat)(h:8≤i):t.get i=.nil:=by
 obtain ⟨k,rfl⟩:∃ k,i=k+8:=⟨i - 8,by omega⟩
 cases t<;>rfl
theorem Tr.put_big(t:Tr)(i j:Nat)(x:Tr)(h:8≤i):(t.put i x).get j=t.get j∨(t.put i x).get j=.nil:=by
 obtain ⟨k,rfl⟩:∃ k,i=k+8:=⟨i - 8,by omega⟩
 cases t
 ·exact .inr rfl
 ·exact .inr rfl
 ·exact .inl rfl
theorem Env.get_put(E:Env)(i j:Nat)(e:Ent)(h:((E.put i e).get j).cond=true) :
  (E.put i e).get j=if j=i then e else E.get j:=by
 unfold Env.get Env.put at *
 simp only at *
 rcases Nat.lt_or_ge (i / 64) 8 with hb|hb
 ·rw [Tr.get_put _ _ _ _ hb] at h ⊢
  by_cases e1:j / 64=i / 64
  ·rw [if_pos e1] at h ⊢
   rw [Tr.get_put _ _ _ _ (Nat.mod_lt _ (by decide))] at h ⊢
   by_cases e2:j / 8 % 8=i / 8 % 8
   ·rw [if_pos e2] at h ⊢
    rw [Tr.get_put _ _ _ _ (Nat.mod_lt _ (by decide))] at h ⊢
    by_cases e3:j % 8=i % 8
    ·have:j=i:=by omega
     subst this
     simp [Tr.ent]
    ·have:j≠i:=by omega
     rw [if_neg e3,if_neg this,e1,e2]
   ·have:j≠i:=by omega
    rw [if_neg e2,if_neg this,e1]
  ·have:j≠i:=by omega
   rw [if_neg e1,if_neg this]
 ·rcases Tr.put_big E.t (i / 64) (j / 64) ((E.t.get (i / 64)).put (i / 8 % 8) (((E.t.get (i / 64)).get (i / 8 % 8)).put (i % 8) (.leaf e))) hb with hh|hh
  ·by_cases e1:j=i
   ·subst e1
    rw [hh,Tr.get_big _ _ hb] at h
    simp [Tr.get,Tr.ent] at h
   ·rw [hh,if_neg e1]
  ·rw [hh] at h
   simp [Tr.get,Tr.ent] at h
structure Sim (G:Gh) (E:Env) (σ:List OB) (a:Act) (w:World):Prop where
 inv:Inv G σ w
 defers:a.defers=G.w0.ds
 size:a.tmps.size=E.n
 na:G.na=E.na
 slot:∀ i,(E.get i).cond=true→bg G (E.get i).v (a.tmps.getD i undef)
theorem Sim.put{G:Gh}{E:Env}{σ:List OB}{a:Act}{w:World}(h:Sim G E σ a w)(d:Nat)(hd:d<E.n)(e:Ent)(v:Value)
  (hv:e.cond=true→bg G e.v v):Sim G (E.put d e) σ (a.put (some d) v) w:=by
 refine ⟨h.inv,h.defers,by simpa [Act.put,Env.put] using h.size,h.na,fun i hi=>?_⟩
 have hg:=Env.get_put E d i e hi
 rw [hg] at hi ⊢
 have hsz:d<a.tmps.size:=by rw [h.size];exact hd
 by_cases hid:i=d
 ·subst hid
  rw [if_pos rfl] at hi ⊢
  have:(a.put (some i) v).tmps.getD i undef=v:=by simp [Act.put,Array.getD,hsz]
  rw [this]
  exact hv hi
 ·rw [if_neg hid] at hi ⊢
  have:(a.put (some d) v).tmps.getD i undef=a.tmps.getD i undef:=by
   simp only [Act.put,Array.getD_eq_getD_getElem?]
   rw [Array.getElem?_setIfInBounds_ne (Ne.symm hid)]
  rw [this]
  exact h.slot i hi
theorem Sim.ghost{G G':Gh}{E:Env}{σ σ':List OB}{a:Act}{w w':World}(h:Sim G E σ a w)(hi:Inv G' σ' w')
  (hH:∀ b o,G.H b=some o→G'.H b=some o) (hw0:G'.w0=G.w0) (hna:G'.na=G.na) (ho:bG G.own G'.own):Sim G' E σ' a w' :=
 ⟨hi,h.defers.trans (by rw [hw0]),h.size,hna.trans h.na,fun i hc=>bg.mono hH ho (h.slot i hc)⟩
def n7(P:Program)(T:TypeId):Bool :=
  match P.underlying T with
  |some (.struct _)|some (.array _ _)=>true
  |_=>false
def cx(P:Program)(T:TypeId):Bool:=(P.underlying T).isSome && (P.info? T).isSome
def nn(P:Program)(T:TypeId)(i:Nat):Nat :=
  match P.underlying T with
  |some (.struct fs)=>(match fs[i]? with|some f=>f.offset|none=>0)
  |_=>0
def tl(P:Program)(T:TypeId)(i:Nat):TypeId :=
  match P.underlying T with
  |some (.struct fs)=>(match fs[i]? with|some f=>f.type|none=>0)
  |_=>0
def qQ(P:Program)(T:TypeId)(i:Nat):Bool :=
  match P.underlying T with
  |some (.struct fs)=>(match fs[i]? with|some f=>decide (0<P.cellsOf f.type)|none=>false)
  |_=>false
def lJ(P:Program)(T:TypeId):Bool:=match P.underlying T with|some (.slice _)=>true|_=>false
def pt(P:Program)(T:TypeId):Bool:=match P.underlying T with|some (.array _ _)=>true|_=>false
def pV(P:Program)(T:TypeId):Bool:=match P.underlying T with|some .string=>true|_=>false
def xg(P:Program)(T:TypeId):Bool:=match P.underlying T with|some .bool=>true|_=>false
def xh(P:Program)(T:TypeId):Bool:=match P.underlying T with|some (.int _)=>true|_=>false
def BY(P:Program)(T:TypeId):Bool:=match P.underlying T with|some (.pointer _)=>true|_=>false
def od:Value→Option CV
  |.bool b=>some (.bool b)
  |.int k n=>some (.int k n)
  |.string s=>some (.str s.data.toList)
  |.pointer none=>some .nilp
  |.slice none 0 0=>some .nils
  |.nilFunc=>some .nilf
  |.nilIface=>some .nili
  |.map none=>some .junk
  |_=>none
def nv:List Value→Option (List CV)
  |[]=>some []
  |v :: r=>match od v,nv r with|some c,some cs=>some (c :: cs)|_,_=>none
def mG(P:Program)(T:TypeId):Option (List CV) :=
  match P.info? T with
  |some i=>(match i.zero with|some z=>(if z.cells.size=i.size then nv z.cells.toList else none)|none=>none)
  |none=>none
def uq:Value→Ent
  |.agg cs=>(match nv cs.toList with|some l=>⟨true,.a l⟩|none=>⟨false,.x⟩)
  |v=>(match od v with|some c=>⟨true,.c c⟩|none=>⟨false,.x⟩)
def ev(E:Env):Operand→Ent
  |.tmp t=>E.get t
  |.const v=>uq v
  |.func f=>if f<4096 then ⟨true,.c (.fn f [])⟩ else ⟨false,.x⟩
  |.global _=>⟨false,.x⟩
def aR(γ:Bool)(e:Ent):Prop:=γ=true→e.cond=true
def PV.cells:PV→List CV
  |.c y=>[y]
  |.a ys=>ys
  |_=>[]
def mkV(P:Program)(T:TypeId)(cs:List CV):PV:=match n7 P T with|true=>.a cs|false=>.c (cs.headD .junk)
def CV.flat:CV→Bool
  |.junk|.optr _ _|.osl _ _ _ _|.oel _ _ _ _|.fn _ _=>false
  |_=>true
inductive R where
  |ok (C:Prop) (v:PV)
  |upd (C:Prop) (v:PV) (σ:List OB)
  |call (C:Prop) (f:FuncId) (args:List PV)
  |bad
def elt(es:List (List CV))(i:Nat):List CV:=es.getD i []
def qo(P:Program)(γ:Bool)(σ:List OB)(T:TypeId)(e:Ent):R :=
  match e.v with
  |.c (.optr b off) =>
    (match σ[b]? with
     |some (.box cs)=>.ok (aR γ e∧cx P T=true∧0<P.cellsOf T∧off+P.cellsOf T≤cs.length∧(n7 P T=true∨P.cellsOf T=1)) (mkV P T ((cs.drop off).take (P.cellsOf T)))
     |_=>.bad)
  |.c (.tptr s es i j)=>.ok (aR γ e∧cx P T=true∧0<P.cellsOf T∧(γ=true→i<es.length)∧j+P.cellsOf T≤s∧(n7 P T=true∨P.cellsOf T=1)) (mkV P T (((elt es i).drop j).take (P.cellsOf T)))
  |.c (.oel b ver i j) =>
    (match σ[b]? with
     |some (.arr s ver' _ es)=>.ok (aR γ e∧ver=ver'∧cx P T=true∧0<P.cellsOf T∧(γ=true→i<es.length)∧j+P.cellsOf T≤s∧(n7 P T=true∨P.cellsOf T=1)) (mkV P T (((elt es i).drop j).take (P.cellsOf T)))
     |_=>.bad)
  |_=>.bad
def ik(cs:List CV)(off:Nat)(ys:List CV):List CV:=cs.take off++ys++cs.drop (off+ys.length)
def qp(P:Program)(σ:List OB)(T:TypeId)(e x:Ent):R :=
  match e.v with
  |.c (.optr b off) =>
    (match σ[b]? with
     |some (.box cs)=>.upd (e.cond=true∧x.cond=true∧cx P T=true∧0<P.cellsOf T∧x.v.cells.length=P.cellsOf T∧off+P.cellsOf T≤cs.length) .x (σ.set b (.box (ik cs off x.v.cells)))
     |_=>.bad)
  |.c (.oel b ver i j) =>
    (match σ[b]? with
     |some (.arr s ver' T' es)=>.upd (e.cond=true∧x.cond=true∧ver=ver'∧cx P T=true∧0<P.cellsOf T∧x.v.cells.length=P.cellsOf T∧(x.v.cells.all CV.flat)=true∧i<es.length∧j+P.cellsOf T≤s) .x
         (σ.set b (.arr s ver' T' (es.set i (ik (elt es i) j x.v.cells))))
     |_=>.bad)
  |_=>.bad
def eqC:CV→CV→Option Bool
  |.bool a,.bool b=>some (a == b)
  |.int k a,.int k' b=>if k=k' then some (a == b) else none
  |.str a,.str b=>some (a == b)
  |_,_=>none
def yx:List CV→List CV→Option Bool
  |[],[]=>some true
  |a :: az,b :: bs=>match eqC a b,yx az bs with|some x,some y=>some (x && y)|_,_=>none
  |_,_=>none
def ry(P:Program)(T:TypeId):Option Nat :=
  match P.underlying T with
  |some .bool=>some 0
  |some (.int _)=>some 1
  |some .string=>some 2
  |_=>none
def xi:CV→Nat
  |.bool _=>0
  |.int _ _=>1
  |.str _=>2
  |_=>3
def pu(P:Program):Nat→List Field→Option (List Nat)
  |_,[]=>some []
  |k,f :: r=>if f.name ≠ "_"∧f.offset=k then (match ry P f.type,pu P (k+1) r with|some n,some l=>some (n :: l)|_,_=>none) else none
def Aq(P:Program)(T:TypeId):Option (List Nat) :=
  match P.underlying T with
  |some (.struct fs)=>if P.stoodInHeld T=false∧P.eqGuardType P.depth T=false then pu P 0 fs.toList else none
  |_=>none
def Fx(op:BinOp)(k:IntKind)(a b:Int):Option (Prop×PV) :=
  match op with
  |.add=>some (True,.c (.int k (k.wrap (a+b))))
  |.sub=>some (True,.c (.int k (k.wrap (a - b))))
  |.mul=>some (True,.c (.int k (k.wrap (a * b))))
  |.quo=>some (b≠0,.c (.int k (k.wrap (a.tdiv b))))
  |.rem=>some (b≠0,.c (.int k (a.tmod b)))
  |.and=>some (True,.c (.int k (bits .and k a b)))
  |.or=>some (True,.c (.int k (bits .or k a b)))
  |.xor=>some (True,.c (.int k (bits .xor k a b)))
  |.andNot=>some (True,.c (.int k (bits .andNot k a b)))
  |.eql=>some (True,.c (.bool (a == b)))
  |.neq=>some (True,.c (.bool (a != b)))
  |.lss=>some (True,.c (.bool (decide (a<b))))
  |.leq=>some (True,.c (.bool (decide (a≤b))))
  |.gtr=>some (True,.c (.bool (decide (a>b))))
  |.geq=>some (True,.c (.bool (decide (a≥b))))
  |_=>none
def shI(op:BinOp)(k:IntKind)(a b:Int):Option (Prop×PV) :=
  match op with
  |.shl=>some (0≤b,.c (.int k (k.wrap (a * 2 ^ (min b.toNat k.bits)))))
  |.shr=>some (0≤b,.c (.int k (a.fdiv (2 ^ (min b.toNat k.bits)))))
  |_=>none
def xj(op:BinOp)(a b:List UInt8):Option (Prop×PV) :=
  match op with
  |.add=>some (a.length+b.length≤maxLen,.c (.str (a++b)))
  |.eql=>some (True,.c (.bool (a == b)))
  |.neq=>some (True,.c (.bool (!(a == b))))
  |.lss=>some (True,.c (.bool (Op.bytesLess a b)))
  |.leq=>some (True,.c (.bool (Op.bytesLess a b || a == b)))
  |.gtr=>some (True,.c (.bool (!(Op.bytesLess a b || a == b))))
  |.geq=>some (True,.c (.bool (!Op.bytesLess a b)))
  |_=>none
def eqV(P:Program)(T:TypeId)(p q:PV):Option (Prop×Bool) :=
  match p,q with
  |.c (.bool a),.c (.bool b)=>some (xg P T=true,a == b)
  |.c .nilp,.c .nilp=>some (BY P T=true,true)
  |.c (.optr _ _),.c .nilp=>some (False,false)
  |.c .nils,.c .nils=>some (lJ P T=true,true)
  |.c .emn,.c .nils=>some (lJ P T=true,false)
  |.c (.tree _ es),.c .nils=>some (lJ P T=true∧es≠[],false)
  |.a xs,.a ys=>(match yx xs ys with|some b=>some (Aq P T=some (xs.map xi),b)|none=>none)
  |_,_=>none
def n8(P:Program)(γ:Bool)(op:BinOp)(T:TypeId)(x y:Ent):R :=
  match x.v,y.v with
  |.c (.int k a),.c (.int k' b) =>
    (match shI op k a b with
     |some (C,v)=>.ok (aR γ x∧aR γ y∧(γ=true→C)) v
     |none=>if k=k' then (match Fx op k a b with|some (C,v)=>.ok (aR γ x∧aR γ y∧(γ=true→C)) v|none=>.bad) else .bad)
  |.c (.str a),.c (.str b)=>(match xj op a b with|some (C,v)=>.ok (aR γ x∧aR γ y∧(γ=true→C)) v|none=>.bad)
  |p,q =>
    (match op, eqV P T p q with
     |.eql,some (C,b)=>.ok (aR γ x∧aR γ y∧C) (.c (.bool b))
     |.neq,some (C,b)=>.ok (aR γ x∧aR γ y∧C) (.c (.bool (!b)))
     |_,_=>.bad)
def unR(γ:Bool)(op:UnOp)(x:Ent):R :=
  match op,x.v with
  |.not,.c (.bool b)=>.ok (aR γ x) (.c (.bool (!b)))
  |.neg,.c (.int k n)=>.ok (aR γ x) (.c (.int k (k.wrap (0 - n))))
  |.xor,.c (.int k n)=>.ok (aR γ x) (.c (.int k (bits .xor k (if k.signed then -1 else k.max) n)))
  |_,_=>.bad
def uy(γ:Bool)(c a b:Ent):R :=
  match c.v with
  |.c (.bool true)=>.ok (aR γ c∧aR γ a) a.v
  |.c (.bool false)=>.ok (aR γ c∧aR γ b) b.v
  |_=>.bad
def uz(P:Program)(γ:Bool)(src dst:TypeId)(x:Ent):R :=
  match x.v with
  |.c (.int _ n)=>.ok (aR γ x∧(P.underlying src).isSome=true∧xh P dst=true) (.c (.int (P.intKind dst) ((P.intKind dst).wrap n)))
  |.c (.str s)=>.ok (aR γ x∧(P.underlying src).isSome=true∧pV P dst=true) (.c (.str s))
  |_=>.bad
def iT(σ:List OB):CV→Prop
  |.optr b _=>(match σ[b]? with|some (.box _)=>True|_=>False)
  |.osl b ver _ _=>(match σ[b]? with|some (.arr _ ver' _ _)=>ver=ver'|_=>False)
  |.oel b ver _ _=>(match σ[b]? with|some (.arr _ ver' _ _)=>ver=ver'|_=>False)
  |_=>True
def gT(P:Program)(γ:Bool)(σ:List OB)(T:TypeId)(x:Ent)(i:Nat):R :=
  match x.v with
  |.c (.optr b off)=>.ok (aR γ x∧iT σ (.optr b off)∧qQ P T i=true) (.c (.optr b (off+nn P T i)))
  |.c (.tptr s es k j)=>.ok (aR γ x∧qQ P T i=true) (.c (.tptr s es k (j+nn P T i)))
  |.c (.oel b ver k j)=>.ok (aR γ x∧iT σ (.oel b ver k j)∧qQ P T i=true) (.c (.oel b ver k (j+nn P T i)))
  |_=>.bad
def sj(P:Program)(γ:Bool)(T:TypeId)(x:Ent)(i:Nat):R :=
  match x.v with
  |.a ys=>.ok (aR γ x∧qQ P T i=true∧cx P (tl P T i)=true∧nn P T i+P.cellsOf (tl P T i)≤ys.length∧(n7 P (tl P T i)=true∨P.cellsOf (tl P T i)=1))
      (mkV P (tl P T i) ((ys.drop (nn P T i)).take (P.cellsOf (tl P T i))))
  |_=>.bad
def fT(P:Program)(γ:Bool)(σ:List OB)(T:TypeId)(x i:Ent):R :=
  match x.v,i.v with
  |.c (.tree s es),.c (.int _ n)=>.ok (aR γ x∧aR γ i∧lJ P T=true∧cx P (P.elem T)=true∧P.cellsOf (P.elem T)=s∧(γ=true→0≤n∧n<es.length)) (.c (.tptr s es n.toNat 0))
  |.c (.osl b ver lo len),.c (.int _ n) =>
    (match σ[b]? with
     |some (.arr s ver' _ _)=>.ok (aR γ x∧aR γ i∧ver=ver'∧lJ P T=true∧cx P (P.elem T)=true∧P.cellsOf (P.elem T)=s∧(γ=true→0≤n∧n<len)) (.c (.oel b ver (lo+n.toNat) 0))
     |_=>.bad)
  |.c (.optr b off),.c (.int _ n)=>.ok (aR γ x∧aR γ i∧iT σ (.optr b off)∧pt P T=true∧cx P (P.elem T)=true∧(γ=true→0≤n∧n<P.arrayLen T)) (.c (.optr b (off+n.toNat * P.cellsOf (P.elem T))))
  |.c (.oel b ver k j),.c (.int _ n) =>
    (match σ[b]? with
     |some (.arr s ver' _ _)=>.ok (aR γ x∧aR γ i∧ver=ver'∧pt P T=true∧cx P (P.elem T)=true∧P.cellsOf (P.elem T)=s∧j=0∧(γ=true→0≤n∧n<P.arrayLen T)) (.c (.oel b ver (k+n.toNat) 0))
     |_=>.bad)
  |.c (.tptr s es k j),.c (.int _ n)=>.ok (aR γ x∧aR γ i∧pt P T=true∧cx P (P.elem T)=true∧P.cellsOf (P.elem T)=s∧k=0∧j=0∧P.arrayLen T=es.length∧(γ=true→0≤n∧n<es.length)) (.c (.tptr s es n.toNat 0))
  |_,_=>.bad
def oe(P:Program)(γ:Bool)(T:TypeId)(x i:Ent):R :=
  match x.v,i.v with
  |.c (.str s),.c (.int _ n)=>.ok (aR γ x∧aR γ i∧pV P T=true∧(γ=true→0≤n∧n<s.length)) (.c (.int .u8 ((s.getD n.toNat 0).toNat)))
  |.a ys,.c (.int _ n)=>.ok (aR γ x∧aR γ i∧pt P T=true∧cx P (P.elem T)=true∧P.arrayLen T * P.cellsOf (P.elem T)≤ys.length∧n7 P (P.elem T)=false∧P.cellsOf (P.elem T)=1∧(γ=true→0≤n∧n<P.arrayLen T)) (.c (ys.getD n.toNat .junk))
  |_,_=>.bad
def oh(γ:Bool)(x:Ent)(i:Nat):R :=
  match x.v with
  |.t ps=>.ok (aR γ x∧i<ps.length) (ps.getD i .x)
  |_=>.bad
def bnd(d:Nat):Option Ent→Option (Ent×Int)
  |none=>some (⟨true,.x⟩,d)
  |some e=>match e.v with|.c (.int _ n)=>some (e,n)|_=>none
def yO(σ:List OB)(b s:Nat):Prop:=match σ[b]? with|some (.arr s' _ _ _)=>s=s'|_=>False
def pO(P:Program)(γ:Bool)(σ:List OB)(T:TypeId)(x:Ent)(lo hi mx:Option Ent):R :=
  match mx with
  |some m =>
    (match lo, hi with
     |none,some h =>
       (match h.v, m.v with
        |.c (.int _ n),.c (.int _ k) =>
          (match x.v with
           |.c (.tree _ _)=>.ok (aR γ x∧aR γ h∧aR γ m∧lJ P T=true∧cx P (P.elem T)=true∧n=0∧k=0) (.c .emp)
           |.c .nils=>.ok (aR γ x∧aR γ h∧aR γ m∧lJ P T=true∧cx P (P.elem T)=true∧n=0∧k=0) (.c .emp)
           |_=>.bad)
        |_,_=>.bad)
     |_,_=>.bad)
  |none =>
    match x.v with
    |.c (.tree s es) =>
      (match bnd 0 lo, bnd es.length hi with
       |some (e1,l),some (e2,h)=>.ok (aR γ x∧aR γ e1∧aR γ e2∧lJ P T=true∧cx P (P.elem T)=true∧P.cellsOf (P.elem T)=s∧(γ=true→0≤l∧l≤h∧h≤es.length)) (.c (.tree s ((es.take h.toNat).drop l.toNat)))
       |_,_=>.bad)
    |.c (.osl b ver lo0 len) =>
      (match lo with
       |none =>
         (match bnd len hi with
          |some (e2,h)=>.ok (aR γ x∧aR γ e2∧iT σ (.osl b ver lo0 len)∧lJ P T=true∧cx P (P.elem T)=true∧(γ=true→0≤h∧h≤len)) (.c (.osl b ver lo0 h.toNat))
          |_=>.bad)
       |some q =>
         (match bnd 0 (some q), bnd len hi with
          |some (e1,l),some (e2,h)=>.ok (aR γ x∧aR γ e1∧aR γ e2∧iT σ (.osl b ver lo0 len)∧lJ P T=true∧cx P (P.elem T)=true∧yO σ b (P.cellsOf (P.elem T))∧(γ=true→0≤l∧l≤h∧h≤len)) (.c (.osl b ver (lo0+l.toNat) (h.toNat - l.toNat)))
          |_,_=>.bad))
    |.c (.str s) =>
      (match bnd 0 lo, bnd s.length hi with
       |some (e1,l),some (e2,h)=>.ok (aR γ x∧aR γ e1∧aR γ e2∧pV P T=true∧(γ=true→0≤l∧l≤h∧h≤s.length)) (.c (.str ((s.take h.toNat).drop l.toNat)))
       |_,_=>.bad)
    |.c (.tptr s es k j) =>
      (match lo, hi with
       |some q,none =>
         (match bnd 0 (some q) with
          |some (e1,l)=>.ok (aR γ x∧aR γ e1∧pt P T=true∧cx P (P.elem T)=true∧P.cellsOf (P.elem T)=s∧k=0∧j=0∧P.arrayLen T=es.length∧(γ=true→0≤l∧l≤es.length)) (.c (.tree s (es.drop l.toNat)))
          |none=>.bad)
       |_,_=>.bad)
    |_=>.bad
def ur(P:Program)(γ:Bool)(σ:List OB)(T:TypeId)(x:Ent):R :=
  match x.v with
  |.c (.tree _ es)=>.ok (aR γ x∧lJ P T=true) (.c (.int .i64 es.length))
  |.c (.osl b ver lo len)=>.ok (aR γ x∧iT σ (.osl b ver lo len)∧lJ P T=true) (.c (.int .i64 len))
  |.c .nils=>.ok (aR γ x∧lJ P T=true) (.c (.int .i64 0))
  |.c .emp=>.ok (aR γ x∧lJ P T=true) (.c (.int .i64 0))
  |.c .emn=>.ok (aR γ x∧lJ P T=true) (.c (.int .i64 0))
  |.c (.str s)=>.ok (aR γ x∧pV P T=true) (.c (.int .i64 s.length))
  |_=>.bad
def wy(σ:List OB):PV→Option (Prop×List (List CV))
  |.c .nils=>some (True,[])
  |.c .emp=>some (True,[])
  |.c .emn=>some (True,[])
  |.c (.tree _ es)=>some (True,es)
  |.c (.osl b ver lo len)=>(match σ[b]? with|some (.arr _ ver' _ es)=>some (ver=ver'∧lo+len≤es.length,(es.drop lo).take len)|_=>none)
  |.c (.str s)=>some (True,s.map fun x=>[.int .u8 x.toNat])
  |_=>none
def pk(P:Program)(σ:List OB)(T:TypeId)(x y:Ent):R :=
  match wy σ y.v with
  |none=>.bad
  |some (C,news) =>
    match x.v with
    |.c .nils=>.upd (x.cond=true∧y.cond=true∧C∧lJ P T=true∧cx P (P.elem T)=true∧(mG P (P.elem T)).isSome=true∧0<P.cellsOf (P.elem T)∧(∀ e∈news,e.length=P.cellsOf (P.elem T))∧news.length * P.bytesOf (P.elem T)≤140737488355328∧news.length≤maxLen)
        (.c (.osl σ.length 0 0 news.length)) (σ++[.arr (P.cellsOf (P.elem T)) 0 (P.elem T) news])
    |.c .emp=>.upd (x.cond=true∧y.cond=true∧C∧lJ P T=true∧cx P (P.elem T)=true∧(mG P (P.elem T)).isSome=true∧0<P.cellsOf (P.elem T)∧(∀ e∈news,e.length=P.cellsOf (P.elem T))∧news.length * P.bytesOf (P.elem T)≤140737488355328∧news.length≤maxLen)
        (.c (.osl σ.length 0 0 news.length)) (σ++[.arr (P.cellsOf (P.elem T)) 0 (P.elem T) news])
    |.c (.osl b ver lo len) =>
      (match σ[b]? with
       |some (.arr s ver' T' es)=>.upd (x.cond=true∧y.cond=true∧C∧ver=ver'∧lo=0∧len≤es.length∧T'=P.elem T∧lJ P T=true∧cx P (P.elem T)=true∧(mG P (P.elem T)).isSome=true∧P.cellsOf (P.elem T)=s∧(∀ e∈news,e.length=s)∧(len+news.length) * P.bytesOf (P.elem T)≤140737488355328∧len+news.length≤maxLen)
           (.c (.osl b (ver+1) 0 (len+news.length))) (σ.set b (.arr s (ver+1) T' (es.take len++news)))
       |_=>.bad)
    |_=>.bad
def lK(P:Program)(σ:List OB)(T:TypeId)(x y:Ent):R :=
  match x.v,y.v,mG P (P.elem T) with
  |.c (.int .i64 n),.c (.int .i64 k),some z=>.upd (x.cond=true∧y.cond=true∧lJ P T=true∧cx P (P.elem T)=true∧0<P.cellsOf (P.elem T)∧0≤n∧n≤k∧k * P.bytesOf (P.elem T)≤140737488355328∧k≤maxLen)
      (.c (.osl σ.length 0 0 n.toNat)) (σ++[.arr (P.cellsOf (P.elem T)) 0 (P.elem T) (List.replicate k.toNat z)])
  |_,_,_=>.bad
def zo(P:Program)(σ:List OB)(T:TypeId)(x:Ent):R :=
  .upd (x.cond=true∧cx P T=true∧0<x.v.cells.length) (.c (.optr σ.length 0)) (σ++[.box x.v.cells])
def pP(P:Program)(σ:List OB)(T:TypeId):R :=
  match mG P T with
  |some z=>.upd (0<z.length) (.c (.optr σ.length 0)) (σ++[.box z])
  |none=>.bad
def sR(dJ:Nat→Option (Nat×Nat))(cs:List CV):List (Nat×PV)→Option (List CV)
  |[]=>some cs
  |(i,v) :: r =>
    match dJ i with
    |none=>none
    |some (off,size)=>if v.cells.length=size∧off+size≤cs.length then sR dJ (ik cs off v.cells) r else none
def pw(P:Program)(T:TypeId):Bool :=
  match P.underlying T with
  |some (.struct fs)=>fs.toList.all fun f=>(P.info? f.type).isSome
  |_=>false
def wz(E:Env)(parts:List (Nat×Operand)):List (Nat×Ent):=parts.map fun p=>(p.1,ev E p.2)
def sm(P:Program)(γ:Bool)(T:TypeId)(parts:List (Nat×Ent)):R :=
  match mG P T,n7 P T,pt P T with
  |some z,true,false =>
    (match sR (fun i => if qQ P T i then some (nn P T i, P.cellsOf (tl P T i)) else none) z (parts.map fun p => (p.1, p.2.v)) with
     |some cs=>.ok (pw P T=true∧∀ p∈parts,aR γ p.2) (.a cs)
     |none=>.bad)
  |some z,true,true =>
    (match sR (fun i => some (i * P.cellsOf (P.elem T), P.cellsOf (P.elem T))) z (parts.map fun p => (p.1, p.2.v)) with
     |some cs=>.ok (cx P (P.elem T)=true∧0<P.cellsOf (P.elem T)∧∀ p∈parts,aR γ p.2) (.a cs)
     |none=>.bad)
  |_,_,_=>.bad
def cut(s:Nat):Nat→List CV→List (List CV)
  |0,_=>[]
  |n+1,l=>l.take s :: cut s n (l.drop s)
def jX(P:Program)(σ:List OB)(T:TypeId)(len:Nat)(parts:List (Nat×Ent)):R :=
  match mG P (P.elem T) with
  |some z =>
    (match sR (fun i => some (i * P.cellsOf (P.elem T), P.cellsOf (P.elem T))) ((List.replicate len z).flatten) (parts.map fun p => (p.1, p.2.v)) with
     |some cs=>.upd ((∀ p∈parts,p.2.cond=true)∧(cs.all CV.flat)=true∧lJ P T=true∧cx P (P.elem T)=true∧0<P.cellsOf (P.elem T)∧len * P.cellsOf (P.elem T)≤16777216)
         (.c (.osl σ.length 0 0 len)) (σ++[.arr (P.cellsOf (P.elem T)) 0 (P.elem T) (cut (P.cellsOf (P.elem T)) len cs)])
     |none=>.bad)
  |none=>.bad
def jY(γ mx:Bool)(x y:Ent):R :=
  match x.v,y.v with
  |.c (.int k a),.c (.int k' b)=>.ok (aR γ x∧aR γ y∧k=k') (.c (.int k (if mx then (if b>a then b else a) else (if b<a then b else a))))
  |_,_=>.bad
def xk(c:Bool)(g:FuncId)(caps:List CV):List Ent→R
  |[]=>.call (c=true) g (caps.map .c)
  |_ :: _=>.bad
def xl(γ:Bool)(f:Ent)(args:List Ent):R :=
  match f.v with
  |.c (.fn g caps)=>if g<4096 then .call (f.cond=true∧∀ e∈args,aR γ e) g (args.map (·.v)++caps.map .c) else xk f.cond (g - 4096) caps args
  |_=>.bad
def jZ(P:Program)(γ:Bool)(σ:List OB)(b:Builtin)(ts:List TypeId)(args:List Ent):R :=
  match b,ts,args with
  |.len,[T],[x]=>ur P γ σ T x
  |.append,[T,T'],[x,y]=>if T=T'∨pV P T' then pk P σ T x y else .bad
  |.min,_,[x,y]=>jY γ false x y
  |.max,_,[x,y]=>jY γ true x y
  |_,_,_=>.bad
def kL(γ:Bool)(σ:List OB)(x:Ent):R :=
  match x.v with
  |.c (.optr b off)=>.ok (aR γ x∧iT σ (.optr b off)) (.c (.optr b off))
  |.c (.tptr s es i j)=>.ok (aR γ x) (.c (.tptr s es i j))
  |.c (.oel b ver i j)=>.ok (aR γ x∧iT σ (.oel b ver i j)) (.c (.oel b ver i j))
  |_=>.bad
def PV.capOk:PV→Bool
  |.c (.fn _ _)=>false
  |.c _=>true
  |_=>false
def ml(γ:Bool)(fn:Fn)(first caps:List Ent):R :=
  match fn,first,caps with
  |.func f,e0 :: first,[]=>if f<4096 then .ok (∀ e∈e0 :: first,aR γ e∧e.v.cells.length=1∧e.v.capOk=true) (.c (.fn (f+4096) ((e0 :: first).map fun e=>e.v.cells.headD .junk))) else .bad
  |.func f,[],caps=>if 4096≤f then .bad else .ok (∀ e∈caps,aR γ e∧e.v.cells.length=1∧e.v.capOk=true) (.c (.fn f (caps.map fun e=>e.v.cells.headD .junk)))
  |_,_,_=>.bad
def cA(P:Program)(γ:Bool)(E:Env)(σ:List OB)(op:Op):R :=
  match op with
  |.move x|.assign x=>.ok (aR γ (ev E x)) (ev E x).v
  |.pick c a b=>uy γ (ev E c) (ev E a) (ev E b)
  |.alloc T=>pP P σ T
  |.box T x=>zo P σ T (ev E x)
  |.build T parts=>sm P γ T (wz E parts.toList)
  |.buildSlice T len parts=>jX P σ T len (wz E parts.toList)
  |.load T p=>qo P γ σ T (ev E p)
  |.store T p x=>qp P σ T (ev E p) (ev E x)
  |.nilCheck x=>kL γ σ (ev E x)
  |.binOp op T x y _=>n8 P γ op T (ev E x) (ev E y)
  |.unOp op _ x=>unR γ op (ev E x)
  |.convert src dst x=>uz P γ src dst (ev E x)
  |.fieldAddr T x i=>gT P γ σ T (ev E x) i
  |.field T x i=>sj P γ T (ev E x) i
  |.indexAddr T x i=>fT P γ σ T (ev E x) (ev E i)
  |.index T x i=>oe P γ T (ev E x) (ev E i)
  |.extract x i=>oh γ (ev E x) i
  |.slice T x lo hi mx=>pO P γ σ T (ev E x) (lo.map (ev E)) (hi.map (ev E)) (mx.map (ev E))
  |.makeSlice T x y=>lK P σ T (ev E x) (ev E y)
  |.makeFunc fn first caps=>ml γ fn (first.toList.map (ev E)) (caps.toList.map (ev E))
  |.call c =>
    (match c.callee with
     |.value f=>xl γ (ev E f) (c.args.toList.map (ev E))
     |.builtin b=>jZ P γ σ b c.argTypes.toList (c.args.toList.map (ev E))
     |.invoke _ _=>.bad)
  |_=>.bad
theorem no(b o j:Nat):(⟨b,o,none⟩:Addr).add j=⟨b,o+j,none⟩:=by unfold Addr.add;split<;>simp_all
theorem ub{w:World}{g:Nat}{c:Array Value}{t:TypeId}{fr:Nat×Nat}(hg:w.heap[g]? = some (.cells c t fr))(j:Nat):w.cell? ⟨g,j,none⟩=c[j]? := by
 simp [World.cell?,hg]
def Fy(fz:Nat×Nat)(n:Nat):Prop:=fz=(0,0)∨n≤fz.1
theorem Cz{w:World}{g:Nat}{c:Array Value}{t:TypeId}{fz:Nat×Nat}(hg:w.heap[g]? = some (.cells c t fz))(hf:Fy fz c.size)(j:Nat)(hj:j<c.size) :
  w.frozen? ⟨g,j,none⟩=false:=by
 rcases hf with rfl|hf
 ·simp [World.frozen?,hg]
 ·simp [World.frozen?,hg];omega
theorem Ar(w:World)(g i:Nat)(v:Value)(c:Array Value)(t:TypeId)(fz:Nat×Nat)(hg:w.heap[g]? = some (.cells c t fz)) :
  w.setCell ⟨g,i,none⟩ v=w.setRow g (c.setIfInBounds i v):=by
 unfold World.setCell World.setRow
 cases w with
 |mk heap tape drawn os output =>
  congr 1
  apply Array.ext
  ·simp
  ·intro k h1 h2
   simp only [Array.getElem_modify]
   by_cases hk:g=k
   ·subst hk
    have hv:heap[g]? = some (.cells c t fz):=hg
    have hlt:g<heap.size:=(Array.getElem?_eq_some_iff.1 hv).1
    have hv':heap[g]=.cells c t fz:=(Array.getElem?_eq_some_iff.1 hv).2
    simp [hv']
   ·simp [hk]
theorem kM{w:World}{g:Nat}{c:Array Value}{t:TypeId}{fz:Nat×Nat}(hg:w.heap[g]? = some (.cells c t fz))(cs:Array Value) :
  (w.setRow g cs).heap[g]? = some (.cells cs t fz):=by
 simp [World.setRow,Array.getElem?_modify,hg]
theorem mH(w:World)(g k:Nat)(cs:Array Value)(h:k≠g):(w.setRow g cs).heap[k]? = w.heap[k]? := by
 simp [World.setRow,Array.getElem?_modify,Ne.symm h]
theorem yy(w:World)(g:Nat)(a b:Array Value):(w.setRow g a).setRow g b=w.setRow g b:=by
 unfold World.setRow
 cases w with
 |mk heap tape drawn os output =>
  simp only
  congr 1
  apply Array.ext
  ·simp
  ·intro k h1 h2
   simp only [Array.getElem_modify]
   by_cases hk:g=k
   ·subst hk;simp;cases heap[g]'(by simpa using h2)<;>rfl
   ·simp [hk]
theorem oi(P:Program)(g o:Nat)(t:TypeId)(fz:Nat×Nat):∀ (vs:List Value) (i:Nat) (cur:Array Value) (w:World),w.heap[g]? = some (.cells cur t fz)→Fy fz cur.size→o+i+vs.length≤cur.size→(∀ v∈vs,v.oneCell'=true) →
  (storeCells ⟨g,o,none⟩ vs i).run P w=.ok () (w.setRow g (cur.toList.take (o+i)++vs++cur.toList.drop (o+i+vs.length)).toArray)
 |[],i,cur,w,hg,_,_,_=>by
  simp only [storeCells,List.append_nil,List.length_nil,Nat.add_zero,List.take_append_drop,Array.toArray_toList]
  rw [setRow_self w g cur t fz hg]
  rfl
 |v :: rest,i,cur,w,hg,hf,hl,h1=>by
  have hi:o+i<cur.size:=by simp at hl;omega
  have hcell:w.cell? ⟨g,o+i,none⟩=some cur[o+i]:=by simp [World.cell?,hg,hi]
  have hfro:w.frozen? ⟨g,o+i,none⟩=false:=Cz hg hf _ hi
  have hst:(store ((⟨g,o,none⟩:Addr).add i) v).run P w=.ok () (w.setRow g (cur.setIfInBounds (o+i) v)):=by
   rw [no,run_store P w _ v _ (h1 v (by simp)),hcell]
   simp only [hfro,Bool.false_eq_true,if_false]
   rw [Ar w g (o+i) v cur t fz hg]
  have hg':=kM hg (cur.setIfInBounds (o+i) v)
  have ih:=oi P g o t fz rest (i+1) (cur.setIfInBounds (o+i) v) (w.setRow g (cur.setIfInBounds (o+i) v)) hg' (by simpa using hf) (by simp at hl ⊢;omega) (fun u hu=>h1 u (by simp [hu]))
  simp only [storeCells,Sem.run_bind,hst,Result.andThen_ok,ih,yy]
  congr 2
  have hs:(cur.setIfInBounds (o+i) v).toList=cur.toList.set (o+i) v:=by simp
  have:=list_seg_step cur.toList (o+i) v rest (by simp at hl ⊢;omega)
  rw [hs,← Nat.add_assoc o i 1,this]
  simp [Nat.add_assoc]
  try omega
section
variable {P:Program} {T:TypeId} {w:World}
theorem Bl(h:cx P T=true):∃ d,P.underlying T=some d:=by
 unfold cx at h
 cases hu:P.underlying T with
 |none=>simp [hu] at h
 |some d=>exact ⟨d,rfl⟩
theorem As(h:cx P T=true):∃ i,P.info? T=some i∧P.cellsOf T=i.size∧P.bytesOf T=i.bytes:=by
 unfold cx at h
 cases hu:P.info? T with
 |none=>simp [hu] at h
 |some i=>exact ⟨i,rfl,by simp [Program.cellsOf,hu],by simp [Program.bytesOf,hu]⟩
theorem yP(h:cx P T=true):(isAgg T).run P w=.ok (n7 P T) w:=by
 obtain ⟨d,hd⟩:=Bl h
 unfold isAgg n7
 simp only [Sem.run_bind,run_underlying hd,Result.andThen_ok,hd]
 cases d<;>rfl
theorem eh(h:cx P T=true):(Go.sizeOf T).run P w=.ok (P.cellsOf T) w:=by
 obtain ⟨i,hi,hs,_⟩:=As h
 simp [Go.sizeOf,typeInfo,hi,hs]
theorem uK(hk:cx P T=true)(g o:Nat)(vs:List Value)(hl:vs.length=P.cellsOf T)
  (hc:∀ j v,vs[j]? = some v→w.cell? ⟨g,o+j,none⟩=some v) (h1:n7 P T=true∨P.cellsOf T=1) :
  (Instr.loadAt T (.pointer (some ⟨g,o,none⟩))).run P w=.ok (if n7 P T then .agg vs.toArray else vs.headD undef) w:=by
 have hs:(Instr.sureAddr (.pointer (some ⟨g,o,none⟩))).run P w=.ok ⟨g,o,none⟩ w:=rfl
 have hcs:=run_loadCells_list (P:=P) w ⟨g,o,none⟩ vs (fun j v hj=>by rw [no];exact hc j v hj)
 rw [hl] at hcs
 simp only [Instr.loadAt,loadVar,Sem.run_bind,hs,Result.andThen_ok,yP hk]
 cases ha:n7 P T with
 |true=>simp [eh hk,hcs]
 |false =>
  rcases h1 with h1|h1
  ·simp [ha] at h1
  ·obtain ⟨v,rfl⟩:∃ v,vs=[v]:=by
    match vs,hl with
    |[v],_=>exact ⟨v,rfl⟩
    |[],hl=>simp at hl;omega
    |_ :: _ :: _,hl=>simp at hl;omega
   have:=hc 0 v (by simp)
   simp only [Nat.add_zero] at this
   simp [this]
theorem tm(hk:cx P T=true)(g o:Nat)(t:TypeId)(fz:Nat×Nat)(cur:Array Value)(hg:w.heap[g]? = some (.cells cur t fz))(hf:Fy fz cur.size)(x:Value)
  (hl:x.cells.size=P.cellsOf T) (hr:o+P.cellsOf T≤cur.size) (h1:∀ v∈x.cells.toList,v.oneCell'=true) :
  (Instr.storeAt T (.pointer (some ⟨g,o,none⟩)) x).run P w=.ok () (w.setRow g (cur.toList.take o++x.cells.toList++cur.toList.drop (o+x.cells.toList.length)).toArray):=by
 have hs:(Instr.sureAddr (.pointer (some ⟨g,o,none⟩))).run P w=.ok ⟨g,o,none⟩ w:=rfl
 have hst:=oi P g o t fz x.cells.toList 0 cur w hg hf (by simp;omega) h1
 simp only [Nat.add_zero] at hst
 simp [Instr.storeAt,storeVar,hs,eh hk,hl,hst]
end
theorem qn.keep{G G':Gh}{w w':World}{b:Nat}{ob:OB}(h:qn G w b ob)(hH:∀ b o,G.H b=some o→G'.H b=some o)(hle:bG G.own G'.own)
  (hb:G'.own[b]? = G.own[b]?) (hw:∀ o,G.own[b]? = some (some o)→o.has=true→w'.heap[o.blk]? = w.heap[o.blk]?):qn G' w' b ob:=by
 cases ob with
 |dead=>simpa [qn,hb] using h
 |box cs =>
  obtain ⟨o,c,T,h1,h2,h3,h4,h5⟩:=h
  exact ⟨o,c,T,hb.trans h1,h2,h3,(hw o h1 h2).trans h4,aW.mono (fun _ _ hr=>Rep.mono hH hle hr) h5⟩
 |arr s ver T es =>
  obtain ⟨o,h1,h2,h3,h4,h5,h6,h7,h8,h9⟩:=h
  refine ⟨o,hb.trans h1,h2,h3,h4,h5,h6,h7,h8,fun hh=>?_⟩
  obtain ⟨c,fz,k1,k2,k3,k4⟩:=h9 hh
  refine ⟨c,fz,(hw o h1 hh).trans k1,k2,k3,fun i j e x he hx=>?_⟩
  obtain ⟨v,e1,e2⟩:=k4 i j e x he hx
  exact ⟨v,e1,br.mono hH e2⟩
 |mp P k m =>
  obtain ⟨o,h1,h2,h3,h4,h5⟩:=h
  exact ⟨o,hb.trans h1,h2,h3,h4,h5.keep hH (hw o h1 h2)⟩
theorem dD{w:World}{b:Nat}{o:Obj}(h:w.heap[b]? = some o):b<w.heap.size:=(Array.getElem?_eq_some_iff.1 h).1
theorem rl{G:Gh}{σ:List OB}{w:World}(hi:Inv G σ w){b:Nat}{o:OG}(h:G.own[b]? = some (some o))(hh:o.has=true):o.blk<w.heap.size:=by
 have hb:b<σ.length:=by
  rw [← hi.len]
  exact (List.getElem?_eq_some_iff.1 h).1
 have:=hi.own b σ[b] (List.getElem?_eq_getElem hb)
 cases he:σ[b] with
 |dead=>rw [he] at this;simp only [qn] at this;rw [this] at h;simp at h
 |box cs =>
  rw [he] at this
  obtain ⟨o',c,T,h1,h2,h3,h4,h5⟩:=this
  rw [h1] at h
  simp only [sJ] at h
  subst h
  exact dD h4
 |arr s ver T es =>
  rw [he] at this
  obtain ⟨o',h1,h2,h3,h4,h5,h6,h7,h8,h9⟩:=this
  rw [h1] at h
  simp only [sJ] at h
  subst h
  obtain ⟨c,fz,k1,_⟩:=h9 hh
  exact dD k1
 |mp P k m =>
  rw [he] at this
  obtain ⟨o',h1,h2,h3,h4,D,h5,_⟩:=this
  rw [h1] at h
  simp only [sJ] at h
  subst h
  exact h5.lt
theorem Inv.push{G:Gh}{σ:List OB}{w w':World}(hi:Inv G σ w)(ob:OB)(o:OG)
  (hsz:w.heap.size≤w'.heap.size) (hold:∀ b,b<w.heap.size→w'.heap[b]? = w.heap[b]?) (hblk:o.has=true→o.blk=w.heap.size)
  (hos:w'.os=w.os) (htape:w'.tape=w.tape) (hout:w'.output=w.output)
  (hok:qn { G with own:=G.own++[some o] } w' σ.length ob) :
  Inv { G with own:=G.own++[some o] } (σ++[ob]) w':=by
 have hH:∀ b x,G.H b=some x→({ G with own:=G.own++[some o] }:Gh).H b=some x:=fun _ _ h=>h
 have hle:bG G.own (G.own++[some o]):=bG.append _ _
 have split:∀ (b:Nat) (o':OG),(G.own++[some o])[b]? = some (some o')→(b<G.own.length∧G.own[b]? = some (some o'))∨(b=G.own.length∧o'=o):=by
  intro b o' h
  rcases Nat.lt_or_ge b G.own.length with hb|hb
  ·rw [List.getElem?_append_left hb] at h;exact .inl ⟨hb,h⟩
  ·rw [List.getElem?_append_right hb] at h
   rcases Nat.eq_zero_or_pos (b - G.own.length) with e|e
   ·rw [e] at h;simp at h;exact .inr ⟨by omega,h.symm⟩
   ·rw [List.getElem?_eq_none (by simp;omega)] at h;cases h
 constructor
 ·intro b x h;rw [hold b (dD (hi.hH b x h))];exact hi.hH b x h
 ·intro b x h;rw [hold b (dD (hi.hF b x h))];exact hi.hF b x h
 ·exact hi.HF
 ·simp [hi.len]
 ·intro b ob' h
  rcases Nat.lt_or_ge b σ.length with hb|hb
  ·rw [List.getElem?_append_left hb] at h
   refine (hi.own b ob' h).keep hH hle ?_ fun o' ho' hh=>hold _ (rl hi ho' hh)
   exact List.getElem?_append_left (by rw [hi.len];exact hb)
  ·rw [List.getElem?_append_right hb] at h
   rcases Nat.eq_zero_or_pos (b - σ.length) with e|e
   ·rw [e] at h;simp at h
    have:b=σ.length:=by omega
    subst this;subst h
    exact hok
   ·rw [List.getElem?_eq_none (by simp;omega)] at h;cases h
 ·intro b b' o1 o2 h1 h2 hh1 hh2 he
  rcases split b o1 h1 with ⟨hb,g1⟩|⟨hb,g1⟩<;>rcases split b' o2 h2 with ⟨hb',g2⟩|⟨hb',g2⟩
  ·exact hi.inj b b' o1 o2 g1 g2 hh1 hh2 he
  ·have:=rl hi g1 hh1;rw [he,g2,hblk (g2 ▸ hh2)] at this;omega
  ·have:=rl hi g2 hh2;rw [← he,g1,hblk (g1 ▸ hh1)] at this;omega
  ·omega
 ·intro b o1 h1 hh1
  rcases split b o1 h1 with ⟨hb,h1⟩|⟨hb,rfl⟩
  ·exact hi.sep b o1 h1 hh1
  ·rw [hblk hh1]
   constructor
   ·cases hx:G.H w.heap.size with
    |none=>rfl
    |some x=>have:=dD (hi.hH _ _ hx);omega
   ·cases hx:G.F w.heap.size with
    |none=>rfl
    |some x=>have:=dD (hi.hF _ _ hx);omega
 ·exact hos.trans hi.os
 ·exact htape.trans hi.tape
 ·exact hout.trans hi.output
 ·exact Nat.le_trans hi.grow hsz
theorem Inv.change{G:Gh}{σ:List OB}{w w':World}(hi:Inv G σ w)(b:Nat)(ob:OB)(o o':OG)
  (ho:G.own[b]? = some (some o)) (ho':o'=o∨o.ver<o'.ver)
  (hsz:w.heap.size≤w'.heap.size) (hold:∀ k,k<w.heap.size→(o.has=true→k≠o.blk)→w'.heap[k]? = w.heap[k]?)
  (hblk:o'.has=true→(o'.blk=o.blk∧o.has=true)∨o'.blk=w.heap.size)
  (hos:w'.os=w.os) (htape:w'.tape=w.tape) (hout:w'.output=w.output)
  (hok:qn { G with own:=G.own.set b (some o') } w' b ob) :
  Inv { G with own:=G.own.set b (some o') } (σ.set b ob) w':=by
 have hH:∀ k x,G.H k=some x→({ G with own:=G.own.set b (some o') }:Gh).H k=some x:=fun _ _ h=>h
 have hbl:b<G.own.length:=(List.getElem?_eq_some_iff.1 ho).1
 have hle:bG G.own (G.own.set b (some o')):=by
  intro k oo hk
  by_cases e:b=k
  ·subst e
   rw [ho] at hk
   simp only [sJ] at hk
   subst hk
   exact ⟨some o',by simp [hbl],fun o'' h''=>⟨o,rfl,by simp only [sJ] at h'';subst h'';exact ho'⟩⟩
  ·exact ⟨oo,by rw [List.getElem?_set_ne e];exact hk,fun o'' h''=>⟨o'',h'',.inl rfl⟩⟩
 have split:∀ (k:Nat) (o1:OG),(G.own.set b (some o'))[k]? = some (some o1)→(k≠b∧G.own[k]? = some (some o1))∨(k=b∧o1=o'):=by
  intro k o1 h
  by_cases e:b=k
  ·subst e;simp [hbl] at h;exact .inr ⟨rfl,h.symm⟩
  ·rw [List.getElem?_set_ne e] at h;exact .inl ⟨fun h'=>e h'.symm,h⟩
 have hns:∀ k x,(G.H k=some x∨G.F k=some x)→(o.has=true→k≠o.blk):=by
  intro k x hk hh e
  have:=hi.sep b o ho hh
  rw [← e] at this
  rcases hk with hk|hk
  ·rw [this.1] at hk;cases hk
  ·rw [this.2] at hk;cases hk
 constructor
 ·intro k x h;rw [hold k (dD (hi.hH k x h)) (hns k x (.inl h))];exact hi.hH k x h
 ·intro k x h;rw [hold k (dD (hi.hF k x h)) (hns k x (.inr h))];exact hi.hF k x h
 ·exact hi.HF
 ·simp [hi.len]
 ·intro k ob' h
  by_cases e:b=k
  ·subst e
   have hbs:b<σ.length:=by rw [← hi.len];exact hbl
   simp [hbs] at h
   subst h
   exact hok
  ·rw [List.getElem?_set_ne e] at h
   refine (hi.own k ob' h).keep hH hle (List.getElem?_set_ne e) fun o1 ho1 hh1=>?_
   refine hold _ (rl hi ho1 hh1) fun hh e'=>e ?_
   exact (hi.inj k b o1 o ho1 ho hh1 hh e').symm
 ·intro k k' o1 o2 h1 h2 hh1 hh2 he
  rcases split k o1 h1 with ⟨hk,g1⟩|⟨hk,g1⟩<;>rcases split k' o2 h2 with ⟨hk',g2⟩|⟨hk',g2⟩
  ·exact hi.inj k k' o1 o2 g1 g2 hh1 hh2 he
  ·rw [g2] at he hh2
   rcases hblk hh2 with ⟨e1,e2⟩|e1
   ·exact (hk (hi.inj k b o1 o g1 ho hh1 e2 (he.trans e1))).elim
   ·have:=rl hi g1 hh1;rw [he,e1] at this;omega
  ·rw [g1] at he hh1
   rcases hblk hh1 with ⟨e1,e2⟩|e1
   ·exact (hk' (hi.inj k' b o2 o g2 ho hh2 e2 (he.symm.trans e1))).elim
   ·have:=rl hi g2 hh2;rw [← he,e1] at this;omega
  ·omega
 ·intro k o1 h1 hh1
  rcases split k o1 h1 with ⟨hk,h1⟩|⟨hk,rfl⟩
  ·exact hi.sep k o1 h1 hh1
  ·rcases hblk hh1 with ⟨e1,e2⟩|e1
   ·rw [e1];exact hi.sep b o ho e2
   ·rw [e1]
    constructor
    ·cases hx:G.H w.heap.size with
     |none=>rfl
     |some x=>have:=dD (hi.hH _ _ hx);omega
    ·cases hx:G.F w.heap.size with
     |none=>rfl
     |some x=>have:=dD (hi.hF _ _ hx);omega
 ·exact hos.trans hi.os
 ·exact htape.trans hi.tape
 ·exact hout.trans hi.output
 ·exact Nat.le_trans hi.grow hsz
theorem bG.set{l:List (Option OG)}{b:Nat}{o o':OG}(ho:l[b]? = some (some o))(ho':o'=o∨o.ver<o'.ver):bG l (l.set b (some o')):=by
 have hbl:b<l.length:=(List.getElem?_eq_some_iff.1 ho).1
 intro k oo hk
 by_cases e:b=k
 ·subst e
  rw [ho] at hk
  simp only [sJ] at hk
  subst hk
  exact ⟨some o',by simp [hbl],fun o'' h''=>⟨o,rfl,by simp only [sJ] at h'';subst h'';exact ho'⟩⟩
 ·exact ⟨oo,by rw [List.getElem?_set_ne e];exact hk,fun o'' h''=>⟨o'',h'',.inl rfl⟩⟩
theorem br.rep{G:Gh}{c:CV}{v:Value}(h:br G.H c v):Rep G c v:=by
 cases c
 case optr=>cases h
 case osl=>cases h
 case oel=>cases h
 case fn=>cases h
 all_goals (simp only [Rep,gm];exact h)
theorem Rep.flat{G:Gh}{c:CV}{v:Value}(hf:c.flat=true)(h:Rep G c v):br G.H c v:=by
 cases c
 case optr=>cases hf
 case osl=>cases hf
 case oel=>cases hf
 case fn=>cases hf
 all_goals (simp only [Rep,gm] at h;exact h)
theorem xm{H:Nat→Option Obj}{v:Value}{c:CV}(h:od v=some c):br H c v:=by
 unfold od at h
 split at h<;>simp only [sJ,reduceCtorEq] at h<;>subst h
 ·exact .bool _
 ·exact .int _ _
 ·exact .str _
 ·exact .nilp
 ·exact .nils
 ·exact .nilf
 ·exact .nili
 ·exact .junk _ rfl
theorem sn{H:Nat→Option Obj}:∀ {vs:List Value} {cs:List CV},nv vs=some cs→aW (br H) cs vs
 |[],cs,h=>by simp [nv] at h;subst h;trivial
 |v :: r,cs,h=>by
  unfold nv at h
  split at h
  ·rename_i c cs' h1 h2
   simp only [sJ] at h
   subst h
   exact ⟨xm h1,sn h2⟩
  ·cases h
theorem Dm{G:Gh}{v:Value}(h:(uq v).cond=true):bg G (uq v).v v:=by
 unfold uq at h ⊢
 split at h
 ·rename_i cs
  split at h
  ·rename_i l hl
   exact ⟨cs.toList,by simp,aW.mono (fun _ _ hr=>br.rep hr) (sn hl)⟩
  ·cases h
 ·rename_i hna
  split at h
  ·rename_i c hc
   have:=br.rep (G:=G) (xm (H:=G.H) hc)
   cases v<;>first|(exact (hna _ rfl).elim)|(exact this)|(simp only [hc];exact this)
  ·cases h
theorem eG{G:Gh}{E:Env}{σ:List OB}{a:Act}{w:World}(hs:Sim G E σ a w)(x:Operand)(hc:(ev E x).cond=true):bg G (ev E x).v (a.eval x):=by
 cases x with
 |tmp t=>exact hs.slot t hc
 |const v=>exact Dm hc
 |global g=>cases hc
 |func f =>
  by_cases hf:f<4096
  ·simp only [ev,iP hf];exact ⟨[],by rw [iP hf];rfl,trivial⟩
  ·simp only [ev,iN hf] at hc;cases hc
theorem wX{P:Program}{T:TypeId}{G:Gh}{cs:List CV}{vs:List Value}(h:aW (Rep G) cs vs)(hl:cs.length=P.cellsOf T)(h1:n7 P T=true∨P.cellsOf T=1) :
  bg G (mkV P T cs) (if n7 P T then .agg vs.toArray else vs.headD undef):=by
 unfold mkV
 cases ha:n7 P T with
 |true=>exact ⟨vs,rfl,h⟩
 |false =>
  rcases h1 with h1|h1
  ·simp [ha] at h1
  ·rw [h1] at hl
   match cs,vs,h,hl with
   |[c],[v],h,_=>exact h.1
theorem uL{H:Nat→Option Obj}{s:Nat}{es:List (List CV)}{blk off n cap:Nat}(h:br H (.tree s es) (.slice (some ⟨blk,off,none⟩) n cap))(hne:es≠[]) :
  ∃ c T fz,H blk=some (.cells c T fz)∧(∀ (i:Nat) (e:List CV),es[i]? = some e→e.length=s)∧n=es.length∧es.length≤cap ∧
   ∀ (i j:Nat) (e:List CV) (x:CV),es[i]? = some e→e[j]? = some x→∃ v,c[off+i * s+j]? = some v∧br H x v:=by
 cases h with
 |tree0=>exact (hne rfl).elim
 |tree _ _ _ _ _ c T fz g hb hc hl hg hr=>exact ⟨c,T,fz,hb,hl,rfl,hc,fun i j e x he hx=>⟨g i j,hg i j e x he hx,hr i j e x he hx⟩⟩
theorem xn{es:List (List CV)}{i:Nat}(h:i<es.length):es[i]? = some (elt es i):=by
 simp [elt,List.getD,List.getElem?_eq_getElem h]
theorem xo{R:CV→Value→Prop}{cs:List CV}{c:Array Value}{o n j:Nat}(hl:j+n≤cs.length)(h:∀ k x,cs[k]? = some x→∃ v,c[o+k]? = some v∧R x v) :
  ∃ vs:List Value,vs.length=n∧(∀ k v,vs[k]? = some v→c[o+j+k]? = some v)∧aW R ((cs.drop j).take n) vs:=by
 have hget:∀ k,k<n→∃ v,c[o+j+k]? = some v∧R (cs.getD (j+k) .junk) v:=by
  intro k hk
  have hjk:j+k<cs.length:=by omega
  obtain ⟨v,h1,h2⟩:=h (j+k) cs[j+k] (List.getElem?_eq_getElem hjk)
  exact ⟨v,by rw [Nat.add_assoc];exact h1,by simpa [List.getD,List.getElem?_eq_getElem hjk] using h2⟩
 refine ⟨(List.range n).map fun k=>(c[o+j+k]?).getD undef,by simp,?_,?_⟩
 ·intro k v hv
  simp only [List.getElem?_map] at hv
  rcases Nat.lt_or_ge k n with hk|hk
  ·simp [List.getElem?_range hk] at hv
   obtain ⟨u,hu,_⟩:=hget k hk
   rw [hu] at hv ⊢
   simp at hv
   rw [hv]
  ·rw [List.getElem?_eq_none (by simpa using hk)] at hv;cases hv
 ·refine aW.of_get (by simp;omega) ?_
  intro k x y hx hy
  simp only [List.getElem?_map] at hy
  rcases Nat.lt_or_ge k n with hk|hk
  ·simp [List.getElem?_range hk] at hy
   obtain ⟨u,hu,hr⟩:=hget k hk
   rw [hu] at hy
   simp at hy
   subst hy
   have hjk:j+k<cs.length:=by omega
   rw [List.getElem?_take_of_lt hk,List.getElem?_drop,List.getElem?_eq_getElem hjk] at hx
   simp only [sJ] at hx
   subst hx
   simpa [List.getD,List.getElem?_eq_getElem hjk] using hr
  ·rw [List.getElem?_eq_none (by simpa using hk)] at hy;cases hy
theorem At{P:Program}{γ:Bool}{G:Gh}{σ:List OB}{w:World}{T:TypeId}{e:Ent}{C:Prop}{v:PV}{val:Value}
  (h:qo P γ σ T e=.ok C v) (hC:C) (hγ:γ=true) (hi:Inv G σ w) (hv:e.cond=true→bg G e.v val) :
  ∃ r,(Instr.loadAt T val).run P w=.ok r w∧bg G v r:=by
 obtain ⟨ec,p⟩:=e
 unfold qo at h
 simp only at h hv
 split at h
 ·rename_i b off
  split at h
  ·rename_i cs hb
   simp only [R.ok.injEq] at h
   obtain ⟨rfl,rfl⟩:=h
   obtain ⟨hn,hk,hpos,hle,h1⟩:=hC
   have hr:gm G (.optr b off) val:=hv (hn hγ)
   obtain ⟨o,c,T',ho,hh,hver,hblk,hall⟩:=hi.own b _ hb
   obtain ⟨_,oo,hoo,hval⟩:=hr
   rw [ho] at hoo
   simp only [sJ] at hoo
   subst hoo
   have hval:=hval o rfl hver.1
   rw [iP hver.2] at hval
   subst hval
   obtain ⟨vs,hl,hc,hrep⟩:=xo (R:=Rep G) (cs:=cs) (c:=c) (o:=0) (n:=P.cellsOf T) (j:=off) hle
    (fun k x hx=>by obtain ⟨y,hy,hr⟩:=hall.get k x hx;exact ⟨y,by simpa using hy,hr⟩)
   refine ⟨_,uK hk o.blk off vs hl (fun j u hu=>?_) h1,wX hrep ?_ h1⟩
   ·rw [ub hblk];simpa using hc j u hu
   ·simp;omega
  ·cases h
 ·rename_i s es i j
  simp only [R.ok.injEq] at h
  obtain ⟨rfl,rfl⟩:=h
  obtain ⟨hn,hk,hpos,hlt,hle,h1⟩:=hC
  have hlt:=hlt hγ
  have hr:br G.H (.tptr s es i j) val:=hv (hn hγ)
  cases hr with
  |tptr _ _ _ _ blk off cap n ht hi' =>
   obtain ⟨c,T',fz,hb,hlen,hneq,hcap,hcells⟩:=uL ht (by intro e;subst e;simp at hlt)
   have he:=xn hlt
   have hel:=hlen i _ he
   obtain ⟨vs,hl,hc,hrep⟩:=xo (R:=br G.H) (cs:=elt es i) (c:=c) (o:=off+i * s) (n:=P.cellsOf T) (j:=j) (by omega)
    (fun k x hx=>hcells i k _ x he hx)
   refine ⟨_,uK hk blk (off+i * s+j) vs hl (fun k u hu=>?_) h1,wX (aW.mono (fun _ _ hr=>br.rep hr) hrep) ?_ h1⟩
   ·rw [ub (hi.hH _ _ hb)];exact hc k u hu
   ·simp;omega
 ·rename_i b ver i j
  split at h
  ·rename_i s ver' T' es hb
   simp only [R.ok.injEq] at h
   obtain ⟨rfl,rfl⟩:=h
   obtain ⟨hn,hver,hk,hpos,hlt,hle,h1⟩:=hC
   have hlt:=hlt hγ
   have hr:gm G (.oel b ver i j) val:=hv (hn hγ)
   obtain ⟨o,ho,hov,hosz,hs,hcapl,hcapm,hlen,hno,hyes⟩:=hi.own b _ hb
   obtain ⟨_,oo,hoo,hval⟩:=hr
   rw [ho] at hoo
   simp only [sJ] at hoo
   subst hoo
   have hval:=(hval o rfl).2 (by rw [hov];exact hver)
   subst hval
   have hhas:o.has=true:=by
    cases hh:o.has with
    |true=>rfl
    |false=>have:=hno hh;omega
   obtain ⟨c,fz,hblk,hfz,hcs,hcells⟩:=hyes hhas
   have he:=xn hlt
   have hel:(elt es i).length=s:=hlen _ (List.mem_of_getElem? he)
   obtain ⟨vs,hl,hc,hrep⟩:=xo (R:=br G.H) (cs:=elt es i) (c:=c) (o:=o.off+i * s) (n:=P.cellsOf T) (j:=j) (by omega)
    (fun k x hx=>hcells i k _ x he hx)
   rw [hosz]
   refine ⟨_,uK hk o.blk (o.off+i * s+j) vs hl (fun k u hu=>?_) h1,wX (aW.mono (fun _ _ hr=>br.rep hr) hrep) ?_ h1⟩
   ·rw [ub hblk];exact hc k u hu
   ·simp;omega
  ·cases h
 ·cases h
theorem yQ(l:List UInt8):(⟨l.toArray⟩:ByteArray).toList=l:=by rw [ByteArray.toList_eq]
theorem uc(l:List UInt8):(⟨l.toArray⟩:ByteArray).size=l.length:=by simp [ByteArray.size]
theorem ez{G:Gh}{k:IntKind}{n:Int}{v:Value}(h:bg G (.c (.int k n)) v):v=.int k n:=by
 have h':br G.H (.int k n) v:=h
 cases h';rfl
theorem py{G:Gh}{b:Bool}{v:Value}(h:bg G (.c (.bool b)) v):v=.bool b:=by
 have h':br G.H (.bool b) v:=h
 cases h';rfl
theorem qa{G:Gh}{s:List UInt8}{v:Value}(h:bg G (.c (.str s)) v):v=.string ⟨s.toArray⟩:=by
 have h':br G.H (.str s) v:=h
 cases h';rfl
theorem iY{G:Gh}(k:IntKind)(n:Int):bg G (.c (.int k n)) (.int k n):=br.rep (.int k n)
theorem qb{G:Gh}(b:Bool):bg G (.c (.bool b)) (.bool b):=br.rep (.bool b)
theorem zp{G:Gh}(s:List UInt8):bg G (.c (.str s)) (.string ⟨s.toArray⟩):=br.rep (.str s)
section
variable {P:Program} {γ:Bool} {G:Gh} {σ:List OB} {w:World} {C:Prop} {v:PV}
theorem Fz{op:BinOp}{T:TypeId}{k k':IntKind}{a b:Int}(h:shI op k a b=some (C,v))(hC:C) :
  ∃ r,(binOp op T (.int k a) (.int k' b)).run P w=.ok r w∧bg G v r:=by
 unfold shI at h
 split at h<;>simp only [sJ,Prod.mk.injEq,reduceCtorEq] at h
 ·obtain ⟨rfl,rfl⟩:=h
  exact ⟨_,by simp [binOp,Op.shift,Int.not_lt.2 hC],iY _ _⟩
 ·obtain ⟨rfl,rfl⟩:=h
  exact ⟨_,by simp [binOp,Op.shift,Int.not_lt.2 hC],iY _ _⟩
theorem Ez{op:BinOp}{T:TypeId}{k:IntKind}{a b:Int}(h:Fx op k a b=some (C,v))(hC:C) :
  ∃ r,(binOp op T (.int k a) (.int k b)).run P w=.ok r w∧bg G v r:=by
 unfold Fx at h
 split at h<;>simp only [sJ,Prod.mk.injEq,reduceCtorEq] at h
 all_goals obtain ⟨rfl,rfl⟩:=h
 ·exact ⟨_,by simp [binOp,Op.intArith],iY _ _⟩
 ·exact ⟨_,by simp [binOp,Op.intArith],iY _ _⟩
 ·exact ⟨_,by simp [binOp,Op.intArith],iY _ _⟩
 ·exact ⟨_,by simp [binOp,Op.intDiv,hC],iY _ _⟩
 ·exact ⟨_,by simp [binOp,Op.intDiv,hC],iY _ _⟩
 ·exact ⟨_,by simp [binOp,intBits_and],iY _ _⟩
 ·exact ⟨_,by simp [binOp,intBits_or],iY _ _⟩
 ·exact ⟨_,by simp [binOp,intBits_xor],iY _ _⟩
 ·exact ⟨_,by simp [binOp,intBits_andNot],iY _ _⟩
 all_goals exact ⟨_,by simp [binOp,Op.intCmp],qb _⟩
theorem EA{op:BinOp}{T:TypeId}{a b:List UInt8}(h:xj op a b=some (C,v))(hC:C) :
  ∃ r,(binOp op T (.string ⟨a.toArray⟩) (.string ⟨b.toArray⟩)).run P w=.ok r w∧bg G v r:=by
 have hcat:(⟨a.toArray⟩++⟨b.toArray⟩:ByteArray)=⟨(a++b).toArray⟩:=by
  apply ByteArray.ext
  simp
 unfold xj at h
 split at h<;>simp only [sJ,Prod.mk.injEq,reduceCtorEq] at h
 all_goals obtain ⟨rfl,rfl⟩:=h
 ·refine ⟨.string ⟨(a++b).toArray⟩,?_,zp _⟩
  have:¬ (9223372036854775807<(a.length:Int)+(b.length:Int)):=by simp only [maxLen] at hC;omega
  simp [binOp,Op.stringOp,uc,this,hcat]
 all_goals exact ⟨_,by simp [binOp,Op.stringOp,yQ],qb _⟩
theorem uA{T:TypeId}{n:Nat}(h:ry P T=some n):(n=0∧P.underlying T=some .bool)∨(n=1∧∃ k,P.underlying T=some (.int k))∨(n=2∧P.underlying T=some .string):=by
 unfold ry at h
 cases hu:P.underlying T with
 |none=>simp [hu] at h
 |some d=>cases d<;>simp [hu] at h<;>subst h<;>simp
theorem vo{T:TypeId}{n:Nat}(hT:ry P T=some n){cs:Array Value}{k:Nat}{u:Value}(hk:cs[k]? = some u):(part T cs k).run P w=.ok u w:=by
 have hagg:(isAgg T).run P w=.ok false w:=by
  unfold isAgg
  rcases uA hT with ⟨_,hd⟩|⟨_,k,hd⟩|⟨_,hd⟩<;>simp [run_underlying hd]
 simp [part,hagg,hk]
theorem vp{T:TypeId}(d:Nat){x y:CV}{u v:Value}{H:Nat→Option Obj}(hT:ry P T=some (xi x))(hx:br H x u)(hy:br H y v){b:Bool}
  (h:eqC x y=some b):(Op.equalIn (d+1) T u v).run P w=.ok b w:=by
 have hu:=uA hT
 unfold eqC at h
 split at h
 ·cases hx;cases hy
  simp only [sJ] at h
  subst h
  simp [xi] at hu
  exact run_equalIn_bool' (P:=P) w d T _ _ hu
 ·split at h
  ·cases hx;cases hy
   rename_i hkk
   simp only [sJ] at h
   subst h
   subst hkk
   simp [xi] at hu
   obtain ⟨k',hk'⟩:=hu
   exact run_equalIn_int (P:=P) w d T _ k' _ _ hk'
  ·cases h
 ·cases hx;cases hy
  simp only [sJ] at h
  subst h
  simp [xi] at hu
  rw [run_equalIn_string (P:=P) w d T _ _ hu]
  simp [yQ]
 ·cases h
theorem Dn{x y:CV}{b:Bool}(h:eqC x y=some b):x.flat=true∧y.flat=true:=by
 unfold eqC at h
 split at h<;>first|(simp [CV.flat];done)|cases h
theorem vq(d:Nat):∀ (fs:List Field) (k:Nat) (xs ys:List CV) (b:Bool) (us vs:List Value) (cu cv:Array Value),
  pu P k fs=some (xs.map xi)→yx xs ys=some b→aW (Rep G) xs us→aW (Rep G) ys vs →
  (∀ j u,us[j]? = some u→cu[k+j]? = some u)→(∀ j u,vs[j]? = some u→cv[k+j]? = some u) →
  (Op.eqFields (d+1) cu cv fs).run P w=.ok b w
 |[],k,xs,ys,b,us,vs,cu,cv,hp,he,hx,hy,_,_=>by
  simp only [pu,sJ] at hp
  have hx0:xs=[]:=by cases xs<;>simp_all
  subst hx0
  cases ys with
  |nil=>simp only [yx,sJ] at he;subst he;simp [Op.eqFields]
  |cons=>simp [yx] at he
 |f :: fs,k,xs,ys,b,us,vs,cu,cv,hp,he,hx,hy,hu,hv=>by
  unfold pu at hp
  split at hp
  ·rename_i hf
   split at hp
   ·rename_i n l hn hl
    simp only [sJ] at hp
    match xs,ys,us,vs,hx,hy,he with
    |x :: xs,y :: ys,u :: us,v :: vs,⟨hx1,hx2⟩,⟨hy1,hy2⟩,he =>
     simp only [List.map_cons,List.cons.injEq] at hp
     obtain ⟨rfl,rfl⟩:=hp
     unfold yx at he
     split at he
     ·rename_i p q hp hq
      simp only [sJ] at he
      subst he
      obtain ⟨fx,fy⟩:=Dn hp
      have h0:=hu 0 u (by simp)
      have h1:=hv 0 v (by simp)
      simp only [Nat.add_zero] at h0 h1
      have e1:=vo (P:=P) (w:=w) hn h0
      have e2:=vo (P:=P) (w:=w) hn h1
      have e3:=vp (P:=P) (w:=w) d hn (Rep.flat fx hx1) (Rep.flat fy hy1) hp
      have ih:=vq d fs (k+1) xs ys q us vs cu cv hl hq hx2 hy2
       (fun j u hj=>by have:=hu (j+1) u (by simpa using hj);rwa [show k+(j+1)=k+1+j by omega] at this)
       (fun j u hj=>by have:=hv (j+1) u (by simpa using hj);rwa [show k+(j+1)=k+1+j by omega] at this)
      simp only [Op.eqFields]
      rw [iP hf.1,hf.2]
      simp only [Sem.run_bind,e1,e2,e3,Result.andThen_ok]
      cases p
      ·simp
      ·simp [ih]
     ·cases he
    |[],_,_,_,_,_,_=>simp at hp
    |_ :: _,[],_,_,_,_,he=>simp [yx] at he
   ·cases hp
  ·cases hp
theorem rz(d:Nat){T e:TypeId}(h:P.underlying T=some (.pointer e)):(Op.equalIn (d+1) T (.pointer none) (.pointer none)).run P w=.ok true w:=by
 simp [Op.equalIn,run_underlying h]
theorem rA(d:Nat){T e:TypeId}(h:P.underlying T=some (.slice e)):(Op.equalIn (d+1) T (.slice none 0 0) (.slice none 0 0)).run P w=.ok true w:=by
 simp [Op.equalIn,run_underlying h]
theorem rB(d:Nat){T e:TypeId}(h:P.underlying T=some (.slice e))(a:Addr)(n c:Nat):(Op.equalIn (d+1) T (.slice (some a) n c) (.slice none 0 0)).run P w=.ok false w:=by
 simp [Op.equalIn,run_underlying h]
theorem BZ{T:TypeId}(hC:lJ P T=true)(a:Addr)(n c:Nat) :
  (∀ op x y,(eqGuard op T x y (.slice (some a) n c) (.slice none 0 0)).run P w=.ok () w)∧(binOp .eql T (.slice (some a) n c) (.slice none 0 0)).run P w=.ok (.bool false) w∧(binOp .neq T (.slice (some a) n c) (.slice none 0 0)).run P w=.ok (.bool (!false)) w:=by
 have hu:∃ e,P.underlying T=some (.slice e):=by
  unfold lJ at hC
  cases hu:P.underlying T with
  |none=>simp [hu] at hC
  |some d=>cases d<;>simp [hu] at hC;simp
 obtain ⟨e,hu⟩:=hu
 refine ⟨fun op x y=>by rw [eqGuard_at_slice];rfl,?_,?_⟩
 ·simp only [binOp];simp [Op.equal,Op.maxDepth,rB (P:=P) (w:=w) 9999 hu]
 ·simp only [binOp];simp [Op.equal,Op.maxDepth,rB (P:=P) (w:=w) 9999 hu]
theorem Do{T:TypeId}{p q:PV}{b:Bool}{u v:Value}(h:eqV P T p q=some (C,b))(hC:C)(hp:bg G p u)(hq:bg G q v) :
  (∀ op x y,(eqGuard op T x y u v).run P w=.ok () w)∧(binOp .eql T u v).run P w=.ok (.bool b) w∧(binOp .neq T u v).run P w=.ok (.bool (!b)) w:=by
 unfold eqV at h
 split at h
 ·simp only [sJ,Prod.mk.injEq] at h
  obtain ⟨rfl,rfl⟩:=h
  have:=py hp;subst this
  have:=py hq;subst this
  have hu:P.underlying T=some .bool:=by unfold xg at hC;split at hC<;>simp_all
  have:=run_equalIn_bool' (P:=P) w 9999 T
  refine ⟨fun op x y=>by rw [eqGuard_at_bool];rfl,?_,?_⟩
  ·simp only [binOp];simp [Op.equal,Op.maxDepth,this,hu]
  ·simp only [binOp];simp [Op.equal,Op.maxDepth,this,hu]
 ·simp only [sJ,Prod.mk.injEq] at h
  obtain ⟨rfl,rfl⟩:=h
  have hp':br G.H .nilp u:=hp
  have hq':br G.H .nilp v:=hq
  cases hp';cases hq'
  have hu:∃ e,P.underlying T=some (.pointer e):=by
   unfold BY at hC
   cases hu:P.underlying T with
   |none=>simp [hu] at hC
   |some d=>cases d<;>simp [hu] at hC;simp
  obtain ⟨e,hu⟩:=hu
  refine ⟨fun op x y=>by rw [eqGuard_at_pointer];rfl,?_,?_⟩
  ·simp only [binOp];simp [Op.equal,Op.maxDepth,rz (P:=P) (w:=w) 9999 hu]
  ·simp only [binOp];simp [Op.equal,Op.maxDepth,rz (P:=P) (w:=w) 9999 hu]
 ·simp only [sJ,Prod.mk.injEq] at h
  obtain ⟨rfl,rfl⟩:=h
  exact hC.elim
 ·simp only [sJ,Prod.mk.injEq] at h
  obtain ⟨rfl,rfl⟩:=h
  have hp':br G.H .nils u:=hp
  have hq':br G.H .nils v:=hq
  cases hp';cases hq'
  have hu:∃ e,P.underlying T=some (.slice e):=by
   unfold lJ at hC
   cases hu:P.underlying T with
   |none=>simp [hu] at hC
   |some d=>cases d<;>simp [hu] at hC;simp
  obtain ⟨e,hu⟩:=hu
  refine ⟨fun op x y=>by rw [eqGuard_at_slice];rfl,?_,?_⟩
  ·simp only [binOp];simp [Op.equal,Op.maxDepth,rA (P:=P) (w:=w) 9999 hu]
  ·simp only [binOp];simp [Op.equal,Op.maxDepth,rA (P:=P) (w:=w) 9999 hu]
 ·simp only [sJ,Prod.mk.injEq] at h
  obtain ⟨rfl,rfl⟩:=h
  have hp':br G.H .emn u:=hp
  have hq':br G.H .nils v:=hq
  cases hp';cases hq'
  exact BZ hC _ _ _
 ·simp only [sJ,Prod.mk.injEq] at h
  obtain ⟨rfl,rfl⟩:=h
  have hp':br G.H (.tree _ _) u:=hp
  have hq':br G.H .nils v:=hq
  cases hq'
  cases hp' with
  |tree0=>exact absurd rfl hC.2
  |tree=>exact BZ hC.1 _ _ _
 ·rename_i xs ys
  split at h
  ·rename_i b' hb
   simp only [sJ,Prod.mk.injEq] at h
   obtain ⟨rfl,rfl⟩:=h
   obtain ⟨us,rfl,hus⟩:=hp
   obtain ⟨vs,rfl,hvs⟩:=hq
   unfold Aq at hC
   cases hu:P.underlying T with
   |none=>simp [hu] at hC
   |some d =>
    cases d<;>simp only [hu,reduceCtorEq] at hC
    rename_i fs
    split at hC
    ·rename_i hst
     have hf:P.fieldsOf T=fs:=by simp [Program.fieldsOf,hu]
     have heq:=vq (P:=P) (G:=G) (w:=w) 9998 fs.toList 0 xs ys b' us vs us.toArray vs.toArray hC hb hus hvs (by simp) (by simp)
     have hag:=run_equalIn_agg (P:=P) w 9999 T us.toArray vs.toArray (by rw [hf];exact hu) hst.1
     rw [hf,heq] at hag
     refine ⟨fun op x y=>run_eqGuard_agg (P:=P) w op T x y _ _ hst.2,?_,?_⟩
     ·rw [run_eql_struct,hag];rfl
     ·rw [run_neq_struct,hag];rfl
    ·cases hC
  ·cases h
 ·cases h
end
section
variable {P:Program} {γ:Bool} {G:Gh} {σ:List OB} {w:World} {C:Prop} {v:PV}
theorem EB{op:BinOp}{T:TypeId}{x y:Ent}{X Y:Operand}{u u':Value}(h:n8 P γ op T x y=.ok C v)(hC:C)(hγ:γ=true)
  (hx:x.cond=true→bg G x.v u) (hy:y.cond=true→bg G y.v u') :
  ∃ r,(eqGuard op T X Y u u').run P w=.ok () w∧(binOp op T u u').run P w=.ok r w∧bg G v r:=by
 obtain ⟨xc,p⟩:=x
 obtain ⟨yc,q⟩:=y
 unfold n8 at h
 simp only at h hx hy
 split at h
 ·rename_i k a k' b
  split at h
  ·rename_i C' v' hs
   simp only [R.ok.injEq] at h
   obtain ⟨rfl,rfl⟩:=h
   have e1:=ez (hx (hC.1 hγ));subst e1
   have e2:=ez (hy (hC.2.1 hγ));subst e2
   obtain ⟨r,h1,h2⟩:=Fz (P:=P) (G:=G) (w:=w) (T:=T) (k':=k') hs (hC.2.2 hγ)
   exact ⟨r,by rw [eqGuard_at_int];rfl,h1,h2⟩
  ·split at h
   ·rename_i hk
    subst hk
    split at h
    ·rename_i C' v' hs
     simp only [R.ok.injEq] at h
     obtain ⟨rfl,rfl⟩:=h
     have e1:=ez (hx (hC.1 hγ));subst e1
     have e2:=ez (hy (hC.2.1 hγ));subst e2
     obtain ⟨r,h1,h2⟩:=Ez (P:=P) (G:=G) (w:=w) (T:=T) hs (hC.2.2 hγ)
     exact ⟨r,by rw [eqGuard_at_int];rfl,h1,h2⟩
    ·cases h
   ·cases h
 ·split at h
  ·rename_i C' v' hs
   simp only [R.ok.injEq] at h
   obtain ⟨rfl,rfl⟩:=h
   have e1:=qa (hx (hC.1 hγ));subst e1
   have e2:=qa (hy (hC.2.1 hγ));subst e2
   obtain ⟨r,h1,h2⟩:=EA (P:=P) (G:=G) (w:=w) (T:=T) hs (hC.2.2 hγ)
   exact ⟨r,by rw [eqGuard_at_string];rfl,h1,h2⟩
  ·cases h
 ·split at h
  ·rename_i C' b hs
   simp only [R.ok.injEq] at h
   obtain ⟨rfl,rfl⟩:=h
   obtain ⟨h0,h1,h2⟩:=Do (P:=P) (G:=G) (w:=w) hs hC.2.2 (hx (hC.1 hγ)) (hy (hC.2.1 hγ))
   exact ⟨_,h0 _ _ _,h1,qb _⟩
  ·rename_i C' b hs
   simp only [R.ok.injEq] at h
   obtain ⟨rfl,rfl⟩:=h
   obtain ⟨h0,h1,h2⟩:=Do (P:=P) (G:=G) (w:=w) hs hC.2.2 (hx (hC.1 hγ)) (hy (hC.2.1 hγ))
   exact ⟨_,h0 _ _ _,h2,qb _⟩
  ·cases h
theorem FA{op:UnOp}{x:Ent}{u:Value}(h:unR γ op x=.ok C v)(hC:C)(hγ:γ=true)(hx:x.cond=true→bg G x.v u) :
  ∃ r,(Op.unary op u).run P w=.ok r w∧bg G v r:=by
 obtain ⟨xc,p⟩:=x
 unfold unR at h
 simp only at h hx
 split at h
 ·simp only [R.ok.injEq] at h;obtain ⟨rfl,rfl⟩:=h
  have e1:=py (hx (hC hγ));subst e1
  exact ⟨_,rfl,qb _⟩
 ·simp only [R.ok.injEq] at h;obtain ⟨rfl,rfl⟩:=h
  have e1:=ez (hx (hC hγ));subst e1
  exact ⟨_,rfl,iY _ _⟩
 ·simp only [R.ok.injEq] at h;obtain ⟨rfl,rfl⟩:=h
  have e1:=ez (hx (hC hγ));subst e1
  exact ⟨_,by simp only [Op.unary,intBits_xor];rfl,iY _ _⟩
 ·cases h
theorem yR{T:TypeId}(h:xh P T=true):P.underlying T=some (.int (P.intKind T)):=by
 unfold xh at h;unfold Program.intKind
 cases hu:P.underlying T with
 |none=>simp [hu] at h
 |some d=>cases d<;>simp [hu] at h;simp
theorem qf{T:TypeId}(h:pV P T=true):P.underlying T=some .string:=by
 unfold pV at h;split at h<;>simp_all
theorem iU{T:TypeId}(h:lJ P T=true):P.underlying T=some (.slice (P.elem T)):=by
 unfold lJ at h;unfold Program.elem
 cases hu:P.underlying T with
 |none=>simp [hu] at h
 |some d=>cases d<;>simp [hu] at h;simp
theorem qg{T:TypeId}(h:pt P T=true):P.underlying T=some (.array (P.arrayLen T) (P.elem T)):=by
 unfold pt at h;unfold Program.elem Program.arrayLen
 cases hu:P.underlying T with
 |none=>simp [hu] at h
 |some d=>cases d<;>simp [hu] at h;simp
theorem Dp{src dst:TypeId}{x:Ent}{u:Value}(h:uz P γ src dst x=.ok C v)(hC:C)(hγ:γ=true)(hx:x.cond=true→bg G x.v u) :
  ∃ r,(convert src dst u).run P w=.ok r w∧bg G v r:=by
 obtain ⟨xc,p⟩:=x
 unfold uz at h
 simp only at h hx
 split at h
 ·simp only [R.ok.injEq] at h;obtain ⟨rfl,rfl⟩:=h
  have e1:=ez (hx (hC.1 hγ));subst e1
  exact ⟨_,run_convert_int w src dst _ _ hC.2.1 (yR hC.2.2),iY _ _⟩
 ·simp only [R.ok.injEq] at h;obtain ⟨rfl,rfl⟩:=h
  have e1:=qa (hx (hC.1 hγ));subst e1
  obtain ⟨d,hd⟩:=Option.isSome_iff_exists.mp hC.2.1
  refine ⟨_,?_,zp _⟩
  simp [convert,run_underlying hd,run_underlying (qf hC.2.2)]
 ·cases h
theorem vY{T:TypeId}{i:Nat}(h:qQ P T i=true):∃ fs f,P.underlying T=some (.struct fs)∧fs[i]? = some f∧f.offset=nn P T i∧f.type=tl P T i∧0<P.cellsOf f.type:=by
 unfold qQ at h
 cases hu:P.underlying T with
 |none=>simp [hu] at h
 |some d =>
  cases d<;>simp [hu] at h
  rename_i fs
  cases hf:fs[i]? with
  |none=>simp [hf] at h
  |some f=>simp [hf] at h;exact ⟨fs,f,rfl,hf,by simp [nn,hu,hf],by simp [tl,hu,hf],h⟩
theorem tn{T:TypeId}{i:Nat}(h:qQ P T i=true)(g o:Nat) :
  (Instr.fieldAt T (.pointer (some ⟨g,o,none⟩)) i).run P w=.ok (.pointer (some ⟨g,o+nn P T i,none⟩)) w:=by
 obtain ⟨fs,f,hu,hf,ho,ht,hpos⟩:=vY h
 have hsz:(Go.sizeOf f.type).run P w=.ok (P.cellsOf f.type) w:=by
  unfold Program.cellsOf at hpos ⊢
  cases hi:P.info? f.type with
  |none=>simp [hi] at hpos
  |some info=>simp [Go.sizeOf,typeInfo,hi]
 have hne:P.cellsOf f.type≠0:=by omega
 simp [Instr.fieldAt,run_underlying hu,hf,Instr.sureAddr,fieldPlace,hsz,hne,no,ho]
theorem so{b off:Nat}{val:Value}(hi:Inv G σ w)(ha:iT σ (.optr b off))(h:gm G (.optr b off) val) :
  ∃ o cs,σ[b]? = some (.box cs)∧G.own[b]? = some (some o)∧o.has=true∧(o.ver=0∧o.sz=0)∧val=.pointer (some ⟨o.blk,off,none⟩):=by
 simp only [iT] at ha
 split at ha
 ·rename_i cs hb
  obtain ⟨o,c,T,h1,h2,h3,h4,h5⟩:=hi.own b _ hb
  obtain ⟨_,oo,k1,k2⟩:=h
  rw [h1] at k1
  simp only [sJ] at k1
  exact ⟨o,cs,hb,h1,h2,h3,(k2 o k1.symm h3.1).trans (iP h3.2)⟩
 ·exact ha.elim
theorem ud{b ver i j:Nat}{val:Value}(hi:Inv G σ w)(ha:iT σ (.oel b ver i j))(h:gm G (.oel b ver i j) val) :
  ∃ o s T es,σ[b]? = some (.arr s ver T es)∧G.own[b]? = some (some o)∧o.ver=ver∧o.sz=s∧val=.pointer (some ⟨o.blk,o.off+i * s+j,none⟩):=by
 simp only [iT] at ha
 split at ha
 ·rename_i s ver' T es hb
  subst ha
  obtain ⟨o,h1,h2,h3,_⟩:=hi.own b _ hb
  obtain ⟨_,oo,k1,k2⟩:=h
  rw [h1] at k1
  simp only [sJ] at k1
  exact ⟨o,s,T,es,hb,h1,h2,h3,by rw [← h3];exact (k2 o k1.symm).2 h2.symm⟩
 ·exact ha.elim
theorem qh{b ver lo len:Nat}{val:Value}(hi:Inv G σ w)(ha:iT σ (.osl b ver lo len))(h:gm G (.osl b ver lo len) val) :
  ∃ o s T es,σ[b]? = some (.arr s ver T es)∧G.own[b]? = some (some o)∧o.ver=ver∧o.sz=s∧SlV o lo len val∧qn G w b (.arr s ver T es):=by
 simp only [iT] at ha
 split at ha
 ·rename_i s ver' T es hb
  subst ha
  have hok:=hi.own b _ hb
  obtain ⟨o,h1,h2,h3,_⟩:=hok
  obtain ⟨_,oo,k1,k2⟩:=h
  rw [h1] at k1
  simp only [sJ] at k1
  exact ⟨o,s,T,es,hb,h1,h2,h3,(k2 o k1.symm).2 h2.symm,hi.own b _ hb⟩
 ·exact ha.elim
theorem yz{T:TypeId}{x:Ent}{i:Nat}{u:Value}(hi:Inv G σ w)(h:gT P γ σ T x i=.ok C v)(hC:C)(hγ:γ=true)(hx:x.cond=true→bg G x.v u) :
  ∃ r,(Instr.fieldAt T u i).run P w=.ok r w∧bg G v r:=by
 obtain ⟨xc,p⟩:=x
 unfold gT at h
 simp only at h hx
 split at h
 ·simp only [R.ok.injEq] at h;obtain ⟨rfl,rfl⟩:=h
  obtain ⟨o,cs,_,ho,_,hver,rfl⟩:=so hi hC.2.1 (hx (hC.1 hγ))
  exact ⟨_,tn hC.2.2 _ _,⟨rfl,_,ho,fun o' e _=>by simp only [sJ] at e;subst e;exact (iP hver.2).symm⟩⟩
 ·rename_i s es k j
  simp only [R.ok.injEq] at h;obtain ⟨rfl,rfl⟩:=h
  have hr:br G.H (.tptr s es k j) u:=hx (hC.1 hγ)
  cases hr with
  |tptr _ _ _ _ blk off cap n ht hi' =>
   refine ⟨_,tn hC.2 _ _,?_⟩
   rw [Nat.add_assoc]
   exact br.rep (G:=G) (.tptr s es k _ blk off cap n ht hi')
 ·simp only [R.ok.injEq] at h;obtain ⟨rfl,rfl⟩:=h
  obtain ⟨o,s,T',es,_,ho,hver,hsz,rfl⟩:=ud hi hC.2.1 (hx (hC.1 hγ))
  refine ⟨_,tn hC.2.2 _ _,⟨rfl,_,ho,fun o' e=>?_⟩⟩
  simp only [sJ] at e;subst e
  exact ⟨by omega,fun _=>by rw [hsz,Nat.add_assoc]⟩
 ·cases h
theorem Au{T:TypeId}{ys:List CV}{vs:List Value}{off:Nat}(hk:cx P T=true)(hl:off+P.cellsOf T≤ys.length)(h1:n7 P T=true∨P.cellsOf T=1)(h:aW (Rep G) ys vs) :
  ∃ r,(part T vs.toArray off).run P w=.ok r w∧bg G (mkV P T ((ys.drop off).take (P.cellsOf T))) r:=by
 have hlen:=h.length
 refine ⟨_,?_,wX ((h.drop off).take (P.cellsOf T)) (by simp;omega) h1⟩
 simp only [part,Sem.run_bind,yP hk,Result.andThen_ok]
 cases ha:n7 P T with
 |true =>
  simp [eh hk,List.extract]
 |false =>
  rcases h1 with h1|h1
  ·simp [ha] at h1
  ·have hlt:off<vs.length:=by omega
   simp [h1,List.getElem?_eq_getElem hlt]
   rw [List.drop_eq_getElem_cons hlt,List.take_succ_cons,List.head?_cons,Option.getD_some]
theorem CA{T:TypeId}{x:Ent}{i:Nat}{u:Value}(h:sj P γ T x i=.ok C v)(hC:C)(hγ:γ=true)(hx:x.cond=true→bg G x.v u) :
  ∃ r,(Instr.field T u i).run P w=.ok r w∧bg G v r:=by
 obtain ⟨xc,p⟩:=x
 unfold sj at h
 simp only at h hx
 split at h
 ·simp only [R.ok.injEq] at h;obtain ⟨rfl,rfl⟩:=h
  obtain ⟨hn,hf,hk,hl,h1⟩:=hC
  obtain ⟨vs,rfl,hvs⟩:=hx (hn hγ)
  obtain ⟨fs,f,hu,hff,ho,ht,_⟩:=vY hf
  obtain ⟨r,e1,e2⟩:=Au (P:=P) (w:=w) hk hl h1 hvs
  refine ⟨r,?_,e2⟩
  simp only [Instr.field,Sem.run_bind,run_underlying hu,Result.andThen_ok,hff,asAgg,Sem.run_pure,ho,ht]
  exact e1
 ·cases h
theorem yA{T:TypeId}{x i:Ent}{u u':Value}(hi:Inv G σ w)(h:fT P γ σ T x i=.ok C v)(hC:C)(hγ:γ=true)(hx:x.cond=true→bg G x.v u)(hy:i.cond=true→bg G i.v u') :
  ∃ r,(Instr.indexAt T u u').run P w=.ok r w∧bg G v r:=by
 obtain ⟨xc,p⟩:=x
 obtain ⟨ic,q⟩:=i
 unfold fT at h
 simp only at h hx hy
 split at h
 ·rename_i s es k n
  simp only [R.ok.injEq] at h;obtain ⟨rfl,rfl⟩:=h
  obtain ⟨h1,h2,h3,h4,h5,h6⟩:=hC
  obtain ⟨h6,h7⟩:=h6 hγ
  have e2:=ez (hy (h2 hγ));subst e2
  have hr:br G.H (.tree s es) u:=hx (h1 hγ)
  cases hr with
  |tree0=>simp at h7;omega
  |tree _ _ blk off cap c T' fz g hb hc hl hg hrr =>
   have hlt:n.toNat<es.length:=by omega
   refine ⟨.pointer (some ⟨blk,off+n.toNat * s,none⟩),?_,?_⟩
   ·rw [run_indexAt_slice w T _ _ _ _ _ (iU h3),iP ⟨h6,h7⟩,eh h4]
    simp [h5,no]
   ·exact br.rep (.tptr s es n.toNat 0 blk off cap _ (.tree s es blk off cap c T' fz g hb hc hl hg hrr) hlt)
 ·rename_i b ver lo len k n
  split at h
  ·rename_i s ver' T' es hb
   simp only [R.ok.injEq] at h;obtain ⟨rfl,rfl⟩:=h
   obtain ⟨h1,h2,hv,h3,h4,h5,h6⟩:=hC
   obtain ⟨h6,h7⟩:=h6 hγ
   have e2:=ez (hy (h2 hγ));subst e2
   obtain ⟨o,s',T'',es',hb',ho,hov,hsz,hsl,hok⟩:=qh hi (by simp [iT,hb];exact hv) (hx (h1 hγ))
   rw [hb] at hb'
   simp only [sJ,OB.arr.injEq] at hb'
   obtain ⟨rfl,rfl,rfl,rfl⟩:=hb'
   obtain ⟨hcap,a,rfl,hha⟩:=hsl
   obtain ⟨o',k1,k2,k3,k4,k5,k6,k7,k8,k9⟩:=hok
   rw [ho] at k1
   simp only [sJ] at k1
   subst k1
   have hhas:o.has=true:=by
    cases hh:o.has with
    |true=>rfl
    |false=>have:=k8 hh;omega
   obtain ⟨a',rfl,ha'⟩:=hha hhas
   have:=ha' (by omega)
   subst this
   refine ⟨.pointer (some ⟨o.blk,o.off+lo * s+n.toNat * s,none⟩),?_,?_⟩
   ·rw [run_indexAt_slice w T _ _ _ _ _ (iU h3),iP ⟨h6,h7⟩,eh h4]
    simp [h5,no,hsz]
   ·refine ⟨rfl,_,ho,fun o' e=>?_⟩
    simp only [sJ] at e;subst e
    exact ⟨by omega,fun _=>by simp only [hsz,Nat.add_mul,Nat.add_zero,Nat.add_assoc]⟩
  ·cases h
 ·rename_i b off k n
  simp only [R.ok.injEq] at h;obtain ⟨rfl,rfl⟩:=h
  obtain ⟨h1,h2,ha,h3,h4,h6⟩:=hC
  obtain ⟨h6,h7⟩:=h6 hγ
  have e2:=ez (hy (h2 hγ));subst e2
  obtain ⟨o,cs,_,ho,_,hver,rfl⟩:=so hi ha (hx (h1 hγ))
  refine ⟨.pointer (some ⟨o.blk,off+n.toNat * P.cellsOf (P.elem T),none⟩),?_,?_⟩
  ·rw [run_indexAt_array w T _ _ _ (qg h3),iP ⟨h6,h7⟩,eh h4]
   simp [no]
  ·exact ⟨rfl,_,ho,fun o' e _=>by simp only [sJ] at e;subst e;exact (iP hver.2).symm⟩
 ·rename_i b ver k j k0 n
  split at h
  ·rename_i s ver' T' es hb
   simp only [R.ok.injEq] at h;obtain ⟨rfl,rfl⟩:=h
   obtain ⟨h1,h2,hv,h3,h4,h5,hj,h6⟩:=hC
   subst hj
   obtain ⟨h6,h7⟩:=h6 hγ
   have e2:=ez (hy (h2 hγ));subst e2
   obtain ⟨o,s',T'',es',hb',ho,hver,hsz,rfl⟩:=ud hi (by simp [iT,hb];exact hv) (hx (h1 hγ))
   rw [hb] at hb'
   simp only [sJ,OB.arr.injEq] at hb'
   obtain ⟨rfl,rfl,rfl,rfl⟩:=hb'
   refine ⟨.pointer (some ⟨o.blk,o.off+k * s+n.toNat * s,none⟩),?_,?_⟩
   ·rw [run_indexAt_array w T _ _ _ (qg h3),iP ⟨h6,h7⟩,eh h4]
    simp [h5,no]
   ·refine ⟨rfl,_,ho,fun o' e=>?_⟩
    simp only [sJ] at e;subst e
    exact ⟨by omega,fun _=>by simp only [hsz,Nat.add_mul,Nat.add_zero,Nat.add_assoc]⟩
  ·cases h
 ·rename_i s es k j k0 n
  simp only [R.ok.injEq] at h;obtain ⟨rfl,rfl⟩:=h
  obtain ⟨h1,h2,h3,h4,h5,hk,hj,hl,h6⟩:=hC
  subst hk hj
  obtain ⟨h6,h7⟩:=h6 hγ
  have e2:=ez (hy (h2 hγ));subst e2
  have hr:br G.H (.tptr s es 0 0) u:=hx (h1 hγ)
  cases hr with
  |tptr _ _ _ _ blk off cap len ht h0 =>
   refine ⟨.pointer (some ⟨blk,off+n.toNat * s,none⟩),?_,br.rep (G:=G) (.tptr s es n.toNat 0 blk off cap len ht (by omega))⟩
   rw [run_indexAt_array w T _ _ _ (qg h3),iP ⟨h6,by rw [hl];exact h7⟩,eh h4]
   simp [h5,no]
 ·cases h
theorem vZ{T:TypeId}{x i:Ent}{u u':Value}(h:oe P γ T x i=.ok C v)(hC:C)(hγ:γ=true)(hx:x.cond=true→bg G x.v u)(hy:i.cond=true→bg G i.v u') :
  ∃ r,(Instr.index T u u').run P w=.ok r w∧bg G v r:=by
 obtain ⟨xc,p⟩:=x
 obtain ⟨ic,q⟩:=i
 unfold oe at h
 simp only at h hx hy
 split at h
 ·rename_i s k n
  simp only [R.ok.injEq] at h;obtain ⟨rfl,rfl⟩:=h
  obtain ⟨h1,h2,h3,h6⟩:=hC
  obtain ⟨h6,h7⟩:=h6 hγ
  have e1:=qa (hx (h1 hγ));subst e1
  have e2:=ez (hy (h2 hγ));subst e2
  have hlt:n.toNat<s.length:=by omega
  have hg:(⟨s.toArray⟩:ByteArray)[n.toNat]? = some s[n.toNat]:=by
   rw [getElem?_pos _ _ (by simpa [uc] using hlt)]
   rfl
  refine ⟨.int .u8 (s.getD n.toNat 0).toNat,?_,iY _ _⟩
  simp [Instr.index,asIntOf,run_underlying (qf h3),h6,hg,List.getD,List.getElem?_eq_getElem hlt]
 ·rename_i ys k n
  simp only [R.ok.injEq] at h;obtain ⟨rfl,rfl⟩:=h
  obtain ⟨h1,h2,h3,h4,h5,h8,h9,h6⟩:=hC
  obtain ⟨h6,h7⟩:=h6 hγ
  obtain ⟨vs,rfl,hvs⟩:=hx (h1 hγ)
  have e2:=ez (hy (h2 hγ));subst e2
  rw [h9] at h5
  obtain ⟨r,e1,e2⟩:=Au (P:=P) (w:=w) (off:=n.toNat) h4 (by omega) (.inr h9) hvs
  refine ⟨r,?_,?_⟩
  ·simp only [Instr.index,asIntOf,Sem.run_bind,Sem.run_pure,Result.andThen_ok,run_underlying (qg h3)]
   rw [iP ⟨h6,h7⟩]
   simp only [Sem.run_bind,eh h4,Result.andThen_ok,h9,Nat.mul_one]
   exact e1
  ·have hlt:n.toNat<ys.length:=by omega
   unfold mkV at e2
   rw [h8,h9] at e2
   rw [List.drop_eq_getElem_cons hlt,List.take_succ_cons,List.headD_cons] at e2
   simpa [List.getD,List.getElem?_eq_getElem hlt] using e2
 ·cases h
theorem Av{x:Ent}{i:Nat}{u:Value}(h:oh γ x i=.ok C v)(hC:C)(hγ:γ=true)(hx:x.cond=true→bg G x.v u) :
  ∃ r,(Instr.extract u i).run P w=.ok r w∧bg G v r:=by
 obtain ⟨xc,p⟩:=x
 unfold oh at h
 simp only at h hx
 split at h
 ·rename_i ps
  simp only [R.ok.injEq] at h;obtain ⟨rfl,rfl⟩:=h
  obtain ⟨vs,rfl,hvs⟩:=hx (hC.1 hγ)
  obtain ⟨y,hy,hr⟩:=hvs.get i ps[i] (List.getElem?_eq_getElem hC.2)
  refine ⟨y,by simp [Instr.extract,hy],?_⟩
  have:ps.getD i .x=ps[i]:=by simp [List.getD,List.getElem?_eq_getElem hC.2]
  rw [this]
  cases hp:ps[i] with
  |x=>trivial
  |c z=>rw [hp] at hr;exact hr
  |a z=>rw [hp] at hr;exact hr
  |t z=>rw [hp] at hr;exact hr.elim
 ·cases h
theorem Dq{c a b:Ent}{u u1 u2:Value}(h:uy γ c a b=.ok C v)(hC:C)(hγ:γ=true)(hc:c.cond=true→bg G c.v u)(ha:a.cond=true→bg G a.v u1)(hb:b.cond=true→bg G b.v u2) :
  ∃ X,u=.bool X∧bg G v (if X then u1 else u2):=by
 obtain ⟨cc,pc⟩:=c
 obtain ⟨ac,pa⟩:=a
 obtain ⟨bc,pb⟩:=b
 unfold uy at h
 simp only at h hc ha hb
 split at h
 ·simp only [R.ok.injEq] at h;obtain ⟨rfl,rfl⟩:=h
  have e1:=py (hc (hC.1 hγ));subst e1
  exact ⟨true,rfl,ha (hC.2 hγ)⟩
 ·simp only [R.ok.injEq] at h;obtain ⟨rfl,rfl⟩:=h
  have e1:=py (hc (hC.1 hγ));subst e1
  exact ⟨false,rfl,hb (hC.2 hγ)⟩
 ·cases h
theorem EC{T ty:TypeId}{x:Ent}{u:Value}(hi:Inv G σ w)(h:ur P γ σ T x=.ok C v)(hC:C)(hγ:γ=true)(hx:x.cond=true→bg G x.v u) :
  ∃ r,(Builtin.len_ #[T] ty #[u]).run P w=.ok r w∧bg G v r:=by
 obtain ⟨xc,p⟩:=x
 unfold ur at h
 simp only at h hx
 split at h
 ·rename_i s es
  simp only [R.ok.injEq] at h;obtain ⟨rfl,rfl⟩:=h
  have hr:br G.H (.tree s es) u:=hx (hC.1 hγ)
  cases hr with
  |tree0=>exact ⟨_,run_len_slice w T ty _ _ _ (iU hC.2),iY _ _⟩
  |tree=>exact ⟨_,run_len_slice w T ty _ _ _ (iU hC.2),iY _ _⟩
 ·simp only [R.ok.injEq] at h;obtain ⟨rfl,rfl⟩:=h
  obtain ⟨o,s',T'',es',hb',ho,hov,hsz,⟨_,a,rfl,_⟩,hok⟩:=qh hi hC.2.1 (hx (hC.1 hγ))
  exact ⟨_,run_len_slice w T ty _ _ _ (iU hC.2.2),iY _ _⟩
 ·simp only [R.ok.injEq] at h;obtain ⟨rfl,rfl⟩:=h
  have hr:br G.H .nils u:=hx (hC.1 hγ)
  cases hr
  exact ⟨_,run_len_slice w T ty _ _ _ (iU hC.2),iY _ _⟩
 ·simp only [R.ok.injEq] at h;obtain ⟨rfl,rfl⟩:=h
  have hr:br G.H .emp u:=hx (hC.1 hγ)
  cases hr
  exact ⟨_,run_len_slice w T ty _ _ _ (iU hC.2),iY _ _⟩
 ·simp only [R.ok.injEq] at h;obtain ⟨rfl,rfl⟩:=h
  have hr:br G.H .emn u:=hx (hC.1 hγ)
  cases hr
  exact ⟨_,run_len_slice w T ty _ _ _ (iU hC.2),iY _ _⟩
 ·rename_i s
  simp only [R.ok.injEq] at h;obtain ⟨rfl,rfl⟩:=h
  have e1:=qa (hx (hC.1 hγ));subst e1
  exact ⟨.int .i64 s.length,by simp [Builtin.len_,run_underlying (qf hC.2),goInt,uc],iY _ _⟩
 ·cases h
theorem xp{mx:Bool}{x y:Ent}{u u':Value}(h:jY γ mx x y=.ok C v)(hC:C)(hγ:γ=true)(hx:x.cond=true→bg G x.v u)(hy:y.cond=true→bg G y.v u') :
  ∃ r,(∀ ts ty,(if mx then Builtin.max_ ts ty #[u,u'] else Builtin.min_ ts ty #[u,u']).run P w=.ok r w)∧bg G v r:=by
 obtain ⟨xc,p⟩:=x
 obtain ⟨yc,q⟩:=y
 unfold jY at h
 simp only at h hx hy
 split at h
 ·rename_i k a k' b
  simp only [R.ok.injEq] at h;obtain ⟨rfl,rfl⟩:=h
  have e1:=ez (hx (hC.1 hγ));subst e1
  have e2:=ez (hy (hC.2.1 hγ));subst e2
  refine ⟨_,fun ts ty=>?_,iY _ _⟩
  cases mx<;>simp [Builtin.max_,Builtin.min_,Builtin.max2,Builtin.min2]
 ·cases h
end
section
variable {P:Program} {γ:Bool} {G:Gh} {σ:List OB} {w:World} {C:Prop} {v:PV}
theorem mL(b:Bool)(len cap:Nat)(lo hi:Option Value)(l h:Int)(hl:(lo=none∧l=0)∨∃ k,lo=some (.int k l))(hh:(hi=none∧h=len)∨∃ k,hi=some (.int k h))
  (h0:0≤l) (h1:l≤h) (h2:h≤cap):(Instr.sliceBounds b len cap lo hi none).run P w=.ok (l.toNat,h.toNat,cap) w:=by
 have h0':0≤h:=by omega
 have e1:((h.toNat:Nat):Int)=h:=Int.toNat_of_nonneg h0'
 rcases hl with ⟨rfl,rfl⟩|⟨k,rfl⟩<;>rcases hh with ⟨rfl,rfl⟩|⟨k',rfl⟩
 ·simp [Instr.sliceBounds]
 ·simp [Instr.sliceBounds,run_sliceBound_if,h0',h2]
 ·simp [Instr.sliceBounds,run_sliceBound_if,h0,h1]
 ·simp [Instr.sliceBounds,run_sliceBound_if,h0',h2,h0,h1,e1]
theorem tp{d:Nat}{o:Option Ent}{e:Ent}{n:Int}{ov:Option Value}(h:bnd d o=some (e,n))(hγ:γ=true)(hn:aR γ e)
  (hr:(o=none∧ov=none)∨∃ x y,o=some x∧ov=some y∧(x.cond=true→bg G x.v y)):(ov=none∧n=d)∨∃ k,ov=some (.int k n):=by
 unfold bnd at h
 rcases hr with ⟨rfl,rfl⟩|⟨x,y,rfl,rfl,hxy⟩
 ·simp only [sJ,Prod.mk.injEq] at h
  exact .inl ⟨rfl,h.2.symm⟩
 ·simp only at h
  split at h
  ·rename_i k m hk
   simp only [sJ,Prod.mk.injEq] at h
   obtain ⟨rfl,rfl⟩:=h
   have:=hxy (hn hγ)
   rw [hk] at this
   exact .inr ⟨k,by rw [ez this]⟩
  ·cases h
theorem xq{s:Nat}{es:List (List CV)}{blk off cap l h:Nat}(hr:br G.H (.tree s es) (.slice (some ⟨blk,off,none⟩) es.length cap))(hlh:l≤h)(hh:h≤es.length)(hne:es≠[]) :
  br G.H (.tree s ((es.take h).drop l)) (.slice (if cap=l then some ⟨blk,off,none⟩ else some ⟨blk,off+l * s,none⟩) (h - l) (cap - l)):=by
 obtain ⟨c,T,fz,hb,hlen,_,hcap,hcells⟩:=uL hr hne
 by_cases e:l=h
 ·subst e
  have:(es.take l).drop l=[]:=by rw [List.drop_eq_nil_of_le];simp;omega
  rw [this,Nat.sub_self]
  exact .tree0 _ _ _ (fun h=>by split at h<;>cases h)
 ·have hcl:¬ cap=l:=by omega
  rw [iN hcl]
  have hget:∀ i,i<h - l→((es.take h).drop l)[i]? = es[l+i]? := by
   intro i hi
   rw [List.getElem?_drop,List.getElem?_take_of_lt (by omega)]
  have hlen':((es.take h).drop l).length=h - l:=by simp;omega
  have hin:∀ i e,((es.take h).drop l)[i]? = some e→i<h - l∧es[l+i]? = some e:=by
   intro i e he
   have:i<h - l:=by rw [← hlen'];exact (List.getElem?_eq_some_iff.1 he).1
   exact ⟨this,by rw [← hget i this];exact he⟩
  have key:=br.tree (H:=G.H) s ((es.take h).drop l) blk (off+l * s) (cap - l) c T fz (fun i j=>(c[off+l * s+i * s+j]?).getD undef) hb (by omega)
   (fun i e he=>hlen _ _ (hin i e he).2)
   (fun i j e x he hx => by
    obtain ⟨v,h1,_⟩:=hcells _ j e x (hin i e he).2 hx
    rw [show off+(l+i) * s+j=off+l * s+i * s+j by rw [Nat.add_mul];omega] at h1
    simp [h1])
   (fun i j e x he hx => by
    obtain ⟨v,h1,h2⟩:=hcells _ j e x (hin i e he).2 hx
    rw [show off+(l+i) * s+j=off+l * s+i * s+j by rw [Nat.add_mul];omega] at h1
    simpa [h1] using h2)
  rw [hlen'] at key
  exact key
theorem CB{T:TypeId}{x:Ent}{lo hi mx:Option Ent}{u:Value}{lov hiv mxv:Option Value}(hinv:Inv G σ w)(h:pO P γ σ T x lo hi mx=.ok C v)(hC:C)(hγ:γ=true)
  (hx:x.cond=true→bg G x.v u)
  (hlo:(lo=none∧lov=none)∨∃ x y,lo=some x∧lov=some y∧(x.cond=true→bg G x.v y))
  (hhi:(hi=none∧hiv=none)∨∃ x y,hi=some x∧hiv=some y∧(x.cond=true→bg G x.v y))
  (hmx:(mx=none∧mxv=none)∨∃ x y,mx=some x∧mxv=some y∧(x.cond=true→bg G x.v y)) :
  ∃ r,(Instr.sliceAt T u lov hiv mxv).run P w=.ok r w∧bg G v r:=by
 obtain ⟨xc,p⟩:=x
 unfold pO at h
 simp only at h hx
 split at h
 ·rename_i m
  split at h
  ·rename_i hh
   split at h
   ·rename_i _ _ _ n _ k hn hk
    have main:∀ (a:Option Addr) (n' c:Nat),u=.slice a n' c→aR γ hh∧aR γ m∧lJ P T=true∧cx P (P.elem T)=true∧n=0∧k=0 →
      ∃ r,(Instr.sliceAt T u lov hiv mxv).run P w=.ok r w∧bg G (.c .emp) r:=by
     rintro a n' c rfl ⟨c1,c2,hsl,hkn,rfl,rfl⟩
     rcases hlo with ⟨_,rfl⟩|⟨x,y,e,_⟩
     case inr=>cases e
     rcases hhi with ⟨e,_⟩|⟨x,y,e,rfl,hr1⟩
     ·cases e
     simp only [sJ] at e
     subst e
     rcases hmx with ⟨e,_⟩|⟨x,y',e,rfl,hr2⟩
     ·cases e
     simp only [sJ] at e
     subst e
     have h1:=hr1 (c1 hγ)
     have h2:=hr2 (c2 hγ)
     rw [hn] at h1
     rw [hk] at h2
     have e1:=ez h1;subst e1
     have e2:=ez h2;subst e2
     have hu':=iU hsl
     refine ⟨.slice a 0 0,?_,br.rep (G:=G) (.emp a)⟩
     rw [run_sliceAt_slice w T _ _ _ _ hu',run_slice_hm w T a n' c hu' _ _ 0 0 (by omega) (by omega) (by omega),eh hkn]
     simp [sliced]
    split at h
    ·simp only [R.ok.injEq] at h;obtain ⟨rfl,rfl⟩:=h
     obtain ⟨c0,c1⟩:=hC
     have hr:br G.H _ u:=hx (c0 hγ)
     cases hr with
     |tree0=>exact main _ _ _ rfl c1
     |tree=>exact main _ _ _ rfl c1
    ·simp only [R.ok.injEq] at h;obtain ⟨rfl,rfl⟩:=h
     obtain ⟨c0,c1⟩:=hC
     have hr:br G.H .nils u:=hx (c0 hγ)
     cases hr
     exact main _ _ _ rfl c1
    ·cases h
   ·cases h
  ·cases h
 ·have hmv:mxv=none:=by
   rcases hmx with ⟨_,e⟩|⟨x,y,e,_⟩
   ·exact e
   ·cases e
  subst hmv
  split at h
  ·rename_i s es
   split at h
   ·rename_i e1 l e2 hh hb1 hb2
    simp only [R.ok.injEq] at h;obtain ⟨rfl,rfl⟩:=h
    obtain ⟨c0,c1,c2,hsl,hkn,hsz,hbd⟩:=hC
    obtain ⟨g0,g1,g2⟩:=hbd hγ
    have k1:=tp hb1 hγ c1 hlo
    have k2:=tp hb2 hγ c2 hhi
    have hu':=iU hsl
    have hr:br G.H (.tree s es) u:=hx (c0 hγ)
    have htn:l.toNat≤hh.toNat:=by omega
    have hth:hh.toNat≤es.length:=by omega
    cases hr with
    |tree0 _ a cap hc0 =>
     simp at g2
     have:l=0:=by omega
     subst this
     have:hh=0:=by omega
     subst this
     refine ⟨.slice (if cap=0 then a else a.map (·.add (0 * s))) 0 cap,?_,?_⟩
     ·have hbds:=mL (P:=P) (w:=w) true 0 cap lov hiv 0 0 k1 k2 (by omega) (by omega) (by omega)
      rw [run_sliceAt_slice w T _ _ _ _ hu',run_slice_any w T a 0 cap hu',hbds]
      simp [eh hkn,hsz,sliced]
     ·have e:(([]:List (List CV)).take (0:Int).toNat).drop (0:Int).toNat=[]:=by simp
      rw [e];exact br.rep (G:=G) (.tree0 s _ _ (fun h=>by
       split at h
       ·rename_i e0;exact e0
       ·cases a with
        |none=>exact hc0 rfl
        |some a=>cases h))
    |tree _ _ blk off cap c T' fz g hb hc hl hg hrr =>
     have hr:br G.H (.tree s es) (.slice (some ⟨blk,off,none⟩) es.length cap):=.tree s es blk off cap c T' fz g hb hc hl hg hrr
     have hbds:=mL (P:=P) (w:=w) true es.length cap lov hiv l hh k1 k2 g0 g1 (by omega)
     by_cases hne:es=[]
     ·subst hne
      simp at hth
      have e1:l.toNat=0:=by omega
      have e2:hh.toNat=0:=by omega
      have e:(([]:List (List CV)).take hh.toNat).drop l.toNat=[]:=by simp
      refine ⟨.slice (some ⟨blk,off,none⟩) 0 cap,?_,?_⟩
      ·rw [run_sliceAt_slice w T _ _ _ _ hu',run_slice_any w T _ _ cap hu',hbds]
       simp [eh hkn,hsz,sliced,e1,e2,no]
      ·rw [e];exact br.rep (G:=G) (.tree0 s _ _ (fun h=>by cases h))
     ·refine ⟨_,?_,br.rep (G:=G) (xq hr htn hth hne)⟩
      rw [run_sliceAt_slice w T _ _ _ _ hu',run_slice_any w T _ _ cap hu',hbds]
      simp only [Result.andThen_ok,eh hkn,hsz,sliced,Option.map_some,no]
   ·cases h
  ·rename_i b ver lo0 len
   split at h
   ·split at h
    ·rename_i e2 hh hb2
     simp only [R.ok.injEq] at h;obtain ⟨rfl,rfl⟩:=h
     obtain ⟨c0,c2,hal,hsl,hkn,hbd⟩:=hC
     obtain ⟨g1,g2⟩:=hbd hγ
     have hlv:lov=none:=by
      rcases hlo with ⟨_,e⟩|⟨x,y,e,_⟩
      ·exact e
      ·cases e
     have k1:(lov=none∧(0:Int)=0)∨∃ k,lov=some (.int k 0):=.inl ⟨hlv,rfl⟩
     have k2:=tp hb2 hγ c2 hhi
     have hu':=iU hsl
     obtain ⟨o,s',T'',es',hb',ho,hov,hsz,⟨hcap,a,rfl,hha⟩,hok⟩:=qh hinv hal (hx (c0 hγ))
     have hbds:=mL (P:=P) (w:=w) true len (o.cap - lo0) lov hiv 0 hh k1 k2 (by omega) (by omega) (by omega)
     refine ⟨.slice a hh.toNat (o.cap - lo0),?_,⟨rfl,_,ho,fun o' e=>?_⟩⟩
     ·rw [run_sliceAt_slice w T _ _ _ _ hu',run_slice_any w T _ _ _ hu',hbds]
      simp only [Result.andThen_ok,eh hkn,sliced]
      cases a with
      |none=>simp
      |some a=>simp [Addr.add]
     ·simp only [sJ] at e;subst e
      exact ⟨by omega,fun _=>⟨by omega,a,rfl,hha⟩⟩
    ·cases h
   ·split at h
    ·rename_i q _ _ e1 l e2 hh hb1 hb2
     simp only [R.ok.injEq] at h;obtain ⟨rfl,rfl⟩:=h
     obtain ⟨c0,c1,c2,hal,hsl,hkn,hwid,hbd⟩:=hC
     obtain ⟨g0,g1,g2⟩:=hbd hγ
     have k1:=tp hb1 hγ c1 hlo
     have k2:=tp hb2 hγ c2 hhi
     have hu':=iU hsl
     obtain ⟨og,s',T'',es',hb',hown,hov,hosz,⟨hcap,ad,rfl,hha⟩,hok⟩:=qh hinv hal (hx (c0 hγ))
     have hsz:P.cellsOf (P.elem T)=s':=by unfold yO at hwid;rw [hb'] at hwid;exact hwid
     have hbds:=mL (P:=P) (w:=w) true len (og.cap - lo0) lov hiv l hh k1 k2 (by omega) (by omega) (by omega)
     refine ⟨sliced ad l.toNat hh.toNat (og.cap - lo0) s',?_,⟨rfl,_,hown,fun o' e=>?_⟩⟩
     ·rw [run_sliceAt_slice w T _ _ _ _ hu',run_slice_any w T _ _ _ hu',hbds]
      simp only [Result.andThen_ok,eh hkn,hsz]
     ·simp only [sJ] at e;subst e
      refine ⟨by omega,fun _=>⟨by omega,if og.cap - lo0=l.toNat then ad else ad.map (·.add (l.toNat * s')),?_,fun hh=>?_⟩⟩
      ·simp only [sliced];congr 1;omega
      ·obtain ⟨a',rfl,ha'⟩:=hha hh
       split
       ·exact ⟨a',rfl,fun hlt=>by omega⟩
       ·have:=ha' (by omega)
        subst this
        refine ⟨_,rfl,fun _=>?_⟩
        show (⟨og.blk,og.off+lo0 * og.sz,none⟩:Addr).add (l.toNat * s')=_
        rw [no,hosz,Nat.add_mul,Nat.add_assoc]
    ·cases h
  ·rename_i s
   split at h
   ·rename_i e1 l e2 hh hb1 hb2
    simp only [R.ok.injEq] at h;obtain ⟨rfl,rfl⟩:=h
    obtain ⟨c0,c1,c2,hst,hbd⟩:=hC
    obtain ⟨g0,g1,g2⟩:=hbd hγ
    have k1:=tp hb1 hγ c1 hlo
    have k2:=tp hb2 hγ c2 hhi
    have hu':=qf hst
    have e1:=qa (hx (c0 hγ));subst e1
    have hbds:=mL (P:=P) (w:=w) false s.length s.length lov hiv l hh k1 k2 g0 g1 g2
    refine ⟨_,?_,zp _⟩
    have hex:(⟨s.toArray⟩:ByteArray).extract l.toNat hh.toNat=⟨((s.take hh.toNat).drop l.toNat).toArray⟩:=by
     apply ByteArray.ext
     simp [List.extract,List.drop_take]
    rw [run_sliceAt_string w T _ _ _ _ hu']
    simp [Instr.slice,run_underlying hu',uc,hbds,hex]
   ·cases h
  ·rename_i s es k j
   split at h
   ·rename_i q
    split at h
    ·rename_i _ _ e1 l hb1
     simp only [R.ok.injEq] at h;obtain ⟨rfl,rfl⟩:=h
     obtain ⟨c0,c1,c2,c3,c4,hk,hj,hl,hbd⟩:=hC
     subst hk hj
     obtain ⟨g0,g1⟩:=hbd hγ
     have k1:=tp hb1 hγ c1 hlo
     have hiv0:hiv=none:=by
      rcases hhi with ⟨_,e⟩|⟨x,y,e,_⟩
      ·exact e
      ·cases e
     subst hiv0
     have k2:∃ k,lov=some (.int k l):=by
      rcases k1 with ⟨e,_⟩|k1
      ·rcases hlo with ⟨e',_⟩|⟨x,y,_,e',_⟩
       ·cases e'
       ·rw [e] at e';cases e'
      ·exact k1
     obtain ⟨kk,rfl⟩:=k2
     have hr:br G.H (.tptr s es 0 0) u:=hx (c0 hγ)
     cases hr with
     |tptr _ _ _ _ blk off cap len ht h0 =>
      cases ht with
      |tree0=>simp at h0
      |tree _ _ _ _ _ c T' fz g hb hc hle hg hrr =>
       have hne:es≠[]:=by intro h;rw [h] at h0;simp at h0
       have key:=xq (G:=G) (.tree s es blk off es.length c T' fz g hb (Nat.le_refl _) hle hg hrr) (l:=l.toNat) (h:=es.length) (by omega) (Nat.le_refl _) hne
       rw [List.take_length] at key
       refine ⟨_,?_,br.rep (G:=G) key⟩
       rw [run_sliceAt_array_l w T _ (qg c2) _ _ g0 (by rw [hl];exact g1),eh c3]
       simp only [slicedAt,hl,c4,Result.andThen_ok]
       congr 1
       congr 1
       split<;>simp [no]
    ·cases h
   ·cases h
  ·cases h
end
section
variable {P:Program} {γ:Bool} {G:Gh} {σ:List OB} {w:World} {C:Prop} {v:PV}
theorem Aw(off:Nat):∀ (l:List Value) (k:Nat) (cells:Array Value),off+k+l.length≤cells.size →
  ((l.zipIdx k).foldl (fun cs (p:Value×Nat)=>cs.setIfInBounds (off+p.2) p.1) cells)=(cells.toList.take (off+k)++l++cells.toList.drop (off+k+l.length)).toArray
 |[],k,cells,_=>by simp
 |v :: l,k,cells,h=>by
  simp only [List.zipIdx_cons,List.foldl_cons]
  rw [Aw off l (k+1) _ (by simp at h ⊢;omega)]
  have:=list_seg_step cells.toList (off+k) v l (by simp at h ⊢;omega)
  congr 1
  simp only [Array.toList_setIfInBounds,← Nat.add_assoc]
  rw [this]
  simp [Nat.add_assoc]
theorem oU{p:PV}{u:Value}(h:bg G p u)(hp:0<p.cells.length):aW (Rep G) p.cells u.cells.toList:=by
 cases p with
 |x=>simp [PV.cells] at hp
 |t=>simp [PV.cells] at hp
 |c y =>
  have h1:=Rep.one (G:=G) h
  have:u.cells=#[u]:=by cases u<;>first|rfl|(simp [Value.oneCell'] at h1)
  rw [this];exact ⟨h,trivial⟩
 |a ys=>obtain ⟨vs,rfl,hv⟩:=h;simpa [Value.cells,PV.cells] using hv
theorem B0{cs ys:List CV}{vs us:List Value}{off:Nat}(h:aW (Rep G) cs vs)(h':aW (Rep G) ys us):aW (Rep G) (ik cs off ys) (vs.take off++us++vs.drop (off+us.length)):=by
 unfold ik
 rw [h'.length]
 exact ((h.take off).append h').append (h.drop _)
theorem wY(dJ place':Nat→Option (Nat×Nat))(hpl:∀ i p,place' i=some p→dJ i=some p∧0<p.2):∀ (parts:List (Nat×PV)) (us:List (Nat×Value)) (cs cs':List CV) (cells:Array Value),
  aW (fun (p:Nat×PV) (u:Nat×Value)=>p.1=u.1∧bg G p.2 u.2) parts us→sR place' cs parts=some cs'→aW (Rep G) cs cells.toList →
  ∃ cells',Instr.fill dJ cells us=some cells'∧aW (Rep G) cs' cells'.toList
 |[],[],cs,cs',cells,_,h,hr=>by
  simp only [sR,sJ] at h
  subst h
  exact ⟨cells,rfl,hr⟩
 |(i,p) :: parts,(i',u) :: us,cs,cs',cells,⟨⟨e,hu⟩,hrest⟩,h,hr=>by
  simp only at e hu
  subst e
  unfold sR at h
  split at h
  ·cases h
  ·rename_i off size hp
   split at h
   ·rename_i hs
    obtain ⟨hplace,hpos⟩:=hpl _ _ hp
    have hc:=oU hu (by rw [hs.1];exact hpos)
    have hl:=hc.length
    have hl2:=hr.length
    simp at hl hl2
    have hnext:=B0 (off:=off) hr hc
    have hfold:=Aw off u.cells.toList 0 cells (by simp;omega)
    simp only [Nat.add_zero] at hfold
    obtain ⟨cells',h1,h2⟩:=wY dJ place' hpl parts us _ cs' (cells.toList.take off++u.cells.toList++cells.toList.drop (off+u.cells.toList.length)).toArray hrest h (by simpa using hnext)
    refine ⟨cells',?_,h2⟩
    unfold Instr.fill
    simp only [hplace]
    rw [iN (by simp;omega)]
    rw [← h1]
    congr 1
    rw [← hfold,← Array.toList_zipIdx,Array.foldl_toList]
   ·cases h
theorem uB{α β:Type}(f:α→Sem β)(g:α→β):∀ (l:List α),(∀ x∈l,(f x).run P w=.ok (g x) w)→(l.mapM f).run P w=.ok (l.map g) w
 |[],_=>by simp
 |x :: l,h=>by
  have h1:=h x (by simp)
  have h2:=uB f g l fun y hy=>h y (by simp [hy])
  simp [List.mapM_cons,h1,h2]
theorem xr{α β:Type}(f:α→Sem β)(g:α→β)(l:Array α)(h:∀ x∈l,(f x).run P w=.ok (g x) w):(l.mapM f).run P w=.ok (l.map g) w:=by
 rw [Array.mapM_eq_mapM_toList]
 have:=uB (P:=P) (w:=w) f g l.toList (fun x hx=>h x (by simpa using hx))
 have e:(List.map g l.toList).toArray=Array.map g l:=by apply Array.ext';simp
 simp [this,e]
theorem uM{T:TypeId}{z:List CV}(h:mG P T=some z):∃ i u,P.info? T=some i∧i.zero=some u∧u.cells.size=i.size∧P.cellsOf T=i.size∧P.bytesOf T=i.bytes∧aW (br G.H) z u.cells.toList:=by
 unfold mG at h
 cases hi:P.info? T with
 |none=>simp [hi] at h
 |some i =>
  simp only [hi] at h
  cases hz:i.zero with
  |none=>simp [hz] at h
  |some u =>
   simp only [hz] at h
   split at h
   ·rename_i hs
    exact ⟨i,u,rfl,hz,hs,by simp [Program.cellsOf,hi],by simp [Program.bytesOf,hi],sn h⟩
   ·cases h
theorem jd{T:TypeId}{i:TypeInfo}{u:Value}(hi:P.info? T=some i)(hz:i.zero=some u):(zeroValue T).run P w=.ok u w:=by
 simp [zeroValue,typeInfo,hi,hz]
theorem CC{T:TypeId}{parts:List (Nat×Ent)}{us:List (Nat×Value)}(h:sm P γ T parts=.ok C v)(hC:C)(hγ:γ=true)
  (hp:aW (fun (p:Nat×Ent) (u:Nat×Value)=>p.1=u.1∧(p.2.cond=true→bg G p.2.v u.2)) parts us) :
  ∃ r,(Instr.build T us.toArray).run P w=.ok r w∧bg G v r:=by
 have conv:(∀ p∈parts,aR γ p.2)→aW (fun (p:Nat×PV) (u:Nat×Value)=>p.1=u.1∧bg G p.2 u.2) (parts.map fun p=>(p.1,p.2.v)) us:=by
  clear h
  intro hn
  induction parts generalizing us with
  |nil=>cases us<;>simp_all [aW]
  |cons p parts ih =>
   cases us with
   |nil=>simp [aW] at hp
   |cons u us =>
    obtain ⟨⟨h1,h2⟩,h3⟩:=hp
    exact ⟨⟨h1,h2 (hn p (by simp) hγ)⟩,ih h3 fun q hq=>hn q (by simp [hq])⟩
 unfold sm at h
 split at h
 ·rename_i z hz ha harr
  split at h
  ·rename_i cs hf
   simp only [R.ok.injEq] at h;obtain ⟨rfl,rfl⟩:=h
   obtain ⟨hk,hn⟩:=hC
   obtain ⟨i,u,hi,hzz,hsz,hcs,_,hrep⟩:=uM (G:=G) hz
   have hstr:∃ fs,P.underlying T=some (.struct fs):=by
    unfold pw at hk
    cases hu:P.underlying T with
    |none=>simp [hu] at hk
    |some d=>cases d<;>simp [hu] at hk;simp
   obtain ⟨fs,hu⟩:=hstr
   have hkn:∀ f∈fs,(P.info? f.type).isSome=true:=by
    unfold pw at hk
    simp only [hu] at hk
    intro f hf
    exact (List.all_eq_true.1 hk) f (by simpa using hf)
   obtain ⟨cells',e1,e2⟩:=wY (G:=G) ((fs.map fun f=>(f.offset,P.cellsOf f.type))[·]?) _ (by
     intro i p hp
     split at hp
     ·rename_i hfo
      simp only [sJ] at hp
      subst hp
      obtain ⟨fs',f,hu',hff,ho,ht,hpos⟩:=vY hfo
      rw [hu] at hu'
      simp only [sJ,TypeDesc.struct.injEq] at hu'
      subst hu'
      exact ⟨by simp [hff,ho,ht],by rw [← ht];exact hpos⟩
     ·cases hp) _ us z cs u.cells (conv hn) hf (aW.mono (fun _ _ h=>br.rep h) hrep)
   refine ⟨.agg cells',?_,⟨cells'.toList,by simp,e2⟩⟩
   have hm:=xr (P:=P) (w:=w) (fun f:Field=>do pure (f.offset,← Go.sizeOf f.type)) (fun f=>(f.offset,P.cellsOf f.type)) fs (by
    intro f hf
    have:=hkn f hf
    obtain ⟨fi,hfi⟩:=Option.isSome_iff_exists.mp this
    simp [Go.sizeOf,typeInfo,hfi,Program.cellsOf])
   simp only [Instr.build,Sem.run_bind,jd hi hzz,Result.andThen_ok,run_underlying hu,hm,e1]
   rfl
  ·cases h
 ·rename_i z hz ha harr
  split at h
  ·rename_i cs hf
   simp only [R.ok.injEq] at h;obtain ⟨rfl,rfl⟩:=h
   obtain ⟨hk,hpos,hn⟩:=hC
   obtain ⟨i,u,hi,hzz,hsz,hcs,_,hrep⟩:=uM (G:=G) hz
   have hu:=qg harr
   obtain ⟨cells',e1,e2⟩:=wY (G:=G) (fun i=>some (i * P.cellsOf (P.elem T),P.cellsOf (P.elem T))) _ (fun i p hp=>⟨hp,by simp only [sJ] at hp;subst hp;exact hpos⟩) _ us z cs u.cells (conv hn) hf (aW.mono (fun _ _ h=>br.rep h) hrep)
   refine ⟨.agg cells',?_,⟨cells'.toList,by simp,e2⟩⟩
   simp only [Instr.build,Sem.run_bind,jd hi hzz,Result.andThen_ok,run_underlying hu,eh hk,e1]
   rfl
  ·cases h
 ·cases h
theorem zq{o:Oper}{X:Operand}{ρ:Operand→Value}{x:Ent}(ho:o.op=.nilCheck X)(hi:Inv G σ w)(h:kL γ σ x=.ok C v)(hC:C)(hγ:γ=true)(hx:x.cond=true→bg G x.v (ρ X)) :
  ∃ r,(execOp ρ o).run P w=.ok (.value r) w∧bg G v r:=by
 obtain ⟨xc,p⟩:=x
 unfold kL at h
 simp only at h hx
 have key:∀ a,ρ X=.pointer (some a)→(execOp ρ o).run P w=.ok (.value (.pointer (some a))) w:=by
  intro a ha
  simp [execOp,ho,ha]
 split at h
 ·simp only [R.ok.injEq] at h;obtain ⟨rfl,rfl⟩:=h
  have hr:=hx (hC.1 hγ)
  obtain ⟨o',cs,_,ho',_,hver,e⟩:=so hi hC.2 hr
  exact ⟨_,key _ e,by rw [← e];exact hr⟩
 ·simp only [R.ok.injEq] at h;obtain ⟨rfl,rfl⟩:=h
  have hr:=hx (hC hγ)
  generalize ρ X=u at hr key
  have hr':br G.H _ u:=hr
  cases hr' with
  |tptr _ _ _ _ blk off cap n ht hi'=>exact ⟨_,key _ rfl,hr⟩
 ·simp only [R.ok.injEq] at h;obtain ⟨rfl,rfl⟩:=h
  have hr:=hx (hC.1 hγ)
  obtain ⟨o',s,T',es,_,ho',hver,hsz,e⟩:=ud hi hC.2 hr
  exact ⟨_,key _ e,by rw [← e];exact hr⟩
 ·cases h
theorem B1{caps:List Ent}{us:List Value}(hγ:γ=true)(hC:∀ e∈caps,aR γ e∧e.v.cells.length=1∧e.v.capOk=true)(hp:aW (fun (p:Ent) (u:Value)=>p.cond=true→bg G p.v u) caps us) :
  aW (gm G) (caps.map fun e=>e.v.cells.headD .junk) us:=by
 induction caps generalizing us with
 |nil=>cases us<;>simp_all [aW]
 |cons p caps ih =>
  cases us with
  |nil=>simp [aW] at hp
  |cons u us =>
   obtain ⟨h1,h2⟩:=hp
   obtain ⟨g1,g2,g3⟩:=hC p (by simp)
   refine ⟨?_,ih (fun q hq=>hC q (by simp [hq])) h2⟩
   have hr:=h1 (g1 hγ)
   have hc:=oU hr (by omega)
   obtain ⟨pc,pv⟩:=p
   simp only at g1 g2 g3 hr hc ⊢
   cases pv with
   |c y =>
    cases y<;>first|exact hr|(simp [PV.capOk] at g3)
   |a ys=>simp [PV.capOk] at g3
   |x=>simp [PV.capOk] at g3
   |t _=>simp [PV.capOk] at g3
theorem zr{fn:Fn}{first caps:List Ent}{us fu:List Value}(h:ml γ fn first caps=.ok C v)(hC:C)(hγ:γ=true)
  (hfu:aW (fun (p:Ent) (u:Value)=>p.cond=true→bg G p.v u) first fu) (hp:aW (fun (p:Ent) (u:Value)=>p.cond=true→bg G p.v u) caps us) :
  ∃ r,(Instr.makeFunc fn fu.toArray us.toArray).run P w=.ok r w∧bg G v r:=by
 unfold ml at h
 split at h
 ·rename_i f e0 first
  split at h
  ·rename_i hf
   simp only [R.ok.injEq] at h;obtain ⟨rfl,rfl⟩:=h
   have:us=[]:=by cases us<;>simp_all [aW]
   subst this
   refine ⟨_,rfl,fu,?_,B1 hγ hC hfu⟩
   rw [iN (Nat.not_lt.2 (Nat.le_add_left _ _)),Nat.add_sub_cancel]
  ·cases h
 ·rename_i f
  split at h
  ·cases h
  ·rename_i hf
   simp only [R.ok.injEq] at h;obtain ⟨rfl,rfl⟩:=h
   have:fu=[]:=by cases fu<;>simp_all [aW]
   subst this
   refine ⟨_,rfl,us,?_,B1 hγ hC hp⟩
   rw [iP (Nat.lt_of_not_le hf)]
 ·cases h
end
section
variable {P:Program} {γ:Bool} {G:Gh} {E:Env} {σ:List OB} {a:Act} {w:World} {C:Prop} {v:PV}
theorem oK{s:Sem Value}{r:Value}(h:s.run P w=.ok r w):(do pure (Next.value (← s)):Sem Next).run P w=.ok (.value r) w:=by
 simp [h]
theorem Bm(hs:Sim G E σ a w)(o:Option Operand):(o.map (ev E)=none∧o.map a.eval=none)∨∃ x y,o.map (ev E)=some x∧o.map a.eval=some y∧(x.cond=true→bg G x.v y):=by
 cases o with
 |none=>exact .inl ⟨rfl,rfl⟩
 |some x=>exact .inr ⟨_,_,rfl,rfl,eG hs x⟩
theorem vr(hs:Sim G E σ a w):∀ (l:List Operand),aW (fun (p:Ent) (u:Value)=>p.cond=true→bg G p.v u) (l.map (ev E)) (l.map a.eval)
 |[]=>trivial
 |x :: l=>⟨eG hs x,vr hs l⟩
theorem xt(hs:Sim G E σ a w):∀ (l:List (Nat×Operand)),aW (fun (p:Nat×Ent) (u:Nat×Value)=>p.1=u.1∧(p.2.cond=true→bg G p.2.v u.2)) (wz E l) (l.map fun p=>(p.1,a.eval p.2))
 |[]=>trivial
 |x :: l=>⟨⟨rfl,eG hs x.2⟩,xt hs l⟩
theorem Ax{b:Builtin}{ts:List TypeId}{args:List Ent}{us:List Value}{ty:TypeId}{cs:Array Bool}(hi:Inv G σ w)(h:jZ P γ σ b ts args=.ok C v)(hC:C)(hγ:γ=true)
  (hp:aW (fun (p:Ent) (u:Value)=>p.cond=true→bg G p.v u) args us) :
  ∃ r,(builtin b ts.toArray ty cs us.toArray).run P w=.ok (.value r) w∧bg G v r:=by
 unfold jZ at h
 split at h
 ·match us,hp with
  |[u],⟨h1,_⟩ =>
   obtain ⟨r,e1,e2⟩:=EC (ty:=ty) hi h hC hγ h1
   exact ⟨r,oK e1,e2⟩
 ·split at h
  ·unfold pk at h
   split at h
   ·cases h
   ·split at h<;>first|cases h|(split at h<;>cases h)
  ·cases h
 ·match us,hp with
  |[u,u'],⟨h1,h2,_⟩ =>
   obtain ⟨r,e1,e2⟩:=xp (P:=P) (w:=w) h hC hγ h1 h2
   exact ⟨r,oK (by simpa using e1 ts.toArray ty),e2⟩
 ·match us,hp with
  |[u,u'],⟨h1,h2,_⟩ =>
   obtain ⟨r,e1,e2⟩:=xp (P:=P) (w:=w) h hC hγ h1 h2
   exact ⟨r,oK (by simpa using e1 ts.toArray ty),e2⟩
 ·cases h
theorem B5(hs:Sim G E σ a w)(hγ:γ=true)(o:Oper)(h:cA P γ E σ o.op=.ok C v)(hC:C) :
  ∃ val,(execOp a.eval o).run P w=.ok (.value val) w∧bg G v val:=by
 have hi:=hs.inv
 cases hop:o.op
 all_goals (rw [hop] at h;simp only [cA] at h)
 case move x=>simp only [R.ok.injEq] at h;obtain ⟨rfl,rfl⟩:=h;exact ⟨_,by simp [execOp,hop],eG hs x (hC hγ)⟩
 case assign x=>simp only [R.ok.injEq] at h;obtain ⟨rfl,rfl⟩:=h;exact ⟨_,by simp [execOp,hop],eG hs x (hC hγ)⟩
 case pick c x y =>
  obtain ⟨X,e1,e2⟩:=Dq h hC hγ (eG hs c) (eG hs x) (eG hs y)
  refine ⟨_,?_,e2⟩
  simp [execOp,hop,e1,asBool]
 case alloc T=>unfold pP at h;split at h<;>cases h
 case box T x=>unfold zo at h;cases h
 case build T parts =>
  obtain ⟨r,e1,e2⟩:=CC (w:=w) h hC hγ (xt hs parts.toList)
  refine ⟨r,?_,e2⟩
  simp only [execOp,hop]
  refine oK ?_
  rw [← e1]
  congr 2
  apply Array.ext'
  simp
 case buildSlice T len parts=>unfold jX at h;split at h<;>first|cases h|(split at h<;>cases h)
 case load T p =>
  obtain ⟨r,e1,e2⟩:=At h hC hγ hi (eG hs p)
  exact ⟨r,by simp only [execOp,hop];exact oK e1,e2⟩
 case store T p x=>unfold qp at h;split at h<;>first|cases h|(split at h<;>cases h)
 case nilCheck x=>exact zq hop hi h hC hγ (eG hs x)
 case binOp op T x y T' =>
  obtain ⟨r,e1,e2,e3⟩:=EB (P:=P) (w:=w) (X:=x) (Y:=y) h hC hγ (eG hs x) (eG hs y)
  refine ⟨r,?_,e3⟩
  simp only [execOp,hop]
  exact oK (by simp [e1,e2])
 case unOp op T x =>
  obtain ⟨r,e1,e2⟩:=FA (P:=P) (w:=w) h hC hγ (eG hs x)
  exact ⟨r,by simp only [execOp,hop];exact oK e1,e2⟩
 case convert src dst x =>
  obtain ⟨r,e1,e2⟩:=Dp (w:=w) h hC hγ (eG hs x)
  exact ⟨r,by simp only [execOp,hop];exact oK e1,e2⟩
 case fieldAddr T x i =>
  obtain ⟨r,e1,e2⟩:=yz hi h hC hγ (eG hs x)
  exact ⟨r,by simp only [execOp,hop];exact oK e1,e2⟩
 case field T x i =>
  obtain ⟨r,e1,e2⟩:=CA (w:=w) h hC hγ (eG hs x)
  exact ⟨r,by simp only [execOp,hop];exact oK e1,e2⟩
 case indexAddr T x i =>
  obtain ⟨r,e1,e2⟩:=yA hi h hC hγ (eG hs x) (eG hs i)
  exact ⟨r,by simp only [execOp,hop];exact oK e1,e2⟩
 case index T x i =>
  obtain ⟨r,e1,e2⟩:=vZ (w:=w) h hC hγ (eG hs x) (eG hs i)
  exact ⟨r,by simp only [execOp,hop];exact oK e1,e2⟩
 case extract x i =>
  obtain ⟨r,e1,e2⟩:=Av (P:=P) (w:=w) h hC hγ (eG hs x)
  exact ⟨r,by simp only [execOp,hop];exact oK e1,e2⟩
 case slice T x lo hh mx =>
  obtain ⟨r,e1,e2⟩:=CB hi h hC hγ (eG hs x) (Bm hs lo) (Bm hs hh) (Bm hs mx)
  exact ⟨r,by simp only [execOp,hop];exact oK e1,e2⟩
 case makeSlice T x y=>unfold lK at h;split at h<;>cases h
 case makeFunc fn first caps =>
  obtain ⟨r,e1,e2⟩:=zr (P:=P) (w:=w) h hC hγ (vr hs first.toList) (vr hs caps.toList)
  refine ⟨r,?_,e2⟩
  simp only [execOp,hop]
  refine oK ?_
  rw [← e1]
  congr 2<;>(apply Array.ext';simp)
 case call c =>
  split at h
  ·unfold xl at h;split at h<;>first|cases h|(split at h<;>first|cases h|(unfold xk at h;split at h<;>cases h))
  ·rename_i b hcal
   have harr:c.args.map a.eval=(c.args.toList.map a.eval).toArray:=by apply Array.ext';simp
   simp only [execOp,hop,Sem.run_bind,resolve,hcal,Sem.run_pure,Result.andThen_ok,invoke,harr]
   generalize Array.map _ c.args=cs
   obtain ⟨r,e1,e2⟩:=Ax (P:=P) (ty:=o.type) (cs:=cs) hi h hC hγ (vr hs c.args.toList)
   exact ⟨r,by simpa [Deferred.ofValue] using e1,e2⟩
  ·cases h
 all_goals cases h
end
def zt(P:Program)(G:Gh)(s:Sem Next)(w:World)(v:PV)(σ':List OB):Prop :=
 ∃ nx val w' G',s.run P w=.ok nx w'∧(nx=.value val∨(nx=.skip∧val=undef))∧rk G G'∧bG G.own G'.own∧Inv G' σ' w'∧bg G' v val
theorem jM{P:Program}{T:TypeId}{z:List CV}(G:Gh)(h:mG P T=some z):∃ i u,P.info? T=some i∧i.zero=some u∧u.cells.size=i.size∧P.cellsOf T=i.size∧P.bytesOf T=i.bytes∧aW (br G.H) z u.cells.toList :=
 uM (G:=G) h
section
variable {P:Program} {γ:Bool} {G:Gh} {E:Env} {σ:List OB} {a:Act} {w:World} {C:Prop} {v:PV} {σ':List OB}
theorem Ay(hi:Inv G σ w)(cs:List CV)(cells:Array Value)(T:TypeId)(h:aW (Rep G) cs cells.toList) :
  ∃ G',rk G G'∧bG G.own G'.own∧Inv G' (σ++[.box cs]) (w.alloc (.cells cells T))∧bg G' (.c (.optr σ.length 0)) (.pointer (some ⟨w.heap.size,0,none⟩)):=by
 have hle:bG G.own (G.own++[some ⟨w.heap.size,0,0,0,true,0⟩]):=bG.append _ _
 have hlast:(G.own++[some (⟨w.heap.size,0,0,0,true,0⟩:OG)])[σ.length]? = some (some ⟨w.heap.size,0,0,0,true,0⟩):=by rw [← hi.len];simp
 refine ⟨{ G with own:=G.own++[some ⟨w.heap.size,0,0,0,true,0⟩] },⟨fun _ _ h=>h,rfl,rfl,rfl⟩,hle,?_,?_⟩
 ·refine hi.push (.box cs) _ (by simp) (fun b hb=>heap_alloc_old w _ hb) (fun _=>rfl) rfl rfl rfl ?_
  exact ⟨_,cells,T,hlast,rfl,⟨rfl,rfl⟩,heap_alloc_new w _,aW.mono (R:=Rep G) (fun _ _ hr=>Rep.mono (G:=G) (G':={ G with own:=G.own++[some ⟨w.heap.size,0,0,0,true,0⟩] }) (fun _ _ h=>h) hle hr) h⟩
 ·exact ⟨rfl,_,hlast,fun o e _=>by simp only [sJ] at e;subst e;rfl⟩
theorem CD{o:Oper}{T:TypeId}{ρ:Operand→Value}(ho:o.op=.alloc T)(hi:Inv G σ w)(h:pP P σ T=.upd C v σ')(hC:C):zt P G (execOp ρ o) w v σ':=by
 unfold pP at h
 split at h
 ·rename_i z hz
  simp only [R.upd.injEq] at h
  obtain ⟨rfl,rfl,rfl⟩:=h
  obtain ⟨i,u,h1,h2,h3,h4,_,h5⟩:=jM G hz
  obtain ⟨G',k1,k2,k3,k4⟩:=Ay hi z u.cells T (aW.mono (fun _ _ hr=>br.rep hr) h5)
  refine ⟨_,_,_,G',?_,.inl rfl,k1,k2,k3,k4⟩
  simp [execOp,ho,Instr.alloc,jd h1 h2,newVar,newRow]
 ·cases h
theorem ED{o:Oper}{T:TypeId}{X:Operand}{x:Ent}{ρ:Operand→Value}(ho:o.op=.box T X)(hi:Inv G σ w)(h:zo P σ T x=.upd C v σ')(hC:C)(hx:x.cond=true→bg G x.v (ρ X)) :
  zt P G (execOp ρ o) w v σ':=by
 unfold zo at h
 simp only [R.upd.injEq] at h
 obtain ⟨rfl,rfl,rfl⟩:=h
 obtain ⟨c1,_,c2⟩:=hC
 obtain ⟨G',k1,k2,k3,k4⟩:=Ay hi x.v.cells (ρ X).cells T (oU (hx c1) c2)
 refine ⟨_,_,_,G',?_,.inl rfl,k1,k2,k3,k4⟩
 simp [execOp,ho,Instr.box,newVar,newRow]
theorem wA{cs:List CV}{vs:List Value}(h:aW (Rep G) cs vs)(hf:cs.all CV.flat=true):aW (br G.H) cs vs:=by
 induction cs generalizing vs with
 |nil=>cases vs<;>simp_all [aW]
 |cons c cs ih =>
  cases vs with
  |nil=>simp [aW] at h
  |cons v vs =>
   simp only [List.all_cons,Bool.and_eq_true] at hf
   exact ⟨Rep.flat hf.1 h.1,ih h.2 hf.2⟩
theorem uN{cs:List CV}{vs:List Value}(h:aW (Rep G) cs vs):∀ v∈vs,v.oneCell'=true:=by
 induction cs generalizing vs with
 |nil=>cases vs<;>simp_all [aW]
 |cons c cs ih =>
  cases vs with
  |nil=>simp
  |cons v vs =>
   intro u hu
   rcases List.mem_cons.1 hu with rfl|hu'
   ·exact Rep.one h.1
   ·exact ih h.2 u hu'
theorem CE{s i j i' j':Nat}(hj:j<s)(hj':j'<s)(h:i * s+j=i' * s+j'):i=i'∧j=j':=by
 have hs:0<s:=by omega
 have h1:(i * s+j) / s=i:=by rw [Nat.add_comm,Nat.add_mul_div_right _ _ hs,Nat.div_eq_of_lt hj,Nat.zero_add]
 have h2:(i' * s+j') / s=i':=by rw [Nat.add_comm,Nat.add_mul_div_right _ _ hs,Nat.div_eq_of_lt hj',Nat.zero_add]
 have:i=i':=by rw [← h1,← h2,h]
 subst this
 exact ⟨rfl,by omega⟩
theorem CF{o:Oper}{T:TypeId}{X Y:Operand}{x y:Ent}{ρ:Operand→Value}(ho:o.op=.store T X Y)(hi:Inv G σ w)(h:qp P σ T x y=.upd C v σ')(hC:C)
  (hx:x.cond=true→bg G x.v (ρ X)) (hy:y.cond=true→bg G y.v (ρ Y)):zt P G (execOp ρ o) w v σ':=by
 obtain ⟨xc,p⟩:=x
 unfold qp at h
 simp only at h hx
 split at h
 ·rename_i b off
  split at h
  ·rename_i cs hb
   simp only [R.upd.injEq] at h
   obtain ⟨rfl,rfl,rfl⟩:=h
   obtain ⟨c1,c2,c3,c0,c4,c5⟩:=hC
   obtain ⟨o',cs',hb',ho',hh,hver,hval⟩:=so hi (by simp [iT,hb]) (hx c1)
   rw [hb] at hb'
   simp only [sJ,OB.box.injEq] at hb'
   subst hb'
   obtain ⟨o2,c,T',g1,g2,g3,g4,g5⟩:=hi.own b _ hb
   rw [ho'] at g1
   simp only [sJ] at g1
   subst g1
   have hyr:=oU (hy c2) (by omega)
   have hl:=hyr.length
   have hl2:=g5.length
   simp at hl hl2
   have hst:=tm (P:=P) (w:=w) c3 o'.blk off T' (0,0) c g4 (.inl rfl) (ρ Y) (by omega) (by omega) (uN hyr)
   have hG:({ G with own:=G.own.set b (some o') }:Gh)=G:=by
    have:G.own.set b (some o')=G.own:=by
     apply List.ext_getElem?
     intro k
     by_cases e:b=k
     ·subst e;rw [ho'];simp [(List.getElem?_eq_some_iff.1 ho').1]
     ·rw [List.getElem?_set_ne e]
    cases G;simp_all
   refine ⟨.skip,undef,_,G,by simp only [execOp,ho,hval,Sem.run_bind,hst,Result.andThen_ok,Sem.run_pure];rfl,.inr ⟨rfl,rfl⟩,rk.refl G,bG.refl _,?_,trivial⟩
   have key:=hi.change (w':=w.setRow o'.blk (c.toList.take off++(ρ Y).cells.toList++c.toList.drop (off+(ρ Y).cells.toList.length)).toArray) b (.box (ik cs off y.v.cells)) o' o' ho' (.inl rfl) (by simp) (fun k _ hk=>mH w _ k _ (hk hh)) (fun hh'=>.inl ⟨rfl,hh'⟩) rfl rfl rfl (by
    rw [hG]
    exact ⟨o',_,T',ho',hh,hver,kM g4 _,by simpa using B0 g5 hyr⟩)
   rw [hG] at key
   exact key
  ·cases h
 ·rename_i b ver i j
  split at h
  ·rename_i s ver' T' es hb
   simp only [R.upd.injEq] at h
   obtain ⟨rfl,rfl,rfl⟩:=h
   obtain ⟨c1,c2,rfl,c3,c0,c4,cf,c5,c6⟩:=hC
   obtain ⟨o',s'',T'',es',hb',ho',hver,hsz,hval⟩:=ud hi (by simp [iT,hb]) (hx c1)
   rw [hb] at hb'
   simp only [sJ,OB.arr.injEq] at hb'
   obtain ⟨rfl,_,rfl,rfl⟩:=hb'
   obtain ⟨o2,g1,g2,g3,g4,g5,g6,g7,g8,g9⟩:=hi.own b _ hb
   rw [ho'] at g1
   simp only [sJ] at g1
   subst g1
   have hhas:o'.has=true:=by
    cases hh:o'.has with
    |true=>rfl
    |false=>have e1:=g8 hh;have e2:=g5;omega
   obtain ⟨c,fz,hblk,hfz,hcs,hcells⟩:=g9 hhas
   have hyr:=oU (hy c2) (by omega)
   have hyf:=wA hyr cf
   have hl:=hyr.length
   simp at hl
   have hbnd:o'.off+i * s+s≤c.size:=by
    rw [hcs]
    have:(i+1) * s≤o'.cap * s:=Nat.mul_le_mul_right _ (by omega)
    rw [Nat.add_mul] at this;omega
   have hst:=tm (P:=P) (w:=w) c3 o'.blk (o'.off+i * s+j) T' fz c hblk hfz (ρ Y) (by omega) (by omega) (uN hyr)
   have hG:({ G with own:=G.own.set b (some o') }:Gh)=G:=by
    have:G.own.set b (some o')=G.own:=by
     apply List.ext_getElem?
     intro k
     by_cases e:b=k
     ·subst e;rw [ho'];simp [(List.getElem?_eq_some_iff.1 ho').1]
     ·rw [List.getElem?_set_ne e]
    cases G;simp_all
   have helt:=xn c5
   have hel:(elt es i).length=s:=g7 _ (List.mem_of_getElem? helt)
   have hputl:(ik (elt es i) j y.v.cells).length=s:=by
    unfold ik;simp;omega
   refine ⟨.skip,undef,_,G,by simp only [execOp,ho,hval,Sem.run_bind,hst,Result.andThen_ok,Sem.run_pure];rfl,.inr ⟨rfl,rfl⟩,rk.refl G,bG.refl _,?_,trivial⟩
   have key:=hi.change (w':=w.setRow o'.blk (c.toList.take (o'.off+i * s+j)++(ρ Y).cells.toList++c.toList.drop (o'.off+i * s+j+(ρ Y).cells.toList.length)).toArray) b (.arr s ver T' (es.set i (ik (elt es i) j y.v.cells))) o' o' ho' (.inl rfl) (by simp) (fun k _ hk=>mH w _ k _ (hk hhas)) (fun hh'=>.inl ⟨rfl,hh'⟩) rfl rfl rfl (by
    rw [hG]
    refine ⟨o',ho',g2,g3,g4,by simpa using g5,g6,?_,g8,fun _=>?_⟩
    ·intro e he
     rcases List.mem_or_eq_of_mem_set he with h|rfl
     ·exact g7 _ h
     ·exact hputl
    ·refine ⟨_,fz,kM hblk _,?_,?_,?_⟩
     ·rcases hfz with h|h
      ·exact .inl h
      ·right;simp;omega
     ·simp;omega
     ·intro i' j' e x he hx
      have hj':j'<s:=by
       have:e.length=s:=by
        by_cases e1:i=i'
        ·subst e1
         rw [List.getElem?_set_self c5] at he
         simp only [sJ] at he
         rw [← he];exact hputl
        ·rw [List.getElem?_set_ne e1] at he
         exact g7 _ (List.mem_of_getElem? he)
       rw [← this];exact (List.getElem?_eq_some_iff.1 hx).1
      have hlt:o'.off+i * s+j≤c.toList.length:=by simp;omega
      have hleft:(c.toList.take (o'.off+i * s+j)).length=o'.off+i * s+j:=by simp;omega
      have hget:∀ k,(c.toList.take (o'.off+i * s+j)++(ρ Y).cells.toList++c.toList.drop (o'.off+i * s+j+(ρ Y).cells.toList.length)).toArray[k]? =
        if k<o'.off+i * s+j then c[k]? else if k<o'.off+i * s+j+(ρ Y).cells.toList.length then (ρ Y).cells.toList[k - (o'.off+i * s+j)]? else c[k]? := by
       intro k
       simp only [List.getElem?_toArray]
       by_cases k1:k<o'.off+i * s+j
       ·rw [List.append_assoc,List.getElem?_append_left (by omega),List.getElem?_take_of_lt k1,iP k1];simp
       ·rw [iN k1,List.append_assoc,List.getElem?_append_right (by omega),hleft]
        by_cases k2:k<o'.off+i * s+j+(ρ Y).cells.toList.length
        ·rw [iP k2,List.getElem?_append_left (by omega)]
        ·rw [iN k2,List.getElem?_append_right (by omega),List.getElem?_drop,Array.getElem?_toList]
         congr 1;omega
      rw [hget]
      by_cases e1:i=i'
      ·subst e1
       rw [List.getElem?_set_self c5] at he
       simp only [sJ] at he
       subst he
       unfold ik at hx
       have hl1:((elt es i).take j).length=j:=by simp;omega
       by_cases k1:j'<j
       ·rw [iP (by omega)]
        rw [List.append_assoc,List.getElem?_append_left (by omega),List.getElem?_take_of_lt k1] at hx
        exact hcells i j' _ x helt hx
       ·rw [iN (by omega)]
        rw [List.append_assoc,List.getElem?_append_right (by omega),hl1] at hx
        by_cases k2:j' - j<y.v.cells.length
        ·rw [iP (by simp;omega)]
         rw [List.getElem?_append_left k2] at hx
         obtain ⟨u,hu,hr⟩:=hyf.get _ _ hx
         exact ⟨u,by rw [← hu];congr 1;omega,hr⟩
        ·rw [iN (by simp;omega)]
         rw [List.getElem?_append_right (by omega),List.getElem?_drop] at hx
         refine hcells i j' _ x helt ?_
         rw [← hx];congr 1;omega
      ·rw [List.getElem?_set_ne e1] at he
       have hne:¬ (o'.off+i * s+j≤o'.off+i' * s+j'∧o'.off+i' * s+j'<o'.off+i * s+j+(ρ Y).cells.toList.length):=by
        intro ⟨n1,n2⟩
        simp at n2
        have:i' * s+j'=i * s+(i' * s+j' - i * s):=by omega
        have:=(CE (s:=s) (i:=i') (j:=j') (i':=i) (j':=i' * s+j' - i * s) hj' (by omega) this).1
        exact e1 this.symm
       have:(if o'.off+i' * s+j'<o'.off+i * s+j then c[o'.off+i' * s+j']? else if o'.off+i' * s+j'<o'.off+i * s+j+(ρ Y).cells.toList.length then (ρ Y).cells.toList[o'.off+i' * s+j' - (o'.off+i * s+j)]? else c[o'.off+i' * s+j']?)=c[o'.off+i' * s+j']? := by
        split
        ·rfl
        ·rw [iN (by omega)]
       rw [this]
       exact hcells i' j' e x he hx)
   rw [hG] at key
   exact key
  ·cases h
 ·cases h
end
def gN(H:Nat→Option Obj)(s:Nat)(es:List (List CV))(c:Nat→Option Value):Prop :=
 ∀ (i j:Nat) (e:List CV) (x:CV),es[i]? = some e→e[j]? = some x→∃ v,c (i * s+j)=some v∧br H x v
theorem gN.append{H:Nat→Option Obj}{s:Nat}{es es':List (List CV)}{c:Nat→Option Value}(h:gN H s es c)(h':gN H s es' fun k=>c (es.length * s+k)):gN H s (es++es') c:=by
 intro i j e x he hx
 rcases Nat.lt_or_ge i es.length with hi|hi
 ·rw [List.getElem?_append_left hi] at he;exact h i j e x he hx
 ·rw [List.getElem?_append_right hi] at he
  obtain ⟨v,h1,h2⟩:=h' _ j e x he hx
  refine ⟨v,?_,h2⟩
  rw [← h1]
  have:i * s=es.length * s+(i - es.length) * s:=by rw [← Nat.add_mul];congr 1;omega
  simp only [this,Nat.add_assoc]
theorem gN.congr{H:Nat→Option Obj}{s:Nat}{es:List (List CV)}{c c':Nat→Option Value}(h:gN H s es c)(hl:∀ (i:Nat) (e:List CV),es[i]? = some e→e.length=s)
  (hc:∀ k,k<es.length * s→c' k=c k):gN H s es c':=by
 intro i j e x he hx
 obtain ⟨v,h1,h2⟩:=h i j e x he hx
 refine ⟨v,?_,h2⟩
 rw [hc]
 ·exact h1
 ·have hi:i<es.length:=(List.getElem?_eq_some_iff.1 he).1
  have hj:j<s:=by rw [← hl i e he];exact (List.getElem?_eq_some_iff.1 hx).1
  have:(i+1) * s≤es.length * s:=Nat.mul_le_mul_right _ hi
  rw [Nat.add_mul] at this
  omega
theorem gN.take{H:Nat→Option Obj}{s:Nat}{es:List (List CV)}{c:Nat→Option Value}(h:gN H s es c)(n:Nat):gN H s (es.take n) c:=by
 intro i j e x he hx
 rw [List.getElem?_take] at he
 split at he
 ·exact h i j e x he hx
 ·cases he
section
variable {P:Program} {γ:Bool} {G:Gh} {E:Env} {σ:List OB} {a:Act} {w:World} {C:Prop} {v:PV} {σ':List OB}
theorem yS{H:Nat→Option Obj}{s:Nat}{es:List (List CV)}{c:Nat→Option Value}(h:gN H s es c)(hl:∀ (i:Nat) (e:List CV),es[i]? = some e→e.length=s) :
  ∃ vs:List Value,vs.length=es.length * s∧(∀ k,k<es.length * s→c k=vs[k]?)∧gN H s es (vs[·]?)∧∀ u∈vs,u.oneCell'=true:=by
 have hall:∀ k,k<es.length * s→∃ v,c k=some v∧v.oneCell'=true:=by
  intro k hk
  have hs:0<s:=Nat.pos_of_ne_zero fun e=>by subst e;simp at hk
  have hi:k / s<es.length:=(Nat.div_lt_iff_lt_mul hs).2 hk
  have hj:k % s<s:=Nat.mod_lt _ hs
  have he:=List.getElem?_eq_getElem hi
  have hlen:=hl _ _ he
  obtain ⟨v,h1,h2⟩:=h (k / s) (k % s) _ _ he (List.getElem?_eq_getElem (by rw [hlen];exact hj))
  refine ⟨v,?_,br.one h2⟩
  rw [← h1];congr 1;rw [Nat.mul_comm];exact (Nat.div_add_mod k s).symm
 have hk:∀ k,k<es.length * s→((List.range (es.length * s)).map fun k=>(c k).getD undef)[k]? = c k:=by
  intro k hk
  obtain ⟨v,h1,_⟩:=hall k hk
  simp [List.getElem?_range hk,h1]
 refine ⟨(List.range (es.length * s)).map fun k=>(c k).getD undef,by simp,fun k hk'=>(hk k hk').symm,h.congr hl hk,?_⟩
 intro u hu
 simp only [List.mem_map,List.mem_range] at hu
 obtain ⟨k,hk',rfl⟩:=hu
 obtain ⟨v,h1,h2⟩:=hall k hk'
 simpa [h1] using h2
theorem qR(w:World)(s n len cap blk off:Nat)(cs:List Value)(hl:cs.length=n * s)(h:∀ j u,cs[j]? = some u→w.cell? ⟨blk,off+j,none⟩=some u) :
  (Builtin.firstCells s n (.slice (some ⟨blk,off,none⟩) len cap)).run P w=.ok cs.toArray w :=
 run_firstCells_some w s n _ len cap cs hl (fun j u hj=>by rw [no];exact h j u hj)
theorem Dr{p:PV}{u:Value}{es:List (List CV)}{s:Nat}(hi:Inv G σ w)(h:wy σ p=some (C,es))(hC:C)(hr:bg G p u)(hl:∀ e∈es,e.length=s) :
  ∃ news:List Value,news.length=es.length * s∧gN G.H s es (news[·]?)∧(∀ x∈news,x.oneCell'=true) ∧
   ∀ w1:World,w1.heap=w.heap→(Builtin.lenOf u).run P w1=.ok es.length w1∧(Builtin.firstCells s es.length u).run P w1=.ok news.toArray w1:=by
 have hl':∀ (i:Nat) (e:List CV),es[i]? = some e→e.length=s:=fun i e he=>hl e (List.mem_of_getElem? he)
 have none_ok:es=[]→(∃ a n c,u=.slice a n c∧n=0)→∃ news:List Value,news.length=es.length * s∧gN G.H s es (news[·]?)∧(∀ x∈news,x.oneCell'=true) ∧
   ∀ w1:World,w1.heap=w.heap→(Builtin.lenOf u).run P w1=.ok es.length w1∧(Builtin.firstCells s es.length u).run P w1=.ok news.toArray w1:=by
  rintro rfl ⟨a,n,c,rfl,rfl⟩
  refine ⟨[],by simp,fun i j e x he=>by simp at he,by simp,fun w1 _=>⟨by simp [Builtin.lenOf],?_⟩⟩
  cases a with
  |none=>simp [Builtin.firstCells]
  |some a=>simp [Builtin.firstCells,loadCells,loadCellsFrom]
 have row_ok:∀ (blk off n cap:Nat) (c:Array Value) (T:TypeId) (fz:Nat×Nat),u=.slice (some ⟨blk,off,none⟩) n cap→n=es.length→w.heap[blk]? = some (.cells c T fz)→gN G.H s es (fun k=>c[off+k]?) →
   ∃ news:List Value,news.length=es.length * s∧gN G.H s es (news[·]?)∧(∀ x∈news,x.oneCell'=true) ∧
   ∀ w1:World,w1.heap=w.heap→(Builtin.lenOf u).run P w1=.ok es.length w1∧(Builtin.firstCells s es.length u).run P w1=.ok news.toArray w1:=by
  rintro blk off n cap c T fz rfl rfl hb hrows
  obtain ⟨vs,k1,k2,k3,k4⟩:=yS hrows hl'
  refine ⟨vs,k1,k3,k4,fun w1 hw=>⟨by simp [Builtin.lenOf],qR w1 s _ _ _ blk off vs k1 fun j u hj=>?_⟩⟩
  have hlt:j<vs.length:=(List.getElem?_eq_some_iff.1 hj).1
  rw [ub (by rw [hw];exact hb),k2 j (by omega)]
  exact hj
 unfold wy at h
 split at h
 ·simp only [sJ,Prod.mk.injEq] at h
  obtain ⟨rfl,rfl⟩:=h
  have hr':br G.H .nils u:=hr
  cases hr'
  exact none_ok rfl ⟨_,_,_,rfl,rfl⟩
 ·simp only [sJ,Prod.mk.injEq] at h
  obtain ⟨rfl,rfl⟩:=h
  have hr':br G.H .emp u:=hr
  cases hr'
  exact none_ok rfl ⟨_,_,_,rfl,rfl⟩
 ·simp only [sJ,Prod.mk.injEq] at h
  obtain ⟨rfl,rfl⟩:=h
  have hr':br G.H .emn u:=hr
  cases hr'
  exact none_ok rfl ⟨_,_,_,rfl,rfl⟩
 ·rename_i s' es'
  simp only [sJ,Prod.mk.injEq] at h
  obtain ⟨rfl,rfl⟩:=h
  by_cases hne:es'=[]
  ·subst hne
   have hr':br G.H (.tree s' []) u:=hr
   refine none_ok rfl ?_
   cases hr' with
   |tree0=>exact ⟨_,_,_,rfl,rfl⟩
   |tree=>exact ⟨_,_,_,rfl,rfl⟩
  ·have hr':br G.H (.tree s' es') u:=hr
   have hr'':=hr'
   cases hr' with
   |tree0=>exact (hne rfl).elim
   |tree _ _ blk off cap c T fz g hb hcap hl2 hg hrr =>
    obtain ⟨c',T',fz',hb',hlen,_,_,hcells⟩:=uL hr'' hne
    rw [hb] at hb'
    simp only [sJ,Obj.cells.injEq] at hb'
    obtain ⟨rfl,rfl,rfl⟩:=hb'
    have hss:s'=s:=by
     obtain ⟨e,r,rfl⟩:∃ e r,es'=e :: r:=by cases es' with|nil=>exact (hne rfl).elim|cons e r=>exact ⟨e,r,rfl⟩
     rw [← hl e (by simp),hlen 0 e (by simp)]
    subst hss
    exact row_ok blk off _ cap c T fz rfl rfl (hi.hH _ _ hb) fun i j e x he hx=>by
     obtain ⟨v,h1,h2⟩:=hcells i j e x he hx
     exact ⟨v,by show c[off+(i * s'+j)]? = some v;rw [← Nat.add_assoc];exact h1,h2⟩
 ·rename_i b ver lo len
  split at h
  ·rename_i s' ver' T es0 hb
   simp only [sJ,Prod.mk.injEq] at h
   obtain ⟨rfl,rfl⟩:=h
   obtain ⟨rfl,hle⟩:=hC
   obtain ⟨o,s'',T',es',hb',ho,hov,hsz,⟨hcap,a,rfl,hha⟩,hok⟩:=qh hi (by simp [iT,hb]) hr
   rw [hb] at hb'
   simp only [sJ,OB.arr.injEq] at hb'
   obtain ⟨rfl,_,rfl,rfl⟩:=hb'
   obtain ⟨o2,g1,g2,g3,g4,g5,g6,g7,g8,g9⟩:=hok
   rw [ho] at g1
   simp only [sJ] at g1
   subst g1
   have hlen':((es0.drop lo).take len).length=len:=by simp;omega
   by_cases h0:len=0
   ·subst h0
    exact none_ok (by simp) ⟨_,_,_,rfl,rfl⟩
   ·have hhas:o.has=true:=by
     cases hh:o.has with
     |true=>rfl
     |false=>have:=g8 hh;omega
    obtain ⟨a',rfl,ha'⟩:=hha hhas
    have:=ha' (by omega)
    subst this
    obtain ⟨c,fz,hblk,hfz,hcs,hcells⟩:=g9 hhas
    have hss:s'=s:=by
     have hne:(es0.drop lo).take len≠[]:=by intro e;rw [e] at hlen';simp at hlen';omega
     obtain ⟨e,he⟩:=List.exists_mem_of_ne_nil _ hne
     rw [← hl e he,g7 e (List.mem_of_mem_drop (List.mem_of_mem_take he))]
    subst hss
    refine row_ok o.blk (o.off+lo * o.sz) _ _ c T fz rfl hlen'.symm hblk fun i j e x he hx=>?_
    have hil:i<len:=by rw [← hlen'];exact (List.getElem?_eq_some_iff.1 he).1
    rw [List.getElem?_take_of_lt hil,List.getElem?_drop] at he
    obtain ⟨v,h1,h2⟩:=hcells (lo+i) j e x he hx
    exact ⟨v,by show c[o.off+lo * o.sz+(i * s'+j)]? = some v;rw [← h1];congr 1;rw [hsz,Nat.add_mul];omega,h2⟩
  ·cases h
 ·rename_i str
  simp only [sJ,Prod.mk.injEq] at h
  obtain ⟨rfl,rfl⟩:=h
  have e1:=qa hr;subst e1
  by_cases hne:str=[]
  ·subst hne
   exact ⟨[],by simp,fun i j e x he=>by simp at he,by simp,fun w1 _=>⟨by simp [Builtin.lenOf,uc],by simp [Builtin.firstCells]⟩⟩
  ·have hs1:s=1:=by
    obtain ⟨b,r,rfl⟩:∃ e r,str=e :: r:=by cases str with|nil=>exact (hne rfl).elim|cons e r=>exact ⟨e,r,rfl⟩
    rw [← hl [.int .u8 b.toNat] (by simp)];rfl
   subst hs1
   refine ⟨str.map fun b=>.int .u8 b.toNat,by simp,?_,by intro x hx;simp at hx;obtain ⟨b,_,rfl⟩:=hx;rfl,fun w1 _=>⟨by simp [Builtin.lenOf,uc],?_⟩⟩
   ·intro i j e x he hx
    simp only [List.getElem?_map,Option.map_eq_some_iff] at he
    obtain ⟨b,hb,rfl⟩:=he
    have hj:j=0:=by
     have:=(List.getElem?_eq_some_iff.1 hx).1;simp at this;exact this
    subst hj
    simp at hx
    subst hx
    exact ⟨.int .u8 b.toNat,by simp [hb],.int _ _⟩
   ·have hex:(⟨str.toArray⟩:ByteArray).extract 0 str.length=⟨str.toArray⟩:=by
     apply ByteArray.ext
     simp
    simp [Builtin.firstCells,hex]
 ·cases h
end
section
variable {P:Program} {γ:Bool} {G:Gh} {E:Env} {σ:List OB} {a:Act} {w:World} {C:Prop} {v:PV} {σ':List OB}
theorem rC{T T' ty e:TypeId}{i:TypeInfo}(ht:P.underlying T=some (.slice e))(ht':(∃ e',P.underlying T'=some (.slice e'))∨P.underlying T'=some .string)(hi:P.info? e=some i)
  (base:Option Addr) (n cap m:Nat) (y:Value) (news:List Value) (hlen:∀ w1:World,w1.heap=w.heap→(Builtin.lenOf y).run P w1=.ok m w1)
  (hfn:∀ w1:World,w1.heap=w.heap→(Builtin.firstCells i.size m y).run P w1=.ok news.toArray w1) (hg:n+m≤cap) :
  (Builtin.append_ #[T, T'] ty #[.slice base n cap, y]).run P w =
   ((match base with|some a=>storeCells (a.add (n * i.size)) news|none=>pure ()).run P w).andThen fun _ w'=>.ok (.slice base (n+m) cap) w':=by
 have hl:=hlen w rfl
 have hf:=hfn w rfl
 rcases ht' with ⟨e',ht'⟩|ht'
 ·cases base<;>simp [Builtin.append_,run_underlying ht,run_underlying ht',Go.sizeOf,typeInfo,hi,hl,hg,hf]
 ·cases base<;>simp [Builtin.append_,run_underlying ht,run_underlying ht',Go.sizeOf,typeInfo,hi,hl,hg,hf]
theorem rD{T T' ty e:TypeId}{i:TypeInfo}{z:Value}(ht:P.underlying T=some (.slice e))(ht':(∃ e',P.underlying T'=some (.slice e'))∨P.underlying T'=some .string)(hi:P.info? e=some i)(hz:i.zero=some z)
  (base:Option Addr) (n cap m:Nat) (y:Value) (olds news:List Value) (hlen:∀ w1:World,w1.heap=w.heap→(Builtin.lenOf y).run P w1=.ok m w1)
  (hfn:∀ w1:World,w1.heap=w.heap→(Builtin.firstCells i.size m y).run P w1=.ok news.toArray w1)
  (hfo:∀ w1:World,w1.heap=w.heap→(Builtin.firstCells i.size n (.slice base n cap)).run P w1=.ok olds.toArray w1)
  (hg:cap<n+m) (h63:n+m≤maxLen) (hb:(n+m) * i.bytes≤140737488355328) :
  (Builtin.append_ #[T, T'] ty #[.slice base n cap, y]).run P w =
   .ok (.slice (some ⟨w.heap.size,0,none⟩) (n+m) (grownCap w (n+m) cap e))
    (w.drew.alloc (.cells (olds++news++(Builtin.zeroCells z.cells (grownCap w (n+m) cap e - (n+m))).toList).toArray e)):=by
 have hl:=hlen w rfl
 have hf:=hfn w.drew rfl
 have hfo':=hfo w.drew rfl
 have hfit:=growslice_fits hg hb
 have hn:¬ (n+m≤cap):=by omega
 have h63':¬ (9223372036854775807<((n:Int)+(m:Int))):=by simp only [maxLen] at h63;omega
 have h48':¬ (281474976710656<Builtin.nextslicecap (n+m) cap * i.bytes):=by omega
 rcases ht' with ⟨e',ht'⟩|ht'
 ·simp [Builtin.append_,run_underlying ht,run_underlying ht',Go.sizeOf,typeInfo,zeroValue,hi,hz,hl,hn,h63',h48',Question.forced,hf,hfo',newRow,grownCap]
  congr 2
  apply Array.ext'
  simp
 ·simp [Builtin.append_,run_underlying ht,run_underlying ht',Go.sizeOf,typeInfo,zeroValue,hi,hz,hl,hn,h63',h48',Question.forced,hf,hfo',newRow,grownCap]
  congr 2
  apply Array.ext'
  simp
theorem qS{l:List (Option OG)}{b:Nat}{o:OG}(h:l[b]? = some (some o))(o':OG):(l.set b (some o'))[b]? = some (some o'):=by
 simp [(List.getElem?_eq_some_iff.1 h).1]
theorem Ds{w:World}{n c:Nat}{e:TypeId}(h:n≤maxLen):n≤grownCap w n c e∧grownCap w n c e≤maxLen:=⟨grownCap_ge w n c e,grownCap_le_maxLen w n c e h⟩
theorem xu(hi:Inv G σ w){w':World}{s:Nat}{T:TypeId}{es:List (List CV)}{c:Array Value}{cap:Nat}(hw:w'=w.drew.alloc (.cells c T)∨w'=w.alloc (.cells c T))(hs:0<s)
  (hcap:es.length≤cap) (hm:cap≤maxLen) (hl:∀ e∈es,e.length=s) (hc:c.size=cap * s) (hrows:gN G.H s es (c[·]?)) (len:Nat) (hlen:len≤cap) :
  ∃ G',rk G G'∧bG G.own G'.own∧Inv G' (σ++[.arr s 0 T es]) w'∧bg G' (.c (.osl σ.length 0 0 len)) (.slice (some ⟨w.heap.size,0,none⟩) len cap):=by
 have hle:bG G.own (G.own++[some ⟨w.heap.size,s,cap,0,true,0⟩]):=bG.append _ _
 have hlast:(G.own++[some (⟨w.heap.size,s,cap,0,true,0⟩:OG)])[σ.length]? = some (some ⟨w.heap.size,s,cap,0,true,0⟩):=by rw [← hi.len];simp
 have hh:w'.heap=w.heap.push (.cells c T):=by rcases hw with rfl|rfl<;>rfl
 have hnew:w'.heap[w.heap.size]? = some (.cells c T):=by rw [hh];simp
 refine ⟨{ G with own:=G.own++[some ⟨w.heap.size,s,cap,0,true,0⟩] },⟨fun _ _ h=>h,rfl,rfl,rfl⟩,hle,?_,?_⟩
 ·refine hi.push (.arr s 0 T es) _ (by rw [hh];simp) (fun b hb=>by rw [hh,Array.getElem?_push];rw [iN (by omega)]) (fun _=>rfl) (by rcases hw with rfl|rfl<;>rfl) (by rcases hw with rfl|rfl<;>rfl) (by rcases hw with rfl|rfl<;>rfl) ?_
  exact ⟨_,hlast,rfl,rfl,hs,hcap,hm,hl,fun h=>by simp at h,fun _=>⟨c,(0,0),hnew,.inl rfl,by simpa using hc,fun i j e x he hx=>by simpa using hrows i j e x he hx⟩⟩
 ·refine ⟨rfl,_,hlast,fun o e=>?_⟩
  simp only [sJ] at e;subst e
  exact ⟨Nat.le_refl _,fun _=>⟨by simp;omega,some ⟨w.heap.size,0,none⟩,by simp,fun _=>⟨_,rfl,fun _=>by simp⟩⟩⟩
theorem getElem?_toArray_fun(l:List Value):(fun k:Nat=>(l.toArray)[k]?)=(fun k:Nat=>l[k]?):=by funext k;simp
theorem B6(z:Array Value)(n:Nat):(Builtin.zeroCells z n).size=n * z.size:=by simp [Builtin.zeroCells]
theorem Bn{T T' ty:TypeId}{x y:Ent}{u u':Value}(hT:T=T'∨pV P T'=true)(hi:Inv G σ w)(h:pk P σ T x y=.upd C v σ')(hC:C)
  (hx:x.cond=true→bg G x.v u) (hy:y.cond=true→bg G y.v u') :
  ∃ val w' G',(Builtin.append_ #[T,T'] ty #[u,u']).run P w=.ok val w'∧rk G G'∧bG G.own G'.own∧Inv G' σ' w'∧bg G' v val:=by
 obtain ⟨xc,p⟩:=x
 unfold pk at h
 simp only at h hx
 split at h
 ·cases h
 ·rename_i C0 news hsrc
  have fresh:∀ (a:Option Addr),u=.slice a 0 0→(xc=true∧y.cond=true∧C0∧lJ P T=true∧cx P (P.elem T)=true∧(mG P (P.elem T)).isSome=true∧0<P.cellsOf (P.elem T)∧(∀ e∈news,e.length=P.cellsOf (P.elem T))∧news.length * P.bytesOf (P.elem T)≤140737488355328∧news.length≤maxLen) →
    ∃ val w' G',(Builtin.append_ #[T,T'] ty #[u,u']).run P w=.ok val w'∧rk G G'∧bG G.own G'.own∧Inv G' (σ++[.arr (P.cellsOf (P.elem T)) 0 (P.elem T) news]) w'∧bg G' (.c (.osl σ.length 0 0 news.length)) val:=by
   rintro a rfl ⟨_,c2,c0,hsl,hkn,hz,hpos,hl,hby,hmx⟩
   obtain ⟨z,hz⟩:=Option.isSome_iff_exists.mp hz
   obtain ⟨i,zu,h1,h2,h3,h4,h5,h6⟩:=jM G hz
   have ht:=iU hsl
   have ht':(∃ e',P.underlying T'=some (.slice e'))∨P.underlying T'=some .string:=by
    rcases hT with rfl|hT
    ·exact .inl ⟨_,ht⟩
    ·exact .inr (qf hT)
   obtain ⟨vs,k1,k2,k3,k4⟩:=Dr (P:=P) (s:=P.cellsOf (P.elem T)) hi hsrc c0 (hy c2) hl
   by_cases h0:news.length=0
   ·have hnil:news=[]:=List.eq_nil_of_length_eq_zero h0
    subst hnil
    have hvs:vs=[]:=by simpa using k1
    subst hvs
    have hrun:=rC (ty:=ty) (w:=w) ht ht' h1 a 0 0 0 u' [] (fun w1 hw=>by simpa using (k4 w1 hw).1) (fun w1 hw=>by rw [← h4];simpa using (k4 w1 hw).2) (by omega)
    have hrun':(Builtin.append_ #[T,T'] ty #[.slice a 0 0,u']).run P w=.ok (.slice a 0 0) w:=by
     rw [hrun];cases a<;>simp [storeCells]
    have hle:bG G.own (G.own++[some ⟨0,P.cellsOf (P.elem T),0,0,false,0⟩]):=bG.append _ _
    have hlast:(G.own++[some (⟨0,P.cellsOf (P.elem T),0,0,false,0⟩:OG)])[σ.length]? = some (some ⟨0,P.cellsOf (P.elem T),0,0,false,0⟩):=by rw [← hi.len];simp
    refine ⟨_,w,{ G with own:=G.own++[some ⟨0,P.cellsOf (P.elem T),0,0,false,0⟩] },hrun',⟨fun _ _ h=>h,rfl,rfl,rfl⟩,hle,?_,?_⟩
    ·refine hi.push _ _ (Nat.le_refl _) (fun _ _=>rfl) (fun h=>by simp at h) rfl rfl rfl ?_
     exact ⟨_,hlast,rfl,rfl,hpos,by simp,by simp [maxLen],by simp,fun _=>rfl,fun h=>by simp at h⟩
    ·refine ⟨rfl,_,hlast,fun o e=>?_⟩
     simp only [sJ] at e;subst e
     exact ⟨Nat.le_refl _,fun _=>⟨by simp,a,by simp,fun h=>by simp at h⟩⟩
   ·have hrun:=rD (ty:=ty) (w:=w) ht ht' h1 h2 a 0 0 news.length u' [] vs (fun w1 hw=>(k4 w1 hw).1) (fun w1 hw=>by rw [← h4];exact (k4 w1 hw).2)
     (fun w1 _=>by cases a<;>simp [Builtin.firstCells,loadCells,loadCellsFrom]) (by omega) (by omega) (by rw [← h5];simpa using hby)
    simp only [Nat.zero_add] at hrun
    obtain ⟨q1,q2⟩:=Ds (w:=w) (c:=0) (e:=P.elem T) hmx
    obtain ⟨G',g1,g2,g3,g4⟩:=xu (s:=P.cellsOf (P.elem T)) (T:=P.elem T) (es:=news) (c:=([]++vs++(Builtin.zeroCells zu.cells (grownCap w news.length 0 (P.elem T) - news.length)).toList).toArray) (cap:=grownCap w news.length 0 (P.elem T)) hi (.inl rfl) hpos q1 q2 hl
     (by simp [B6,h3,← h4,k1];rw [← Nat.add_mul];congr 1;omega)
     (by
      rw [getElem?_toArray_fun]
      refine k2.congr (fun i e he=>hl e (List.mem_of_getElem? he)) fun k hk=>?_
      rw [List.nil_append,List.getElem?_append_left (by omega)]) news.length q1
    exact ⟨_,_,G',hrun,g1,g2,g3,g4⟩
  split at h
  ·simp only [R.upd.injEq] at h
   obtain ⟨rfl,rfl,rfl⟩:=h
   have hr:br G.H .nils u:=hx hC.1
   cases hr
   exact fresh none rfl hC
  ·simp only [R.upd.injEq] at h
   obtain ⟨rfl,rfl,rfl⟩:=h
   have hr:br G.H .emp u:=hx hC.1
   cases hr
   exact fresh _ rfl hC
  ·rename_i b ver lo len
   split at h
   ·rename_i s ver' T0 es hb
    simp only [R.upd.injEq] at h
    obtain ⟨rfl,rfl,rfl⟩:=h
    obtain ⟨c1,c2,c0,rfl,rfl,hle,rfl,hsl,hkn,hz,hsz,hl,hby,hmx⟩:=hC
    obtain ⟨z,hz⟩:=Option.isSome_iff_exists.mp hz
    obtain ⟨i,zu,h1,h2,h3,h4,h5,h6⟩:=jM G hz
    have ht:=iU hsl
    have ht':(∃ e',P.underlying T'=some (.slice e'))∨P.underlying T'=some .string:=by
     rcases hT with rfl|hT
     ·exact .inl ⟨_,ht⟩
     ·exact .inr (qf hT)
    obtain ⟨o,s'',T'',es',hb',ho,hov,hosz,⟨hcap,a,rfl,hha⟩,hok⟩:=qh hi (by simp [iT,hb]) (hx c1)
    rw [hb] at hb'
    simp only [sJ,OB.arr.injEq] at hb'
    obtain ⟨rfl,_,rfl,rfl⟩:=hb'
    obtain ⟨o2,g1,g2,g3,g4,g5,g6,g7,g8,g9⟩:=hok
    rw [ho] at g1
    simp only [sJ] at g1
    subst g1
    obtain ⟨vs,k1,k2,k3,k4⟩:=Dr (P:=P) (s:=s) hi hsrc c0 (hy c2) hl
    have hl':∀ e∈es.take len++news,e.length=s:=by
     intro e he
     rcases List.mem_append.1 he with h|h
     ·exact g7 e (List.mem_of_mem_take h)
     ·exact hl e h
    have hllen:(es.take len).length=len:=by simp;omega
    have hnewlen:(es.take len++news).length=len+news.length:=by simp;omega
    simp only [Nat.sub_zero,Nat.zero_add] at hcap hha ⊢
    by_cases hroom:len+news.length≤o.cap
    ·
     have hrun:=rC (ty:=ty) (w:=w) ht ht' h1 a len o.cap news.length u' vs (fun w1 hw=>(k4 w1 hw).1) (fun w1 hw=>by rw [← h4,hsz];exact (k4 w1 hw).2) hroom
     have o'le:o.ver<o.ver+1:=by omega
     by_cases hhas:o.has=true
     ·obtain ⟨a',rfl,ha'⟩:=hha hhas
      obtain ⟨c,fz,hblk,hfz,hcs,hcells⟩:=g9 hhas
      by_cases hcap0:o.cap=0
      ·
       have:news.length=0:=by omega
       have hnil:news=[]:=List.eq_nil_of_length_eq_zero this
       subst hnil
       have hvs:vs=[]:=by simpa using k1
       subst hvs
       have hlen0:len=0:=by omega
       subst hlen0
       have hrun':(Builtin.append_ #[T,T'] ty #[.slice (some a') 0 o.cap,u']).run P w=.ok (.slice (some a') 0 o.cap) w:=by rw [hrun];simp [storeCells]
       refine ⟨_,w,{ G with own:=G.own.set b (some { o with ver:=o.ver+1 }) },hrun',⟨fun _ _ h=>h,rfl,rfl,rfl⟩,bG.set ho (.inr o'le),?_,?_⟩
       ·refine hi.change b _ o { o with ver:=o.ver+1 } ho (.inr o'le) (Nat.le_refl _) (fun _ _ _=>rfl) (fun hh=>.inl ⟨rfl,hh⟩) rfl rfl rfl ?_
        exact ⟨_,qS ho _,by rw [← g2],g3,g4,by simp,g6,by simp,g8,fun _=>⟨c,fz,hblk,hfz,hcs,fun i j e x he=>by simp at he⟩⟩
       ·refine ⟨rfl,_,qS ho _,fun o' e=>?_⟩
        simp only [sJ] at e;subst e
        exact ⟨by simp;omega,fun _=>⟨by simp,some a',by simp,fun _=>⟨a',rfl,fun hlt=>by simp at hlt;omega⟩⟩⟩
      ·have:=ha' (by omega)
       subst this
       have hcl:c.size=o.off+o.cap * s:=hcs
       have hcells':gN G.H s es (fun k=>c[o.off+k]?):=fun i j e x h h'=>by have:=hcells i j e x h h';rwa [Nat.add_assoc] at this
       have hmul:(len+news.length) * s≤o.cap * s:=Nat.mul_le_mul_right _ hroom
       rw [Nat.add_mul] at hmul
       have hadd:(⟨o.blk,o.off+0 * o.sz,none⟩:Addr).add (len * i.size)=⟨o.blk,o.off+len * s,none⟩:=by rw [no,← h4,hsz];simp
       have hst:=oi P o.blk (o.off+len * s) (P.elem T) fz vs 0 c w hblk hfz (by omega) k3
       simp only [Nat.add_zero] at hst
       have hrun':(Builtin.append_ #[T,T'] ty #[.slice (some ⟨o.blk,o.off+0 * o.sz,none⟩) len o.cap,u']).run P w=.ok (.slice (some ⟨o.blk,o.off+0 * o.sz,none⟩) (len+news.length) o.cap) (w.setRow o.blk (c.toList.take (o.off+len * s)++vs++c.toList.drop (o.off+len * s+vs.length)).toArray):=by
        rw [hrun];simp only [hadd,hst,Result.andThen_ok]
       refine ⟨_,_,{ G with own:=G.own.set b (some { o with ver:=o.ver+1 }) },hrun',⟨fun _ _ h=>h,rfl,rfl,rfl⟩,bG.set ho (.inr o'le),?_,?_⟩
       ·refine hi.change b _ o { o with ver:=o.ver+1 } ho (.inr o'le) (by simp) (fun k _ hk=>mH w _ k _ (hk hhas)) (fun hh=>.inl ⟨rfl,hh⟩) rfl rfl rfl ?_
        refine ⟨_,qS ho _,by rw [← g2],g3,g4,by rw [hnewlen];exact hroom,g6,hl',g8,fun _=>⟨_,fz,kM hblk _,?_,?_,?_⟩⟩
        ·rcases hfz with h|h
         ·exact .inl h
         ·right;simp;omega
        ·simp;omega
        ·have hrows:gN G.H s (es.take len++news) (fun k=>(c.toList.take (o.off+len * s)++vs++c.toList.drop (o.off+len * s+vs.length))[o.off+k]?):=by
          refine gN.append ?_ ?_
          ·refine gN.congr (c:=fun k=>c[o.off+k]?) (gN.take hcells' len) (fun i e he=>hl' e (List.mem_append_left _ (List.mem_of_getElem? he))) fun k hk=>?_
           rw [hllen] at hk
           rw [List.append_assoc,List.getElem?_append_left (by simp;omega),List.getElem?_take_of_lt (by omega)];simp
          ·refine k2.congr (fun i e he=>hl e (List.mem_of_getElem? he)) fun k hk=>?_
           rw [hllen]
           have e1:(c.toList.take (o.off+len * s)).length=o.off+len * s:=by simp;omega
           rw [List.append_assoc,List.getElem?_append_right (by omega),e1,List.getElem?_append_left (by omega)]
           congr 1;omega
         intro i j e x he hx
         obtain ⟨v,q1,q2⟩:=hrows i j e x he hx
         exact ⟨v,by rw [List.getElem?_toArray,Nat.add_assoc o.off (i * s) j];exact q1,q2⟩
       ·refine ⟨rfl,_,qS ho _,fun o' e=>?_⟩
        simp only [sJ] at e;subst e
        exact ⟨by simp;omega,fun _=>⟨by simp;omega,some ⟨o.blk,o.off+0 * o.sz,none⟩,by simp,fun _=>⟨_,rfl,fun _=>by simp⟩⟩⟩
     ·have hno:o.has=false:=by simpa using hhas
      have hcap0:=g8 hno
      have:news.length=0:=by omega
      have hnil:news=[]:=List.eq_nil_of_length_eq_zero this
      subst hnil
      have hvs:vs=[]:=by simpa using k1
      subst hvs
      have hlen0:len=0:=by omega
      subst hlen0
      have hrun':(Builtin.append_ #[T,T'] ty #[.slice a 0 o.cap,u']).run P w=.ok (.slice a 0 o.cap) w:=by rw [hrun];cases a<;>simp [storeCells]
      refine ⟨_,w,{ G with own:=G.own.set b (some { o with ver:=o.ver+1 }) },hrun',⟨fun _ _ h=>h,rfl,rfl,rfl⟩,bG.set ho (.inr o'le),?_,?_⟩
      ·refine hi.change b _ o { o with ver:=o.ver+1 } ho (.inr o'le) (Nat.le_refl _) (fun _ _ _=>rfl) (fun hh=>.inl ⟨rfl,hh⟩) rfl rfl rfl ?_
       exact ⟨_,qS ho _,by rw [← g2],g3,g4,by simp,g6,by simp,g8,fun hh=>(hhas hh).elim⟩
      ·refine ⟨rfl,_,qS ho _,fun o' e=>?_⟩
       simp only [sJ] at e;subst e
       exact ⟨by simp;omega,fun _=>⟨by simp,a,by simp,fun hh=>(hhas hh).elim⟩⟩
    ·
     have holds:∃ olds:List Value,olds.length=len * s∧gN G.H s (es.take len) (olds[·]?)∧∀ w1:World,w1.heap=w.heap→(Builtin.firstCells i.size len (.slice a len o.cap)).run P w1=.ok olds.toArray w1:=by
      by_cases h0:len=0
      ·subst h0
       exact ⟨[],by simp,fun i j e x he=>by simp at he,fun w1 _=>by cases a<;>simp [Builtin.firstCells,loadCells,loadCellsFrom]⟩
      ·have hhas:o.has=true:=by
        cases hh:o.has with
        |true=>rfl
        |false=>have:=g8 hh;omega
       obtain ⟨a',rfl,ha'⟩:=hha hhas
       have:=ha' (by omega)
       subst this
       obtain ⟨c,fz,hblk,hfz,hcs,hcells⟩:=g9 hhas
       have hcells':gN G.H s es (fun k=>c[o.off+k]?):=fun i j e x h h'=>by have:=hcells i j e x h h';rwa [Nat.add_assoc] at this
       obtain ⟨ol,q1,q2,q3,q4⟩:=yS (gN.take (c:=fun k=>c[o.off+k]?) hcells' len) (fun i e he=>hl' e (List.mem_append_left _ (List.mem_of_getElem? he)))
       rw [hllen] at q1 q2
       refine ⟨ol,q1,q3,fun w1 hw=>?_⟩
       rw [← h4,hsz]
       refine qR w1 s len _ _ o.blk (o.off+0 * o.sz) ol q1 fun j u hj=>?_
       have hlt:j<ol.length:=(List.getElem?_eq_some_iff.1 hj).1
       rw [ub (by rw [hw];exact hblk)]
       simp only [Nat.zero_mul,Nat.add_zero]
       have:=q2 j (by omega)
       rw [this];exact hj
     obtain ⟨olds,q1,q2,q3⟩:=holds
     have hrun:=rD (ty:=ty) (w:=w) ht ht' h1 h2 a len o.cap news.length u' olds vs (fun w1 hw=>(k4 w1 hw).1) (fun w1 hw=>by rw [← h4,hsz];exact (k4 w1 hw).2)
      q3 (by omega) hmx (by rw [← h5];exact hby)
     obtain ⟨r1,r2⟩:=Ds (w:=w) (c:=o.cap) (e:=P.elem T) hmx
     generalize hcapn:grownCap w (len+news.length) o.cap (P.elem T)=capn at hrun r1 r2
     have hrows:gN G.H s (es.take len++news) (fun k=>(olds++vs++(Builtin.zeroCells zu.cells (capn - (len+news.length))).toList)[k]?):=by
      refine gN.append ?_ ?_
      ·refine q2.congr (fun i e he=>hl' e (List.mem_append_left _ (List.mem_of_getElem? he))) fun k hk=>?_
       rw [hllen] at hk
       rw [List.append_assoc,List.getElem?_append_left (by omega)]
      ·refine k2.congr (fun i e he=>hl e (List.mem_of_getElem? he)) fun k hk=>?_
       rw [hllen]
       rw [List.append_assoc,List.getElem?_append_right (by omega),List.getElem?_append_left (by omega)]
       congr 1;omega
     refine ⟨_,_,{ G with own:=G.own.set b (some ⟨w.heap.size,s,capn,o.ver+1,true,0⟩) },hrun,⟨fun _ _ h=>h,rfl,rfl,rfl⟩,bG.set ho (.inr (by simp)),?_,?_⟩
     ·refine hi.change b _ o ⟨w.heap.size,s,capn,o.ver+1,true,0⟩ ho (.inr (by simp)) (by simp) (fun k hk _=>heap_alloc_old w.drew _ hk) (fun _=>.inr rfl) rfl rfl rfl ?_
      refine ⟨_,qS ho _,by rw [← g2],rfl,g4,by rw [hnewlen];exact r1,r2,hl',fun h=>by simp at h,fun _=>⟨_,(0,0),heap_alloc_new w.drew _,.inl rfl,?_,?_⟩⟩
      ·simp [B6,h3,← h4,hsz,q1,k1]
       rw [← Nat.add_mul,← Nat.add_mul];congr 1;omega
      ·intro i j e x he hx
       obtain ⟨v,t1,t2⟩:=hrows i j e x he hx
       exact ⟨v,by simpa using t1,t2⟩
     ·refine ⟨rfl,_,qS ho _,fun o' e=>?_⟩
      simp only [sJ] at e;subst e
      exact ⟨by simp;omega,fun _=>⟨by simp;omega,some ⟨w.heap.size,0,none⟩,by simp,fun _=>⟨_,rfl,fun _=>by simp⟩⟩⟩
   ·cases h
  ·cases h
end
section
variable {P:Program} {γ:Bool} {G:Gh} {E:Env} {σ:List OB} {a:Act} {w:World} {C:Prop} {v:PV} {σ':List OB}
theorem EE{s i j:Nat}(hj:j<s):(i * s+j) % s=j:=by
 rw [Nat.add_comm,Nat.add_mul_mod_self_right,Nat.mod_eq_of_lt hj]
theorem Az{H:Nat→Option Obj}{z:List CV}{c:Array Value}{s n m:Nat}(hz:aW (br H) z c.toList)(hs:z.length=s)(hn:n≤m) :
  gN H s (List.replicate n z) ((madeCells c (m * s))[·]?):=by
 intro i j e x he hx
 have hi:i<n:=by have:=(List.getElem?_eq_some_iff.1 he).1;simpa using this
 rw [List.getElem?_replicate,iP hi] at he
 simp only [sJ] at he
 subst he
 have hj:j<s:=by rw [← hs];exact (List.getElem?_eq_some_iff.1 hx).1
 obtain ⟨v,h1,h2⟩:=hz.get j x hx
 refine ⟨v,?_,h2⟩
 have hlt:i * s+j<m * s:=by
  have:(i+1) * s≤m * s:=Nat.mul_le_mul_right _ (by omega)
  rw [Nat.add_mul] at this;omega
 have hcs:c.size=s:=by have:=hz.length;simp at this;omega
 have h1':c[j]? = some v:=by simpa using h1
 have hjc:j<c.size:=by omega
 simp only [madeCells,Array.getElem?_map]
 rw [Array.getElem?_eq_getElem (by simpa using hlt)]
 simp only [Array.getElem_range,Option.map_some,hcs,EE hj]
 rw [getElem!_pos c j hjc]
 rw [Array.getElem?_eq_getElem hjc] at h1'
 simpa using h1'
theorem yB{T:TypeId}{x y:Ent}{u u':Value}(hi:Inv G σ w)(h:lK P σ T x y=.upd C v σ')(hC:C)(hx:x.cond=true→bg G x.v u)(hy:y.cond=true→bg G y.v u') :
  ∃ val w' G',(Instr.makeSlice T u u').run P w=.ok val w'∧rk G G'∧bG G.own G'.own∧Inv G' σ' w'∧bg G' v val:=by
 obtain ⟨xc,p⟩:=x
 obtain ⟨yc,q⟩:=y
 unfold lK at h
 simp only at h hx hy
 split at h
 ·rename_i n k z hz
  simp only [R.upd.injEq] at h
  obtain ⟨rfl,rfl,rfl⟩:=h
  obtain ⟨c1,c2,hsl,hkn,hpos,h0,hnk,hby,hmx⟩:=hC
  have e1:=ez (hx c1);subst e1
  have e2:=ez (hy c2);subst e2
  obtain ⟨i,zu,h1,h2,h3,h4,h5,h6⟩:=jM G hz
  have hrun:=run_make (P:=P) w T (P.elem T) i zu (iU hsl) h1 h2 .i64 .i64 n k h0 hnk (by rw [h5] at hby;rw [Int.mul_comm];omega) (by simp only [maxLen] at hmx;omega)
  have hzl:z.length=P.cellsOf (P.elem T):=by have:=h6.length;simp at this;omega
  obtain ⟨G',g1,g2,g3,g4⟩:=xu (s:=P.cellsOf (P.elem T)) (T:=P.elem T) (es:=List.replicate k.toNat z) (c:=madeCells zu.cells (k.toNat * i.size)) (cap:=k.toNat) hi (.inr rfl) hpos (by simp) (by omega)
   (fun e he=>by rw [List.eq_of_mem_replicate he];exact hzl) (by rw [size_madeCells,← h4]) (by rw [← h4];exact Az h6 hzl (Nat.le_refl _)) n.toNat (by omega)
  exact ⟨_,_,G',hrun,g1,g2,g3,g4⟩
 ·cases h
theorem B7(s:Nat):∀ (n:Nat) (l:List CV),l.length=n * s→(cut s n l).length=n∧∀ (i j:Nat) (e:List CV) (x:CV),(cut s n l)[i]? = some e→e.length=s∧(e[j]? = some x→l[i * s+j]? = some x)
 |0,l,_=>⟨rfl,fun i j e x he=>by simp [cut] at he⟩
 |n+1,l,h=>by
  have hl:s≤l.length:=by rw [h,Nat.add_mul];omega
  obtain ⟨h1,h2⟩:=B7 s n (l.drop s) (by simp [h,Nat.add_mul])
  refine ⟨by simp [cut,h1],fun i j e x he=>?_⟩
  cases i with
  |zero =>
   simp only [cut,List.getElem?_cons_zero,sJ] at he
   subst he
   refine ⟨by simp;omega,fun hx=>?_⟩
   rw [List.getElem?_take] at hx
   split at hx
   ·simpa using hx
   ·cases hx
  |succ i =>
   simp only [cut,List.getElem?_cons_succ] at he
   obtain ⟨k1,k2⟩:=h2 i j e x he
   refine ⟨k1,fun hx=>?_⟩
   have:=k2 hx
   rw [List.getElem?_drop] at this
   rw [← this];congr 1;rw [Nat.add_mul];omega
theorem xv{H:Nat→Option Obj}{z:List CV}{c:Array Value}{s:Nat}(hz:aW (br H) z c.toList)(hs:z.length=s):∀ n:Nat,aW (br H) (List.replicate n z).flatten (madeCells c (n * s)).toList:=by
 intro n
 refine aW.of_get (by rw [List.length_flatten];simp [size_madeCells,hs]) ?_
 intro k x y hx hy
 have hk:k<(List.replicate n z).flatten.length:=(List.getElem?_eq_some_iff.1 hx).1
 have hlen:(List.replicate n z).flatten.length=n * s:=by rw [List.length_flatten];simp [hs]
 have hs0:0<s:=Nat.pos_of_ne_zero fun e=>by subst e;rw [hlen] at hk;simp at hk
 have hflat:∀ (n:Nat) (i j:Nat),i<n→j<s→(List.replicate n z).flatten[i * s+j]? = z[j]? := by
  intro n
  induction n with
  |zero=>intro i j h;omega
  |succ n ih =>
   intro i j hi hj
   rw [List.replicate_succ,List.flatten_cons]
   cases i with
   |zero=>rw [Nat.zero_mul,Nat.zero_add,List.getElem?_append_left (by omega)]
   |succ i =>
    rw [List.getElem?_append_right (by rw [Nat.add_mul];omega)]
    rw [← ih i j (by omega) hj]
    congr 1;rw [Nat.add_mul];omega
 have hki:k / s<n:=(Nat.div_lt_iff_lt_mul hs0).2 (by omega)
 have hkj:k % s<s:=Nat.mod_lt _ hs0
 have hkd:k / s * s+k % s=k:=by rw [Nat.mul_comm];exact Nat.div_add_mod k s
 have hz':=hflat n (k / s) (k % s) hki hkj
 rw [hkd,hx] at hz'
 obtain ⟨v,h1,h2⟩:=Az (n:=n) hz hs (Nat.le_refl n) (k / s) (k % s) z x (by simp [hki]) hz'.symm
 rw [hkd] at h1
 simp only at h1
 rw [Array.getElem?_toList,h1] at hy
 simp only [sJ] at hy
 rw [← hy];exact h2
theorem xw{T:TypeId}{len:Nat}{parts:List (Nat×Ent)}{us:List (Nat×Value)}(hi:Inv G σ w)(h:jX P σ T len parts=.upd C v σ')(hC:C)
  (hp:aW (fun (p:Nat×Ent) (u:Nat×Value)=>p.1=u.1∧(p.2.cond=true→bg G p.2.v u.2)) parts us) :
  ∃ val w' G',(Instr.buildSlice T len us.toArray).run P w=.ok val w'∧rk G G'∧bG G.own G'.own∧Inv G' σ' w'∧bg G' v val:=by
 unfold jX at h
 split at h
 ·rename_i z hz
  split at h
  ·rename_i cs hf
   simp only [R.upd.injEq] at h
   obtain ⟨rfl,rfl,rfl⟩:=h
   obtain ⟨hn,hflat,hsl,hkn,hpos,hmx⟩:=hC
   have conv:aW (fun (p:Nat×PV) (u:Nat×Value)=>p.1=u.1∧bg G p.2 u.2) (parts.map fun p=>(p.1,p.2.v)) us:=by
    clear hf
    induction parts generalizing us with
    |nil=>cases us<;>simp_all [aW]
    |cons p parts ih =>
     cases us with
     |nil=>simp [aW] at hp
     |cons u us =>
      obtain ⟨⟨k1,k2⟩,k3⟩:=hp
      exact ⟨⟨k1,k2 (hn p (by simp))⟩,ih k3 fun q hq=>hn q (by simp [hq])⟩
   obtain ⟨i,zu,h1,h2,h3,h4,h5,h6⟩:=jM G hz
   have ht:=iU hsl
   have hzl:z.length=P.cellsOf (P.elem T):=by have:=h6.length;simp at this;omega
   have hrep:=xv h6 hzl len
   obtain ⟨cells',e1,e2⟩:=wY (G:=G) (fun i=>some (i * P.cellsOf (P.elem T),P.cellsOf (P.elem T))) _ (fun i p hp=>⟨hp,by simp only [sJ] at hp;subst hp;exact hpos⟩) _ us _ cs (madeCells zu.cells (len * P.cellsOf (P.elem T))) conv hf
    (aW.mono (fun _ _ h=>br.rep h) hrep)
   have hflat':=wA e2 hflat
   have hcl:cs.length=len * P.cellsOf (P.elem T):=by
    have:∀ (l:List (Nat×PV)) (cs cs':List CV) pl,sR pl cs l=some cs'→cs'.length=cs.length:=by
     intro l
     induction l with
     |nil=>intro cs cs' pl h;simp only [sR,sJ] at h;rw [h]
     |cons p l ih =>
      intro cs cs' pl h
      obtain ⟨i,p⟩:=p
      unfold sR at h
      split at h
      ·cases h
      ·split at h
       ·rename_i hh
        rw [ih _ _ _ h];unfold ik;simp;omega
       ·cases h
    rw [this _ _ _ _ hf,List.length_flatten];simp [hzl]
   obtain ⟨k1,k2⟩:=B7 (P.cellsOf (P.elem T)) len cs hcl
   have hcc:cells'.size=len * P.cellsOf (P.elem T):=by have:=e2.length;simp at this;omega
   have hrun:(Instr.buildSlice T len us.toArray).run P w=.ok (.slice (some ⟨w.heap.size,0,none⟩) len len) (w.alloc (.cells cells' (P.elem T))):=by
    have hz':=jd (P:=P) (w:=w) h1 h2
    have hbig:¬ (16777216<len * P.cellsOf (P.elem T)):=by omega
    by_cases h0:len * P.cellsOf (P.elem T)=0
    ·have h0':len=0:=by
      rcases Nat.mul_eq_zero.1 h0 with h|h
      ·exact h
      ·omega
     subst h0'
     have e0:madeCells zu.cells (0 * P.cellsOf (P.elem T))=#[]:=by simp [madeCells,Array.range_zero']
     rw [e0] at e1
     simp [Instr.buildSlice,run_underlying ht,eh hkn,Array.range_zero',e1,newRow]
    ·simp only [madeCells] at e1
     simp [Instr.buildSlice,run_underlying ht,eh hkn,hbig,h0,hz',e1,newRow]
   obtain ⟨G',g1,g2,g3,g4⟩:=xu (s:=P.cellsOf (P.elem T)) (T:=P.elem T) (es:=cut (P.cellsOf (P.elem T)) len cs) (c:=cells') (cap:=len) hi (.inr rfl) hpos (by omega) (by
     have:len * 1≤len * P.cellsOf (P.elem T):=Nat.mul_le_mul_left _ hpos
     simp only [maxLen];omega)
    (fun e he => by obtain ⟨i, hi⟩ := List.mem_iff_getElem?.1 he; exact (k2 i 0 e .junk hi).1) hcc (by
     intro i j e x he hx
     have:=(k2 i j e x he).2 hx
     obtain ⟨v,q1,q2⟩:=hflat'.get _ _ this
     exact ⟨v,by simpa using q1,q2⟩) len (Nat.le_refl _)
   exact ⟨_,_,G',hrun,g1,g2,g3,g4⟩
  ·cases h
 ·cases h
theorem AA(hs:Sim G E σ a w)(hγ:γ=true)(o:Oper)(h:cA P γ E σ o.op=.upd C v σ')(hC:C):zt P G (execOp a.eval o) w v σ':=by
 have hi:=hs.inv
 cases hop:o.op
 all_goals (rw [hop] at h;simp only [cA] at h)
 case alloc T=>exact CD hop hi h hC
 case box T x=>exact ED hop hi h hC (eG hs x)
 case store T x y=>exact CF hop hi h hC (eG hs x) (eG hs y)
 case buildSlice T len parts =>
  obtain ⟨val,w',G',e1,g1,g2,g3,g4⟩:=xw hi h hC (xt hs parts.toList)
  refine ⟨_,val,w',G',?_,.inl rfl,g1,g2,g3,g4⟩
  have harr:(parts.map fun p=>(p.1,a.eval p.2))=(parts.toList.map fun p=>(p.1,a.eval p.2)).toArray:=by apply Array.ext';simp
  simp only [execOp,hop,Sem.run_bind]
  rw [harr,e1];rfl
 case makeSlice T x y =>
  obtain ⟨val,w',G',e1,g1,g2,g3,g4⟩:=yB hi h hC (eG hs x) (eG hs y)
  exact ⟨_,val,w',G',by simp only [execOp,hop,Sem.run_bind,e1];rfl,.inl rfl,g1,g2,g3,g4⟩
 case call c =>
  split at h
  ·unfold xl at h;split at h<;>first|cases h|(split at h<;>first|cases h|(unfold xk at h;split at h<;>cases h))
  ·rename_i b hcal
   have harr:c.args.map a.eval=(c.args.toList.map a.eval).toArray:=by apply Array.ext';simp
   have hargs:=vr hs c.args.toList
   unfold jZ at h
   split at h
   ·rename_i T x hts hxs
    unfold ur at h;split at h<;>cases h
   ·rename_i T T' x y hts hxs
    split at h
    ·rename_i hT
     rw [hxs] at hargs
     generalize hus:c.args.toList.map a.eval=us at hargs
     match us,hargs with
     |[u,u'],⟨h1,h2,_⟩ =>
      obtain ⟨val,w',G',e1,g1,g2,g3,g4⟩:=Bn (ty:=o.type) hT hi h hC h1 h2
      refine ⟨_,val,w',G',?_,.inl rfl,g1,g2,g3,g4⟩
      have hts':c.argTypes=#[T,T']:=by apply Array.ext';simpa using hts
      simp only [execOp,hop,Sem.run_bind,resolve,hcal,Sem.run_pure,Result.andThen_ok,invoke,harr,hus,hts',builtin,e1]
    ·cases h
   ·unfold jY at h;split at h<;>cases h
   ·unfold jY at h;split at h<;>cases h
   ·cases h
  ·cases h
 case move=>cases h
 case assign=>cases h
 case pick=>unfold uy at h;split at h<;>cases h
 case build=>unfold sm at h;split at h<;>first|cases h|(split at h<;>cases h)
 case load=>unfold qo at h;split at h<;>first|cases h|(split at h<;>cases h)
 case nilCheck=>unfold kL at h;split at h<;>cases h
 case binOp=>unfold n8 at h;split at h<;>first|cases h|(split at h<;>first|cases h|(split at h<;>first|cases h|(split at h<;>cases h)))
 case unOp=>unfold unR at h;split at h<;>cases h
 case convert=>unfold uz at h;split at h<;>cases h
 case fieldAddr=>unfold gT at h;split at h<;>cases h
 case field=>unfold sj at h;split at h<;>cases h
 case indexAddr=>unfold fT at h;split at h<;>first|cases h|(split at h<;>cases h)
 case index=>unfold oe at h;split at h<;>cases h
 case extract=>unfold oh at h;split at h<;>cases h
 case slice =>
  unfold pO at h
  split at h
  ·split at h
   ·split at h
    ·split at h<;>cases h
    ·cases h
   ·cases h
  ·split at h<;>first|cases h|(split at h<;>first|cases h|(split at h<;>cases h))
 case makeFunc=>unfold ml at h;split at h<;>first|cases h|(split at h<;>cases h)
 all_goals cases h
end
inductive PX where
  |normal
  |exit (id:Nat)
  |ret
  |panic (p:PV)
abbrev Kt:=PX→Env→List OB→Prop
def oV(n:Nat)(l l':List (Option OG)):Prop :=
  ∀ (b:Nat) (oo:Option OG),b<n→l[b]? = some oo→∃ oo':Option OG,l'[b]? = some oo'∧∀ o':OG,oo'=some o'→∃ o:OG,oo=some o∧(o'=o∨o.ver<o'.ver)
theorem oV.refl(n:Nat)(l:List (Option OG)):oV n l l:=fun b oo _ h=>bG.refl l b oo h
theorem oV.of_le{n:Nat}{l l':List (Option OG)}(h:bG l l'):oV n l l':=fun b oo _ hb=>h b oo hb
theorem oV.trans{n:Nat}{l l' l'':List (Option OG)}(h:oV n l l')(h':oV n l' l''):oV n l l'':=fun b oo hn hb=>by
  obtain ⟨oo',hb',k⟩:=h b oo hn hb
  obtain ⟨oo'',hb'',k'⟩:=h' b oo' hn hb'
  refine ⟨oo'',hb'',fun o'' ho''=>?_⟩
  obtain ⟨o',ho',e'⟩:=k' o'' ho''
  obtain ⟨o,ho,e⟩:=k o' ho'
  refine ⟨o,ho,?_⟩
  rcases e' with rfl|e'<;>rcases e with rfl|e
  · exact .inl rfl
  · exact .inr e
  · exact .inr e'
  · exact .inr (Nat.lt_trans e e')
structure Gle (G G':Gh):Prop where
  le:rk G G'
  own:oV G.na G.own G'.own
theorem Gle.refl(G:Gh):Gle G G:=⟨rk.refl G,oV.refl _ _⟩
theorem Gle.trans{G G' G'':Gh}(h:Gle G G')(h':Gle G' G''):Gle G G'':=⟨h.le.trans h'.le,h.own.trans (by have:=h'.own;rwa [h.le.na] at this)⟩
theorem Gle.mk'{G G':Gh}(h:rk G G')(ho:bG G.own G'.own):Gle G G':=⟨h,.of_le ho⟩
def FB(G:Gh):PX→Exit→Prop
  |.normal,e=>e=.normal
  |.exit id,e=>e=.exit id
  |.ret,e=>e=.ret
  |.panic p,e=>∃ v,e=.panic [{ v:=v,recovered:=false }]∧bg G p v
def fj(G:Gh)(K:Kt)(e:Exit)(a:Act)(w:World):Prop:=∃ G' E σ x,Gle G G'∧Sim G' E σ a w∧FB G' x e∧K x E σ
theorem fj.back{G G':Gh}{K:Kt}{e:Exit}{a:Act}{w:World}(h:Gle G G')(hp:fj G' K e a w):fj G K e a w:=by
  obtain ⟨G'',E,σ,x,h1,h2,h3,h4⟩:=hp
  exact ⟨G'',E,σ,x,h.trans h1,h2,h3,h4⟩
theorem fj.mono{G:Gh}{K K':Kt}(hk:∀ x E σ,K x E σ→K' x E σ){e:Exit}{a:Act}{w:World}(hp:fj G K e a w):fj G K' e a w:=by
  obtain ⟨G'',E,σ,x,h1,h2,h3,h4⟩:=hp
  exact ⟨G'',E,σ,x,h1,h2,h3,hk _ _ _ h4⟩
def W(P:Program)(c:Code)(K:Kt)(E:Env)(σ:List OB):Prop:=∀ G a w,Sim G E σ a w→c.wp P (fj G K) a w
def WL(P:Program)(ops:Array Oper)(l:List Oper)(E:Env)(σ:List OB)(K:Kt):Prop:=∀ G a w,Sim G E σ a w→wpList P ops (fj G K) l a w
theorem CG{P:Program}{o:Oper}{a:Act}{n n':Act→World→Prop}{Q Q':Exit→Act→World→Prop}(hn:∀ a w,n a w→n' a w)(hq:∀ e a w,Q e a w→Q' e a w){r:Result Next}(h:o.upon P a n Q r):o.upon P a n' Q' r:=by
  have hl:LetsOut Q→LetsOut Q':=fun ⟨a,w,h⟩=>⟨a,w,hq _ _ _ h⟩
  cases r with
  |ok nx w' =>
    cases nx<;>first
      |exact h.elim
      |exact hn _ _ h
      | (refine Calls.mono h fun e w'' hh => ?_
         cases e with
         |returned v=>exact hn _ _ hh
         |panicked ch=>exact hq _ _ _ hh
         |outgrown=>exact hl hh)
      |exact Rows.mono h fun v w'' hh=>hn _ _ hh
  |halt hh w'=>cases hh<;>first|exact h.elim|exact hq _ _ _ h
theorem fC{P:Program}{ops:Array Oper}{Q Q':Exit→Act→World→Prop}(hq:∀ e a w,Q e a w→Q' e a w):∀ (l:List Oper) (a:Act) (w:World),wpList P ops Q l a w→wpList P ops Q' l a w
  |[],a,w,h=>hq _ _ _ h
  |o :: r,a,w,h=>by
    unfold wpList at h ⊢
    split at h
    · rename_i hw
      rw [iP hw]
      rcases h with h|⟨h1,a',w',h2⟩
      · exact .inl (CG (fun a w h=>fC hq r a w h) hq h)
      · exact .inr ⟨h1,a',w',hq _ _ _ h2⟩
    · rename_i hw
      rw [iN hw]
      exact fC hq r _ _ h
def fm(ops:Array Oper)(E:Env):Option (Nat×Bool)→Option Bool
  |none=>some true
  |some (j,want) =>
    match ops[j]? with
    |none=>none
    |some o =>
      match o.dst with
      |none=>none
      |some d =>
        match (E.get d).cond,(E.get d).v with
        |true,.c (.bool X)=>some (X == want)
        |true,.t []=>some false
        |_,_=>none
def eW(E:Env):Option Tmp→Prop
  |none=>True
  |some d=>d<E.n
def Env.putD(E:Env):Option Tmp→Ent→Env
  |none,_=>E
  |some d,e=>E.put d e
def KR(k:Env→List OB→Prop)(kp:PV→Env→List OB→Prop):Kt
  |.normal,E,σ=>k E σ
  |.panic p,E,σ=>kp p E σ
  |_,_,_=>False
def oj(P:Program)(ops:Array Oper)(γ:Bool)(C:Prop)(f:FuncId)(args:List PV)(o:Oper)(r:List Oper)(E:Env)(σ:List OB)(k:Env→List OB→Prop)(kp:PV→Env→List OB→Prop):Prop :=
  cA P γ E σ o.op=.call C f args→fm ops E o.guard=some γ→WL P ops (o :: r) E σ (KR k kp)
def rE (P : Program) (ops : Array Oper) (γ : Bool) (o : Oper) (r : List Oper) (E : Env) (σ : List OB) (k : Env → List OB → Prop) (kp : PV → Env → List OB → Prop)
    (run:Env→List OB→Prop):R→Prop
  |.ok C v=>eW E o.dst∧C∧run (E.putD o.dst ⟨γ,v⟩) σ
  |.upd C v σ'=>eW E o.dst∧C∧run (E.putD o.dst ⟨true,v⟩) σ'
  |.call C f args=>oj P ops γ C f args o r E σ k kp
  |.bad=>False
def e7(P:Program)(ops:Array Oper):List Oper→Env→List OB→(Env→List OB→Prop)→(PV→Env→List OB→Prop)→Prop
  |[],E,σ,k,_=>k E σ
  |o :: r,E,σ,k,kp =>
    match fm ops E o.guard with
    |none=>False
    |some false=>eW E o.dst∧e7 P ops r (E.putD o.dst ⟨true,.t []⟩) σ k kp
    |some true=>rE P ops true o r E σ k kp (fun E' σ'=>e7 P ops r E' σ' k kp) (cA P true E σ o.op)
theorem pz{P:Program}{G:Gh}{E:Env}{σ:List OB}{a:Act}{w:World}{ops:Array Oper}{o:Oper}{γ:Bool}(hs:Sim G E σ a w)(h:fm ops E o.guard=some γ):Region.wanted o (yielded ops a.tmps)=γ:=by
  unfold fm at h
  unfold Region.wanted
  cases hg:o.guard with
  |none=>simp only [hg,sJ] at h;exact h
  |some jw =>
    obtain ⟨j,want⟩:=jw
    simp only [hg] at h ⊢
    split at h
    · cases h
    · rename_i o' ho'
      split at h
      · cases h
      · rename_i d hd
        split at h
        · rename_i X hc hv
          simp only [sJ] at h
          have hr:=hs.slot d hc
          rw [hv] at hr
          have hb:=py hr
          have hlt:d<a.tmps.size:=by
            rcases Nat.lt_or_ge d a.tmps.size with h'|h'
            · exact h'
            · have:a.tmps.getD d undef=undef:=by simp [Array.getD,Nat.not_lt.2 h']
              rw [this] at hb
              cases hb
          have hget:a.tmps[d]? = some (.bool X):=by
            rw [Array.getElem?_eq_getElem hlt]
            simp only [Array.getD,hlt,dif_pos] at hb
            simpa using hb
          have hy:yielded ops a.tmps j=some X:=by simp [yielded,ho',hd,hget]
          rw [hy,← h]
          cases X<;>cases want<;>rfl
        · rename_i hc hv
          simp only [sJ] at h
          have hr:=hs.slot d hc
          rw [hv] at hr
          obtain ⟨vs,hb,hvs⟩:=hr
          have hy:yielded ops a.tmps j=none:=by
            simp only [yielded,ho',hd,bSq]
            cases ht:a.tmps[d]? with
            |none=>rfl
            |some u =>
              have:a.tmps.getD d undef=u:=by simp [Array.getD_eq_getD_getElem?,ht]
              rw [this] at hb
              subst hb
              rfl
          rw [hy,← h]
          rfl
        · cases h
theorem Sim.putD{G:Gh}{E:Env}{σ:List OB}{a:Act}{w:World}(h:Sim G E σ a w)(d:Option Tmp)(hd:eW E d)(e:Ent)(v:Value)
    (hv:e.cond=true→bg G e.v v):Sim G (E.putD d e) σ (a.put d v) w:=by
  cases d with
  |none=>exact h
  |some d=>exact h.put d hd e v hv
theorem mm{P:Program}{ops:Array Oper}:∀ (l:List Oper) (E:Env) (σ:List OB) (k:Env→List OB→Prop) (kp:PV→Env→List OB→Prop),e7 P ops l E σ k kp→WL P ops l E σ (KR k kp)
  |[],E,σ,k,kp,h=>fun G a w hs=>⟨G,E,σ,.normal,Gle.refl G,hs,rfl,h⟩
  |o :: r,E,σ,k,kp,h=>by
    intro G a w hs
    unfold e7 at h
    split at h
    · exact h.elim
    · rename_i hγ
      have hw:=pz (P:=P) hs hγ
      unfold wpList
      rw [iN (by rw [hw];simp)]
      exact mm r _ _ _ _ h.2 G _ w (hs.putD o.dst h.1 _ undef fun _=>⟨[],rfl,trivial⟩)
    · rename_i hγ
      have hw:=pz (P:=P) hs hγ
      unfold rE at h
      split at h
      · rename_i C v hrun
        obtain ⟨hd,hC,hr⟩:=h
        have ih:=mm r _ _ _ _ hr
        unfold wpList
        rw [iP hw]
        obtain ⟨val,e1,e2⟩:=B5 hs rfl o hrun hC
        left
        unfold Oper.wp
        rw [e1]
        exact ih G _ w (hs.putD o.dst hd _ val fun _=>e2)
      · rename_i C v σ' hrun
        obtain ⟨hd,hC,hr⟩:=h
        unfold wpList
        rw [iP hw]
        have ih:=mm r _ _ _ _ hr
        obtain ⟨nx,val,w',G',e1,e2,e3,e4,e5,e6⟩:=AA hs rfl o hrun hC
        left
        unfold Oper.wp
        have hs':Sim G' (E.putD o.dst ⟨true,v⟩) σ' (a.put o.dst val) w':=(hs.ghost e5 e3.H e3.w0 e3.na e4).putD o.dst hd _ val fun _=>e6
        have:=fC (fun e a w h=>fj.back (Gle.mk' e3 e4) h) r _ _ (ih G' _ w' hs')
        rw [e1]
        rcases e2 with rfl|⟨rfl,rfl⟩
        · exact this
        · exact this
      · rename_i C f args hrun
        exact h hrun hγ G a w hs
      · exact h.elim
section rules
variable {P:Program} {K K':Kt} {E:Env} {σ:List OB}
theorem W.mono{c:Code}(hk:∀ x E σ,K x E σ→K' x E σ)(h:W P c K E σ):W P c K' E σ :=
  fun G a w hs=>Code.wp_mono (fun e a w hp=>fj.mono hk hp) (h G a w hs)
def wB(k:Env→List OB→Prop)(K:Kt):Kt
  |.normal,E,σ=>k E σ
  |x,E,σ=>K x E σ
theorem ai(h:K .normal E σ):W P .skip K E σ:=fun G _ _ hs=>wp_skip ⟨G,E,σ,.normal,Gle.refl G,hs,rfl,h⟩
theorem aY{id:Nat}(h:K (.exit id) E σ):W P (.exit id) K E σ:=fun G _ _ hs=>wp_exit ⟨G,E,σ,.exit id,Gle.refl G,hs,rfl,h⟩
theorem bm(h:K .ret E σ):W P .ret K E σ:=fun G _ _ hs=>wp_ret ⟨G,E,σ,.ret,Gle.refl G,hs,rfl,h⟩
theorem CH{G:Gh}{k:Env→List OB→Prop}{n:Act→World→Prop}(hn:∀ G' E σ a w,Gle G G'→Sim G' E σ a w→k E σ→n a w){e:Exit}{a:Act}{w:World}(h:fj G (wB k K) e a w) :
    Exit.then n (fj G K) e a w:=by
  obtain ⟨G',E,σ,x,h1,h2,h3,h4⟩:=h
  cases x with
  |normal=>cases h3;exact hn G' E σ a w h1 h2 h4
  |exit id=>cases h3;exact ⟨G',E,σ,.exit id,h1,h2,rfl,h4⟩
  |ret=>cases h3;exact ⟨G',E,σ,.ret,h1,h2,rfl,h4⟩
  |panic p=>obtain ⟨v,rfl,hv⟩:=h3;exact ⟨G',E,σ,.panic p,h1,h2,⟨v,rfl,hv⟩,h4⟩
theorem oL{x y:Code}(h:W P x (wB (W P y K) K) E σ):W P (.seq x y) K E σ:=fun G a w hs =>
  wp_seq (Code.wp_mono (fun _ _ _ hp=>CH (fun G' E σ a w hle hs' hk=>Code.wp_mono (fun _ _ _ hq=>fj.back hle hq) (hk G' a w hs')) hp) (h G a w hs))
theorem am{x y:Code}(h:∀ k:Env→List OB→Prop,(∀ E σ,W P y K E σ→k E σ)→W P x (wB k K) E σ):W P (.seq x y) K E σ:=oL (h _ fun _ _ h=>h)
theorem aJ{id:Nat}{l:List Oper}(h:∀ (k:Env→List OB→Prop) (kp:PV→Env→List OB→Prop),(∀ E σ,K .normal E σ→k E σ)→(∀ p E σ,K (.panic p) E σ→kp p E σ)→e7 P l.toArray l E σ k kp) :
    W P (.region id l.toArray false) K E σ:=fun G a w hs =>
  wp_region_lit (fC (fun _ _ _ hp=>fj.mono (fun x E σ hk=>by cases x<;>first|exact hk|exact hk.elim) hp)
    l a w (mm l E σ _ _ (h (K .normal) (fun p=>K (.panic p)) (fun _ _ h=>h) (fun _ _ _ h=>h)) G a w hs))
theorem Dt{c:Operand}{x y:Code}{X:Bool}(hc:ev E c=⟨true,.c (.bool X)⟩)(ht:X=true→W P x K E σ)(hf:X=false→W P y K E σ):W P (.cond c x y) K E σ:=fun G a w hs=>by
  have hr:=eG hs c (by rw [hc])
  rw [hc] at hr
  have:=py hr
  exact wp_cond_split this (fun h=>ht h G a w hs) (fun h=>hf h G a w hs)
def sr(id:Nat)(K:Kt):Kt
  |.exit i,E,σ=>if i=id then K .normal E σ else K (.exit i) E σ
  |x,E,σ=>K x E σ
theorem aq{id:Nat}{c:Code}(h:W P c (sr id K) E σ):W P (.block id c) K E σ:=fun G a w hs =>
  wp_block (Code.wp_mono (fun e a w hp=>by
    obtain ⟨G',E,σ,x,h1,h2,h3,h4⟩:=hp
    cases x with
    |normal=>cases h3;exact ⟨G',E,σ,.normal,h1,h2,rfl,h4⟩
    |exit i =>
      cases h3
      simp only [Exit.inBlock,sr] at h4 ⊢
      split
      · rename_i hi;rw [iP hi] at h4;exact ⟨G',E,σ,.normal,h1,h2,rfl,h4⟩
      · rename_i hi;rw [iN hi] at h4;exact ⟨G',E,σ,.exit i,h1,h2,rfl,h4⟩
    |ret=>cases h3;exact ⟨G',E,σ,.ret,h1,h2,rfl,h4⟩
    |panic p=>obtain ⟨v,rfl,hv⟩:=h3;exact ⟨G',E,σ,.panic p,h1,h2,⟨v,rfl,hv⟩,h4⟩) (h G a w hs))
def qq(E:Env):List (Nat×PV)→Prop
  |[]=>True
  |(i,p) :: r=>E.get i=⟨true,p⟩∧qq E r
def Env.ofList(n na:Nat):List (Nat×PV)→Env
  |[]=>⟨n,na,.nil⟩
  |(i,p) :: r=>(Env.ofList n na r).put i ⟨true,p⟩
def CV.under(n:Nat):CV→Prop
  |.optr b _=>b<n
  |.osl b _ _ _=>b<n
  |.oel b _ _ _=>b<n
  |.fn _ caps=>∀ c∈caps,match c with|.optr b _=>b<n|.osl b _ _ _=>b<n|.oel b _ _ _=>b<n|_=>True
  |_=>True
def dK(n:Nat):List CV→Prop
  |[]=>True
  |c :: r=>c.under n∧dK n r
def PV.under(n:Nat):PV→Prop
  |.c y=>y.under n
  |.a ys=>dK n ys
  |.t _=>False
  |.x=>True
def OB.under(n:Nat):OB→Prop
  |.box cs=>dK n cs
  |_=>True
def bY(n:Nat):List OB→Prop
  |[]=>True
  |o :: r=>o.under n∧bY n r
def oW(n:Nat):List (Nat×PV)→Prop
  |[]=>True
  |p :: r=>p.2.under n∧oW n r
theorem gm.drop{G G':Gh}{n:Nat}(hH:G'.H=G.H)(ho:G'.own=G.own.take n){c:CV}{v:Value}(hb:match c with|.optr b _=>b<n|.osl b _ _ _=>b<n|.oel b _ _ _=>b<n|_=>True)(h:gm G c v):gm G' c v:=by
  have hget:∀ b,b<n→G'.own[b]? = G.own[b]? := fun b hb=>by rw [ho,List.getElem?_take_of_lt hb]
  cases c
  case optr b off=>obtain ⟨h1,oo,h2,h3⟩:=h;exact ⟨h1,oo,(hget b hb).trans h2,h3⟩
  case osl b ver lo len=>obtain ⟨h1,oo,h2,h3⟩:=h;exact ⟨h1,oo,(hget b hb).trans h2,h3⟩
  case oel b ver i j=>obtain ⟨h1,oo,h2,h3⟩:=h;exact ⟨h1,oo,(hget b hb).trans h2,h3⟩
  all_goals (simp only [gm,hH] at h ⊢;exact h)
theorem Rep.drop{G G':Gh}{n:Nat}(hH:G'.H=G.H)(ho:G'.own=G.own.take n){c:CV}{v:Value}(hb:c.under n)(h:Rep G c v):Rep G' c v:=by
  cases c
  case fn f caps =>
    obtain ⟨vs,rfl,h2⟩:=h
    refine ⟨vs,rfl,?_⟩
    simp only [CV.under] at hb
    induction caps generalizing vs with
    |nil=>cases vs<;>simp_all [aW]
    |cons c cs ih =>
      cases vs with
      |nil=>simp [aW] at h2
      |cons v vs=>exact ⟨gm.drop hH ho (hb _ (by simp)) h2.1,ih (fun c hc=>hb c (by simp [hc])) vs h2.2⟩
  all_goals (simp only [Rep] at h ⊢;exact gm.drop hH ho (by simpa [CV.under] using hb) h)
theorem aW.under{G G':Gh}{n:Nat}(hH:G'.H=G.H)(ho:G'.own=G.own.take n):∀ {cs:List CV} {vs:List Value},dK n cs→aW (Rep G) cs vs→aW (Rep G') cs vs
  |[],[],_,_=>trivial
  |_ :: _,_ :: _,hb,h=>⟨Rep.drop hH ho hb.1 h.1,aW.under hH ho hb.2 h.2⟩
theorem bg.drop{G G':Gh}{n:Nat}(hH:G'.H=G.H)(ho:G'.own=G.own.take n){p:PV}{v:Value}(hb:p.under n)(h:bg G p v):bg G' p v:=by
  cases p with
  |x=>trivial
  |c y=>exact Rep.drop hH ho hb h
  |a ys=>obtain ⟨vs,rfl,h2⟩:=h;exact ⟨vs,rfl,aW.under hH ho hb h2⟩
  |t ps=>exact hb.elim
theorem ss{n:Nat}:∀ {τ:List OB},bY n τ→∀ (b:Nat) (ob:OB),τ[b]? = some ob→ob.under n
  |[],_,b,ob,h=>by simp at h
  |o :: r,hb,b,ob,h=>by
    cases b with
    |zero=>simp at h;subst h;exact hb.1
    |succ b=>exact ss hb.2 b ob (by simpa using h)
theorem Inv.drop{G:Gh}{σ τ:List OB}{w:World}(hi:Inv G (τ++σ) w)(hb:bY τ.length τ):Inv { G with own:=G.own.take τ.length } τ w:=by
  have hget:∀ b,b<τ.length→(G.own.take τ.length)[b]? = G.own[b]? := fun b hb=>List.getElem?_take_of_lt hb
  have hsome:∀ (b:Nat) (o:OG),(G.own.take τ.length)[b]? = some (some o)→G.own[b]? = some (some o):=by
    intro b o h
    rw [List.getElem?_take] at h
    split at h
    · exact h
    · cases h
  refine ⟨hi.hH,hi.hF,hi.HF,by simp [hi.len],fun b ob h=>?_,fun b b' o o' h h'=>hi.inj b b' o o' (hsome _ _ h) (hsome _ _ h'),fun b o h=>hi.sep b o (hsome _ _ h),hi.os,hi.tape,hi.output,hi.grow⟩
  have hlt:b<τ.length:=(List.getElem?_eq_some_iff.1 h).1
  have hok:=hi.own b ob (by rw [List.getElem?_append_left hlt];exact h)
  have hbl:=ss hb b ob h
  cases ob with
  |dead=>simpa [qn,hget b hlt] using hok
  |box cs =>
    obtain ⟨o,c,T,h1,h2,h3,h4,h5⟩:=hok
    exact ⟨o,c,T,(hget b hlt).trans h1,h2,h3,h4,aW.under (G:=G) (G':={ G with own:=G.own.take τ.length }) rfl rfl hbl h5⟩
  |arr s ver T es =>
    obtain ⟨o,h1,rest⟩:=hok
    exact ⟨o,(hget b hlt).trans h1,rest⟩
  |mp P k m =>
    obtain ⟨o,h1,rest⟩:=hok
    exact ⟨o,(hget b hlt).trans h1,rest⟩
theorem qq.sim{n na:Nat}:∀ (l:List (Nat×PV)) (i:Nat),((Env.ofList n na l).get i).cond=true→∃ p,(i,p)∈l∧(Env.ofList n na l).get i=⟨true,p⟩
  |[],i,h=>by simp [Env.ofList,Env.get,Tr.get,Tr.ent] at h
  |(j,p) :: r,i,h=>by
    unfold Env.ofList at h ⊢
    have hg:=Env.get_put (Env.ofList n na r) j i ⟨true,p⟩ h
    rw [hg] at h ⊢
    by_cases e:i=j
    · rw [iP e];exact ⟨p,by simp [e],rfl⟩
    · rw [iN e] at h ⊢
      obtain ⟨q,h1,h2⟩:=qq.sim r i h
      exact ⟨q,by simp [h1],h2⟩
theorem qq.mem{E:Env}:∀ {l:List (Nat×PV)},qq E l→∀ i p,(i,p)∈l→E.get i=⟨true,p⟩
  |[],_,i,p,h=>by simp at h
  |(j,q) :: r,hk,i,p,h=>by
    rcases List.mem_cons.1 h with e|h
    · simp only [Prod.mk.injEq] at e;obtain ⟨rfl,rfl⟩:=e;exact hk.1
    · exact qq.mem hk.2 i p h
theorem tq{n:Nat}:∀ {l:List (Nat×PV)},oW n l→∀ i p,(i,p)∈l→p.under n
  |[],_,i,p,h=>by simp at h
  |(j,q) :: r,hk,i,p,h=>by
    rcases List.mem_cons.1 h with e|h
    · simp only [Prod.mk.injEq] at e;obtain ⟨rfl,rfl⟩:=e;exact hk.1
    · exact tq hk.2 i p h
theorem mM(n na:Nat):∀ l,(Env.ofList n na l).n=n∧(Env.ofList n na l).na=na
  |[]=>⟨rfl,rfl⟩
  |_ :: r=>mM n na r
def FC(E:Env)(σ:List OB)(l:List (Nat×PV))(τ:List OB):Prop :=
  qq E l∧(∃ ρ,σ=τ++ρ)∧E.na≤τ.length∧bY τ.length τ∧oW τ.length l
theorem FC.sim{G:Gh}{E:Env}{σ τ:List OB}{l:List (Nat×PV)}{a:Act}{w:World}(h:FC E σ l τ)(hs:Sim G E σ a w) :
    ∃ G',Gle G G'∧Sim G' (Env.ofList E.n E.na l) τ a w:=by
  obtain ⟨hk,⟨ρ,rfl⟩,hna,hob,hsl⟩:=h
  refine ⟨{ G with own:=G.own.take τ.length },⟨⟨fun _ _ h=>h,rfl,rfl,rfl⟩,?_⟩,hs.inv.drop hob,hs.defers,by rw [(mM _ _ _).1];exact hs.size,by rw [(mM _ _ _).2];exact hs.na,fun i hc=>?_⟩
  · intro b oo hb hoo
    refine ⟨oo,?_,fun o' e=>⟨o',e,.inl rfl⟩⟩
    rw [hs.na] at hb
    simp only
    rw [List.getElem?_take_of_lt (by omega)];exact hoo
  · obtain ⟨p,h1,h2⟩:=qq.sim l i hc
    have hE:=hk.mem i p h1
    have hr:=hs.slot i (by rw [hE])
    rw [hE] at hr
    rw [h2]
    exact bg.drop (G:=G) (G':={ G with own:=G.own.take τ.length }) rfl rfl (tq hsl i p h1) hr
end rules
def cT(P:Program)(f:FuncId)(args:List PV)(σ:List OB)(post pp:PV→List OB→Prop):Prop :=
  (∃ fn,P.funcs[f]? = some fn∧fn.body.isSome=true∧(fn.name == "runtime.NumGoroutine")=false) ∧
  ∀ (G:Gh) (w:World) (vs:List Value),G.na=σ.length→G.w0.ds=[]→Inv G σ w→aW (bg G) args vs →
    Calls P f vs.toArray w fun e w'=>∃ G' σ' p v,Gle G G'∧Inv G' σ' w'∧bg G' p v∧((e=.returned v∧post p σ')∨(e=.panicked [{ v:=v,recovered:=false }]∧pp p σ'))
def PV.isV:PV→Bool
  |.t _=>false
  |_=>true
def CI(P:Program)(E:Env)(σ:List OB):ResultVar→Option (Prop×PV)
  |.tmp t=>some ((E.get t).cond=true,(E.get t).v)
  |.cell t T=>match qo P true σ T (E.get t) with|.ok C v=>some (C,v)|_=>none
def im(P:Program)(E:Env)(σ:List OB):List ResultVar→Option (Prop×List PV)
  |[]=>some (True,[])
  |r :: rs=>match CI P E σ r,im P E σ rs with|some (C,p),some (C',ps)=>some (C∧C',p :: ps)|_,_=>none
def gn:List PV→PV
  |[p]=>p
  |ps=>.t ps
def qr(P:Program)(rs:List ResultVar)(post pp:PV→List OB→Prop):Kt
  |.normal,E,σ=>(match im P E σ rs with|some (C,ps)=>C∧ps.all PV.isV=true∧post (gn ps) σ|none=>False)
  |.ret,E,σ=>(match im P E σ rs with|some (C,ps)=>C∧ps.all PV.isV=true∧post (gn ps) σ|none=>False)
  |.panic p,_,σ=>pp p σ
  |.exit _,_,_=>False
def j9:Nat→List PV→List (Nat×PV)
  |_,[]=>[]
  |i,p :: r=>(i,p) :: j9 (i+1) r
theorem su:∀ (l:List PV) (k i:Nat) (p:PV),(i,p)∈j9 k l→k≤i∧l[i - k]? = some p
  |[],k,i,p,h=>by simp [j9] at h
  |q :: l,k,i,p,h=>by
    unfold j9 at h
    rcases List.mem_cons.1 h with e|h
    · simp only [Prod.mk.injEq] at e;obtain ⟨rfl,rfl⟩:=e;simp
    · obtain ⟨h1,h2⟩:=su l (k+1) i p h
      refine ⟨by omega,?_⟩
      rw [show i - k=(i - (k+1))+1 by omega]
      simpa using h2
section
variable {P:Program} {G:Gh} {E:Env} {σ:List OB} {a:Act} {w:World}
theorem vt{val r:Value}{T:TypeId}(h:(Instr.loadAt T val).run P w=.ok r w):∃ x,val=.pointer (some x):=by
  unfold Instr.loadAt at h
  simp only [Sem.run_bind] at h
  cases val<;>first
    | (rename_i a; cases a with
       |none=>simp [Instr.sureAddr,Result.andThen] at h
       |some x=>exact ⟨x,rfl⟩)
    |(simp [Instr.sureAddr,Result.andThen] at h)
def xx(tmps:Array Value):ResultVar→Sem Value
  |.tmp t=>pure (tmps.getD t undef)
  |.cell b t=>do loadVar t (← asAddr (tmps.getD b undef))
theorem Bo(fn:Func)(tmps:Array Value):results fn tmps=(do let vs ← fn.results.mapM (xx tmps);pure (if h:vs.size=1 then vs[0] else .tuple vs)):=by
  unfold results
  congr 1
theorem yT(hs:Sim G E σ a w):∀ (rs:List ResultVar) (C:Prop) (ps:List PV),im P E σ rs=some (C,ps)→C →
    ∃ vs:List Value,(rs.mapM (xx a.tmps)).run P w=.ok vs w∧aW (bg G) ps vs
  |[],C,ps,h,_=>by
    simp only [im,sJ,Prod.mk.injEq] at h
    obtain ⟨_,rfl⟩:=h
    exact ⟨[],by simp,trivial⟩
  |r :: rs,C,ps,h,hC=>by
    unfold im at h
    split at h
    · rename_i C1 p C2 ps' h1 h2
      simp only [sJ,Prod.mk.injEq] at h
      obtain ⟨rfl,rfl⟩:=h
      obtain ⟨vs,e1,e2⟩:=yT hs rs C2 ps' h2 hC.2
      cases r with
      |tmp t =>
        simp only [CI,sJ,Prod.mk.injEq] at h1
        obtain ⟨rfl,rfl⟩:=h1
        exact ⟨a.tmps.getD t undef :: vs,by simp only [List.mapM_cons,Sem.run_bind,xx,Sem.run_pure,Result.andThen_ok,e1],hs.slot t hC.1,e2⟩
      |cell b T =>
        simp only [CI] at h1
        split at h1
        · rename_i C' v' hl
          simp only [sJ,Prod.mk.injEq] at h1
          obtain ⟨rfl,rfl⟩:=h1
          obtain ⟨r,k1,k2⟩:=At hl hC.1 rfl hs.inv (hs.slot b)
          obtain ⟨x,hx⟩:=vt k1
          refine ⟨r :: vs,?_,k2,e2⟩
          rw [hx] at k1
          have k1':(loadVar T x).run P w=.ok r w:=by simpa [Instr.loadAt,Instr.sureAddr] using k1
          simp only [List.mapM_cons,Sem.run_bind,xx,Sem.run_pure,hx,asAddr,Result.andThen_ok,k1',e1]
        · cases h1
    · cases h
theorem sv(hs:Sim G E σ a w){fn:Func}{rs:List ResultVar}(hr:fn.results.toList=rs){C:Prop}{ps:List PV}(h:im P E σ rs=some (C,ps))(hC:C)(hv:ps.all PV.isV=true) :
    ∃ v,(results fn a.tmps).run P w=.ok v w∧bg G (gn ps) v:=by
  obtain ⟨vs,e1,e2⟩:=yT hs rs C ps h hC
  have hm:(fn.results.mapM (xx a.tmps)).run P w=.ok vs.toArray w:=by
    rw [Array.mapM_eq_mapM_toList,hr]
    simp [e1]
  have hres:(results fn a.tmps).run P w=.ok (if h:vs.toArray.size=1 then vs.toArray[0] else .tuple vs.toArray) w:=by
    rw [Bo]
    simp only [Sem.run_bind,hm,Result.andThen_ok,Sem.run_pure]
  refine ⟨_,hres,?_⟩
  have hlen:=e2.length
  clear h
  match ps,vs,e2,hlen,hv with
  |[],[],_,_,_=>exact ⟨[],by simp,trivial⟩
  |[p],[v],e2,_,_=>simpa [gn] using e2.1
  |p :: q :: ps,v :: u :: vs,e2,_,hv =>
    refine ⟨v :: u :: vs,by simp,?_⟩
    have conv:∀ (l:List PV) (vs:List Value),l.all PV.isV=true→aW (bg G) l vs→aW (si G) l vs:=by
      intro l
      induction l with
      |nil=>intro vs _ h;cases vs<;>simp_all [aW]
      |cons p l ih =>
        intro vs hl h
        cases vs with
        |nil=>simp [aW] at h
        |cons v vs =>
          simp only [List.all_cons,Bool.and_eq_true] at hl
          refine ⟨?_,ih vs hl.2 h.2⟩
          have h1:=h.1
          cases p with
          |t=>simp [PV.isV] at hl
          |x=>trivial
          |c y=>exact h1
          |a ys=>exact h1
    exact conv _ _ hv e2
theorem EF{f:FuncId}{fn:Func}{c:Code}{args:List PV}{post pp:PV→List OB→Prop}(n:Nat)(rs:List ResultVar)(hf:P.funcs[f]? = some fn)(hb:fn.body=some c)(hn:fn.ntmps=n)(hr:fn.results.toList=rs)
    (hname:(fn.name == "runtime.NumGoroutine")=false) (hlen:args.length≤n)
    (h:W P c (qr P rs post pp) (Env.ofList n σ.length (j9 0 args)) σ):cT P f args σ post pp:=by
  refine ⟨⟨fn,hf,by rw [hb];rfl,hname⟩,fun G w vs hna hds hi hargs=>?_⟩
  have hl:=hargs.length
  refine calls_of_wp hf hb ?_
  have hs:Sim G (Env.ofList n σ.length (j9 0 args)) σ { tmps:=vs.toArray++Array.replicate (fn.ntmps - vs.toArray.size) undef,defers:=[] } w:=by
    refine ⟨hi,hds.symm,by rw [(mM _ _ _).1,hn];simp;omega,by rw [(mM _ _ _).2];exact hna,fun i hc=>?_⟩
    obtain ⟨p,h1,h2⟩:=qq.sim _ i hc
    rw [h2]
    obtain ⟨_,h3⟩:=su args 0 i p h1
    simp only [Nat.sub_zero] at h3
    obtain ⟨v,hv,hrep⟩:=hargs.get i p h3
    have hlt:i<vs.length:=(List.getElem?_eq_some_iff.1 hv).1
    have:(vs.toArray++Array.replicate (fn.ntmps - vs.toArray.size) undef).getD i undef=v:=by
      rw [Array.getD_eq_getD_getElem?,Array.getElem?_append_left (by simpa using hlt)]
      simp [hv]
    simp only [this]
    exact hrep
  refine Code.wp_mono (fun e a w' hp=>?_) (h G _ w hs)
  obtain ⟨G',E',σ',x,h1,h2,h3,h4⟩:=hp
  have fin:∀ e,(e=.normal∨e=.ret)→(match im P E' σ' rs with|some (C,ps)=>C∧ps.all PV.isV=true∧post (gn ps) σ'|none=>False) →
      bodyPost P fn (fun e w'=>∃ G' σ' p v,Gle G G'∧Inv G' σ' w'∧bg G' p v∧((e=.returned v∧post p σ')∨(e=.panicked [{ v:=v,recovered:=false }]∧pp p σ'))) e a w':=by
    intro e he hk
    split at hk
    · rename_i C ps hres
      obtain ⟨hC,hv,hpost⟩:=hk
      obtain ⟨v,k1,k2⟩:=sv h2 hr hres hC hv
      rcases he with rfl|rfl
      · exact ⟨h2.defers.trans (by rw [h1.le.w0];exact hds),v,k1,G',σ',_,v,h1,h2.inv,k2,.inl ⟨rfl,hpost⟩⟩
      · exact ⟨h2.defers.trans (by rw [h1.le.w0];exact hds),v,k1,G',σ',_,v,h1,h2.inv,k2,.inl ⟨rfl,hpost⟩⟩
    · exact hk.elim
  cases x with
  |normal=>cases h3;exact fin _ (.inl rfl) h4
  |ret=>cases h3;exact fin _ (.inr rfl) h4
  |exit id=>exact h4.elim
  |panic p =>
    obtain ⟨v,rfl,hv⟩:=h3
    exact ⟨h2.defers.trans (by rw [h1.le.w0];exact hds),G',σ',p,v,h1,h2.inv,hv,.inr ⟨rfl,h4⟩⟩
theorem ue{γ:Bool}{C:Prop}{f:FuncId}{args:List PV}(hs:Sim G E σ a w)(hγ:γ=true)(o:Oper)(h:cA P γ E σ o.op=.call C f args)(hC:C)
    (hf:∃ fn,P.funcs[f]? = some fn∧fn.body.isSome=true∧(fn.name == "runtime.NumGoroutine")=false) :
    ∃ vs:List Value,(execOp a.eval o).run P w=.ok (.enter f vs.toArray) w∧aW (bg G) args vs:=by
  cases hop:o.op
  all_goals (rw [hop] at h;simp only [cA] at h)
  case call c =>
    split at h
    · rename_i g hcal
      unfold xl at h
      split at h
      · rename_i g' caps hg
        have hargs:∀ (l:List Operand),(∀ e∈l.map (ev E),aR γ e)→aW (bg G) ((l.map (ev E)).map (·.v)) (l.map a.eval):=by
          intro l
          induction l with
          |nil=>intro _;trivial
          |cons x l ih=>intro hn;exact ⟨eG hs x (hn _ (by simp) hγ),ih fun e he=>hn e (by simp only [List.map_cons,List.mem_cons];exact .inr he)⟩
        have hcap':∀ cvs,aW (gm G) caps cvs→aW (bg G) (caps.map .c) cvs:=by
          intro cvs hcap
          clear hg h
          induction caps generalizing cvs with
          |nil=>cases cvs<;>simp_all [aW]
          |cons c cs ih =>
            cases cvs with
            |nil=>simp [aW] at hcap
            |cons v vs =>
              refine ⟨?_,ih vs hcap.2⟩
              have h1:=hcap.1
              cases c
              case fn=>cases h1
              all_goals exact h1
        obtain ⟨fn,k1,k2,k3⟩:=hf
        have k2':¬ fn.body=none:=by intro e;simp [e] at k2
        have k3':¬ fn.name = "runtime.NumGoroutine":=by simpa using k3
        split at h
        · rename_i hlt
          simp only [R.call.injEq] at h
          obtain ⟨rfl,rfl,rfl⟩:=h
          obtain ⟨h1,h2⟩:=hC
          have hr:=eG hs g h1
          rw [hg] at hr
          obtain ⟨cvs,hv,hcap⟩:=hr
          rw [iP hlt] at hv
          refine ⟨c.args.toList.map a.eval++cvs,?_,(hargs _ h2).append (hcap' _ hcap)⟩
          have harr:c.args.map a.eval++cvs.toArray=(c.args.toList.map a.eval++cvs).toArray:=by apply Array.ext';simp
          simp [execOp,hop,resolve,hcal,Deferred.ofValue,hv,invoke,callFunc,k1,k2',k3',harr]
        · rename_i hlt
          obtain ⟨al,hal⟩:∃ al,al=c.args.toList.map (ev E):=⟨_,rfl⟩
          rw [← hal] at h
          cases al with
          |cons=>cases h
          |nil =>
            have hca:c.args=#[]:=by
              have:c.args.toList=[]:=by simpa using hal.symm
              exact Array.toList_inj.1 this
            unfold xk at h
            simp only [R.call.injEq] at h
            obtain ⟨rfl,hff,rfl⟩:=h
            have hr:=eG hs g hC
            rw [hg] at hr
            obtain ⟨cvs,hv,hcap⟩:=hr
            rw [iN hlt,hff] at hv
            clear hlt hff
            refine ⟨cvs,?_,hcap' _ hcap⟩
            simp [execOp,hop,resolve,hcal,Deferred.ofValue,hv,invoke,callFunc,k1,k2',k3',hca]
      · cases h
    · rename_i b hcal
      unfold jZ at h
      split at h
      · unfold ur at h;split at h<;>cases h
      · split at h
        · unfold pk at h
          split at h
          · cases h
          · split at h<;>first|cases h|(split at h<;>cases h)
        · cases h
      · unfold jY at h;split at h<;>cases h
      · unfold jY at h;split at h<;>cases h
      · cases h
    · cases h
  case move=>cases h
  case assign=>cases h
  case pick=>unfold uy at h;split at h<;>cases h
  case alloc=>unfold pP at h;split at h<;>cases h
  case box=>unfold zo at h;cases h
  case build=>unfold sm at h;split at h<;>first|cases h|(split at h<;>cases h)
  case buildSlice=>unfold jX at h;split at h<;>first|cases h|(split at h<;>cases h)
  case load=>unfold qo at h;split at h<;>first|cases h|(split at h<;>cases h)
  case store=>unfold qp at h;split at h<;>first|cases h|(split at h<;>cases h)
  case nilCheck=>unfold kL at h;split at h<;>cases h
  case binOp=>unfold n8 at h;split at h<;>first|cases h|(split at h<;>first|cases h|(split at h<;>first|cases h|(split at h<;>cases h)))
  case unOp=>unfold unR at h;split at h<;>cases h
  case convert=>unfold uz at h;split at h<;>cases h
  case fieldAddr=>unfold gT at h;split at h<;>cases h
  case field=>unfold sj at h;split at h<;>cases h
  case indexAddr=>unfold fT at h;split at h<;>first|cases h|(split at h<;>cases h)
  case index=>unfold oe at h;split at h<;>cases h
  case extract=>unfold oh at h;split at h<;>cases h
  case slice =>
    unfold pO at h
    split at h
    · split at h
      · split at h
        · split at h<;>cases h
        · cases h
      · cases h
    · split at h<;>first|cases h|(split at h<;>first|cases h|(split at h<;>cases h))
  case makeSlice=>unfold lK at h;split at h<;>cases h
  case makeFunc=>unfold ml at h;split at h<;>first|cases h|(split at h<;>cases h)
  all_goals cases h
end
def dJ{α:Type}:List α→List Nat→List α→List α
 |σ,[],xs=>σ++xs
 |σ,b :: ρ,x :: xs=>dJ (σ.set b x) ρ xs
 |σ,_ :: _,[]=>σ
section dJ
variable {α:Type}
theorem sw:∀ (ρ:List Nat) (σ xs:List α),ρ.length≤xs.length→(dJ σ ρ xs).length=σ.length+(xs.length - ρ.length)
 |[],σ,xs,_=>by simp [dJ]
 |b :: ρ,σ,[],h=>by simp at h
 |b :: ρ,σ,x :: xs,h=>by simp only [dJ];rw [sw ρ _ xs (by simpa using h)];simp
theorem nV:∀ (ρ:List Nat) (σ xs:List α) (b:Nat),ρ.length≤xs.length→b ∉ ρ→b<σ.length→(dJ σ ρ xs)[b]? = σ[b]?
 |[],σ,xs,b,_,_,hb=>by simp only [dJ];exact List.getElem?_append_left hb
 |c :: ρ,σ,[],b,h,_,_=>by simp at h
 |c :: ρ,σ,x :: xs,b,h,hn,hb=>by
  simp only [dJ]
  rw [nV ρ _ xs b (by simpa using h) (fun h=>hn (by simp [h])) (by simpa using hb)]
  exact List.getElem?_set_ne (fun e=>hn (by simp [e]))
theorem tt:∀ (ρ:List Nat) (σ xs:List α) (k b:Nat),ρ.Nodup→ρ.length≤xs.length→(∀ b∈ρ,b<σ.length)→ρ[k]? = some b→(dJ σ ρ xs)[b]? = xs[k]?
 |[],σ,xs,k,b,_,_,_,h=>by simp at h
 |c :: ρ,σ,[],k,b,_,h,_,_=>by simp at h
 |c :: ρ,σ,x :: xs,k,b,hnd,hl,hlt,h=>by
  simp only [dJ]
  have hc:c<σ.length:=hlt c (by simp)
  have hnd':=List.nodup_cons.1 hnd
  cases k with
  |zero =>
   simp only [List.getElem?_cons_zero,sJ] at h ⊢
   subst h
   rw [nV ρ _ xs c (by simpa using hl) hnd'.1 (by simpa using hc)]
   simp [hc]
  |succ k =>
   simp only [List.getElem?_cons_succ] at h ⊢
   exact tt ρ _ xs k b hnd'.2 (by simpa using hl) (fun b hb=>by simpa using hlt b (by simp [hb])) h
theorem uf:∀ (ρ:List Nat) (σ xs:List α) (j:Nat),ρ.length≤xs.length→(dJ σ ρ xs)[σ.length+j]? = xs[ρ.length+j]?
 |[],σ,xs,j,_=>by simp only [dJ];rw [List.getElem?_append_right (by omega)];congr 1;simp
 |c :: ρ,σ,[],j,h=>by simp at h
 |c :: ρ,σ,x :: xs,j,h=>by
  simp only [dJ]
  have:=uf ρ (σ.set c x) xs j (by simpa using h)
  rw [List.length_set] at this
  rw [this]
  simp [Nat.add_right_comm]
end dJ
def CV.ren0(r:Nat→Nat):CV→CV
 |.optr b off=>.optr (r b) off
 |.osl b ver lo len=>.osl (r b) ver lo len
 |.oel b ver i j=>.oel (r b) ver i j
 |c=>c
def CV.ren(r:Nat→Nat):CV→CV
 |.fn f caps=>.fn f (caps.map (CV.ren0 r))
 |c=>c.ren0 r
def PV.ren(r:Nat→Nat):PV→PV
 |.c y=>.c (y.ren r)
 |.a ys=>.a (ys.map (CV.ren r))
 |.t ps=>.t (ps.map fun p=>match p with|.c y=>.c (y.ren r)|.a ys=>.a (ys.map (CV.ren r))|q=>q)
 |.x=>.x
def OB.ren(r:Nat→Nat):OB→OB
 |.box cs=>.box (cs.map (CV.ren r))
 |o=>o
theorem gm.map{G G':Gh}(hH:∀ b o,G.H b=some o→G'.H b=some o)(r:Nat→Nat)(hr:∀ (b:Nat) (oo:Option OG),G.own[b]? = some oo→G'.own[r b]? = some oo){c:CV}{v:Value}(h:gm G c v):gm G' (c.ren0 r) v:=by
 cases c
 case optr b off=>obtain ⟨h1,oo,h2,h3⟩:=h;exact ⟨h1,oo,hr b oo h2,h3⟩
 case osl b ver lo len=>obtain ⟨h1,oo,h2,h3⟩:=h;exact ⟨h1,oo,hr b oo h2,h3⟩
 case oel b ver i j=>obtain ⟨h1,oo,h2,h3⟩:=h;exact ⟨h1,oo,hr b oo h2,h3⟩
 all_goals (simp only [gm,CV.ren0] at h ⊢;exact br.mono hH h)
theorem aW.map_left{α β γ:Type}{R:α→β→Prop}{R':γ→β→Prop}(f:α→γ)(h:∀ a b,R a b→R' (f a) b):∀ {az:List α} {bs:List β},aW R az bs→aW R' (az.map f) bs
 |[],[],_=>trivial
 |_ :: _,_ :: _,⟨h1,h2⟩=>⟨h _ _ h1,aW.map_left f h h2⟩
theorem Rep.map{G G':Gh}(hH:∀ b o,G.H b=some o→G'.H b=some o)(r:Nat→Nat)(hr:∀ (b:Nat) (oo:Option OG),G.own[b]? = some oo→G'.own[r b]? = some oo){c:CV}{v:Value}(h:Rep G c v):Rep G' (c.ren r) v:=by
 cases c
 case fn f caps=>obtain ⟨vs,rfl,h2⟩:=h;exact ⟨vs,rfl,aW.map_left _ (fun _ _ h=>gm.map hH r hr h) h2⟩
 case optr b off=>exact gm.map (G:=G) (c:=.optr b off) hH r hr h
 case osl b ver lo len=>exact gm.map (G:=G) (c:=.osl b ver lo len) hH r hr h
 case oel b ver i j=>exact gm.map (G:=G) (c:=.oel b ver i j) hH r hr h
 all_goals (simp only [Rep,CV.ren,CV.ren0] at h ⊢;simp only [gm] at h ⊢;exact br.mono hH h)
theorem si.map{G G':Gh}(hH:∀ b o,G.H b=some o→G'.H b=some o)(r:Nat→Nat)(hr:∀ (b:Nat) (oo:Option OG),G.own[b]? = some oo→G'.own[r b]? = some oo){p:PV}{v:Value}(h:si G p v):si G' (p.ren r) v:=by
 cases p with
 |x=>trivial
 |c y=>exact Rep.map hH r hr h
 |a ys=>obtain ⟨vs,rfl,h2⟩:=h;exact ⟨vs,rfl,aW.map_left _ (fun _ _ h=>Rep.map hH r hr h) h2⟩
 |t ps=>exact h.elim
theorem bg.map{G G':Gh}(hH:∀ b o,G.H b=some o→G'.H b=some o)(r:Nat→Nat)(hr:∀ (b:Nat) (oo:Option OG),G.own[b]? = some oo→G'.own[r b]? = some oo){p:PV}{v:Value}(h:bg G p v):bg G' (p.ren r) v:=by
 cases p with
 |x=>trivial
 |c y=>exact Rep.map hH r hr h
 |a ys=>exact si.map (p:=.a ys) hH r hr h
 |t ps =>
  obtain ⟨vs,rfl,h2⟩:=h
  refine ⟨vs,rfl,aW.map_left _ (fun p v h=>?_) h2⟩
  cases p with
  |x=>trivial
  |c y=>exact Rep.map hH r hr h
  |a ys=>exact si.map (p:=.a ys) hH r hr h
  |t ps=>exact h.elim
theorem gm.unmap{G G':Gh}{n:Nat}(hH:G'.H=G.H)(r:Nat→Nat)(hr:∀ b,b<n→G'.own[b]? = G.own[r b]?){c:CV}{v:Value}(hb:match c with|.optr b _=>b<n|.osl b _ _ _=>b<n|.oel b _ _ _=>b<n|_=>True)(h:gm G (c.ren0 r) v):gm G' c v:=by
 cases c
 case optr b off=>obtain ⟨h1,oo,h2,h3⟩:=h;exact ⟨h1,oo,(hr b hb).trans h2,h3⟩
 case osl b ver lo len=>obtain ⟨h1,oo,h2,h3⟩:=h;exact ⟨h1,oo,(hr b hb).trans h2,h3⟩
 case oel b ver i j=>obtain ⟨h1,oo,h2,h3⟩:=h;exact ⟨h1,oo,(hr b hb).trans h2,h3⟩
 all_goals (simp only [gm,CV.ren0] at h ⊢;rw [hH];exact h)
theorem Rep.unmap{G G':Gh}{n:Nat}(hH:G'.H=G.H)(r:Nat→Nat)(hr:∀ b,b<n→G'.own[b]? = G.own[r b]?){c:CV}{v:Value}(hb:c.under n)(h:Rep G (c.ren r) v):Rep G' c v:=by
 cases c
 case fn f caps =>
  obtain ⟨vs,rfl,h2⟩:=h
  refine ⟨vs,rfl,?_⟩
  simp only [CV.under] at hb
  induction caps generalizing vs with
  |nil=>cases vs<;>simp_all [aW]
  |cons c cs ih =>
   cases vs with
   |nil=>simp [aW] at h2
   |cons v vs=>exact ⟨gm.unmap hH r hr (hb _ (by simp)) h2.1,ih (fun c hc=>hb c (by simp [hc])) vs h2.2⟩
 case optr b off=>exact gm.unmap (G:=G) (c:=.optr b off) hH r hr hb h
 case osl b ver lo len=>exact gm.unmap (G:=G) (c:=.osl b ver lo len) hH r hr hb h
 case oel b ver i j=>exact gm.unmap (G:=G) (c:=.oel b ver i j) hH r hr hb h
 all_goals (simp only [Rep,CV.ren,CV.ren0] at h ⊢;simp only [gm] at h ⊢;rw [hH];exact h)
theorem aW.unmap{G G':Gh}{n:Nat}(hH:G'.H=G.H)(r:Nat→Nat)(hr:∀ b,b<n→G'.own[b]? = G.own[r b]?):∀ {cs:List CV} {vs:List Value},dK n cs→aW (Rep G) (cs.map (CV.ren r)) vs→aW (Rep G') cs vs
 |[],[],_,_=>trivial
 |_ :: _,_ :: _,hb,h=>⟨Rep.unmap hH r hr hb.1 h.1,aW.unmap hH r hr hb.2 h.2⟩
theorem bg.unmap{G G':Gh}{n:Nat}(hH:G'.H=G.H)(r:Nat→Nat)(hr:∀ b,b<n→G'.own[b]? = G.own[r b]?){p:PV}{v:Value}(hb:p.under n)(h:bg G (p.ren r) v):bg G' p v:=by
 cases p with
 |x=>trivial
 |c y=>exact Rep.unmap hH r hr hb h
 |a ys=>obtain ⟨vs,rfl,h2⟩:=h;exact ⟨vs,rfl,aW.unmap hH r hr hb h2⟩
 |t ps=>exact hb.elim
def du(n:Nat)(ρ:List Nat)(k:Nat):Nat:=if k<ρ.length then ρ.getD k 0 else n+(k - ρ.length)
theorem vu{n k b:Nat}{ρ:List Nat}(h:ρ[k]? = some b):du n ρ k=b:=by
 have hkl:=(List.getElem?_eq_some_iff.1 h).1
 unfold du
 rw [iP hkl,List.getD_eq_getElem?_getD,h];rfl
open Classical in
noncomputable def uO(G:Gh)(w:World)(ρ:List Nat)(b:Nat):Option Obj :=
 match G.F b with
 |some o=>some o
 |none=>if ∃ i o,i ∉ ρ∧G.own[i]? = some (some o)∧o.has=true∧o.blk=b then w.heap[b]? else none
section
variable {P:Program} {G:Gh} {E:Env} {σ:List OB} {a:Act} {w:World}
noncomputable def cY(G:Gh)(w:World)(ρ:List Nat):Gh:={ H:=G.H,F:=uO G w ρ,own:=ρ.map fun b=>G.own.getD b none,w0:={ G.w0 with ds:=[] },na:=ρ.length,tabs:=G.tabs }
theorem oX{ρ:List Nat}(hi:Inv G σ w)(hlt:∀ b∈ρ,b<σ.length)(b:Nat)(hb:b<ρ.length):(cY G w ρ).own[b]? = G.own[du σ.length ρ b]? := by
 have hm:ρ[b]<G.own.length:=by rw [hi.len];exact hlt _ (List.getElem_mem hb)
 simp only [cY,du,hb,if_true,List.getElem?_map,List.getElem?_eq_getElem hb,Option.map_some,List.getD,Option.getD_some,List.getElem?_eq_getElem hm]
theorem sx{ρ:List Nat}{σc:List OB}(hi:Inv G σ w)(hnd:ρ.Nodup)(hlt:∀ b∈ρ,b<σ.length)(hlen:σc.length=ρ.length)
  (hσ:∀ (k:Nat) (ob:OB),σc[k]? = some ob→∃ b,ρ[k]? = some b∧σ[b]? = some (ob.ren (du σ.length ρ))) (hb:bY ρ.length σc):Inv (cY G w ρ) σc w:=by
 have hown:=oX (w:=w) hi hlt
 have hF:∀ b o,uO G w ρ b=some o→(G.F b=some o)∨(w.heap[b]? = some o∧∃ i o',i ∉ ρ∧G.own[i]? = some (some o')∧o'.has=true∧o'.blk=b):=by
  intro b o h
  unfold uO at h
  split at h
  ·rename_i o' ho;left;rw [ho];exact h
  ·split at h
   ·rename_i hex;exact .inr ⟨h,hex⟩
   ·cases h
 have hk:∀ (k:Nat) (o:OG),(cY G w ρ).own[k]? = some (some o)→∃ b,ρ[k]? = some b∧G.own[b]? = some (some o):=by
  intro k o h
  have hkl:k<ρ.length:=by
   have:=(List.getElem?_eq_some_iff.1 h).1
   simpa [cY] using this
  rw [hown k hkl] at h
  refine ⟨ρ[k],List.getElem?_eq_getElem hkl,?_⟩
  rw [vu (List.getElem?_eq_getElem hkl)] at h;exact h
 refine ⟨hi.hH,?_,?_,by simp [cY,hlen],?_,?_,?_,hi.os,hi.tape,hi.output,hi.grow⟩
 ·intro b o h
  rcases hF b o h with h|⟨h,_⟩
  ·exact hi.hF b o h
  ·exact h
 ·intro b o h
  rcases hF b o h with h|⟨_,i,o',_,h2,h3,h4⟩
  ·exact hi.HF b o h
  ·rw [← h4];exact (hi.sep i o' h2 h3).1
 ·intro k ob h
  obtain ⟨b,h1,h2⟩:=hσ k ob h
  have hkl:k<ρ.length:=(List.getElem?_eq_some_iff.1 h1).1
  have hbk:du σ.length ρ k=b:=vu h1
  have hok:=hi.own b _ h2
  have hbl:=ss hb k ob h
  have ho:(cY G w ρ).own[k]? = G.own[b]? := by rw [hown k hkl,hbk]
  cases ob with
  |dead=>simpa [qn,OB.ren,ho] using hok
  |box cs =>
   obtain ⟨o,c,T,g1,g2,g3,g4,g5⟩:=hok
   exact ⟨o,c,T,ho.trans g1,g2,g3,g4,aW.unmap (G:=G) (G':=cY G w ρ) rfl _ hown hbl g5⟩
  |arr s ver T es =>
   obtain ⟨o,g1,rest⟩:=hok
   exact ⟨o,ho.trans g1,rest⟩
  |mp P k m =>
   obtain ⟨o,g1,rest⟩:=hok
   exact ⟨o,ho.trans g1,rest⟩
 ·intro k k' o o' h h' hh hh' he
  obtain ⟨b,h1,h2⟩:=hk k o h
  obtain ⟨b',h1',h2'⟩:=hk k' o' h'
  have:=hi.inj b b' o o' h2 h2' hh hh' he
  subst this
  have hkl:=(List.getElem?_eq_some_iff.1 h1).1
  exact (List.getElem?_inj hkl hnd).1 (h1.trans h1'.symm)
 ·intro k o h hh
  obtain ⟨b,h1,h2⟩:=hk k o h
  obtain ⟨s1,s2⟩:=hi.sep b o h2 hh
  refine ⟨s1,?_⟩
  show uO G w ρ o.blk=none
  cases hf:uO G w ρ o.blk with
  |none=>rfl
  |some x =>
   rcases hF _ _ hf with h|⟨_,i,o',k1,k2,k3,k4⟩
   ·rw [s2] at h;cases h
   ·have:=hi.inj i b o' o k2 h2 k3 hh k4
    subst this
    exact (k1 (List.mem_of_getElem? h1)).elim
theorem qT{ρ:List Nat}{σ':List OB}{G':Gh}{w':World}(hi:Inv G σ w)(hnd:ρ.Nodup)(hlt:∀ b∈ρ,b<σ.length)
  (hle:Gle (cY G w ρ) G') (hi':Inv G' σ' w') (hl:ρ.length≤σ'.length) :
  ∃ G'',Gle G G''∧bG G.own G''.own∧Inv G'' (dJ σ ρ (σ'.map (OB.ren (du σ.length ρ)))) w'∧(∀ p v,bg G' p v→bg G'' (p.ren (du σ.length ρ)) v):=by
 have hown:=oX (w:=w) hi hlt
 have hlen':G'.own.length=σ'.length:=hi'.len
 have hlo:ρ.length≤G'.own.length:=by omega
 have hltG:∀ b∈ρ,b<G.own.length:=fun b hb=>by rw [hi.len];exact hlt b hb
 have hr:∀ (b:Nat) (oo:Option OG),G'.own[b]? = some oo→(dJ G.own ρ G'.own)[du σ.length ρ b]? = some oo:=by
  intro b oo h
  unfold du
  by_cases hb:b<ρ.length
  ·rw [iP hb,tt ρ _ _ b _ hnd hlo hltG (show ρ[b]? = some (ρ.getD b 0) by simp [List.getD,List.getElem?_eq_getElem hb])];exact h
  ·rw [iN hb,← hi.len,uf ρ _ _ _ hlo,show ρ.length+(b - ρ.length)=b by omega];exact h
 have hsrc:∀ (b:Nat) (oo:Option OG),(dJ G.own ρ G'.own)[b]? = some oo→(b ∉ ρ∧G.own[b]? = some oo)∨∃ k,G'.own[k]? = some oo∧du σ.length ρ k=b:=by
  intro b oo h
  by_cases hm:b∈ρ
  ·obtain ⟨k,hk⟩:=List.mem_iff_getElem?.1 hm
   have hkl:=(List.getElem?_eq_some_iff.1 hk).1
   rw [tt ρ _ _ k b hnd hlo hltG hk] at h
   exact .inr ⟨k,h,vu hk⟩
  ·rcases Nat.lt_or_ge b G.own.length with hb|hb
   ·rw [nV ρ _ _ b hlo hm hb] at h;exact .inl ⟨hm,h⟩
   ·obtain ⟨j,rfl⟩:∃ j,b=G.own.length+j:=⟨b - G.own.length,by omega⟩
    rw [uf ρ _ _ j hlo] at h
    refine .inr ⟨ρ.length+j,h,?_⟩
    unfold du;rw [iN (by omega),hi.len];omega
 have hF1:∀ b o,G.F b=some o→G'.F b=some o:=by
  intro b o h
  rw [hle.le.F];simp [cY,uO,h]
 have hF2:∀ (i:Nat) (o:OG),i ∉ ρ→G.own[i]? = some (some o)→o.has=true→G'.F o.blk=w.heap[o.blk]? ∧ ∃ x,w.heap[o.blk]? = some x:=by
  intro i o hn ho hh
  have hs:=(hi.sep i o ho hh).2
  refine ⟨?_,?_⟩
  ·rw [hle.le.F]
   simp only [cY,uO,hs]
   rw [iP ⟨i,o,hn,ho,hh,rfl⟩]
  ·have:=rl hi ho hh
   exact ⟨_,Array.getElem?_eq_getElem this⟩
 have hkeep:∀ (i:Nat) (o:OG),i ∉ ρ→G.own[i]? = some (some o)→o.has=true→w'.heap[o.blk]? = w.heap[o.blk]? := by
  intro i o hn ho hh
  obtain ⟨h1,x,h2⟩:=hF2 i o hn ho hh
  rw [h2] at h1
  rw [h2];exact hi'.hF _ _ h1
 have hOL:bG G.own (dJ G.own ρ G'.own):=by
  intro b oo h
  by_cases hm:b∈ρ
  ·obtain ⟨k,hk⟩:=List.mem_iff_getElem?.1 hm
   have hkl:=(List.getElem?_eq_some_iff.1 hk).1
   have hc:(cY G w ρ).own[k]? = some oo:=by rw [hown k hkl,vu hk];exact h
   obtain ⟨oo',q1,q2⟩:=hle.own k oo hkl hc
   exact ⟨oo',by rw [tt ρ _ _ k b hnd hlo hltG hk];exact q1,q2⟩
  ·have hb:b<G.own.length:=(List.getElem?_eq_some_iff.1 h).1
   exact ⟨oo,by rw [nV ρ _ _ b hlo hm hb];exact h,fun o' e=>⟨o',e,.inl rfl⟩⟩
 have hH:∀ b o,G.H b=some o→G'.H b=some o:=hle.le.H
 refine ⟨{ H:=G'.H,F:=G.F,own:=dJ G.own ρ G'.own,w0:=G.w0,na:=G.na,tabs:=G'.tabs },⟨⟨hH,rfl,rfl,rfl⟩,.of_le hOL⟩,hOL,?_,fun p v h=>bg.map (G:=G') (G':={ H:=G'.H,F:=G.F,own:=dJ G.own ρ G'.own,w0:=G.w0,na:=G.na,tabs:=G'.tabs }) (fun _ _ h=>h) _ hr h⟩
 have hw0:G'.w0.toWorld=G.w0.toWorld:=by rw [hle.le.w0];rfl
 refine ⟨hi'.hH,fun b o h=>hi'.hF b o (hF1 b o h),fun b o h=>hi'.HF b o (hF1 b o h),?_,?_,?_,?_,by rw [← hw0];exact hi'.os,by rw [← hw0];exact hi'.tape,by rw [← hw0];exact hi'.output,by rw [← hw0];exact hi'.grow⟩
 ·simp only
  rw [sw _ _ _ hlo,sw _ _ _ (by simpa using hl)];simp [hi.len,hlen']
 ·have back_ok:∀ (k b:Nat) (ob:OB),σ'[k]? = some ob→du σ.length ρ k=b→qn { H:=G'.H,F:=G.F,own:=dJ G.own ρ G'.own,w0:=G.w0,na:=G.na,tabs:=G'.tabs } w' b (ob.ren (du σ.length ρ)):=by
   intro k b ob h1 h2
   have hok:=hi'.own k ob h1
   have hkl:k<G'.own.length:=by rw [hlen'];exact (List.getElem?_eq_some_iff.1 h1).1
   have ho:(dJ G.own ρ G'.own)[b]? = G'.own[k]? := by
    rw [← h2,hr k _ (List.getElem?_eq_getElem hkl),List.getElem?_eq_getElem hkl]
   cases ob with
   |dead=>simpa [qn,OB.ren,ho] using hok
   |box cs =>
    obtain ⟨o,c,T,g1,g2,g3,g4,g5⟩:=hok
    exact ⟨o,c,T,ho.trans g1,g2,g3,g4,aW.map_left _ (fun _ _ h=>Rep.map (G:=G') (G':={ H:=G'.H,F:=G.F,own:=dJ G.own ρ G'.own,w0:=G.w0,na:=G.na,tabs:=G'.tabs }) (fun _ _ h=>h) (du σ.length ρ) hr h) g5⟩
   |arr s ver T es =>
    obtain ⟨o,g1,rest⟩:=hok
    exact ⟨o,ho.trans g1,rest⟩
   |mp P k m =>
    obtain ⟨o,g1,rest⟩:=hok
    exact ⟨o,ho.trans g1,rest⟩
  intro b ob h
  by_cases hm:b∈ρ
  ·obtain ⟨k,hk⟩:=List.mem_iff_getElem?.1 hm
   have hkl:=(List.getElem?_eq_some_iff.1 hk).1
   rw [tt ρ _ _ k b hnd (by simpa using hl) hlt hk,List.getElem?_map,Option.map_eq_some_iff] at h
   obtain ⟨ob',h1,rfl⟩:=h
   exact back_ok k b ob' h1 (vu hk)
  ·rcases Nat.lt_or_ge b σ.length with hb|hb
   ·rw [nV ρ _ _ b (by simpa using hl) hm hb] at h
    refine (hi.own b ob h).keep hH hOL ?_ fun o ho hh=>hkeep b o hm ho hh
    exact nV ρ _ _ b hlo hm (by rw [hi.len];exact hb)
   ·obtain ⟨j,rfl⟩:∃ j,b=σ.length+j:=⟨b - σ.length,by omega⟩
    rw [uf ρ _ _ j (by simpa using hl),List.getElem?_map,Option.map_eq_some_iff] at h
    obtain ⟨ob',h1,rfl⟩:=h
    refine back_ok (ρ.length+j) _ ob' h1 ?_
    unfold du;rw [iN (by omega)];omega
 ·intro b b' o o' h h' hh hh' he
  rcases hsrc b _ h with ⟨n1,g1⟩|⟨k,g1,e1⟩<;>rcases hsrc b' _ h' with ⟨n2,g2⟩|⟨k',g2,e2⟩
  ·exact hi.inj b b' o o' g1 g2 hh hh' he
  ·obtain ⟨q1,x,q2⟩:=hF2 b o n1 g1 hh
   have:=(hi'.sep k' o' g2 hh').2
   rw [← he,q1,q2] at this;cases this
  ·obtain ⟨q1,x,q2⟩:=hF2 b' o' n2 g2 hh'
   have:=(hi'.sep k o g1 hh).2
   rw [he,q1,q2] at this;cases this
  ·have:=hi'.inj k k' o o' g1 g2 hh hh' he
   rw [← e1,← e2,this]
 ·intro b o h hh
  rcases hsrc b _ h with ⟨n1,g1⟩|⟨k,g1,e1⟩
  ·obtain ⟨q1,x,q2⟩:=hF2 b o n1 g1 hh
   rw [q2] at q1
   exact ⟨hi'.HF _ _ q1,(hi.sep b o g1 hh).2⟩
  ·obtain ⟨q1,q2⟩:=hi'.sep k o g1 hh
   refine ⟨q1,?_⟩
   cases hf:G.F o.blk with
   |none=>rfl
   |some x=>rw [hF1 _ _ hf] at q2;cases q2
def fp(n:Nat):List PV→Prop
 |[]=>True
 |p :: r=>p.under n∧fp n r
theorem aW.unmapP{G G':Gh}{n:Nat}(hH:G'.H=G.H)(r:Nat→Nat)(hr:∀ b,b<n→G'.own[b]? = G.own[r b]?):∀ {cs:List PV} {vs:List Value},fp n cs→aW (bg G) (cs.map (PV.ren r)) vs→aW (bg G') cs vs
 |[],[],_,_=>trivial
 |_ :: _,_ :: _,hb,h=>⟨bg.unmap hH r hr hb.1 h.1,aW.unmapP hH r hr hb.2 h.2⟩
theorem wC{ops:Array Oper}{C:Prop}{f:FuncId}{args:List PV}{o:Oper}{r:List Oper}{k:Env→List OB→Prop}{kp:PV→Env→List OB→Prop}
  {args':List PV} {σc:List OB} {post pp:PV→List OB→Prop} (hs:cT P f args' σc post pp) (ρ:List Nat) (hd:eW E o.dst) (hC:C) (hnd:ρ.Nodup) (hlt:∀ b∈ρ,b<σ.length)
  (hargs:args=args'.map (PV.ren (du σ.length ρ))) (hσ:ρ.map (fun b=>σ[b]?)=σc.map fun ob=>some (ob.ren (du σ.length ρ))) (hu:fp ρ.length args') (hub:bY ρ.length σc)
  (next:∀ p σ',post p σ'→ρ.length≤σ'.length→WL P ops r (E.putD o.dst ⟨true,p.ren (du σ.length ρ)⟩) (dJ σ ρ (σ'.map (OB.ren (du σ.length ρ)))) (KR k kp))
  (npanic:∀ p σ',pp p σ'→ρ.length≤σ'.length→kp (p.ren (du σ.length ρ)) E (dJ σ ρ (σ'.map (OB.ren (du σ.length ρ))))) :
  oj P ops true C f args o r E σ k kp:=by
 intro hrun hg G a w hsim
 have hw:=pz (P:=P) hsim hg
 obtain ⟨hf,hcall⟩:=hs
 obtain ⟨vs,e1,e2⟩:=ue hsim rfl o hrun hC hf
 have hi:=hsim.inv
 have hlen:σc.length=ρ.length:=by have:=congrArg List.length hσ;simpa using this.symm
 have hσ':∀ (k:Nat) (ob:OB),σc[k]? = some ob→∃ b,ρ[k]? = some b∧σ[b]? = some (ob.ren (du σ.length ρ)):=by
  intro k ob h
  have hk:k<ρ.length:=by rw [← hlen];exact (List.getElem?_eq_some_iff.1 h).1
  have:=congrArg (fun l=>l[k]?) hσ
  simp only [List.getElem?_map,h,Option.map_some,List.getElem?_eq_getElem hk,sJ] at this
  exact ⟨ρ[k],List.getElem?_eq_getElem hk,this⟩
 have hci:=sx hi hnd hlt hlen hσ' hub
 have hown:=oX (w:=w) hi hlt
 rw [hargs] at e2
 have hcv:=hcall (cY G w ρ) w vs (by simp [cY,hlen]) rfl hci (aW.unmapP (G:=G) (G':=cY G w ρ) rfl _ hown hu e2)
 unfold wpList
 rw [iP hw]
 left
 unfold Oper.wp
 rw [e1]
 refine hcv.mono fun e w' hres=>?_
 obtain ⟨G',σ',p,v,h1,h2,h3,h4⟩:=hres
 have hl:ρ.length≤σ'.length:=by
  rw [← h2.len]
  rcases Nat.eq_zero_or_pos ρ.length with e0|e0
  ·omega
  ·have hlast:(cY G w ρ).own[ρ.length - 1]? = some ((cY G w ρ).own[ρ.length - 1]'(by simp [cY];omega)):=List.getElem?_eq_getElem _
   obtain ⟨oo',q1,_⟩:=h1.own _ _ (by simp [cY];omega) hlast
   have:=(List.getElem?_eq_some_iff.1 q1).1
   omega
 obtain ⟨G'',g1,g2,g3,g4⟩:=qT hi hnd hlt h1 h2 hl
 rcases h4 with ⟨rfl,h4⟩|⟨rfl,h4⟩
 ·have hrun':=next p σ' h4 hl
  have hs':Sim G'' (E.putD o.dst ⟨true,p.ren (du σ.length ρ)⟩) (dJ σ ρ (σ'.map (OB.ren (du σ.length ρ)))) (a.put o.dst v) w' :=
   (hsim.ghost g3 g1.le.H g1.le.w0 g1.le.na g2).putD o.dst hd _ v fun _=>g4 p v h3
  exact fC (fun _ _ _ h=>fj.back g1 h) r _ _ (hrun' G'' _ w' hs')
 ·exact ⟨G'',E,_,.panic _,g1,hsim.ghost g3 g1.le.H g1.le.w0 g1.le.na g2,⟨v,rfl,g4 p v h3⟩,npanic p σ' h4 hl⟩
def a8(P:Program)(f:FuncId)(args:List PV)(r:PV):Prop:=cT P f args [] (fun p σ'=>p=r∧σ'=[]) (fun _ _=>False)
def PV.noOwn:PV→Bool
 |.c y=>y.flat || (match y with|.fn _ caps=>caps.all CV.flat|_=>false)
 |.a ys=>ys.all CV.flat
 |.x=>true
 |.t _=>false
theorem CV.flat_ren{c:CV}(h:c.flat=true)(r:Nat→Nat):c.ren r=c∧∀ n,c.under n:=by
 cases c<;>first|(simp [CV.flat] at h;done)|exact ⟨rfl,fun _=>trivial⟩
theorem zv{cs:List CV}(h:cs.all CV.flat=true)(r:Nat→Nat):cs.map (CV.ren r)=cs∧∀ n,dK n cs:=by
 induction cs with
 |nil=>exact ⟨rfl,fun _=>trivial⟩
 |cons c cs ih =>
  simp only [List.all_cons,Bool.and_eq_true] at h
  obtain ⟨h1,h2⟩:=CV.flat_ren h.1 r
  obtain ⟨h3,h4⟩:=ih h.2
  exact ⟨by simp [h1,h3],fun n=>⟨h2 n,h4 n⟩⟩
theorem PV.noOwn_ren{p:PV}(h:p.noOwn=true)(r:Nat→Nat):p.ren r=p∧∀ n,p.under n:=by
 cases p with
 |x=>exact ⟨rfl,fun _=>trivial⟩
 |t ps=>simp [PV.noOwn] at h
 |a ys=>obtain ⟨h1,h2⟩:=zv h r;exact ⟨by simp [PV.ren,h1],h2⟩
 |c y =>
  by_cases hf:y.flat=true
  ·obtain ⟨h1,h2⟩:=CV.flat_ren hf r;exact ⟨by simp [PV.ren,h1],h2⟩
  ·cases y
   case fn f caps =>
    have h':caps.all CV.flat=true:=by simpa [PV.noOwn,CV.flat] using h
    constructor
    ·simp only [PV.ren,CV.ren]
     congr 2
     clear h hf
     induction caps with
     |nil=>rfl
     |cons c cs ih =>
      simp only [List.all_cons,Bool.and_eq_true] at h'
      simp only [List.map_cons,ih h'.2]
      congr 1
      cases c<;>first|rfl|(simp [CV.flat] at h')
    ·intro n
     simp only [PV.under,CV.under]
     intro c hc
     have:=(List.all_eq_true.1 h') c hc
     cases c<;>first|trivial|(simp [CV.flat] at this)
   all_goals simp_all [PV.noOwn]
theorem yC{ops:Array Oper}{γ:Bool}{C:Prop}{f:FuncId}{args:List PV}{o:Oper}{r:List Oper}{k:Env→List OB→Prop}{kp:PV→Env→List OB→Prop}
  {res:PV} (hs:γ=true→a8 P f args res) (hd:eW E o.dst) (hC:γ=true→C) (hargs:args.all PV.noOwn=true) (hres:res.ren (du σ.length [])=res)
  (next:WL P ops r (E.putD o.dst ⟨γ,res⟩) σ (KR k kp)):oj P ops γ C f args o r E σ k kp:=by
 cases γ with
 |true =>
  have ha:args.map (PV.ren (du σ.length []))=args∧fp 0 args:=by
   clear hs
   induction args with
   |nil=>exact ⟨rfl,trivial⟩
   |cons p l ih =>
    simp only [List.all_cons,Bool.and_eq_true] at hargs
    obtain ⟨h1,h2⟩:=PV.noOwn_ren hargs.1 (du σ.length [])
    obtain ⟨h3,h4⟩:=ih hargs.2
    exact ⟨by simp [h1,h3],h2 0,h4⟩
  refine wC (hs rfl) [] hd (hC rfl) List.nodup_nil (by simp) ha.1.symm (by simp) ha.2 trivial ?_ (fun _ _ h=>h.elim)
  rintro p σ' ⟨rfl,rfl⟩ _
  simpa [dJ,hres] using next
 |false =>
  intro _ hg G a w hsim
  have hw:=pz (P:=P) hsim hg
  unfold wpList
  rw [iN (by rw [hw];simp)]
  exact next G _ w (hsim.putD o.dst hd _ undef fun hc=>by cases hc)
end
structure TD where
 ok:Bool:=false
 size:Nat:=0
 bytes:Nat:=0
 agg:Bool:=false
 sl:Bool:=false
 arr:Bool:=false
 str:Bool:=false
 bool:Bool:=false
 int:Bool:=false
 ptr:Bool:=false
 elem:TypeId:=0
 alen:Nat:=0
 kind:IntKind:=.i64
 fs:List (Nat×TypeId):=[]
 fk:Bool:=false
 zero:Option (List CV):=none
 flat:Option (List Nat):=none
structure cU (P:Program) (T:TypeId) (d:TD):Prop where
 known:cx P T=true
 und:(P.underlying T).isSome=true
 size:P.cellsOf T=d.size
 bytes:P.bytesOf T=d.bytes
 agg:n7 P T=d.agg
 sl:lJ P T=d.sl
 arr:pt P T=d.arr
 str:pV P T=d.str
 bool:xg P T=d.bool
 int:xh P T=d.int
 ptr:BY P T=d.ptr
 elem:P.elem T=d.elem
 alen:P.arrayLen T=d.alen
 kind:P.intKind T=d.kind
 fk:pw P T=d.fk
 zero:mG P T=d.zero
 flat:Aq P T=d.flat
 fld:∀ i,i<d.fs.length→qQ P T i=true∧nn P T i=(d.fs.getD i (0,0)).1∧tl P T i=(d.fs.getD i (0,0)).2
theorem Env.get_put'(E:Env)(i j:Nat)(e:Ent)(h:i<512):(E.put i e).get j=if j=i then e else E.get j:=by
  unfold Env.get Env.put
  simp only
  have hb:i / 64<8:=by omega
  rw [Tr.get_put _ _ _ _ hb]
  by_cases e1:j / 64=i / 64
  · rw [iP e1,Tr.get_put _ _ _ _ (Nat.mod_lt _ (by decide))]
    by_cases e2:j / 8 % 8=i / 8 % 8
    · rw [iP e2,Tr.get_put _ _ _ _ (Nat.mod_lt _ (by decide))]
      by_cases e3:j % 8=i % 8
      · have:j=i:=by omega
        subst this
        simp [Tr.ent]
      · have:j≠i:=by omega
        rw [iN e3,iN this,e1,e2]
    · have:j≠i:=by omega
      rw [iN e2,iN this,e1]
  · have:j≠i:=by omega
    rw [iN e1,iN this]
theorem Env.get_big(E:Env)(i:Nat)(h:512≤i):(E.get i).cond=false:=by
  unfold Env.get
  rw [Tr.get_big E.t (i / 64) (by omega)]
  simp [Tr.get,Tr.ent]
def kG(o:Oper):Bool :=
  match o.op with
  |.move _|.assign _|.pick ..|.load ..|.nilCheck _|.binOp ..|.unOp ..|.convert ..|.fieldAddr ..|.field ..|.indexAddr ..|.index ..|.extract ..|.slice ..|.build ..|.makeFunc ..=>false
  |.call c=>(match c.callee with|.builtin .len|.builtin .min|.builtin .max=>false|_=>true)
  |_=>true
def ep(o:Oper):List Nat:=(o.after.toList.filter (Region.binds .any)).map (·.on)
def orM(masks:List Nat):List Nat→Nat
  |[]=>0
  |j :: r=>(2 ^ j ||| masks.getD j 0) ||| orM masks r
theorem vw(masks:List Nat)(k:Nat):∀ l,(orM masks l).testBit k=true→∃ j∈l,j=k∨(masks.getD j 0).testBit k=true
  |[],h=>by simp [orM] at h
  |j :: r,h=>by
    simp only [orM,Nat.testBit_or,Bool.or_eq_true,Nat.testBit_two_pow] at h
    rcases h with (h|h)|h
    · exact ⟨j,by simp,.inl (by simpa using h)⟩
    · exact ⟨j,by simp,.inr h⟩
    · obtain ⟨j',h1,h2⟩:=vw masks k r h
      exact ⟨j',by simp [h1],h2⟩
def zw(ops:Array Oper)(x y:Oper):Bool :=
  match x.dst with
  |none=>false
  |some d=>(y.looksAt ops).contains d || y.dst == some d
def om(masks:List Nat)(i j:Nat):Bool:=i == j || (masks.getD i 0).testBit j || (masks.getD j 0).testBit i
def chk(ops:Array Oper)(l:List Oper)(masks:List Nat)(bar:List Bool):Bool :=
  (l.zipIdx.all fun (o,i)=>masks.getD i 0 == orM masks (ep o) && (ep o).all (·<i) &&
    (match o.dst with|some d=>decide (d<512)|none=>true) && (o.looksAt ops).all (·<512)) &&
  (l.zipIdx.all fun (x,i)=>l.zipIdx.all fun (y,j)=>(!(kG x && kG y) || om masks i j) && (!(zw ops x y) || om masks i j) && (!(bar.getD i false) || om masks i j))
structure TS where
  γ:Bool
  e:Ent
  σ:List OB
def Ext(σ σ':List OB):Prop:=∃ ρ,σ'=σ++ρ
def rm(P:Program)(σ:List OB)(f:FuncId)(args:List PV)(p:PV)(σ2:List OB):Prop :=
  ∃ (args':List PV) (σc:List OB) (post pp:PV→List OB→Prop) (ρ:List Nat),cT P f args' σc post pp∧ρ.Nodup∧(∀ b∈ρ,b<σ.length)∧args=args'.map (PV.ren (du σ.length ρ)) ∧
    ρ.map (fun b=>σ[b]?)=σc.map (fun ob=>some (ob.ren (du σ.length ρ)))∧fp ρ.length args'∧bY ρ.length σc ∧
    (∀ q τ,post q τ→ρ.length≤τ.length→q.ren (du σ.length ρ)=p∧dJ σ ρ (τ.map (OB.ren (du σ.length ρ)))=σ2)∧(∀ q τ,pp q τ→False)
def Du(P:Program)(ops:Array Oper)(E:Env)(σ:List OB)(o:Oper)(bar:Bool)(ts:TS):Prop :=
  fm ops E o.guard=some ts.γ∧eW E o.dst ∧
  ((∃ C v, cA P ts.γ E σ o.op = .ok C v ∧ C ∧ ts.e = ⟨ts.γ, v⟩ ∧ ts.σ = σ) ∨
   (ts.γ=true∧∃ C v,cA P ts.γ E σ o.op=.upd C v ts.σ∧C∧ts.e=⟨true,v⟩∧(bar=true∨Ext σ ts.σ)) ∨
   (∃ C f args r,cA P ts.γ E σ o.op=.call C f args∧(ts.γ=true→C∧a8 P f args r)∧args.all PV.noOwn=true∧(∀ n,r.ren (du n [])=r)∧ts.e=⟨ts.γ,r⟩∧ts.σ=σ) ∨
   (ts.γ=false∧ts.e=⟨true,.t []⟩∧ts.σ=σ) ∨
   (ts.γ=true∧∃ C f args p,cA P ts.γ E σ o.op=.call C f args∧C∧rm P σ f args p ts.σ∧ts.e=⟨true,p⟩∧(bar=true∨Ext σ ts.σ)) ∨
   (ts.γ=true∧kG o=true∧∃ v,(∀ E',(∀ x∈o.op.operands,ev E' x=ev E x)→∀ G a w,Sim G E' σ a w→zt P G (execOp a.eval o) w v ts.σ)∧ts.e=⟨true,v⟩∧(bar=true∨Ext σ ts.σ)))
def tu(P:Program)(ops:Array Oper):List Oper→List Bool→Env→List OB→List TS→Prop
  |[],_,_,_,tr=>tr=[]
  |o :: l,bs,E,σ,tr=>∃ ts r,tr=ts :: r∧Du P ops E σ o (bs.headD false) ts∧tu P ops l bs.tail (E.putD o.dst ts.e) ts.σ r
def cR(E:Env):List Oper→List TS→Nat→Env
  |o :: l,ts :: tr,k+1=>cR (E.putD o.dst ts.e) l tr k
  |_,_,_=>E
def bh(σ:List OB):List TS→Nat→List OB
  |ts :: tr,k+1=>bh ts.σ tr k
  |_,_=>σ
def io(t:Tmp):List Oper→List TS→(Nat→Bool)→Ent→Ent
  |o :: l,ts :: tr,d,e=>io t l tr (fun j=>d (j+1)) (if d 0=true∧o.dst=some t then ts.e else e)
  |_,_,_,e=>e
section
variable {P:Program} {ops:Array Oper}
theorem tu.at:∀ {l:List Oper} {bs:List Bool} {E:Env} {σ:List OB} {tr:List TS},tu P ops l bs E σ tr→tr.length=l.length ∧
    ∀ (i:Nat) (o:Oper),l[i]? = some o→∃ ts,tr[i]? = some ts∧Du P ops (cR E l tr i) (bh σ tr i) o (bs.getD i false) ts∧bh σ tr (i+1)=ts.σ
  |[],bs,E,σ,tr,h=>by simp only [tu] at h;subst h;exact ⟨rfl,fun i o h=>by simp at h⟩
  |o :: l,bs,E,σ,tr,h=>by
    obtain ⟨ts,r,rfl,h1,h2⟩:=h
    obtain ⟨h3,h4⟩:=tu.at h2
    refine ⟨by simp [h3],fun i o' ho=>?_⟩
    cases i with
    |zero =>
      simp only [List.getElem?_cons_zero,sJ] at ho
      subst ho
      refine ⟨ts,rfl,?_,?_⟩
      · cases bs<;>exact h1
      · cases r<;>rfl
    |succ i =>
      obtain ⟨ts',k1,k2,k3⟩:=h4 i o' (by simpa using ho)
      refine ⟨ts',by simpa using k1,?_,?_⟩
      · cases bs<;>simpa [cR,bh] using k2
      · simpa [bh] using k3
theorem je(t:Tmp):∀ (l:List Oper) (tr:List TS) (d d':Nat→Bool) (e:Ent),(∀ j o,l[j]? = some o→o.dst=some t→d j=d' j)→io t l tr d e=io t l tr d' e
  |[],tr,d,d',e,_=>by simp [io]
  |o :: l,[],d,d',e,_=>by simp [io]
  |o :: l,ts :: tr,d,d',e,h=>by
    simp only [io]
    have:(if d 0=true∧o.dst=some t then ts.e else e)=(if d' 0=true∧o.dst=some t then ts.e else e):=by
      by_cases ho:o.dst=some t
      · rw [h 0 o (by simp) ho]
      · simp [ho]
    rw [this]
    exact je t l tr _ _ _ fun j o' hj hd=>h (j+1) o' (by simpa using hj) hd
theorem kq(t:Tmp)(l:List Oper)(tr:List TS)(d:Nat→Bool)(e:Ent)(h:∀ j o,l[j]? = some o→o.dst=some t→d j=false):io t l tr d e=e:=by
  rw [je t l tr d (fun _=>false) e h]
  clear h
  induction l generalizing tr e with
  |nil=>simp [io]
  |cons o l ih =>
    cases tr with
    |nil=>simp [io]
    |cons ts tr=>simp only [io];rw [ih];simp
theorem yU(t:Tmp):∀ (l:List Oper) (tr:List TS) (d:Nat→Bool) (e:Ent) (i:Nat) (o:Oper) (ts:TS),l[i]? = some o→tr[i]? = some ts→o.dst=some t →
    (∀ j o',l[j]? = some o'→o'.dst=some t→i<j→d j=false)→io t l tr (fun j=>if j=i then true else d j) e=ts.e
  |[],tr,d,e,i,o,ts,h,_,_,_=>by simp at h
  |x :: l,[],d,e,i,o,ts,_,h,_,_=>by simp at h
  |x :: l,y :: tr,d,e,i,o,ts,h1,h2,h3,h4=>by
    simp only [io]
    cases i with
    |zero =>
      simp only [List.getElem?_cons_zero,sJ] at h1 h2
      subst h1;subst h2
      rw [kq]
      · simp [h3]
      · intro j o' hj hd
        simp only [Nat.add_eq_zero_iff,Nat.one_ne_zero,and_false,if_false]
        exact h4 (j+1) o' (by simpa using hj) hd (by omega)
    |succ i =>
      have:=yU t l tr (fun j=>d (j+1)) (if (if 0=i+1 then true else d 0)=true∧x.dst=some t then y.e else e) i o ts (by simpa using h1) (by simpa using h2) h3
        (fun j o' hj hd hij=>h4 (j+1) o' (by simpa using hj) hd (by omega))
      rw [← this]
      apply je
      intro j o' _ _
      simp
theorem qU(t:Tmp)(l:List Oper)(tr:List TS)(d:Nat→Bool)(e:Ent)(i:Nat)(o:Oper)(h:l[i]? = some o)(hd:o.dst≠some t):io t l tr (fun j=>if j=i then true else d j) e=io t l tr d e:=by
  apply je
  intro j o' hj hdj
  by_cases e:j=i
  · subst e;rw [h] at hj;simp only [sJ] at hj;subst hj;exact (hd hdj).elim
  · simp [e]
theorem Dv(E:Env)(d:Option Tmp)(e:Ent)(t:Tmp)(h:∀ x,d=some x→x<512):(E.putD d e).get t=if d=some t then e else E.get t:=by
  cases d with
  |none=>simp [Env.putD]
  |some x =>
    simp only [Env.putD]
    rw [Env.get_put' E x t e (h x rfl)]
    by_cases he:t=x
    · subst he;simp
    · have:x≠t:=fun h=>he h.symm
      simp [he,this]
theorem rF(t:Tmp):∀ (l:List Oper) (tr:List TS) (E:Env) (k:Nat),(∀ (j:Nat) (o:Oper) (x:Nat),l[j]? = some o→o.dst=some x→x<512)→tr.length=l.length→(cR E l tr k).get t=io t l tr (fun j=>decide (j<k)) (E.get t)
  |[],tr,E,k,_,_=>by cases k<;>simp [cR,io]
  |o :: l,[],E,k,_,h=>by simp at h
  |o :: l,ts :: tr,E,0,_,_=>by
    simp only [cR]
    rw [kq]
    intro j o' _ _;simp
  |o :: l,ts :: tr,E,k+1,hx,h=>by
    simp only [cR,io]
    rw [rF t l tr _ k (fun j o' x hj hd=>hx (j+1) o' x (by simpa using hj) hd) (by simpa using h)]
    rw [Dv _ _ _ _ (fun x hd=>hx 0 o x (by simp) hd)]
    have e1:(fun j=>decide (j+1<k+1))=(fun j=>decide (j<k)):=by funext j;simp
    simp [e1]
theorem uP{γ:Bool}{E:Env}{σ:List OB}{o:Oper}(h:kG o=false):(∀ C v σ',cA P γ E σ o.op≠.upd C v σ')∧∀ C f args,cA P γ E σ o.op≠.call C f args:=by
  unfold kG at h
  constructor
  · intro C v σ' hr
    cases hop:o.op
    all_goals (rw [hop] at h hr;simp only [cA] at hr;try (simp at h;done))
    case move=>cases hr
    case assign=>cases hr
    case pick=>unfold uy at hr;split at hr<;>cases hr
    case build=>unfold sm at hr;split at hr<;>first|cases hr|(split at hr<;>cases hr)
    case load=>unfold qo at hr;split at hr<;>first|cases hr|(split at hr<;>cases hr)
    case nilCheck=>unfold kL at hr;split at hr<;>cases hr
    case binOp=>unfold n8 at hr;split at hr<;>first|cases hr|(split at hr<;>first|cases hr|(split at hr<;>first|cases hr|(split at hr<;>cases hr)))
    case unOp=>unfold unR at hr;split at hr<;>cases hr
    case convert=>unfold uz at hr;split at hr<;>cases hr
    case fieldAddr=>unfold gT at hr;split at hr<;>cases hr
    case field=>unfold sj at hr;split at hr<;>cases hr
    case indexAddr=>unfold fT at hr;split at hr<;>first|cases hr|(split at hr<;>cases hr)
    case index=>unfold oe at hr;split at hr<;>cases hr
    case extract=>unfold oh at hr;split at hr<;>cases hr
    case slice =>
      unfold pO at hr
      split at hr
      · split at hr
        · split at hr
          · split at hr<;>cases hr
          · cases hr
        · cases hr
      · split at hr<;>first|cases hr|(split at hr<;>first|cases hr|(split at hr<;>cases hr))
    case makeFunc=>unfold ml at hr;split at hr<;>first|cases hr|(split at hr<;>cases hr)
    case call c =>
      split at hr
      · simp_all
      · rename_i b hb
        simp only [hb] at h
        unfold jZ at hr
        split at hr
        · unfold ur at hr;split at hr<;>cases hr
        · simp at h
        · unfold jY at hr;split at hr<;>cases hr
        · unfold jY at hr;split at hr<;>cases hr
        · cases hr
      · cases hr
  · intro C f args hr
    cases hop:o.op
    all_goals (rw [hop] at h hr;simp only [cA] at hr;try (simp at h;done))
    case move=>cases hr
    case assign=>cases hr
    case pick=>unfold uy at hr;split at hr<;>cases hr
    case build=>unfold sm at hr;split at hr<;>first|cases hr|(split at hr<;>cases hr)
    case load=>unfold qo at hr;split at hr<;>first|cases hr|(split at hr<;>cases hr)
    case nilCheck=>unfold kL at hr;split at hr<;>cases hr
    case binOp=>unfold n8 at hr;split at hr<;>first|cases hr|(split at hr<;>first|cases hr|(split at hr<;>first|cases hr|(split at hr<;>cases hr)))
    case unOp=>unfold unR at hr;split at hr<;>cases hr
    case convert=>unfold uz at hr;split at hr<;>cases hr
    case fieldAddr=>unfold gT at hr;split at hr<;>cases hr
    case field=>unfold sj at hr;split at hr<;>cases hr
    case indexAddr=>unfold fT at hr;split at hr<;>first|cases hr|(split at hr<;>cases hr)
    case index=>unfold oe at hr;split at hr<;>cases hr
    case extract=>unfold oh at hr;split at hr<;>cases hr
    case slice =>
      unfold pO at hr
      split at hr
      · split at hr
        · split at hr
          · split at hr<;>cases hr
          · cases hr
        · cases hr
      · split at hr<;>first|cases hr|(split at hr<;>first|cases hr|(split at hr<;>cases hr))
    case makeFunc=>unfold ml at hr;split at hr<;>first|cases hr|(split at hr<;>cases hr)
    case call c =>
      split at hr
      · simp_all
      · rename_i b hb
        unfold jZ at hr
        split at hr
        · unfold ur at hr;split at hr<;>cases hr
        · split at hr
          · unfold pk at hr
            split at hr
            · cases hr
            · split at hr<;>first|cases hr|(split at hr<;>cases hr)
          · cases hr
        · unfold jY at hr;split at hr<;>cases hr
        · unfold jY at hr;split at hr<;>cases hr
        · cases hr
      · cases hr
end
end Pam
