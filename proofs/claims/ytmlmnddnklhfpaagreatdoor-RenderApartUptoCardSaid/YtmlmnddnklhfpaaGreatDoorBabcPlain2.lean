/- the parser on an expression's tokens: ranks, the whole -/
import Derived.Test.YtmlmnddnklhfpaaGreatDoorBBase3
import Derived.Test.YtmlmnddnklhfpaaGreatDoorBabcPlain1
import Derived.Test.YtmlmnddnklhfpaaGreatDoorBabcFun1
set_option linter.all false
namespace Pam
open Go
theorem Fr(k:Int):(sgK k).2.1=n9 k∧(sgK k).1≠2∧(sgK k).2.2=0:=by
 unfold sgK
 split
 ·exact ⟨rfl,by show (1:Int)≠2;decide,rfl⟩
 ·exact ⟨rfl,by show (4:Int)≠2;decide,rfl⟩
theorem DI:∀ i:Nat,i<12→¬ (i+1=6∨i+1=7)→sr.getD (i+1) []∈opL.getD ((nc.getD (i+1) 0).toNat - 1) default∧0≤lS (opL.getD ((nc.getD (i+1) 0).toNat - 1) default) (sr.getD (i+1) []) ∧
  lS (opL.getD ((nc.getD (i+1) 0).toNat - 1) default) (sr.getD (i+1) [])<((opN.getD ((nc.getD (i+1) 0).toNat - 1) default).length:Int) ∧
  (opN.getD ((nc.getD (i+1) 0).toNat - 1) default).getD (lS (opL.getD ((nc.getD (i+1) 0).toNat - 1) default) (sr.getD (i+1) [])).toNat default=((i+1:Nat):Int)∧sr.getD (i+1) []≠[91]:=by decide
theorem DJ(i:Nat)(hi:i<12)(j:Nat)(hj:j<5)(h:¬ (i+1=6∨i+1=7))(h2:(nc.getD (i+1) 0).toNat - 1<j):sr.getD (i+1) [] ∉ opL.getD j default:=by
 have key:((List.range 12).all fun i=>decide (i+1=6∨i+1=7) || (List.range 5).all fun j=>decide (j≤(nc.getD (i+1) 0).toNat - 1) || !(opL.getD j default).contains (sr.getD (i+1) []))=true:=by decide
 have k1:=List.all_eq_true.1 key i (List.mem_range.2 hi)
 simp only [Bool.or_eq_true,decide_eq_true_eq] at k1
 have k2:=List.all_eq_true.1 (k1.resolve_left h) j (List.mem_range.2 hj)
 simp only [Bool.or_eq_true,decide_eq_true_eq] at k2
 have k3:=k2.resolve_left oM
 intro hm
 rw [List.contains_iff_mem.2 hm] at k3
 exact absurd k3 dM
theorem Ig{x:ae}(hx:exF x=0)(h:x.op=5)(hk:¬ (x.k=6∨x.k=7)):rkE x=nc.getD x.k.toNat 0:=by
 unfold rkE
 rw [iN oM,iN oM,iP h,iN hk]
theorem BT(p1:Int)(p2:af):bw p1 p2=if (0≤p1∧p1<(5:Int)) then ((aL (opL.getD p1.toNat default) p2).bind fun y1=>if y1=true then (if (0≤0∧0<(p2.l.length:Int)) then ((dk (opL.getD p1.toNat default) ((p2.l.getD 0 default).text)).bind fun y2=>if (0≤y2∧y2<((opN.getD p1.toNat default).length:Int)) then (some ((opN.getD p1.toNat default).getD y2.toNat default)) else none) else none) else (some 0)) else none:=rfl
theorem Fs{E o t n a:Int}{x:ae}{m:List aa}(hx:exF x=0)(h:x.op=5)(hk:¬ (x.k=6∨x.k=7))(hn:rkE x=n+1)(h0:0≤n)(h5:n<5) :
  bw n ⟨aa.mk (sgK x.k).1 a (sgK x.k).2.1 (sgK x.k).2.2 :: m,E,o,t⟩=some x.k∧Fo (n+1) (aa.mk (sgK x.k).1 a (sgK x.k).2.1 (sgK x.k).2.2 :: m):=by
 have hk2:=((it (eok hx).form).2.2.1 h).2
 obtain ⟨s1,s2,s3⟩:=Fr x.k
 have hr:=Ig hx h hk
 have e1:x.k.toNat - 1+1=x.k.toNat:=by omega
 obtain ⟨f1,f2,f3,f4,f5⟩:=DI (x.k.toNat - 1) oM oM
 have g3:=fun j hj=>DJ (x.k.toNat - 1) oM j hj oM
 rw [e1] at f1 f2 f3 f4 f5 g3
 rw [show (nc.getD x.k.toNat 0).toNat - 1=n.toNat by omega] at f1 f2 f3 f4 g3
 rw [s1]
 replace f1:n9 x.k∈opL.getD n.toNat default:=f1
 refine ⟨?_,fun i hi hi5=>dZ (g3 i hi5 oM),dZ (fun h=>f5 (List.mem_singleton.1 h))⟩
 obtain ⟨q1,q2,q3⟩:=uF n.toNat oM
 rw [BT,iP ⟨h0,h5⟩]
 rw [ef _ _ _ _ _ (show (opL.getD n.toNat default).length≤9000000 by omega)]
 rw [jc (L:=opL.getD n.toNat default) s2 f1,bSq,iP rfl,iP (by simp only [List.length_cons];omega)]
 show (dk (opL.getD n.toNat default) (n9 x.k)).bind _=_
 rw [iI (opL.getD n.toNat default) (n9 x.k) oM,bSq]
 have f2':0≤lS (opL.getD n.toNat default) (n9 x.k):=f2
 have f3':lS (opL.getD n.toNat default) (n9 x.k)<((opN.getD n.toNat default).length:Int):=f3
 refine (iP ⟨f2',f3'⟩).trans ?_
 refine congrArg some (f4.trans ?_)
 omega
theorem GU{E o t n:Int}{r:List aa}(h0:0≤n)(h5:n<5)(h:isB (opL.getD n.toNat default) r=false):bw n ⟨r,E,o,t⟩=some 0:=by
 obtain ⟨q1,q2,q3⟩:=uF n.toNat oM
 rw [BT,iP ⟨h0,h5⟩,ef _ _ _ _ _ (show (opL.getD n.toNat default).length≤9000000 by omega)]
 show (some (isB (opL.getD n.toNat default) r)).bind _=_
 rw [h];rfl
section
variable {E k o t n:Int} {rc:Int→af→Option RX} {r:List aa}
noncomputable def cR(rc:Int→af→Option RX)(E n:Int)(x:ae)(l:List aa)(o t:Int):Option RX :=
 (bw n ⟨l,E,o,t⟩).bind fun y20=>(dh (fun (l41,x42,x43,x44,x45,x46,s47,l48,l49,x50)=>de rc n ⟨[],E,0,0⟩ l41 x42 x43 x44 x45 x46 s47 l48 l49 x50) (l,o,t,x.op,x.k,x.n,x.name,x.s,x.l,y20)).bind (Sum.elim (fun (z57,z58,z59,z60,z61,z62,z63,z64,z65)=>eu z57 z58 z59 z60 z61 z62 z63 z64 z65) (fun z66=>some z66))
theorem CT{x:ae}(h0:0≤n)(h5:n<5)(h:isB (opL.getD n.toNat default) r=false):cR rc E n x r o t=some (.inl (x,r,o,t)):=by
 unfold cR
 rw [GU h0 h5 h,bSq,ee (o:=.inl (r,o,t,x.op,x.k,x.n,x.name,x.s,x.l)) (by
  show de rc n ⟨[],E,0,0⟩ r o t x.op x.k x.n x.name x.s x.l 0=_
  unfold de
  rw [iN dM])]
 show some (Sum.inl (ae.mk x.op x.k x.n x.name x.s x.l,r,o,t))=_
 rw [ou]
theorem GF{x a b:ae}(hx:exF x=0)(h:x.op=5)(hk:¬ (x.k=6∨x.k=7))(hn:rkE x=n+1)(h0:0≤n)(h5:n<5)(hL:x.l=[a,b]){d:Int}{m:List aa}{t':Int}(ht:0≤t')(ht2:t'+1≤1000000)
  (hb:rc (n+1) ⟨m,E,o,t⟩=some (.inl (b,r,o,t'))) (hstop:n=2→isB (opL.getD n.toNat default) r=false) (hop:∃ y,bw n ⟨r,E,o,t'+1⟩=some y) :
  cR rc E n a (aa.mk (sgK x.k).1 d (sgK x.k).2.1 (sgK x.k).2.2 :: m) o t=cR rc E n x r o (t'+1):=by
 have hk2:=((it (eok hx).form).2.2.1 h).2
 obtain ⟨_,_,_,_,_,_,gs,g8,g9,g10,_⟩:=ng (eok hx).form
 have e:ae.mk 5 x.k 0 [] [] [a,b]=x:=by
  have e1:=ou x
  rw [h,g9 oM oM,g10 oM,List.length_eq_zero_iff.1 (gs oM oM),hL] at e1
  exact e1
 obtain ⟨y,hy⟩:=hop
 have hstep:de rc n ⟨[],E,0,0⟩ (aa.mk (sgK x.k).1 d (sgK x.k).2.1 (sgK x.k).2.2 :: m) o t a.op a.k a.n a.name a.s a.l x.k=if n=2 then some (.inr (.inl (r,o,t'+1,5,x.k,0,[],[],[a,b]))) else some (.inl (r,o,t'+1,5,x.k,0,[],[],[a,b],y)):=by
  unfold de
  rw [iP oM,gq,bSq,wr (n:=n+1) oM oM,hb]
  simp only [bSq,Sum.elim_inl]
  unfold b9
  simp only [bSq]
  rw [wr (n:=t'+1) oM oM,ou,hy]
  rfl
 unfold cR
 rw [(Fs hx h hk hn h0 h5).1,bSq,hy,bSq]
 by_cases h2:n=2
 ·rw [iP h2] at hstep
  have h0':=GU (E:=E) (o:=o) (t:=t'+1) h0 h5 (hstop h2)
  rw [hy] at h0'
  cases h0'
  rw [ee hstep]
  have:=CT (rc:=rc) (E:=E) (o:=o) (t:=t'+1) (x:=x) h0 h5 (hstop h2)
  unfold cR at this
  rw [hy,bSq] at this
  rw [this]
  show some (Sum.inl (ae.mk 5 x.k 0 [] [] [a,b],r,o,t'+1))=_
  rw [e]
 ·rw [iN h2] at hstep
  rw [gi hstep]
  have e1:=ou x
  have:(r,o,t'+1,(5:Int),x.k,(0:Int),([]:Ω),([]:List (List ag)),[a,b],y)=(r,o,t'+1,x.op,x.k,x.n,x.name,x.s,x.l,y):=by
   rw [h,g9 oM oM,g10 oM,List.length_eq_zero_iff.1 (gs oM oM),hL]
  rw [this]
theorem Ih(h0:0≤n)(h5:n<5)(l:List aa)(t:Int):∃ y,bw n ⟨l,E,o,t⟩=some y:=by
 obtain ⟨y,hy,_⟩:=GS (E:=E) (o:=o) (t:=t) (l:=l) h0 h5
 exact ⟨y,hy⟩
theorem yF{fuel:Nat}(hr:RKx E rc k)(h0:0≤n)(h5:n<5)(ho0:0≤o)(ho:o≤60)(hk:7 * (60 - o)+(5 - n)≤k):∀ (N:Nat) (x:ae) (m t:Int) (l r:List aa),exF x=0→x.sz<N→m≤n+1→(rkE x<m∨n+1≤rkE x∨(x.op=6∧Fo 0 r))→o+2 * (pn x:Int)+(if rkE x<m then 1 else 0)≤63→0≤t→t+(pn x:Int)≤1000000 →
  Fo (n+1) r→(n=2→isB (opL.getD n.toNat default) r=false)→Mt l (atK (exK N) x m) r→ca fuel rc n ⟨l,E,o,t⟩=cR rc E n x r o (t+pn x)
 |0,_,_,_,_,_,_,h,_,_,_,_,_,_,_,_=>by omega
 |N+1,x,m,t,l,r,hx,hs,hm7,hc,hb,ht,ht2,hf,hf2,hm=>by
  have fold:∀ (y:ae) (q:List aa) (t1:Int),rc (n+1) ⟨l,E,o,t⟩=some (.inl (y,q,o,t1))→ca fuel rc n ⟨l,E,o,t⟩=cR rc E n y q o t1:=by
   intro y q t1 h
   unfold ca
   rw [iN oM,wr (n:=n+1) oM oM,h]
   rfl
  by_cases hcase:rkE x=n+1∧¬ rkE x<m
  ·obtain ⟨hrk,hp⟩:=hcase
   rw [tY hp] at hm
   rw [iN hp] at hb
   have hm:Mt l (su (exK N) x) r:=hm
   have ok:=eok hx
   have hz:=nP x
   have h5x:x.op=5∧¬ (x.k=6∨x.k=7):=by
    rcases qA x hx with ⟨h,_⟩|⟨h,_⟩|⟨_,_,h,h'⟩|⟨h,_⟩
    ·omega
    ·omega
    ·exact ⟨h,h'⟩
    ·omega
   obtain ⟨c5,ck⟩:=h5x
   obtain ⟨hl2,hk12⟩:=(it ok.form).2.2.1 c5
   obtain ⟨a,b,hL⟩:=Jk hl2
   have hpn:=tB x
   have q0:x.l.getD 0 default=a∧x.l.getD 1 default=b:=by rw [hL];exact ⟨rfl,rfl⟩
   unfold su at hm
   rw [iN oM,iN oM,iN oM,iN oM,iN oM,iN oM,iP ⟨c5,by omega⟩,q0.1,q0.2] at hm
   rw [hL,fl,fl,show pns []=0 from by rw [pns]] at hpn
   have hsz:=ok.parts
   rw [hL] at hsz
   have z1:=ju (show a∈x.l by rw [hL];simp)
   have z2:=ju (show b∈x.l by rw [hL];simp)
   have p1:=sx a
   have p2:=sx b
   obtain ⟨m1,k1,k2⟩:=dH hm
   obtain ⟨d,m2,hm1,k3⟩:=dg k2
   subst hm1
   obtain ⟨_,hfo⟩:=Fs (E:=E) (o:=o) (t:=t) (a:=d) (m:=m2) hx c5 ck hrk h0 h5
   have hlead:ca fuel rc n ⟨l,E,o,t⟩=cR rc E n a (aa.mk (sgK x.k).1 d (sgK x.k).2.1 (sgK x.k).2.2 :: m2) o (t+pn a):=by
    by_cases h2:n=2
    ·rw [iP oM] at k1
     refine fold _ _ _ ?_
     exact hr (n+1) o t 4 N a l _ oM oM ho0 ho (hsz a (by simp)) oM oM oM (by split<;>omega) ht oM oM hfo k1
    ·rw [iN oM] at k1
     exact yF hr h0 h5 ho0 ho hk N a (rkE x) t l _ (hsz a (by simp)) oM oM oM (by split<;>omega) ht oM hfo (fun h=>absurd h h2) k1
   rw [hlead]
   have hbrun:=hr (n+1) o (t+pn a) (rkE x+1) N b m2 r oM oM ho0 ho (hsz b (by simp)) oM oM oM (by split<;>omega) oM oM oM hf k3
   rw [GF hx c5 ck hrk h0 h5 hL oM oM hbrun hf2 (Ih h0 h5 _ _),hpn]
   congr 1
   omega
  ·refine fold _ _ _ ?_
   refine hr (n+1) o t m (N+1) x l r oM oM ho0 ho hx hs oM ?_ hb ht ht2 oM hf hm
   rcases hc with c|c|c
   ·exact .inl c
   ·by_cases hp:rkE x<m
    ·exact .inl hp
    ·exact .inr (.inl (by
      have:¬ rkE x=n+1:=fun h=>hcase ⟨h,hp⟩
      omega))
   ·exact .inr (.inr c)
theorem xw{fuel:Nat}(hfuel:61≤fuel):∀ K:Nat,RKx E (av fuel K) K
 |0,n,o,_,_,_,_,_,_,_,h5,_,_,_,_,_,_,_,_,_,hk,_,_=>by omega
 |K+1,n,o,t,m,N,x,l,r,h0,h5,ho0,ho,hx,hs,hm1,hc,hb,ht,ht2,hk,hf,hm=>by
  have ih:=xw hfuel K
  show ca fuel (av fuel K) n ⟨l,E,o,t⟩=_
  by_cases hn:n=5
  ·unfold ca
   rw [iP hn]
   refine xu ?_
   exact vG ih o ho0 oM fuel o t m N x l r oM ho hx hs oM (hc.imp id (Or.imp (fun h=>by omega) id)) hb ht ht2 oM hf.2 hm
  ·rw [yF ih h0 oM ho0 ho oM N x m t l r hx hs hm1 hc hb ht ht2 (Gx oM hf) (fun _=>hf.1 n.toNat oM oM) hm]
   exact CT h0 oM (hf.1 n.toNat oM oM)
theorem xx{fuel N:Nat}(hfuel:430≤fuel){x:ae}{l:List aa}(hx:exF x=0)(hs:x.sz<N)(hp:pn x≤30)(hf:Fo 0 r)(hm:Mt l (exK N x) r):eV fuel ⟨l,E,0,t⟩=some (.inl (x,r,0,(pn x:Int))):=by
 have hj:∀ a,dO fuel ⟨l,E,0,t⟩ a=some (.inl (x,r,0,(pn x:Int))):=by
  intro a
  unfold dO kK
  rw [(xw (E:=E) oM fuel).whole (o:=0) (t:=0) dM dM hx hs oM dM oM oM hf hm]
  simp only [bSq,Sum.elim_inl]
  rw [iN oM,Int.zero_add]
 unfold eV
 cases l with
 |nil=>rw [iN (by simp)];exact hj _
 |cons y l=>rw [iP (by simp only [List.length_cons];omega),iP (by simp only [List.length_cons];omega)];exact hj _
end
section
variable {E:Int} {fuel N:Nat}
theorem sC(hfuel:430≤fuel)(P:List aa){o0 t0:Int}{r:List aa}(hr:Fo 0 r∧isB [[44]] r=false):∀ (L:List ae) (l:List aa) (acc:List ae) (t:Int),L≠[]→(∀ x∈L,exF x=0∧x.sz<N∧pn x≤30)→acc.length+L.length≤30→Mt l (jy (L.map (exK N))) r →
  ∃ t',dh (fun x:List aa×Int×Int×List ae=>dp fuel 30 ⟨P,E,o0,t0⟩ x.1 x.2.1 x.2.2.1 x.2.2.2) (l,0,t,acc)=some (.inl (acc++L,r,0,t'))
 |[],_,_,_,h,_,_,_=>absurd rfl h
 |[x],l,acc,t,_,hx,hl,hm=>by
  obtain ⟨x1,x2,x3⟩:=hx x (by simp)
  have hm:Mt l (exK N x++[]) r:=hm
  rw [List.append_nil] at hm
  refine ⟨(pn x:Int),ee ?_⟩
  show dp fuel 30 ⟨P,E,o0,t0⟩ l 0 t acc=_
  unfold dp
  rw [iN (by simp only [List.length_cons,List.length_nil] at hl;omega),xx hfuel x1 x2 x3 hr.1 hm]
  simp only [bSq,Sum.elim_inl]
  rw [iP (nD (by simp only [List.length_cons,List.length_nil] at hl;omega) dM),qb hr.2];rfl
 |x :: y :: L,l,acc,t,_,hx,hl,hm=>by
  obtain ⟨x1,x2,x3⟩:=hx x (by simp)
  obtain ⟨m,k1,k2⟩:=dH (a:=exK N x) (b:=kS [44] :: jy ((y :: L).map (exK N))) hm
  obtain ⟨a,m2,rfl,k3⟩:=dg k2
  have hst:dp fuel 30 ⟨P,E,o0,t0⟩ l 0 t acc=some (.inl (m2,0,(pn x:Int),acc++[x])):=by
   unfold dp
   rw [iN (by simp only [List.length_cons] at hl;omega),xx hfuel x1 x2 x3 (ow dM) k1]
   simp only [bSq,Sum.elim_inl]
   rw [iP (nD (by simp only [List.length_cons] at hl;omega) dM),show aa.mk (kS [44]).1 a (kS [44]).2.1 (kS [44]).2.2=aa.mk 4 a [44] 0 from rfl,nQ dM];rfl
  obtain ⟨t',h⟩:=sC hfuel P (o0:=o0) (t0:=t0) hr (y :: L) m2 (acc++[x]) (pn x:Int) (by simp) (fun z hz=>hx z (by simp only [List.mem_cons] at hz ⊢;exact .inr hz)) (by simp only [List.length_append,List.length_cons,List.length_nil] at hl ⊢;omega) k3
  refine ⟨t',(gi (s':=(m2,0,(pn x:Int),acc++[x])) hst).trans ?_⟩
  rw [h];simp
theorem DK(hfuel:430≤fuel){L:List ae}{l r:List aa}{t:Int}(h0:L≠[])(hx:∀ x∈L,exF x=0∧x.sz<N∧pn x≤30)(hl:L.length≤30)(hr:Fo 0 r∧isB [[44]] r=false)(hm:Mt l (jy (L.map (exK N))) r) :
  ∃ t',fP fuel 30 ⟨l,E,0,t⟩=some (.inl (L,r,0,t')):=by
 obtain ⟨t',h⟩:=sC (E:=E) hfuel l (o0:=0) (t0:=t) hr L l [] t h0 hx (by simpa using hl) hm
 refine ⟨t',?_⟩
 unfold fP
 exact congrArg (Option.bind · fun z=>some z) h
theorem GV{o t:Int}{l r:List aa}{ks:List Tk}(W:List Ω)(hW:W.length≤1000)(h:Mt l ks r)(h1:ks.map (fun k=>k.2.1)=W)(h2:∀ k∈ks,k.1≠2):aA W ⟨l,E,o,t⟩=some (.inl r):=by
 obtain ⟨c,rfl,rfl⟩:=h
 refine AT W hW c r ?_ fun x hx=>h2 (st x) (List.mem_map_of_mem hx)
 rw [← h1,List.map_map];rfl
theorem Ii(hfuel:430≤fuel){q:TEq}{l m:List aa}{t a:Int}(hq:EqG q)(hs:∀ y∈q.e,y.sz<N)(hm:Mt l (eqK N q) (aa.mk 4 a [59] 0 :: m)) :
  ∃ q' t',fM fuel ⟨l,E,0,t⟩=some (.inl (q',aa.mk 4 a [59] 0 :: m,0,t'))∧EqR q q'∧(∃ b w l',l=aa.mk 2 b w 0 :: l'):=by
 obtain ⟨⟨n1,n2,n3⟩,pl,nd,⟨s1,s2⟩,⟨e1,e2⟩⟩:=hq
 have hm0:=hm
 unfold eqK at hm
 obtain ⟨l1,k1,k2⟩:=dH hm
 obtain ⟨l2,k3,k4⟩:=dH (a:=[kS [61]]) (b:=if q.node=[] then exK N (q.e.getD 0 default) else kW [99,97,108,108] :: kN q.node :: ((if q.s.length>0 then kS [60] :: (jy (q.s.map mP)++[kS [62]]) else [])++(kS [40] :: (jy (q.e.map (exK N))++[kS [41]])))) k2
 have hl:∃ b w l',l=aa.mk 2 b w 0 :: l':=by
  cases hn:q.names with
  |nil=>rw [hn] at n2;simp at n2
  |cons w ws =>
   rw [hn] at k1
   obtain ⟨b,l',h,_⟩:=dg (k:=kN w) (ks:=tlK (ws.map fun w=>[kN w])) k1
   exact ⟨b,w,l',h⟩
 have hne:q.names≠[]:=fun h=>by rw [h] at n2;simp at n2
 have hl0:(0:Nat)≤0∧(0:Int)<(l.length:Int):=by obtain ⟨b,w,l',rfl⟩:=hl;simp only [List.length_cons];omega
 have f1:isB [[44]] l1=false:=by obtain ⟨b,h⟩:=iy k3;rw [h];exact dZ (by simp [kS])
 unfold fM
 rw [iP hl0,show (30:Int)=((30:Nat):Int) from rfl,yD dM hne n3 k1 f1]
 simp only [bSq,Sum.elim_inl]
 rw [oh k3]
 simp only [bSq,Sum.elim_inl]
 by_cases c:q.node=[]
 ·rw [iP c] at k4
  obtain ⟨p1,p2,p3⟩:=pl c
  obtain ⟨y,hy⟩:=Gn p2
  have q0:q.e.getD 0 default=y:=by rw [hy];rfl
  rw [q0] at k4
  have hym:y∈q.e:=by rw [hy];simp
  have hh:=zA N y 0 l2 _ (e1 y hym).1 (hs y hym) (by rw [tY (by have:=qz y;omega)];exact k4)
  rw [iP oM,ef _ _ _ _ _ (by simp [lit]),hh.2,bSq,iN dM,xx hfuel (e1 y hym).1 (hs y hym) (e1 y hym).2 (ow dM) k4]
  refine ⟨_,_,rfl,⟨rfl,c,List.length_eq_zero_iff.1 p3,?_⟩,hl⟩
  show q.e=lit [y]
  rw [hy];rfl
 ·rw [iN c] at k4
  obtain ⟨l3,k5,k6⟩:=dH (a:=[kW [99,97,108,108]]) (b:=kN q.node :: ((if q.s.length>0 then kS [60] :: (jy (q.s.map mP)++[kS [62]]) else [])++(kS [40] :: (jy (q.e.map (exK N))++[kS [41]])))) k4
  have hcall:isB (lit [[99,97,108,108]]) l2=true:=by obtain ⟨b,h⟩:=iy k5;rw [h];exact jc (by show (1:Int)≠2;decide) (by show [99,97,108,108]∈_;simp [lit])
  obtain ⟨l4,k7,k8⟩:=dH (a:=[kN q.node]) (b:=(if q.s.length>0 then kS [60] :: (jy (q.s.map mP)++[kS [62]]) else [])++(kS [40] :: (jy (q.e.map (exK N))++[kS [41]]))) k6
  have hj2:∀ l5,Mt l5 (kS [40] :: (jy (q.e.map (exK N))++[kS [41]])) (aa.mk 4 a [59] 0 :: m)→∃ q' t',eD fuel ⟨l,E,0,t⟩ (q.names,l1) (q.node,l4) l5 q.s=some (.inl (q',aa.mk 4 a [59] 0 :: m,0,t'))∧EqR q q':=by
   intro l5 h5
   obtain ⟨l6,j1,j2⟩:=dH (a:=[kS [40]]) h5
   obtain ⟨l7,j3,j4⟩:=dH j2
   have j4':=j4
   obtain ⟨b,hb⟩:=iy j4
   have hj3:∀ t2,eC ⟨l,E,0,t⟩ (q.names,l1) (q.node,l4) q.s l7 0 t2 q.e=some (.inl (TEq.mk (l.getD 0 default).at_ q.names q.node q.s q.e,aa.mk 4 a [59] 0 :: m,0,t2)):=by
    intro t2
    unfold eC
    rw [oh j4'];rfl
   unfold eD
   rw [oh j1]
   simp only [bSq,Sum.elim_inl]
   rw [ef _ _ _ _ _ (by simp [lit]),bSq]
   by_cases g:q.e=[]
   ·rw [g] at j3
    obtain rfl:=lG j3
    have hcl:isB (lit [[41]]) l6=true:=by rw [hb];exact jc (by show (4:Int)≠2;decide) (by show [41]∈_;simp [lit])
    rw [hcl,iP rfl]
    have:=hj3 t
    rw [g] at this
    exact ⟨_,_,this,rfl,rfl,rfl,g⟩
   ·obtain ⟨y,ys,hy⟩:=List.exists_cons_of_ne_nil g
    have hcl:isB (lit [[41]]) l6=false:=by
     have hym:y∈q.e:=by rw [hy];simp
     rw [hy] at j3
     obtain ⟨l8,i1,_⟩:=dH (a:=exK N y) (b:=tlK (ys.map (exK N))) j3
     exact (zA N y 0 l6 l8 (e1 y hym).1 (hs y hym) (by rw [tY (by have:=qz y;omega)];exact i1)).1
    rw [hcl,iN dM]
    obtain ⟨t2,h2⟩:=DK (E:=E) (t:=t) hfuel g (fun x hx=>⟨(e1 x hx).1,hs x hx,(e1 x hx).2⟩) e2 (show Fo 0 l7∧isB [[44]] l7=false by rw [hb];exact ⟨ow dM,dZ (by simp [kS])⟩) j3
    rw [h2]
    simp only [bSq,Sum.elim_inl]
    exact ⟨_,_,hj3 t2,rfl,rfl,rfl,rfl⟩
  have hj1:∃ q' t',eE fuel ⟨l,E,0,t⟩ (q.names,l1) l2=some (.inl (q',aa.mk 4 a [59] 0 :: m,0,t'))∧EqR q q':=by
   unfold eE
   rw [Fj k5]
   simp only [bSq,Sum.elim_inl]
   rw [oi k7]
   simp only [bSq,Sum.elim_inl]
   by_cases g:q.s.length>0
   ·rw [iP g] at k8
    obtain ⟨l5,i1,i2⟩:=dH k8
    obtain ⟨b,l6,rfl,i3⟩:=dg i1
    obtain ⟨l7,i4,i5⟩:=dH i3
    have f7:isB [[44]] l7=false∧Fz l7:=by obtain ⟨b,h⟩:=iy i5;rw [h];exact ⟨dZ (by simp [kS]),sY dM⟩
    rw [show aa.mk (kS [60]).1 b (kS [60]).2.1 (kS [60]).2.2=aa.mk 4 b [60] 0 from rfl,nQ dM,bSq,iP rfl,show (3:Int)=((3:Nat):Int) from rfl,DC dM (fun h=>by rw [h] at g;simp at g) s2 s1 i4 f7]
    simp only [bSq,Sum.elim_inl]
    rw [oh i5]
    simp only [bSq,Sum.elim_inl]
    exact hj2 l5 i2
   ·rw [iN g,List.nil_append] at k8
    have h4:isB [[60]] l4=false:=by obtain ⟨b,l6,rfl,_⟩:=dg k8;exact dZ (by simp [kS])
    have hs0:q.s=[]:=List.length_eq_zero_iff.1 oM
    rw [qb h4,bSq,iN (by simp)]
    have:=hj2 l4 k8
    rw [hs0] at this
    exact this
  obtain ⟨q',t',h1,h2⟩:=hj1
  refine ⟨q',t',?_,h2,hl⟩
  by_cases g:(q.names.length:Int)=1
  ·rw [iP g,ef _ _ _ _ _ (by simp [lit]),hcall,bSq,iP rfl];exact h1
  ·rw [iN g];exact h1
theorem yG{T:Type}[Inhabited T]{R:T→T→Prop}:nA R [] []:=⟨rfl,fun i h=>by simp at h⟩
end
section
variable {E:Int} {fuel N:Nat}
abbrev NS:=List aa×Int×Int×List aw×List TEq
theorem A1(hfuel:430≤fuel)(P:af)(hE:P.end_=E){r:List aa}{b:Int}:∀ (Q:List TEq) (l:List aa) (t:Int) (A:List aw) (B:List TEq),(∀ q∈Q,EqG q∧∀ y∈q.e,y.sz<N)→B.length+Q.length≤60→Mt l (Q.flatMap (rE N)++[kS [125]]) r →
  ∃ b t' Q',dh (fun x:NS=>co fuel P x.1 x.2.1 x.2.2.1 x.2.2.2.1 x.2.2.2.2) (l,0,t,A,B)=some (.inl (aa.mk 4 b [125] 0 :: r,0,t',A,B++Q'))∧nA EqR Q Q'
 |[],l,t,A,B,_,_,hm=>by
  have hm:Mt l [kS [125]] r:=hm
  obtain ⟨b,rfl⟩:=iy hm
  refine ⟨b,t,[],ee ?_,yG⟩
  show co fuel P (aa.mk 4 b [125] 0 :: r) 0 t A B=_
  unfold co
  rw [ef _ _ _ _ _ (by simp [lit]),jc dM (by simp [lit]),bSq,iP rfl,List.append_nil]
 |q :: Q,l,t,A,B,hq,hl,hm=>by
  obtain ⟨q1,q2⟩:=hq q (by simp)
  have hm:Mt l ((eqK N q++[kS [59]])++Q.flatMap (rE N)++[kS [125]]) r:=by rw [List.flatMap_cons] at hm;exact hm
  rw [List.append_assoc,List.append_assoc] at hm
  obtain ⟨m1,k1,k2⟩:=dH hm
  obtain ⟨m2,k3,k4⟩:=dH k2
  obtain ⟨c,hc⟩:=iy k3
  have hc:m1=aa.mk 4 c [59] 0 :: m2:=hc
  rw [hc] at k1
  obtain ⟨q',t',e1,e2,b2,w,l',e3⟩:=Ii (E:=E) (t:=t) hfuel q1 q2 k1
  have hlen:¬ (B.length:Int)=60:=by simp only [List.length_cons] at hl;omega
  have hstep:co fuel P l 0 t A B=some (.inl (m2,0,t',A,B++[q'])):=by
   have hj5:dw fuel P 0 t A B (false,l)=some (.inl (m2,0,t',A,B++[q'])):=by
    unfold dw
    rw [iN (by rw [e3];simp only [List.length_cons];omega),hE,e1]
    simp only [bSq,Sum.elim_inl]
    rw [iP (nD (by simp only [List.length_cons] at hl;omega) dM)]
    unfold dP
    rw [← hc,oh k3];rfl
   have i1:isB (lit [[125]]) l=false:=by rw [e3];rfl
   have i2:isB [[118,97,114]] l=false:=by rw [e3];rfl
   unfold co
   rw [ef _ _ _ _ _ (by simp [lit]),i1,bSq,iN dM,qb i2,bSq,iN (by simp),iP (by rw [e3];simp only [List.length_cons];omega),iP (by rw [e3];simp only [List.length_cons];omega)]
   rw [hj5,iN hlen]
   split<;>rfl
  obtain ⟨b3,t3,Q',f1,f2⟩:=A1 hfuel P hE (b:=b) Q m2 t' A (B++[q']) (fun z hz=>hq z (by simp [hz])) (by simp only [List.length_append,List.length_cons,List.length_nil] at hl ⊢;omega) k4
  refine ⟨b3,t3,q' :: Q',?_,?_⟩
  ·rw [gi (s':=(m2,0,t',A,B++[q'])) hstep,f1]
   simp
  ·refine ⟨by simp [f2.1],fun i hi=>?_⟩
   cases i with
   |zero=>exact e2
   |succ i=>exact f2.2 i (by simpa using hi)
theorem yH(hfuel:430≤fuel)(P:af)(hE:P.end_=E){r:List aa}{Q:List TEq}(hQ:∀ q∈Q,EqG q∧∀ y∈q.e,y.sz<N)(hQl:Q.length≤60):∀ (D:List aw) (l:List aa) (t:Int) (A:List aw),(∀ d∈D,ku d=0)→A.length+D.length≤30→Mt l (D.flatMap xZ++(Q.flatMap (rE N)++[kS [125]])) r →
  ∃ b t' Q',dh (fun x:NS=>co fuel P x.1 x.2.1 x.2.2.1 x.2.2.2.1 x.2.2.2.2) (l,0,t,A,[])=some (.inl (aa.mk 4 b [125] 0 :: r,0,t',A++D,Q'))∧nA EqR Q Q'
 |[],l,t,A,_,_,hm=>by
  obtain ⟨b,t',Q',h1,h2⟩:=A1 hfuel P hE (b:=0) Q l t A [] hQ (by simpa using hQl) hm
  exact ⟨b,t',Q',by rw [h1];simp,h2⟩
 |d :: D,l,t,A,hd,hl,hm=>by
  have hm:Mt l ([kW [118,97,114]]++(nf d++([kS [59]]++(D.flatMap xZ++(Q.flatMap (rE N)++[kS [125]]))))) r:=by
   rw [List.flatMap_cons] at hm
   simpa [xZ] using hm
  obtain ⟨m1,k1,k2⟩:=dH hm
  obtain ⟨m2,k3,k4⟩:=dH k2
  obtain ⟨m3,k5,k6⟩:=dH k4
  obtain ⟨a,ha⟩:=iy k1
  have ha:l=aa.mk 1 a [118,97,114] 0 :: m1:=ha
  obtain ⟨c,hc⟩:=iy k5
  have hc:m2=aa.mk 4 c [59] 0 :: m3:=hc
  have hstep:co fuel P l 0 t A []=some (.inl (m3,0,t,A++[d],[])):=by
   unfold co
   rw [ha,ef _ _ _ _ _ (by simp [lit]),dZ (by simp [lit]),bSq,iN dM,nQ dM,bSq,iP rfl,iN (by simp only [List.length_cons] at hl;omega),xp (hd d (by simp)) k3 (by rw [hc];exact sY dM) (by rw [hc];exact dZ dM)]
   simp only [bSq,Sum.elim_inl]
   rw [iP (nD (by simp only [List.length_cons] at hl;omega) dM)]
   unfold dP
   rw [oh k5];rfl
  obtain ⟨b3,t3,Q',f1,f2⟩:=yH hfuel P hE hQ hQl D m3 t (A++[d]) (fun z hz=>hd z (by simp [hz])) (by simp only [List.length_append,List.length_cons,List.length_nil] at hl ⊢;omega) k6
  refine ⟨b3,t3,Q',?_,f2⟩
  rw [gi (s':=(m3,0,t,A++[d],[])) hstep,f1]
  simp
theorem Ft(hfuel:430≤fuel){x:aE}{l r:List aa}{t:Int}(hx:tX x)(hs:∀ q∈x.eqs,∀ y∈q.e,y.sz<N)(hm:Mt l (xm N x) r) :
  ∃ x' t',gB fuel ⟨l,E,0,t⟩=some (.inl (x',r,0,t'))∧qy x x':=by
 unfold xm at hm
 obtain ⟨a,l1,hl,k2⟩:=dg hm
 obtain ⟨l2,k3,k4⟩:=dH (a:=[kN x.name]) (b:=(if x.sizes.length>0 then kS [60] :: (jy (x.sizes.map fun w=>[kN w])++[kS [62]]) else [])++(kS [40] :: (jy (x.in_.map nf)++(kS [41] :: kS [45,62] :: kS [40] :: (jy (x.out_.map nf)++(kS [41] :: kS [123] ::
  (x.local_.flatMap xZ++(x.eqs.flatMap (rE N)++[kS [125]])))))))) k2
 have hj2:∀ l3,Mt l3 (kS [41] :: kS [45,62] :: kS [40] :: (jy (x.out_.map nf)++(kS [41] :: kS [123] :: (x.local_.flatMap xZ++(x.eqs.flatMap (rE N)++[kS [125]]))))) r→∃ x' t',dQ fuel ⟨l,E,0,t⟩ (x.name,l2) x.sizes l3 x.in_=some (.inl (x',r,0,t'))∧qy x x':=by
  intro l3 h3
  obtain ⟨l4,i1,i2⟩:=dH (a:=[kS [41],kS [45,62],kS [40]]) h3
  obtain ⟨l5,i3,i4⟩:=dH i2
  obtain ⟨l6,i5,i6⟩:=dH (a:=[kS [41],kS [123]]) i4
  have f5:isB [[44]] l5=false∧Fz l5∧isB [[94]] l5=false:=by
   obtain ⟨b,m,h,_⟩:=dg i5
   rw [h];exact ⟨dZ (by simp [kS]),sY dM,dZ (by simp [kS])⟩
  obtain ⟨b,t',Q',e1,e2⟩:=yH hfuel ⟨l,E,0,t⟩ rfl (fun q hq=>⟨hx.eqs.1 q hq,hs q hq⟩) hx.eqs.2 x.local_ l6 t [] hx.local_.1 (by simpa using hx.local_.2) i6
  unfold dQ
  rw [GV (lit [[41],[45,62],[40]]) dM i1 rfl (by simp [kS])]
  simp only [bSq,Sum.elim_inl]
  rw [show (30:Int)=((30:Nat):Int) from rfl,yE dM (fun h=>by have:=hx.out_.2.2;rw [h] at this;simp at this) hx.out_.2.1 hx.out_.1 i3 f5]
  simp only [bSq,Sum.elim_inl]
  rw [GV (lit [[41],[123]]) dM i5 rfl (by simp [kS])]
  simp only [bSq,Sum.elim_inl]
  have e1':dh (fun (l69,x70,x71,l72,l74)=>co fuel ⟨l,E,0,t⟩ l69 x70 x71 l72 l74) (l6,0,t,[],[])=some (.inl (aa.mk 4 b [125] 0 :: r,0,t',[]++x.local_,Q')):=e1
  rw [e1']
  simp only [bSq,Sum.elim_inl]
  unfold ew
  rw [gq]
  exact ⟨_,_,rfl,rfl,rfl,rfl,rfl,rfl,e2⟩
 have hj1:∀ l3,Mt l3 (kS [40] :: (jy (x.in_.map nf)++(kS [41] :: kS [45,62] :: kS [40] :: (jy (x.out_.map nf)++(kS [41] :: kS [123] :: (x.local_.flatMap xZ++(x.eqs.flatMap (rE N)++[kS [125]]))))))) r→∃ x' t',dR fuel ⟨l,E,0,t⟩ (x.name,l2) l3 x.sizes=some (.inl (x',r,0,t'))∧qy x x':=by
  intro l3 h3
  obtain ⟨l4,i1,i2⟩:=dH (a:=[kS [40]]) h3
  obtain ⟨l5,i3,i4⟩:=dH i2
  unfold dR
  rw [oh i1]
  simp only [bSq,Sum.elim_inl]
  rw [ef _ _ _ _ _ (by simp [lit]),bSq]
  by_cases g:x.in_=[]
  ·rw [g] at i3
   obtain rfl:=lG i3
   have hcl:isB (lit [[41]]) l4=true:=by obtain ⟨b,m,h,_⟩:=dg i4;rw [h];exact jc (by show (4:Int)≠2;decide) (by show [41]∈_;simp [lit])
   rw [hcl,iP rfl]
   have:=hj2 l4 i4
   rw [g] at this
   exact this
  ·obtain ⟨y,ys,hy⟩:=List.exists_cons_of_ne_nil g
   have hcl:isB (lit [[41]]) l4=false:=by
    rw [hy] at i3
    obtain ⟨b,m,h,_⟩:=dg (k:=kN y.name) (ks:=kS [58] :: AK y.t++tlK (ys.map nf)) i3
    rw [h];rfl
   have f5:isB [[44]] l5=false∧Fz l5∧isB [[94]] l5=false:=by
    obtain ⟨b,m,h,_⟩:=dg i4
    rw [h];exact ⟨dZ (by simp [kS]),sY dM,dZ (by simp [kS])⟩
   rw [hcl,iN dM,show (30:Int)=((30:Nat):Int) from rfl,yE dM g hx.in_.2 hx.in_.1 i3 f5]
   simp only [bSq,Sum.elim_inl]
   exact hj2 l5 i4
 have hl:l=aa.mk 1 a [110,111,100,101] 0 :: l1:=hl
 unfold gB
 rw [iP (by rw [hl];simp only [List.length_cons];omega)]
 have hnx:aM ⟨l,E,0,t⟩=some (aa.mk 1 a [110,111,100,101] 0,l1):=by rw [hl];exact gq _ _ _ _ _
 rw [hnx,bSq,oi k3]
 simp only [bSq,Sum.elim_inl]
 by_cases g:x.sizes.length>0
 ·rw [iP g] at k4
  obtain ⟨l3,i1,i2⟩:=dH k4
  obtain ⟨b,l4,hl2,i3⟩:=dg i1
  have hl2:l2=aa.mk 4 b [60] 0 :: l4:=hl2
  obtain ⟨l5,i4,i5⟩:=dH i3
  have f5:isB [[44]] l5=false:=by obtain ⟨b,h⟩:=iy i5;rw [h];exact dZ (by simp [kS])
  have hmay:aY [60] ⟨l2,E,0,t⟩=some (true,l4):=by rw [hl2];exact nQ dM
  rw [hmay,bSq,iP rfl,show (3:Int)=((3:Nat):Int) from rfl,yD dM (fun h=>by rw [h] at g;simp at g) hx.sizes.2 i4 f5]
  simp only [bSq,Sum.elim_inl]
  rw [oh i5]
  simp only [bSq,Sum.elim_inl]
  exact hj1 l3 i2
 ·rw [iN g,List.nil_append] at k4
  have h4:isB [[60]] l2=false:=by obtain ⟨b,l6,h,_⟩:=dg k4;rw [h];exact dZ (by simp [kS])
  have hs0:x.sizes=[]:=List.length_eq_zero_iff.1 oM
  rw [qb h4,bSq,iN (by simp)]
  have:=hj1 l2 k4
  rw [hs0] at this
  exact this
theorem xy(hfuel:430≤fuel)(src:Ω):∀ (X:List aE) (l:List aa) (t:Int) (B:List aE),X≠[]∨B≠[]→(∀ x∈X,tX x∧∀ q∈x.eqs,∀ y∈q.e,y.sz<N)→B.length+X.length≤10→Mt l (X.flatMap (xm N)) [] →
  ∃ t' X',dh (fun x:List aa×Int×Int×List aE=>eh fuel src x.1 x.2.1 x.2.2.1 x.2.2.2) (l,0,t,B)=some (.inl ([],0,t',B++X'))∧nA qy X X'
 |[],l,t,B,h0,_,_,hm=>by
  obtain rfl:=lG hm
  refine ⟨t,[],ee ?_,yG⟩
  show eh fuel src [] 0 t B=_
  unfold eh
  have hB:0<B.length:=List.length_pos_iff.2 (h0.resolve_left (fun h=>h rfl))
  rw [iN (by simp),iN oM,List.append_nil]
 |x :: X,l,t,B,_,hx,hl,hm=>by
  obtain ⟨x1,x2⟩:=hx x (by simp)
  rw [List.flatMap_cons] at hm
  obtain ⟨m,k1,k2⟩:=dH hm
  obtain ⟨x',t',e1,e2⟩:=Ft (E:=(src.length:Int)) (t:=t) hfuel x1 x2 k1
  have hhd:∃ a l1,l=aa.mk 1 a [110,111,100,101] 0 :: l1:=by
   unfold xm at k1
   obtain ⟨a,l1,h,_⟩:=dg k1
   exact ⟨a,l1,h⟩
  obtain ⟨a,l1,hl1⟩:=hhd
  have hstep:eh fuel src l 0 t B=some (.inl (m,0,t',B++[x'])):=by
   have i1:isB (lit [[110,111,100,101]]) l=true:=by rw [hl1];exact jc dM (by simp [lit])
   unfold eh
   rw [iP (by rw [hl1];simp only [List.length_cons];omega)]
   unfold gQ
   rw [ef _ _ _ _ _ (by simp [lit]),i1,bSq,iP rfl,iN (by simp only [List.length_cons] at hl;omega),e1]
   simp only [bSq,Sum.elim_inl]
   rw [iP (nD (by simp only [List.length_cons] at hl;omega) dM)];rfl
  obtain ⟨t3,X',f1,f2⟩:=xy hfuel src X m t' (B++[x']) (.inr (by simp)) (fun z hz=>hx z (by simp [hz])) (by simp only [List.length_append,List.length_cons,List.length_nil] at hl ⊢;omega) k2
  refine ⟨t3,x' :: X',?_,?_⟩
  ·rw [gi (s':=(m,0,t',B++[x'])) hstep,f1]
   simp
  ·refine ⟨by simp [f2.1],fun i hi=>?_⟩
   cases i with
   |zero=>exact e2
   |succ i=>exact f2.2 i (by simpa using hi)
theorem A2(hfuel:430≤fuel){p:az}(h:∀ x∈p.nodes,tX x)(hs:∀ x∈p.nodes,∀ q∈x.eqs,∀ y∈q.e,y.sz<N)(h0:0<p.nodes.length)(h10:p.nodes.length≤10)(hl:(iH N p).length≤12000) :
  ∃ q,fE fuel (iH N p)=some (q,aq.mk 0 0)∧sh p q:=by
 obtain ⟨l,s1,s2⟩:=BL N p h hs hl
 obtain ⟨t',X',e1,e2⟩:=xy (N:=N) hfuel (iH N p) p.nodes l 0 [] (.inl (fun h=>by rw [h] at h0;simp at h0)) (fun x hx=>⟨h x hx,hs x hx⟩) (by simpa using h10) ⟨l,by simp,s2⟩
 refine ⟨az.mk X',?_,e2⟩
 unfold fE
 rw [s1,bSq,iN (by simp)]
 have e1':dh (fun (l25,x26,x27,l28)=>eh fuel (iH N p) l25 x26 x27 l28) (l,0,0,[])=some (.inl ([],0,t',[]++X')):=e1
 show (dh (fun (l25,x26,x27,l28)=>eh fuel (iH N p) l25 x26 x27 l28) (l,0,0,[])).bind _=_
 rw [e1'];rfl
end
theorem zB{f:aq}{a e:Int}(h:(wf f a e).code=0):wf f a e=f:=by rw [(CJ h).2,BE]
theorem yI:∀ (l:List TEq) (b:Int) (f:aq),(pD b l f).code=0→pD b l f=f
 |[],_,_,_=>rfl
 |q :: l,b,f,h=>by
  have h1:=yI l _ _ h
  rw [pD,h1]
  rw [pD,h1] at h
  exact zB h
theorem vH:∀ (l:List aE) (b i:Int) (f:aq),(mE b i l f).code=0→mE b i l f=f
 |[],_,_,_,_=>rfl
 |x :: l,b,i,f,h=>by
  have h1:=vH l _ _ _ h
  rw [mE,h1]
  rw [mE,h1] at h
  have h2:=yI _ _ _ h
  rw [h2]
  rw [h2] at h
  exact zB h
theorem A3{p:az}(h:(lv p).code=0):lv p=aq.mk 0 0:=by
 have h1:=vH _ _ _ _ h
 unfold lv at h ⊢
 rw [h1] at h ⊢
 exact zB h
def kf(n:Nat)(p:az):aq:=if (lv p).code=0 then (if 12000<(iH n p).length then aq.mk 7 (-1) else aq.mk 0 0) else lv p
theorem A4(n:Nat)(hn:8000000<n)(p:az)(h:p.sz≤1048576):lO n p=some (kf n p):=by
 unfold lO kf
 rw [Dx n hn p (uz h),bSq]
 by_cases c:(lv p).code=0
 ·rw [iP c,iP c,AH n oM p (xh c) h,bSq,A3 c]
  by_cases g:12000<(iH n p).length
  ·rw [iP oM,iP g]
  ·rw [iN oM,iN g]
 ·rw [iN c,iN c]
theorem A5{n:Nat}{p:az}(h:(kf n p).code=0):(lv p).code=0∧kf n p=aq.mk 0 0:=by
 unfold kf at h ⊢
 by_cases c:(lv p).code=0
 ·rw [iP c] at h ⊢
  refine ⟨c,?_⟩
  split at h
  ·exact absurd h dM
  ·rename_i g;rw [iN g]
 ·rw [iN c] at h;exact absurd h c
theorem qB(n:Nat)(hn:8000000<n)(p:az)(h:p.sz≤1048576):ij n p=some (if (kf n p).code=0 then iH n p else [],kf n p):=by
 unfold ij
 rw [A4 n hn p h,bSq]
 by_cases c:(kf n p).code=0
 ·obtain ⟨c1,c2⟩:=A5 c
  rw [iN (fun k=>k c),AH n oM p (xh c1) h,bSq,iP c,c2]
 ·rw [iP c,iN c]
def rl:az:=az.mk [aE.mk [97] 0 [] [] [aw.mk [121] (gu.mk 105 [ag.mk 2 []])] [] [TEq.mk 25 [[121]] [] [] [ae.mk 10 0 0 [] [[ag.mk 2 []]] [ae.mk 4 13 0 [] [] [ae.mk 5 1 0 [] [] [ae.mk 1 0 1 [] [] [],ae.mk 1 0 2 [] [] []]]]]]]
theorem DL:rl.sz≤1048576:=by decide
theorem Fu:fJ [97]=true:=by
 unfold fJ
 refine dT ⟨by decide,by decide,⟨97,rfl,by decide⟩,by decide,fun i hi=>?_⟩
 have:i=0:=by simp at hi;exact hi
 subst this;decide
theorem DM:fJ [121]=true:=by
 unfold fJ
 refine dT ⟨by decide,by decide,⟨121,rfl,by decide⟩,by decide,fun i hi=>?_⟩
 have:i=0:=by simp at hi;exact hi
 subst this;decide
theorem zE:lv rl=aq.mk 0 0:=by
 simp [lv,rl,mE,pD,rB,jq,Fu,DM,ke,fsF,ku,Au,gn,oB,eqF,n7,pn,pns,exF,Dw,jX,nL,sq,wf]
theorem A6(n:Nat):iH (n+9) rl=[110,111,100,101,32,97,40,41,32,45,62,32,40,121,58,32,105,110,116,94,50,41,32,123,10,9,121,32,61,32,102,105,108,108,40,45,40,49,32,43,32,50,41,44,32,50,41,59,10,125,10]:=by
 have i1:Go.Lib.itoa 1=[49]:=by unfold Go.Lib.itoa;rw [iN dM];unfold Go.Lib.decDigits;rfl
 have i2:Go.Lib.itoa 2=[50]:=by unfold Go.Lib.itoa;rw [iN dM];unfold Go.Lib.decDigits;rfl
 have e1:exT (n+6) (ae.mk 1 0 1 [] [] [])=[49]:=by rw [← i1];rfl
 have e2:exT (n+6) (ae.mk 1 0 2 [] [] [])=[50]:=by rw [← i2];rfl
 have s2:kF [ag.mk 2 []]=[50]:=by
  unfold kF
  simp [fI,lz,jR,i2]
 have e3:exT (n+7) (ae.mk 5 1 0 [] [] [ae.mk 1 0 1 [] [] [],ae.mk 1 0 2 [] [] []])=[49,32,43,32,50]:=by
  show exB (exT (n+6)) _=_
  simp [exB,rkE,nc,atT,paT,n9,sr,e1,e2]
 have e4:exT (n+8) (ae.mk 4 13 0 [] [] [ae.mk 5 1 0 [] [] [ae.mk 1 0 1 [] [] [],ae.mk 1 0 2 [] [] []]])=[45,40,49,32,43,32,50,41]:=by
  show exB (exT (n+7)) _=_
  simp [exB,rkE,nc,atT,paT,e3]
 have e5:exT (n+9) (ae.mk 10 0 0 [] [[ag.mk 2 []]] [ae.mk 4 13 0 [] [] [ae.mk 5 1 0 [] [] [ae.mk 1 0 1 [] [] [],ae.mk 1 0 2 [] [] []]]])=[102,105,108,108,40,45,40,49,32,43,32,50,41,44,32,50,41]:=by
  show exB (exT (n+8)) _=_
  simp [exB,pP,lV,zp,e4,com,Go.Lib.join_one,pq,kh,s2]
 simp [iH,rl,kh,od,com,Go.Lib.join_one,Go.Lib.join_nil,kZ,AE,s2,ve,pu,eqT,e5]
theorem xz(n:Nat)(hn:8000000<n):jG (n+40)=some true:=by
 have hp:fE (n+40) vh=some (rl,aq.mk 0 0):=AR n
 have ht:=A6 (n+31)
 have hf:kf (n+40) rl=aq.mk 0 0:=by
  unfold kf
  rw [zE,iP rfl,show n+40=n+31+9 from rfl,ht,iN dM]
 show (fE (n+40) vh).bind _=_
 rw [hp,bSq]
 show (ij (n+40) rl).bind _=_
 rw [qB (n+40) oM rl DL,bSq,hf]
 rw [show n+40=n+31+9 from rfl,ht]
 rfl
theorem BU{T:Type}[Inhabited T]{R:T→T→Prop}{a b:T}{l m:List T}:nA R (a :: l) (b :: m)↔R a b∧nA R l m:=by
 constructor
 ·rintro ⟨h1,h2⟩
  exact ⟨h2 0 (by simp),by simpa using h1,fun i hi=>h2 (i+1) (by simpa using hi)⟩
 ·rintro ⟨h,h1,h2⟩
  refine ⟨by simp [h1],fun i hi=>?_⟩
  cases i with
  |zero=>exact h
  |succ i=>exact h2 i (by simpa using hi)
theorem tZ{T:Type}[Inhabited T]{R:T→T→Prop}{F:Nat→T→Ω}(hF:∀ i a b,R a b→F i a=F i b):∀ (l m:List T) (i:Nat),nA R l m→kh F i l=kh F i m
 |[],[],_,_=>rfl
 |[],b :: m,_,h=>by have:=h.1;simp at this
 |a :: l,[],_,h=>by have:=h.1;simp at this
 |a :: l,b :: m,i,h=>by
  obtain ⟨h1,h2⟩:=BU.1 h
  rw [kh,kh,hF i a b h1,tZ hF l m (i+1) h2]
theorem DN(n:Nat){p q:TEq}(h:EqR p q):eqT n p=eqT n q:=by
 obtain ⟨h1,h2,h3,h4⟩:=h
 unfold eqT
 rw [h1,h2,h3,h4]
theorem A7(n:Nat){x y:aE}(h:qy x y):od n x=od n y:=by
 obtain ⟨h1,h2,h3,h4,h5,h6⟩:=h
 have e:=tZ (F:=pu n) (fun i a b h=>by unfold pu;rw [DN n h]) x.eqs y.eqs 0 h6
 unfold od
 rw [h1,h2,h3,h4,h5,e]
theorem uG(n:Nat){a b:az}(h:sh a b):iH n a=iH n b:=tZ (F:=fun _ x=>od n x) (fun _ _ _ h=>A7 n h) a.nodes b.nodes 0 h
theorem xC{T:Type}[Inhabited T]{R:T→T→Prop}(hR:∀ a b,R a b→R b a){l m:List T}(h:nA R l m):nA R m l:=⟨h.1.symm,fun i hi=>hR _ _ (h.2 i (by rw [h.1];exact hi))⟩
theorem vI{T:Type}[Inhabited T]{R:T→T→Prop}(hR:∀ a b c,R a b→R b c→R a c){l m k:List T}(h:nA R l m)(h':nA R m k):nA R l k:=⟨h.1.trans h'.1,fun i hi=>hR _ _ _ (h.2 i hi) (h'.2 i (by rw [← h.1];exact hi))⟩
theorem Fv(a b:TEq)(h:EqR a b):EqR b a:=⟨h.1.symm,h.2.1.symm,h.2.2.1.symm,h.2.2.2.symm⟩
theorem DO(a b c:TEq)(h:EqR a b)(k:EqR b c):EqR a c:=⟨h.1.trans k.1,h.2.1.trans k.2.1,h.2.2.1.trans k.2.2.1,h.2.2.2.trans k.2.2.2⟩
theorem BV(a b:aE)(h:qy a b):qy b a:=⟨h.1.symm,h.2.1.symm,h.2.2.1.symm,h.2.2.2.1.symm,h.2.2.2.2.1.symm,xC Fv h.2.2.2.2.2⟩
theorem A8(a b c:aE)(h:qy a b)(k:qy b c):qy a c:=⟨h.1.trans k.1,h.2.1.trans k.2.1,h.2.2.1.trans k.2.2.1,h.2.2.2.1.trans k.2.2.2.1,h.2.2.2.2.1.trans k.2.2.2.2.1,vI DO h.2.2.2.2.2 k.2.2.2.2.2⟩
theorem BW{a b:az}(h:sh a b):sh b a:=xC BV h
theorem A9{a b c:az}(h:sh a b)(k:sh b c):sh a c:=vI A8 h k
theorem Fw{p:az}{x:aE}{q:TEq}{y:ae}(hx:x∈p.nodes)(hq:q∈x.eqs)(hy:y∈q.e):y.sz≤p.sz:=by
 have h1:=kJ (f:=aE.sz) hx
 have h2:=kJ (f:=TEq.sz) hq
 have h3:=kJ (f:=ae.sz) hy
 have h4:=vV x
 have h5:=AF q
 have h6:p.sz=szL aE.sz p.nodes+1:=by unfold az.sz;omega
 omega
theorem BX{p:az}(h:(lv p).code=0):0<p.nodes.length∧p.nodes.length≤10:=by
 have h1:=(xg _ _ _ _ h).1
 have h2:=(CJ h1).2
 obtain ⟨h3,h4⟩:=gN h2
 constructor
 ·split at h3
  ·omega
  ·omega
 ·split at h4
  ·omega
  ·omega
theorem rn{n:Nat}{p:az}(h:(kf n p).code=0):(lv p).code=0∧(iH n p).length≤12000:=by
 obtain ⟨c,e⟩:=A5 h
 refine ⟨c,?_⟩
 unfold kf at h
 rw [iP c] at h
 split at h
 ·exact absurd h dM
 ·omega
theorem uH(n:Nat)(hn:8000000<n)(p:az)(h:p.sz≤1048576)(hf:(kf n p).code=0):∃ q,fE n (iH n p)=some (q,aq.mk 0 0)∧sh p q:=by
 obtain ⟨c,hl⟩:=rn hf
 obtain ⟨l0,l1⟩:=BX c
 exact A2 oM (fun x hx=>Gr (xh c x hx)) (fun x hx q hq y hy=>by have:=Fw hx hq hy;omega) l0 l1 hl
end Pam
