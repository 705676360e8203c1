/- The theorem on regions whose order is open: what holds in the text's order holds in every order that the edges allow. -/
import Derived.Test.YtmlkpniimpahoaaGreatDoorSBase1
set_option linter.all false
namespace Pam
open Go
section
variable {P:Program} {ops:Array Oper}
theorem AB{E E':Env}{ts:List Tmp}(h:∀ t∈ts,E.get t=E'.get t)(x:Operand)(hx:∀ t,x=.tmp t→t∈ts):ev E x=ev E' x:=by
 cases x with
 |tmp t=>exact h t (hx t rfl)
 |_=>rfl
theorem sy{E E':Env}(l:List Operand)(h:∀ x∈l,ev E x=ev E' x):l.map (ev E)=l.map (ev E'):=List.map_congr_left h
theorem qs{γ:Bool}{E E':Env}{σ:List OB}(op:Op)(h:∀ x∈op.operands,ev E x=ev E' x):cA P γ E σ op=cA P γ E' σ op:=by
 cases op
 case move x=>simp only [cA];rw [h x (by simp [Op.operands])]
 case assign x=>simp only [cA];rw [h x (by simp [Op.operands])]
 case pick c a b=>simp only [cA];rw [h c (by simp [Op.operands]),h a (by simp [Op.operands]),h b (by simp [Op.operands])]
 case box T x=>simp only [cA];rw [h x (by simp [Op.operands])]
 case build T parts =>
  simp only [cA,wz]
  rw [List.map_congr_left]
  intro p hp
  rw [h p.2 (by simp only [Op.operands,List.mem_toArray,List.mem_map];exact ⟨p,hp,rfl⟩)]
 case buildSlice T len parts =>
  simp only [cA,wz]
  rw [List.map_congr_left]
  intro p hp
  rw [h p.2 (by simp only [Op.operands,List.mem_toArray,List.mem_map];exact ⟨p,hp,rfl⟩)]
 case load T x=>simp only [cA];rw [h x (by simp [Op.operands])]
 case store T x y=>simp only [cA];rw [h x (by simp [Op.operands]),h y (by simp [Op.operands])]
 case nilCheck x=>simp only [cA];rw [h x (by simp [Op.operands])]
 case binOp op T x y T'=>simp only [cA];rw [h x (by simp [Op.operands]),h y (by simp [Op.operands])]
 case unOp op T x=>simp only [cA];rw [h x (by simp [Op.operands])]
 case convert s d x=>simp only [cA];rw [h x (by simp [Op.operands])]
 case fieldAddr T x i=>simp only [cA];rw [h x (by simp [Op.operands])]
 case field T x i=>simp only [cA];rw [h x (by simp [Op.operands])]
 case indexAddr T x i=>simp only [cA];rw [h x (by simp [Op.operands]),h i (by simp [Op.operands])]
 case index T x i=>simp only [cA];rw [h x (by simp [Op.operands]),h i (by simp [Op.operands])]
 case extract x i=>simp only [cA];rw [h x (by simp [Op.operands])]
 case slice T x lo hi mx =>
  simp only [cA]
  rw [h x (by simp [Op.operands])]
  have hl:∀ o:Option Operand,(∀ y,o=some y→ev E y=ev E' y)→o.map (ev E)=o.map (ev E'):=by
   intro o ho;cases o with
   |none=>rfl
   |some y=>simp [ho y rfl]
  rw [hl lo fun y hy=>h y (by simp [Op.operands,hy]),hl hi fun y hy=>h y (by simp [Op.operands,hy]),hl mx fun y hy=>h y (by simp [Op.operands,hy])]
 case makeSlice T x y=>simp only [cA];rw [h x (by simp [Op.operands]),h y (by simp [Op.operands])]
 case makeFunc fn first caps =>
  simp only [cA]
  rw [sy caps.toList fun x hx=>h x (by simp only [Op.operands,Array.mem_append];right;simpa using hx),sy first.toList fun x hx=>h x (by simp only [Op.operands,Array.mem_append];left;simpa using hx)]
 case call c =>
  simp only [cA]
  have hargs:c.args.toList.map (ev E)=c.args.toList.map (ev E'):=sy _ fun x hx=>h x (by simp only [Op.operands,Call.operands,Array.mem_append];right;simpa using hx)
  rw [hargs]
  split
  ·rename_i f hf
   rw [h f (by simp only [Op.operands,Call.operands,Array.mem_append];left;simp [hf])]
  ·rfl
  ·rfl
 all_goals rfl
theorem uC{E E':Env}(o:Oper)(h:∀ t∈o.looksAt ops,E.get t=E'.get t):fm ops E o.guard=fm ops E' o.guard:=by
 unfold fm
 cases hg:o.guard with
 |none=>rfl
 |some jw =>
  obtain ⟨j,want⟩:=jw
  simp only
  cases ho:ops[j]? with
  |none=>rfl
  |some o' =>
   simp only
   cases hd:o'.dst with
   |none=>rfl
   |some d =>
    simp only
    rw [h d (by simp [Oper.looksAt,hg,ho,hd])]
def sA:PV→Option Nat
 |.c (.optr b _)=>some b
 |.c (.osl b _ _ _)=>some b
 |.c (.oel b _ _ _)=>some b
 |_=>none
theorem Bp{σ σ':List OB}{c:CV}(h:∀ b ob,sA (.c c)=some b→σ[b]? = some ob→σ'[b]? = some ob)(ha:iT σ c):iT σ' c:=by
 cases c<;>simp only [iT] at ha ⊢
 all_goals
  split at ha
  ·rename_i hb;rw [h _ _ rfl hb];exact ha
  ·exact ha.elim
theorem CJ{E:Env}{σ σ':List OB}{op:Op}{C:Prop}{v:PV}(h:cA P true E σ op=.ok C v)(hC:C)
  (hh:∀ x,(ev E x).cond=true→∀ b ob,sA (ev E x).v=some b→σ[b]? = some ob→σ'[b]? = some ob):∃ C',cA P true E σ' op=.ok C' v∧C':=by
 have al:∀ x c,(ev E x).v=.c c→aR true (ev E x)→iT σ c→iT σ' c:=fun x c hv hn ha=>Bp (fun b ob ht hb=>hh x (hn rfl) b ob (by rw [hv];exact ht) hb) ha
 have wd:∀ x b ver lo len s,(ev E x).v=.c (.osl b ver lo len)→aR true (ev E x)→yO σ b s→yO σ' b s:=by
  intro x b ver lo len s hv hn ha
  unfold yO at ha ⊢
  cases hb:σ[b]? with
  |none=>rw [hb] at ha;exact ha.elim
  |some ob=>rw [hh x (hn rfl) b ob (by rw [hv];rfl) hb];rw [hb] at ha;exact ha
 cases op
 case load T x =>
  simp only [cA,qo] at h ⊢
  split at h
  ·rename_i b off hv
   split at h
   ·rename_i cs hb
    simp only [R.ok.injEq] at h;obtain ⟨rfl,rfl⟩:=h
    have:=hh x (hC.1 rfl) b _ (by rw [hv];rfl) hb
    exact ⟨_,by first|rfl|(simp only [hv,this];done)|(simp only [hv,this];rfl)|(simp only [this];done)|(simp only [this];rfl),hC⟩
   ·cases h
  ·rename_i s es i j hv
   exact ⟨C,by first|exact h|(simp only [hv];exact h),hC⟩
  ·rename_i b ver i j hv
   split at h
   ·rename_i s ver' T' es hb
    simp only [R.ok.injEq] at h;obtain ⟨rfl,rfl⟩:=h
    have:=hh x (hC.1 rfl) b _ (by rw [hv];rfl) hb
    exact ⟨_,by first|rfl|(simp only [hv,this];done)|(simp only [hv,this];rfl)|(simp only [this];done)|(simp only [this];rfl),hC⟩
   ·cases h
  ·cases h
 case nilCheck x =>
  simp only [cA,kL] at h ⊢
  split at h
  ·rename_i b off hv
   simp only [R.ok.injEq] at h;obtain ⟨rfl,rfl⟩:=h
   refine ⟨_,by first|rfl|(simp only [hv];done)|(simp only [hv];rfl),?_⟩
   exact ⟨hC.1,al x _ hv hC.1 hC.2⟩
  ·rename_i hv;exact ⟨C,by first|exact h|(simp only [hv];exact h),hC⟩
  ·rename_i b ver i j hv
   simp only [R.ok.injEq] at h;obtain ⟨rfl,rfl⟩:=h
   refine ⟨_,by first|rfl|(simp only [hv];done)|(simp only [hv];rfl),?_⟩
   exact ⟨hC.1,al x _ hv hC.1 hC.2⟩
  ·cases h
 case fieldAddr T x i =>
  simp only [cA,gT] at h ⊢
  split at h
  ·rename_i b off hv
   simp only [R.ok.injEq] at h;obtain ⟨rfl,rfl⟩:=h
   refine ⟨_,by first|rfl|(simp only [hv];done)|(simp only [hv];rfl),?_⟩
   exact ⟨hC.1,al x _ hv hC.1 hC.2.1,hC.2.2⟩
  ·rename_i hv;exact ⟨C,by first|exact h|(simp only [hv];exact h),hC⟩
  ·rename_i b ver k j hv
   simp only [R.ok.injEq] at h;obtain ⟨rfl,rfl⟩:=h
   refine ⟨_,by first|rfl|(simp only [hv];done)|(simp only [hv];rfl),?_⟩
   exact ⟨hC.1,al x _ hv hC.1 hC.2.1,hC.2.2⟩
  ·cases h
 case indexAddr T x i =>
  simp only [cA,fT] at h ⊢
  split at h
  ·rename_i hv hv2;exact ⟨C,by first|exact h|(simp only [hv,hv2];exact h),hC⟩
  ·rename_i b ver lo len k n hv hv2
   split at h
   ·rename_i s ver' T' es hb
    simp only [R.ok.injEq] at h;obtain ⟨rfl,rfl⟩:=h
    have:=hh x (hC.1 rfl) b _ (by rw [hv];rfl) hb
    exact ⟨_,by first|rfl|(simp only [hv,hv2,this];done)|(simp only [hv,hv2,this];rfl)|(simp only [this];done)|(simp only [this];rfl),hC⟩
   ·cases h
  ·rename_i b off k n hv hv2
   simp only [R.ok.injEq] at h;obtain ⟨rfl,rfl⟩:=h
   refine ⟨_,by first|rfl|(simp only [hv,hv2];done)|(simp only [hv,hv2];rfl),?_⟩
   exact ⟨hC.1,hC.2.1,al x _ hv hC.1 hC.2.2.1,hC.2.2.2⟩
  ·rename_i b ver k j k0 n hv hv2
   split at h
   ·rename_i s ver' T' es hb
    simp only [R.ok.injEq] at h;obtain ⟨rfl,rfl⟩:=h
    have:=hh x (hC.1 rfl) b _ (by rw [hv];rfl) hb
    exact ⟨_,by first|rfl|(simp only [hv,hv2,this];done)|(simp only [hv,hv2,this];rfl)|(simp only [this];done)|(simp only [this];rfl),hC⟩
   ·cases h
  ·rename_i hv hv2;exact ⟨C,by first|exact h|(simp only [hv,hv2];exact h),hC⟩
  ·cases h
 case slice T x lo hi mx =>
  simp only [cA,pO] at h ⊢
  split at h
  ·rename_i m hm
   exact ⟨C,by first|exact h|(simp only [hm];exact h),hC⟩
  ·rename_i hm
   split at h
   ·rename_i s es hv
    split at h
    ·rename_i e1 e2;exact ⟨C,by first|exact h|(simp only [hm,hv,e1,e2];exact h),hC⟩
    ·cases h
   ·rename_i b ver lo0 len hv
    split at h
    ·rename_i hlo
     split at h
     ·rename_i _ _ e2
      simp only [R.ok.injEq] at h;obtain ⟨rfl,rfl⟩:=h
      refine ⟨_,by first|rfl|(simp only [hm,hv,hlo,e2];done)|(simp only [hm,hv,hlo,e2];rfl),?_⟩
      exact ⟨hC.1,hC.2.1,al x _ hv hC.1 hC.2.2.1,hC.2.2.2⟩
     ·cases h
    ·rename_i q hlo
     split at h
     ·rename_i _ _ _ _ e1 e2
      simp only [R.ok.injEq] at h;obtain ⟨rfl,rfl⟩:=h
      refine ⟨_,by first|rfl|(simp only [hm,hv,hlo,e1,e2];done)|(simp only [hm,hv,hlo,e1,e2];rfl),?_⟩
      exact ⟨hC.1,hC.2.1,hC.2.2.1,al x _ hv hC.1 hC.2.2.2.1,hC.2.2.2.2.1,hC.2.2.2.2.2.1,wd x _ _ _ _ _ hv hC.1 hC.2.2.2.2.2.2.1,hC.2.2.2.2.2.2.2⟩
     ·cases h
   ·rename_i s hv
    split at h
    ·rename_i e1 e2;exact ⟨C,by first|exact h|(simp only [hm,hv,e1,e2];exact h),hC⟩
    ·cases h
   ·rename_i hv
    exact ⟨C,by first|exact h|(simp only [hm,hv];exact h),hC⟩
   ·cases h
 case call c =>
  simp only [cA] at h ⊢
  split at h
  ·unfold xl at h;split at h<;>first|cases h|(split at h<;>first|cases h|(unfold xk at h;split at h<;>cases h))
  ·rename_i b hcal
   try simp only [hcal]
   unfold jZ at h ⊢
   split at h
   ·rename_i T x hts hxs
    try simp only [hts,hxs]
    have hx:∃ X,x=ev E X:=by
     have:x∈c.args.toList.map (ev E):=by rw [hxs];simp
     obtain ⟨X,_,hX⟩:=List.mem_map.1 this
     exact ⟨X,hX.symm⟩
    obtain ⟨X,rfl⟩:=hx
    unfold ur at h ⊢
    split at h
    ·rename_i hv;exact ⟨C,by first|exact h|(simp only [hv];exact h),hC⟩
    ·rename_i b ver lo len hv
     simp only [R.ok.injEq] at h;obtain ⟨rfl,rfl⟩:=h
     refine ⟨_,by first|rfl|(simp only [hv];done)|(simp only [hv];rfl),?_⟩
     exact ⟨hC.1,al X _ hv hC.1 hC.2.1,hC.2.2⟩
    ·rename_i hv;exact ⟨C,by first|exact h|(simp only [hv];exact h),hC⟩
    ·rename_i hv;exact ⟨C,by first|exact h|(simp only [hv];exact h),hC⟩
    ·rename_i hv;exact ⟨C,by first|exact h|(simp only [hv];exact h),hC⟩
    ·rename_i hv;exact ⟨C,by first|exact h|(simp only [hv];exact h),hC⟩
    ·cases h
   ·split at h
    ·unfold pk at h
     split at h
     ·cases h
     ·split at h<;>first|cases h|(split at h<;>cases h)
    ·cases h
   ·rename_i hxs;exact ⟨C,by first|exact h|(simp only [hxs];exact h),hC⟩
   ·rename_i hxs;exact ⟨C,by first|exact h|(simp only [hxs];exact h),hC⟩
   ·cases h
  ·cases h
 all_goals first
  |exact ⟨C,h,hC⟩
  |(simp only [cA] at h;unfold pP at h;split at h<;>cases h)
  |(simp only [cA] at h;unfold zo at h;cases h)
  |(simp only [cA] at h;unfold jX at h;split at h<;>first|cases h|(split at h<;>cases h))
  |(simp only [cA] at h;unfold qp at h;split at h<;>first|cases h|(split at h<;>cases h))
  |(simp only [cA] at h;unfold lK at h;split at h<;>cases h)
  |cases h
theorem xy{E:Env}{σ σ':List OB}{γ:Bool}{op:Op}{C:Prop}{f:FuncId}{args:List PV}(h:cA P γ E σ op=.call C f args):cA P γ E σ' op=.call C f args:=by
 cases op
 case call c =>
  simp only [cA] at h ⊢
  split at h
  ·exact h
  ·unfold jZ at h
   split at h
   ·unfold ur at h;split at h<;>cases h
   ·split at h
    ·unfold pk at h
     split at h
     ·cases h
     ·split at h<;>first|cases h|(split at h<;>cases h)
    ·cases h
   ·unfold jY at h;split at h<;>cases h
   ·unfold jY at h;split at h<;>cases h
   ·cases h
  ·cases h
 case load=>simp only [cA] at h;unfold qo at h;split at h<;>first|cases h|(split at h<;>cases h)
 case nilCheck=>simp only [cA] at h;unfold kL at h;split at h<;>cases h
 case fieldAddr=>simp only [cA] at h;unfold gT at h;split at h<;>cases h
 case indexAddr=>simp only [cA] at h;unfold fT at h;split at h<;>first|cases h|(split at h<;>cases h)
 case slice =>
  simp only [cA] at h
  unfold pO at h
  split at h
  ·split at h
   ·split at h
    ·split at h<;>cases h
    ·cases h
   ·cases h
  ·split at h<;>first|cases h|(split at h<;>first|cases h|(split at h<;>cases h))
 case alloc=>simp only [cA] at h;unfold pP at h;split at h<;>cases h
 case box=>simp only [cA] at h;unfold zo at h;cases h
 case buildSlice=>simp only [cA] at h;unfold jX at h;split at h<;>first|cases h|(split at h<;>cases h)
 case store=>simp only [cA] at h;unfold qp at h;split at h<;>first|cases h|(split at h<;>cases h)
 case makeSlice=>simp only [cA] at h;unfold lK at h;split at h<;>cases h
 all_goals exact h
end
section
variable {P:Program}
theorem CK{G:Gh}{E:Env}{σ:List OB}{a:Act}{w:World}{C:Prop}{f:FuncId}{args:List PV}{res:PV}{K:Act→World→Prop}{Q:Exit→Act→World→Prop}(hsim:Sim G E σ a w)(o:Oper)
  (hrun:cA P true E σ o.op=.call C f args) (hC:C) (hs:a8 P f args res) (hargs:args.all PV.noOwn=true) (hres:∀ n,res.ren (du n [])=res)
  (next:∀ G' w' v,Gle G G'→bG G.own G'.own→Inv G' σ w'→bg G' res v→K (a.put o.dst v) w'):o.wp P a w K Q:=by
 have ha:args.map (PV.ren (du σ.length []))=args∧fp 0 args:=by
  clear hs hrun
  induction args with
  |nil=>exact ⟨rfl,trivial⟩
  |cons p l ih =>
   simp only [List.all_cons,Bool.and_eq_true] at hargs
   obtain ⟨h1,h2⟩:=PV.noOwn_ren hargs.1 (du σ.length [])
   obtain ⟨h3,h4⟩:=ih hargs.2
   exact ⟨by simp [h1,h3],h2 0,h4⟩
 obtain ⟨hf,hcall⟩:=hs
 obtain ⟨vs,e1,e2⟩:=ue hsim rfl o hrun hC hf
 have hi:=hsim.inv
 have hnd:([]:List Nat).Nodup:=List.nodup_nil
 have hlt:∀ b∈([]:List Nat),b<σ.length:=by simp
 have hci:Inv (cY G w []) [] w:=sx (σc:=[]) hi hnd hlt rfl (fun k ob h=>by simp at h) trivial
 have hown:=oX (w:=w) hi hlt
 rw [← ha.1] at e2
 have hcv:=hcall (cY G w []) w vs (by simp [cY]) rfl hci (aW.unmapP (G:=G) (G':=cY G w []) rfl _ hown ha.2 e2)
 unfold Oper.wp
 rw [e1]
 refine hcv.mono fun e w' hr=>?_
 obtain ⟨G',σ',p,v,h1,h2,h3,h4⟩:=hr
 rcases h4 with ⟨rfl,rfl,rfl⟩|⟨_,h4⟩
 ·obtain ⟨G'',g1,g2,g3,g4⟩:=qT hi hnd hlt h1 h2 (by simp)
  have g5:=g4 _ v h3
  rw [hres] at g5
  exact next G'' w' v g1 g2 (by simpa [dJ] using g3) g5
 ·exact h4.elim
theorem Bq{G:Gh}{E:Env}{σ σ2:List OB}{a:Act}{w:World}{C:Prop}{f:FuncId}{args:List PV}{res:PV}{K:Act→World→Prop}{Q:Exit→Act→World→Prop}(hsim:Sim G E σ a w)(o:Oper)
  (hrun:cA P true E σ o.op=.call C f args) (hC:C) (hs:rm P σ f args res σ2)
  (next:∀ G' w' v,Gle G G'→(∀ b o,G.H b=some o→G'.H b=some o)→bG G.own G'.own→Inv G' σ2 w'→bg G' res v→K (a.put o.dst v) w'):o.wp P a w K Q:=by
 obtain ⟨args',σc,post,pp,ρ,⟨hf,hcall⟩,hnd,hlt,hargs,hσ,hu,hub,hpost,hpp⟩:=hs
 obtain ⟨vs,e1,e2⟩:=ue hsim rfl o hrun hC hf
 have hi:=hsim.inv
 have hlen:σc.length=ρ.length:=by have:=congrArg List.length hσ;simpa using this.symm
 have hσ':∀ (k:Nat) (ob:OB),σc[k]? = some ob→∃ b,ρ[k]? = some b∧σ[b]? = some (ob.ren (du σ.length ρ)):=by
  intro k ob h
  have hk:k<ρ.length:=by rw [← hlen];exact (List.getElem?_eq_some_iff.1 h).1
  have:=congrArg (fun l=>l[k]?) hσ
  simp only [List.getElem?_map,h,Option.map_some,List.getElem?_eq_getElem hk,sJ] at this
  exact ⟨ρ[k],List.getElem?_eq_getElem hk,this⟩
 have hci:=sx hi hnd hlt hlen hσ' hub
 have hown:=oX (w:=w) hi hlt
 rw [hargs] at e2
 have hcv:=hcall (cY G w ρ) w vs (by simp [cY,hlen]) rfl hci (aW.unmapP (G:=G) (G':=cY G w ρ) rfl _ hown hu e2)
 unfold Oper.wp
 rw [e1]
 refine hcv.mono fun e w' hres=>?_
 obtain ⟨G',σ',p,v,h1,h2,h3,h4⟩:=hres
 have hl:ρ.length≤σ'.length:=by
  rw [← h2.len]
  rcases Nat.eq_zero_or_pos ρ.length with e0|e0
  ·omega
  ·have hlast:(cY G w ρ).own[ρ.length - 1]? = some ((cY G w ρ).own[ρ.length - 1]'(by simp [cY];omega)):=List.getElem?_eq_getElem _
   obtain ⟨oo',q1,_⟩:=h1.own _ _ (by simp [cY];omega) hlast
   have:=(List.getElem?_eq_some_iff.1 q1).1
   omega
 obtain ⟨G'',g1,g2,g3,g4⟩:=qT hi hnd hlt h1 h2 hl
 rcases h4 with ⟨rfl,h4⟩|⟨rfl,h4⟩
 ·obtain ⟨k1,k2⟩:=hpost p σ' h4 hl
  rw [k2] at g3
  have g5:=g4 p v h3
  rw [k1] at g5
  exact next G'' w' v g1 g1.le.H g2 g3 g5
 ·exact (hpp _ _ h4).elim
theorem CL{G:Gh}{σ:List OB}{w:World}{p:PV}{v:Value}(hi:Inv G σ w)(h:bg G p v){b:Nat}(hb:sA p=some b):b<σ.length:=by
 have:∀ oo:Option OG,G.own[b]? = some oo→b<σ.length:=fun oo h=>by rw [← hi.len];exact (List.getElem?_eq_some_iff.1 h).1
 unfold sA at hb
 split at hb<;>simp only [sJ,reduceCtorEq] at hb
 ·subst hb;have h':gm G (.optr _ _) v:=h;obtain ⟨_,oo,h1,_⟩:=h';exact this oo h1
 ·subst hb;have h':gm G (.osl _ _ _ _) v:=h;obtain ⟨_,oo,h1,_⟩:=h';exact this oo h1
 ·subst hb;have h':gm G (.oel _ _ _ _) v:=h;obtain ⟨_,oo,h1,_⟩:=h';exact this oo h1
def fv(E:Env):List Tmp→Env
 |[]=>⟨E.n,E.na,.nil⟩
 |t :: r=>(fv E r).put t (E.get t)
theorem nO(E:Env):∀ l,(fv E l).n=E.n∧(fv E l).na=E.na
 |[]=>⟨rfl,rfl⟩
 |_ :: r=>nO E r
theorem oq(E:Env):∀ (l:List Tmp) (t:Tmp),(∀ x∈l,x<512)→(t∈l→(fv E l).get t=E.get t)∧(t ∉ l→((fv E l).get t).cond=false)
 |[],t,_=>⟨fun h=>by simp at h,fun _=>by simp [fv,Env.get,Tr.get,Tr.ent]⟩
 |x :: l,t,h=>by
  obtain ⟨h1,h2⟩:=oq E l t fun y hy=>h y (by simp [hy])
  simp only [fv]
  rw [Env.get_put' _ x t _ (h x (by simp))]
  constructor
  ·intro ht
   by_cases e:t=x
   ·subst e;simp
   ·rw [iN e];exact h1 (by simpa [e] using ht)
  ·intro ht
   simp only [List.mem_cons,not_or] at ht
   rw [iN ht.1];exact h2 ht.2
theorem ug:∀ (l:List Oper) (tr:List TS) (E:Env) (k:Nat),(cR E l tr k).n=E.n∧(cR E l tr k).na=E.na
 |[],tr,E,k=>by cases k<;>simp [cR]
 |o :: l,[],E,k=>by cases k<;>simp [cR]
 |o :: l,ts :: tr,E,0=>by simp [cR]
 |o :: l,ts :: tr,E,k+1=>by
  simp only [cR]
  obtain ⟨h1,h2⟩:=ug l tr (E.putD o.dst ts.e) k
  rw [h1,h2]
  cases o.dst<;>exact ⟨rfl,rfl⟩
structure Chk (ops:Array Oper) (l:List Oper) (masks:List Nat) (bar:List Bool):Prop where
 mask:∀ (i:Nat) (o:Oper),l[i]? = some o→masks.getD i 0=orM masks (ep o)
 lt:∀ (i:Nat) (o:Oper),l[i]? = some o→∀ j∈ep o,j<i
 dst:∀ (i:Nat) (o:Oper),l[i]? = some o→∀ d,o.dst=some d→d<512
 look:∀ (i:Nat) (o:Oper),l[i]? = some o→∀ t∈o.looksAt ops,t<512
 loud:∀ (i j:Nat) (x y:Oper),l[i]? = some x→l[j]? = some y→kG x=true→kG y=true→om masks i j=true
 hit:∀ (i j:Nat) (x y:Oper),l[i]? = some x→l[j]? = some y→zw ops x y=true→om masks i j=true
 bar:∀ (i j:Nat) (x y:Oper),l[i]? = some x→l[j]? = some y→bar.getD i false=true→om masks i j=true
theorem FD{ops:Array Oper}{l:List Oper}{masks:List Nat}{bar:List Bool}(h:chk ops l masks bar=true):Chk ops l masks bar:=by
 unfold chk at h
 simp only [Bool.and_eq_true,List.all_eq_true] at h
 obtain ⟨h1,h2⟩:=h
 have m:∀ (i:Nat) (o:Oper),l[i]? = some o→(o,i)∈l.zipIdx:=fun i o ho=>by
  rw [List.mem_zipIdx_iff_getElem?];simpa using ho
 constructor
 ·intro i o ho;have:=h1 _ (m i o ho);simp only [Bool.and_eq_true,beq_iff_eq] at this;exact this.1.1.1
 ·intro i o ho j hj
  have:=h1 _ (m i o ho)
  simp only [Bool.and_eq_true,List.all_eq_true,decide_eq_true_eq] at this
  exact this.1.1.2 j hj
 ·intro i o ho d hd
  have:=h1 _ (m i o ho)
  simp only [Bool.and_eq_true,hd,decide_eq_true_eq] at this
  exact this.1.2
 ·intro i o ho t ht
  have:=h1 _ (m i o ho)
  simp only [Bool.and_eq_true,List.all_eq_true,decide_eq_true_eq] at this
  exact this.2 t ht
 ·intro i j x y hx hy lx ly
  have:=h2 _ (m i x hx) _ (m j y hy)
  simp only [Bool.and_eq_true,Bool.or_eq_true,Bool.not_eq_true',lx,ly] at this
  simpa using this.1.1
 ·intro i j x y hx hy hh
  have:=h2 _ (m i x hx) _ (m j y hy)
  simp only [Bool.and_eq_true,Bool.or_eq_true,Bool.not_eq_true',hh] at this
  simpa using this.1.2
 ·intro i j x y hx hy hh
  have:=h2 _ (m i x hx) _ (m j y hy)
  simp only [Bool.and_eq_true,Bool.or_eq_true,Bool.not_eq_true',hh] at this
  simpa using this.2
def uQ(l:List Oper)(d:Nat→Bool):Prop:=∀ (i:Nat) (o:Oper),l[i]? = some o→d i=true→∀ j∈ep o,d j=true
theorem Chk.bit{ops:Array Oper}{l:List Oper}{masks:List Nat}{bar:List Bool}(c:Chk ops l masks bar){d:Nat→Bool}(hd:uQ l d):∀ (i:Nat) (o:Oper),l[i]? = some o→∀ j,(masks.getD i 0).testBit j=true→j<i∧(d i=true→d j=true):=by
 intro i
 induction i using Nat.strongRecOn with
 |_ i ih =>
  intro o ho j hj
  rw [c.mask i o ho] at hj
  obtain ⟨k,hk,h⟩:=vw masks j _ hj
  have hlt:=c.lt i o ho k hk
  have hkl:k<l.length:=by have:=(List.getElem?_eq_some_iff.1 ho).1;omega
  rcases h with rfl|h
  ·exact ⟨hlt,fun hi=>hd i o ho hi k hk⟩
  ·obtain ⟨h1,h2⟩:=ih k hlt l[k] (List.getElem?_eq_getElem hkl) j h
   exact ⟨by omega,fun hi=>h2 (hd i o ho hi k hk)⟩
theorem Chk.done{ops:Array Oper}{l:List Oper}{masks:List Nat}{bar:List Bool}(c:Chk ops l masks bar){d:Nat→Bool}(hd:uQ l d){i:Nat}{o:Oper}(ho:l[i]? = some o)(hi:d i=false)
  (hr:∀ j∈ep o,d j=true) {j:Nat} {y:Oper} (hy:l[j]? = some y) (hord:om masks i j=true∨om masks j i=true):d j=decide (j<i):=by
 by_cases e:j=i
 ·subst e;simp [hi]
 ·have hord':(masks.getD i 0).testBit j=true∨(masks.getD j 0).testBit i=true:=by
   rcases hord with h|h<;>simp only [om,Bool.or_eq_true,beq_iff_eq] at h
   ·rcases h with (h|h)|h
    ·exact (e h.symm).elim
    ·exact .inl h
    ·exact .inr h
   ·rcases h with (h|h)|h
    ·exact (e h).elim
    ·exact .inr h
    ·exact .inl h
  rcases hord' with h|h
  ·have hlt:=(c.bit hd i o ho j h).1
   rw [c.mask i o ho] at h
   obtain ⟨k,hk,h⟩:=vw masks j _ h
   have hkl:k<l.length:=by have:=(List.getElem?_eq_some_iff.1 ho).1;have:=c.lt i o ho k hk;omega
   have hdj:d j=true:=by
    rcases h with rfl|h
    ·exact hr k hk
    ·exact (c.bit hd k l[k] (List.getElem?_eq_getElem hkl) j h).2 (hr k hk)
   rw [hdj];simp [hlt]
  ·obtain ⟨h1,h2⟩:=c.bit hd j y hy i h
   have hdj:d j=false:=by
    cases hh:d j with
    |false=>rfl
    |true=>rw [h2 hh] at hi;cases hi
   rw [hdj];simp;omega
def StJ(l:List Oper)(tr:List TS)(E:Env)(σ:List OB)(G0:Gh)(listed:Array Bool)(a:Act)(w:World):Prop :=
 listed.size=l.length∧uQ l (fun i=>listed.getD i false) ∧
 ∃ G p,Gle G0 G∧p≤l.length∧(∀ (j:Nat) (o:Oper),l[j]? = some o→kG o=true→listed.getD j false=decide (j<p)) ∧
  Inv G (bh σ tr p) w∧a.defers=G.w0.ds∧a.tmps.size=E.n∧G.na=E.na ∧
  ∀ t,t<512→(io t l tr (fun i=>listed.getD i false) (E.get t)).cond=true→bg G (io t l tr (fun i=>listed.getD i false) (E.get t)).v (a.tmps.getD t undef)
theorem yD(listed:Array Bool)(i j:Nat)(hi:i<listed.size):(listed.setIfInBounds i true).getD j false=if j=i then true else listed.getD j false:=by
 simp only [Array.getD_eq_getD_getElem?,Array.getElem?_setIfInBounds]
 by_cases e:i=j
 ·subst e;simp [hi]
 ·simp [e,Ne.symm e]
end
def B8(pv:List Nat)(p:PV):Bool:=match sA p with|some b=>!pv.contains b|none=>true
def nq(pv:List Nat)(σ σ':List OB):Prop:=σ.length≤σ'.length∧∀ b,b ∉ pv→b<σ.length→σ'[b]? = σ[b]?
theorem nq.refl(pv:List Nat)(σ:List OB):nq pv σ σ:=⟨Nat.le_refl _,fun _ _ _=>rfl⟩
theorem nq.trans{pv:List Nat}{σ σ' σ'':List OB}(h:nq pv σ σ')(h':nq pv σ' σ''):nq pv σ σ'' :=
  ⟨Nat.le_trans h.1 h'.1,fun b hb hl=>(h'.2 b hb (Nat.lt_of_lt_of_le hl h.1)).trans (h.2 b hb hl)⟩
theorem nq.of_ext{pv:List Nat}{σ σ':List OB}(h:Ext σ σ'):nq pv σ σ':=by
  obtain ⟨ρ,rfl⟩:=h
  exact ⟨by simp,fun b _ hb=>List.getElem?_append_left hb⟩
def ld(lt:List Bool)(i:Nat)(o:Oper):Bool:=kG o && !(lt.getD i false)
def yE(ops:Array Oper)(l:List Oper)(masks:List Nat)(bar prv:List Bool)(rd:List (List Nat))(lt:List Bool):Bool :=
  (l.zipIdx.all fun (o,i)=>masks.getD i 0 == orM masks (ep o) && (ep o).all (·<i) &&
    (match o.dst with|some d=>decide (d<512)|none=>true) && (o.looksAt ops).all (·<512)) &&
  (l.zipIdx.all fun (x,i)=>l.zipIdx.all fun (y,j)=>(!(ld lt i x && ld lt j y) || om masks i j) && (!(zw ops x y) || om masks i j) && (!(bar.getD i false) || om masks i j)) &&
  (l.zipIdx.all fun (x,i)=>kG x || (x.looksAt ops).all (fun t=>(rd.getD i []).contains t) || l.zipIdx.all fun (_,j)=>!(prv.getD j false) || om masks i j)
structure xz (ops:Array Oper) (l:List Oper) (masks:List Nat) (bar prv:List Bool) (rd:List (List Nat)) (lt:List Bool):Prop where
  mask:∀ (i:Nat) (o:Oper),l[i]? = some o→masks.getD i 0=orM masks (ep o)
  lts:∀ (i:Nat) (o:Oper),l[i]? = some o→∀ j∈ep o,j<i
  dst:∀ (i:Nat) (o:Oper),l[i]? = some o→∀ d,o.dst=some d→d<512
  look:∀ (i:Nat) (o:Oper),l[i]? = some o→∀ t∈o.looksAt ops,t<512
  loud:∀ (i j:Nat) (x y:Oper),l[i]? = some x→l[j]? = some y→ld lt i x=true→ld lt j y=true→om masks i j=true
  hit:∀ (i j:Nat) (x y:Oper),l[i]? = some x→l[j]? = some y→zw ops x y=true→om masks i j=true
  bar:∀ (i j:Nat) (x y:Oper),l[i]? = some x→l[j]? = some y→bar.getD i false=true→om masks i j=true
  see:∀ (i:Nat) (o:Oper),l[i]? = some o→kG o=false→(∀ t∈o.looksAt ops,t∈rd.getD i [])∨∀ j y,l[j]? = some y→prv.getD j false=true→om masks i j=true
theorem wZ{ops:Array Oper}{l:List Oper}{masks:List Nat}{bar prv:List Bool}{rd:List (List Nat)}{lt:List Bool}(h:yE ops l masks bar prv rd lt=true):xz ops l masks bar prv rd lt:=by
  unfold yE at h
  simp only [Bool.and_eq_true,List.all_eq_true] at h
  obtain ⟨⟨h1,h2⟩,h3⟩:=h
  have m:∀ (i:Nat) (o:Oper),l[i]? = some o→(o,i)∈l.zipIdx:=fun i o ho=>by
    rw [List.mem_zipIdx_iff_getElem?];simpa using ho
  constructor
  · intro i o ho;have:=h1 _ (m i o ho);simp only [Bool.and_eq_true,beq_iff_eq] at this;exact this.1.1.1
  · intro i o ho j hj
    have:=h1 _ (m i o ho)
    simp only [Bool.and_eq_true,List.all_eq_true,decide_eq_true_eq] at this
    exact this.1.1.2 j hj
  · intro i o ho d hd
    have:=h1 _ (m i o ho)
    simp only [Bool.and_eq_true,hd,decide_eq_true_eq] at this
    exact this.1.2
  · intro i o ho t ht
    have:=h1 _ (m i o ho)
    simp only [Bool.and_eq_true,List.all_eq_true,decide_eq_true_eq] at this
    exact this.2 t ht
  · intro i j x y hx hy lx ly
    have:=h2 _ (m i x hx) _ (m j y hy)
    simp only [Bool.and_eq_true,Bool.or_eq_true,Bool.not_eq_true',lx,ly] at this
    simpa using this.1.1
  · intro i j x y hx hy hh
    have:=h2 _ (m i x hx) _ (m j y hy)
    simp only [Bool.and_eq_true,Bool.or_eq_true,Bool.not_eq_true',hh] at this
    simpa using this.1.2
  · intro i j x y hx hy hh
    have:=h2 _ (m i x hx) _ (m j y hy)
    simp only [Bool.and_eq_true,Bool.or_eq_true,Bool.not_eq_true',hh] at this
    simpa using this.2
  · intro i o ho hq
    have:=h3 _ (m i o ho)
    simp only [Bool.or_eq_true,hq,Bool.false_eq_true,false_or,List.all_eq_true] at this
    rcases this with h|h
    · exact .inl fun t ht=>by simpa using h t ht
    · right
      intro j y hy hp
      have:=h _ (m j y hy)
      simpa only [hp,Bool.not_true,Bool.false_or,Bool.false_eq_true,false_or] using this
theorem xz.bit{ops:Array Oper}{l:List Oper}{masks:List Nat}{bar prv lt:List Bool}{rd:List (List Nat)}(c:xz ops l masks bar prv rd lt){d:Nat→Bool}(hd:uQ l d):∀ (i:Nat) (o:Oper),l[i]? = some o→∀ j,(masks.getD i 0).testBit j=true→j<i∧(d i=true→d j=true):=by
  intro i
  induction i using Nat.strongRecOn with
  |_ i ih =>
    intro o ho j hj
    rw [c.mask i o ho] at hj
    obtain ⟨k,hk,h⟩:=vw masks j _ hj
    have hlt:=c.lts i o ho k hk
    have hkl:k<l.length:=by have:=(List.getElem?_eq_some_iff.1 ho).1;omega
    rcases h with rfl|h
    · exact ⟨hlt,fun hi=>hd i o ho hi k hk⟩
    · obtain ⟨h1,h2⟩:=ih k hlt l[k] (List.getElem?_eq_getElem hkl) j h
      exact ⟨by omega,fun hi=>h2 (hd i o ho hi k hk)⟩
theorem xz.done{ops:Array Oper}{l:List Oper}{masks:List Nat}{bar prv lt:List Bool}{rd:List (List Nat)}(c:xz ops l masks bar prv rd lt){d:Nat→Bool}(hd:uQ l d){i:Nat}{o:Oper}(ho:l[i]? = some o)(hi:d i=false)
    (hr:∀ j∈ep o,d j=true) {j:Nat} {y:Oper} (hy:l[j]? = some y) (hord:om masks i j=true∨om masks j i=true):d j=decide (j<i):=by
  by_cases e:j=i
  · subst e;simp [hi]
  · have hord':(masks.getD i 0).testBit j=true∨(masks.getD j 0).testBit i=true:=by
      rcases hord with h|h<;>simp only [om,Bool.or_eq_true,beq_iff_eq] at h
      · rcases h with (h|h)|h
        · exact (e h.symm).elim
        · exact .inl h
        · exact .inr h
      · rcases h with (h|h)|h
        · exact (e h).elim
        · exact .inr h
        · exact .inl h
    rcases hord' with h|h
    · have hlt:=(c.bit hd i o ho j h).1
      rw [c.mask i o ho] at h
      obtain ⟨k,hk,h⟩:=vw masks j _ h
      have hkl:k<l.length:=by have:=(List.getElem?_eq_some_iff.1 ho).1;have:=c.lts i o ho k hk;omega
      have hdj:d j=true:=by
        rcases h with rfl|h
        · exact hr k hk
        · exact (c.bit hd k l[k] (List.getElem?_eq_getElem hkl) j h).2 (hr k hk)
      rw [hdj];simp [hlt]
    · obtain ⟨h1,h2⟩:=c.bit hd j y hy i h
      have hdj:d j=false:=by
        cases hh:d j with
        |false=>rfl
        |true=>rw [h2 hh] at hi;cases hi
      rw [hdj];simp;omega
def Br(P:Program)(ops:Array Oper)(pv:List Nat)(E:Env)(σ:List OB)(o:Oper)(bar prv:Bool)(rd:List Nat)(lt:Bool)(ts:TS):Prop :=
  fm ops E o.guard=some ts.γ∧eW E o.dst ∧
  ((lt = false ∧ ((∃ C v, cA P ts.γ E σ o.op = .ok C v ∧ C ∧ (rd.all fun t => B8 pv (E.get t).v) = true ∧ ts.e = ⟨ts.γ, v⟩ ∧ ts.σ = σ) ∨
   (ts.γ=true∧∃ C v,cA P ts.γ E σ o.op=.upd C v ts.σ∧C∧ts.e=⟨true,v⟩∧(bar=true∨Ext σ ts.σ∨(prv=true∧nq pv σ ts.σ))) ∨
   (∃ C f args r,cA P ts.γ E σ o.op=.call C f args∧(ts.γ=true→C∧a8 P f args r)∧args.all PV.noOwn=true∧(∀ n,r.ren (du n [])=r)∧ts.e=⟨ts.γ,r⟩∧ts.σ=σ) ∨
   (ts.γ=false∧ts.e=⟨true,.t []⟩∧ts.σ=σ) ∨
   (ts.γ=true∧∃ C f args p,cA P ts.γ E σ o.op=.call C f args∧C∧rm P σ f args p ts.σ∧ts.e=⟨true,p⟩∧(bar=true∨Ext σ ts.σ∨(prv=true∧nq pv σ ts.σ))) ∨
   (ts.γ=true∧kG o=true∧∃ v,(∀ E',(∀ x∈o.op.operands,ev E' x=ev E x)→∀ G a w,Sim G E' σ a w→zt P G (execOp a.eval o) w v ts.σ)∧ts.e=⟨true,v⟩∧(bar=true∨Ext σ ts.σ∨(prv=true∧nq pv σ ts.σ))))) ∨
   (ts.γ=true∧(∃ v,(∀ E',(∀ x∈o.op.operands,ev E' x=ev E x)→∀ σ' G a w,Sim G E' σ' a w→zt P G (execOp a.eval o) w v σ')∧ts.e=⟨true,v⟩)∧ts.σ=σ) ∨
   (ts.γ=false∧ts.e=⟨true,.t []⟩∧ts.σ=σ))
def lL(P:Program)(ops:Array Oper)(pv:List Nat):List Oper→List Bool→List Bool→List (List Nat)→List Bool→Env→List OB→List TS→Prop
  |[],_,_,_,_,_,_,tr=>tr=[]
  |o :: l,bs,ps,rd,lt,E,σ,tr=>∃ ts r,tr=ts :: r∧Br P ops pv E σ o (bs.headD false) (ps.headD false) (rd.headD []) (lt.headD false) ts∧lL P ops pv l bs.tail ps.tail rd.tail lt.tail (E.putD o.dst ts.e) ts.σ r
def Dw(P:Program)(ops:Array Oper)(pv:List Nat)(E:Env)(σ:List OB)(o:Oper)(bar prv:Bool)(rd:List Nat)(lt fz:Bool)(ts:TS):Prop :=
  (fz=true∧ts.e=⟨false,.x⟩∧ts.σ=σ)∨(fz=false∧Br P ops pv E σ o bar prv rd lt ts)
def jl(P:Program)(ops:Array Oper)(pv:List Nat):List Oper→List Bool→List Bool→List (List Nat)→List Bool→List Bool→Env→List OB→List TS→Prop
  |[],_,_,_,_,_,_,_,tr=>tr=[]
  |o :: l,bs,ps,rd,lt,fz,E,σ,tr=>∃ ts r,tr=ts :: r∧Dw P ops pv E σ o (bs.headD false) (ps.headD false) (rd.headD []) (lt.headD false) (fz.headD false) ts∧jl P ops pv l bs.tail ps.tail rd.tail lt.tail fz.tail (E.putD o.dst ts.e) ts.σ r
theorem jl.of{P:Program}{ops:Array Oper}{pv:List Nat}:∀ {l:List Oper} {bs ps:List Bool} {rd:List (List Nat)} {lt:List Bool} {E:Env} {σ:List OB} {tr:List TS},lL P ops pv l bs ps rd lt E σ tr→jl P ops pv l bs ps rd lt [] E σ tr
  |[],_,_,_,_,_,_,_,h=>h
  |o :: l,_,_,_,_,_,_,_,⟨ts,r,h1,h2,h3⟩=>⟨ts,r,h1,.inr ⟨rfl,h2⟩,jl.of h3⟩
section
variable {P:Program} {ops:Array Oper} {pv:List Nat} {fz:List Bool}
theorem qj:∀ (l:List Bool) (i:Nat),l[i]? = some false→(l.set i true).count false+1=l.count false
  |[],i,h=>by simp at h
  |b :: l,0,h=>by
    simp only [List.getElem?_cons_zero,sJ] at h
    subst h
    simp
  |b :: l,i+1,h=>by
    have:=qj l i (by simpa using h)
    simp only [List.set_cons_succ,List.count_cons]
    omega
theorem Inv.drawn{G:Gh}{σ:List OB}{w:World}(h:Inv G σ w):Inv G σ { w with drawn:=w.drawn+1 } :=
  ⟨h.hH,h.hF,h.HF,h.len,fun b ob hb=>(h.own b ob hb).keep (fun _ _ h=>h) (bG.refl _) rfl (fun _ _ _=>rfl),h.inj,h.sep,h.os,h.tape,h.output,h.grow⟩
theorem tz{σ:List OB}{tr:List TS}(l:List Oper)(hlen:tr.length=l.length)(p:Nat):∀ (q:Nat),p≤q→q≤l.length→(∀ j,p≤j→j<q→nq pv (bh σ tr j) (bh σ tr (j+1)))→nq pv (bh σ tr p) (bh σ tr q)
  | 0, h, _, _ => by have : p = 0 := by omega
                     subst this;exact nq.refl _ _
  |q+1,h,hq,he=>by
    by_cases e:p=q+1
    · subst e;exact nq.refl _ _
    · exact (tz l hlen p q (by omega) (by omega) fun j h1 h2=>he j h1 (by omega)).trans (he q (by omega) (by omega))
theorem Bt{v:Value}{c:CV}(h:od v=some c):sA (.c c)=none:=by
  unfold od at h
  split at h<;>first|(cases h;rfl)|cases h
theorem Dx(v:Value):sA (uq v).v=none:=by
  unfold uq
  split
  · split<;>rfl
  · split
    · rename_i h;exact Bt h
    · rfl
theorem uR{l:List Oper}{masks:List Nat}{bs ps lt:List Bool}{rd:List (List Nat)}(c:xz l.toArray l masks bs ps rd lt){listed:Array Bool}(hs:listed.size=l.length)(h:Region.ready .any l.toArray listed=[]):∀ i,i<l.length→listed.getD i false=true:=by
  intro i
  induction i using Nat.strongRecOn with
  |_ i ih =>
    intro hi
    cases hd:listed.getD i false with
    |true=>rfl
    |false =>
      exfalso
      have ho:=List.getElem?_eq_getElem hi
      have:i∈Region.ready .any l.toArray listed:=by
        refine mem_ready.2 ⟨?_,l[i],by simp,fun e he hb=>?_⟩
        · rw [Array.getD_eq_getD_getElem?] at hd ⊢
          rw [Array.getElem?_eq_getElem (by omega)] at hd ⊢
          simpa using hd
        · have hlt:=c.lts i _ ho e.on (by simp only [ep,List.mem_map,List.mem_filter];exact ⟨e,⟨by simpa using he,hb⟩,rfl⟩)
          exact ih e.on hlt (by omega)
      rw [h] at this;simp at this
def pQ(lt:List Bool)(l:List Oper)(tr:List TS)(E:Env)(σ:List OB)(G0:Gh)(listed:Array Bool)(a:Act)(w:World):Prop :=
  listed.size=l.length∧uQ l (fun i=>listed.getD i false) ∧
  ∃ G p,Gle G0 G∧p≤l.length∧(∀ (j:Nat) (o:Oper),l[j]? = some o→ld lt j o=true→listed.getD j false=decide (j<p)) ∧
    Inv G (bh σ tr p) w∧a.defers=G.w0.ds∧a.tmps.size=E.n∧G.na=E.na ∧
    ∀ t,t<512→(io t l tr (fun i=>listed.getD i false) (E.get t)).cond=true→bg G (io t l tr (fun i=>listed.getD i false) (E.get t)).v (a.tmps.getD t undef)
theorem jl.at:∀ {l:List Oper} {bs ps:List Bool} {rd:List (List Nat)} {lt fz:List Bool} {E:Env} {σ:List OB} {tr:List TS},jl P ops pv l bs ps rd lt fz E σ tr→tr.length=l.length ∧
    ∀ (i:Nat) (o:Oper),l[i]? = some o→∃ ts,tr[i]? = some ts∧Dw P ops pv (cR E l tr i) (bh σ tr i) o (bs.getD i false) (ps.getD i false) (rd.getD i []) (lt.getD i false) (fz.getD i false) ts∧bh σ tr (i+1)=ts.σ
  |[],bs,ps,rd,lt,fz,E,σ,tr,h=>by simp only [jl] at h;subst h;exact ⟨rfl,fun i o h=>by simp at h⟩
  |o :: l,bs,ps,rd,lt,fz,E,σ,tr,h=>by
    obtain ⟨ts,r,rfl,h1,h2⟩:=h
    obtain ⟨h3,h4⟩:=jl.at h2
    refine ⟨by simp [h3],fun i o' ho=>?_⟩
    cases i with
    |zero =>
      simp only [List.getElem?_cons_zero,sJ] at ho
      subst ho
      refine ⟨ts,rfl,?_,?_⟩
      · cases bs<;>cases ps<;>cases rd<;>cases lt<;>cases fz<;>exact h1
      · cases r<;>rfl
    |succ i =>
      obtain ⟨ts',k1,k2,k3⟩:=h4 i o' (by simpa using ho)
      refine ⟨ts',by simpa using k1,?_,?_⟩
      · cases bs<;>cases ps<;>cases rd<;>cases lt<;>cases fz<;>simpa [cR,bh] using k2
      · simpa [bh] using k3
theorem tA{l:List Oper}{bs ps:List Bool}{rd:List (List Nat)}{lt:List Bool}{E:Env}{σ:List OB}{tr:List TS}(ht:jl P ops pv l bs ps rd lt fz E σ tr){j:Nat}{o:Oper}(ho:l[j]? = some o)(hq:ld lt j o=false):bh σ tr (j+1)=bh σ tr j:=by
  obtain ⟨_,h⟩:=ht.at
  obtain ⟨ts,_,h2,h3⟩:=h j o ho
  rw [h3]
  rcases h2 with ⟨_,_,h2⟩|⟨_,h2⟩
  · exact h2
  rcases h2.2.2 with ⟨hlt,h2⟩|⟨_,_,h⟩|⟨_,_,h⟩
  rotate_left
  · exact h
  · exact h
  have hq:kG o=false:=by unfold ld at hq;rw [hlt] at hq;simpa using hq
  obtain ⟨q1,q2⟩:=uP (P:=P) (γ:=ts.γ) (E:=cR E l tr j) (σ:=bh σ tr j) hq
  rcases h2 with ⟨_,_,_,_,_,_,h⟩|⟨_,C,v,h,_⟩|⟨C,f,args,r,h,_⟩|⟨_,_,h⟩|⟨_,C,f,args,p,h,_⟩|⟨_,h,_⟩
  · exact h
  · exact (q1 _ _ _ h).elim
  · exact (q2 _ _ _ h).elim
  · exact h
  · exact (q2 _ _ _ h).elim
  · rw [hq] at h;cases h
theorem qt{l:List Oper}{bs ps:List Bool}{rd:List (List Nat)}{lt:List Bool}{E:Env}{σ:List OB}{tr:List TS}(ht:jl P ops pv l bs ps rd lt fz E σ tr){p q:Nat}(hpq:p≤q)(hq:q≤l.length)
    (h:∀ (j:Nat) (o:Oper),l[j]? = some o→p≤j→j<q→ld lt j o=false):bh σ tr q=bh σ tr p:=by
  induction q with
  | zero => have : p = 0 := by omega
            subst this;rfl
  |succ q ih =>
    by_cases e:p=q+1
    · subst e;rfl
    · have hl:q<l.length:=by omega
      rw [tA ht (List.getElem?_eq_getElem hl) (h q _ (List.getElem?_eq_getElem hl) (by omega) (by omega))]
      exact ih (by omega) (by omega) fun j o ho h1 h2=>h j o ho h1 (by omega)
theorem xA{l:List Oper}{bs ps:List Bool}{rd:List (List Nat)}{lt:List Bool}{E:Env}{σ:List OB}{tr:List TS}(ht:jl P ops pv l bs ps rd lt fz E σ tr){j:Nat}{o:Oper}(ho:l[j]? = some o)(hb:bs.getD j false=false) :
    (ps.getD j false=false→Ext (bh σ tr j) (bh σ tr (j+1)))∧nq pv (bh σ tr j) (bh σ tr (j+1)):=by
  obtain ⟨_,h⟩:=ht.at
  obtain ⟨ts,_,h2,h3⟩:=h j o ho
  rw [h3]
  have same:∀ σ':List OB,σ'=bh σ tr j→(ps.getD j false=false→Ext (bh σ tr j) σ')∧nq pv (bh σ tr j) σ':=fun σ' e=>by
    subst e;exact ⟨fun _=>⟨[],by simp⟩,nq.refl _ _⟩
  have ext:Ext (bh σ tr j) ts.σ→(ps.getD j false=false→Ext (bh σ tr j) ts.σ)∧nq pv (bh σ tr j) ts.σ:=fun e=>⟨fun _=>e,.of_ext e⟩
  rcases h2 with ⟨_,_,h2⟩|⟨_,h2⟩
  · exact same _ h2
  rcases h2.2.2 with ⟨_,h2⟩|⟨_,_,h⟩|⟨_,_,h⟩
  rotate_left
  · exact same _ h
  · exact same _ h
  rcases h2 with ⟨_,_,_,_,_,_,h⟩|⟨_,C,v,h,_,_,h'⟩|⟨C,f,args,r,h,_,_,_,_,h'⟩|⟨_,_,h'⟩|⟨_,C,f,args,p,h,_,_,_,h'⟩|⟨_,_,v,_,_,h'⟩
  · exact same _ h
  · rcases h' with h'|h'|⟨h',h''⟩
    · rw [hb] at h';cases h'
    · exact ext h'
    · exact ⟨fun hp=>by (rw [hp] at h';cases h'),h''⟩
  · exact same _ h'
  · exact same _ h'
  · rcases h' with h'|h'|⟨h',h''⟩
    · rw [hb] at h';cases h'
    · exact ext h'
    · exact ⟨fun hp=>by (rw [hp] at h';cases h'),h''⟩
  · rcases h' with h'|h'|⟨h',h''⟩
    · rw [hb] at h';cases h'
    · exact ext h'
    · exact ⟨fun hp=>by (rw [hp] at h';cases h'),h''⟩
theorem pQ.stepQ{l:List Oper}{bs ps:List Bool}{rd:List (List Nat)}{lt:List Bool}{masks:List Nat}{E:Env}{σ:List OB}{tr:List TS}(c:xz l.toArray l masks bs ps rd lt)(ht:jl P l.toArray pv l bs ps rd lt fz E σ tr)(G0:Gh){Q:Exit→Act→World→Prop}(listed:Array Bool)(a:Act)(w:World)(i:Nat)
    (hJ:pQ lt l tr E σ G0 listed a w) (hready:i∈Region.ready .any l.toArray listed) (hfi:fz.getD i false=false):wpOp P l.toArray Q i (pQ lt l tr E σ G0 (listed.setIfInBounds i true)) a w:=by
  obtain ⟨hsz,hcl,G,p,hG,hp,hloud,hinv,hdef,htm,hna,hslot⟩:=hJ
  obtain ⟨hun,o,ho',hdeps⟩:=mem_ready.1 hready
  have ho:l[i]? = some o:=by simpa using ho'
  have hil:i<l.length:=(List.getElem?_eq_some_iff.1 ho).1
  have hi0:listed.getD i false=false:=by
    rw [Array.getD_eq_getD_getElem?] at hun ⊢
    rw [Array.getElem?_eq_getElem (by omega)] at hun ⊢
    simpa using hun
  have hr:∀ j∈ep o,listed.getD j false=true:=by
    intro j hj
    simp only [ep,List.mem_map,List.mem_filter] at hj
    obtain ⟨e,⟨h1,h2⟩,rfl⟩:=hj
    exact hdeps e (by simpa using h1) h2
  have hdone:=fun {j:Nat} {y:Oper} (hy:l[j]? = some y) (hord:om masks i j=true∨om masks j i=true)=>c.done hcl ho hi0 hr hy hord
  obtain ⟨htl,hat⟩:=ht.at
  obtain ⟨ts,hts,hz,hnext⟩:=hat i o ho
  obtain ⟨_,hguard,hdst,hstep⟩:=hz.resolve_left fun h=>by rw [hfi] at h;cases h.1
  have hcl':uQ l (fun k=>(listed.setIfInBounds i true).getD k false):=by
    intro k ok hk hd j hj
    simp only at hd ⊢
    rw [yD _ _ _ (by omega)] at hd ⊢
    by_cases e:k=i
    · subst e;rw [ho] at hk;simp only [sJ] at hk;subst hk
      by_cases e':j=k
      · rw [iP e']
      · rw [iN e'];exact hr j hj
    · rw [iN e] at hd
      by_cases e':j=i
      · rw [iP e']
      · rw [iN e'];exact hcl k ok hk hd j hj
  have hsz':(listed.setIfInBounds i true).size=l.length:=by simpa using hsz
  have hEn:=ug l tr E i
  have hlook:=c.look i o ho
  have hreads:∀ t∈o.looksAt l.toArray,(cR E l tr i).get t=io t l tr (fun j=>listed.getD j false) (E.get t):=by
    intro t htm'
    rw [rF t l tr E i (fun j o x hj hd=>c.dst j o hj x hd) htl]
    apply je
    intro j y hy hd
    refine (hdone hy (.inr ?_)).symm
    refine c.hit j i y o hy ho ?_
    simp only [zw,hd,Bool.or_eq_true]
    left
    simpa using htm'
  have hres:=oq (cR E l tr i) (o.looksAt l.toArray)
  have hgetr:∀ t∈o.looksAt l.toArray,(fv (cR E l tr i) (o.looksAt l.toArray)).get t=(cR E l tr i).get t:=fun t h=>(hres t hlook).1 h
  have hsim:Sim G (fv (cR E l tr i) (o.looksAt l.toArray)) (bh σ tr p) a w:=by
    refine ⟨hinv,hdef,by rw [(nO _ _).1,hEn.1];exact htm,by rw [(nO _ _).2,hEn.2];exact hna,fun t hc=>?_⟩
    by_cases hmem:t∈o.looksAt l.toArray
    · rw [hgetr t hmem,hreads t hmem] at hc ⊢
      exact hslot t (hlook t hmem) hc
    · rw [(hres t hlook).2 hmem] at hc;cases hc
  have hops:∀ x∈o.op.operands,ev (fv (cR E l tr i) (o.looksAt l.toArray)) x=ev (cR E l tr i) x:=by
    intro x hx
    refine AB (ts:=o.looksAt l.toArray) (fun t h=>hgetr t h) x fun t e=>?_
    subst e
    simp only [Oper.looksAt,List.mem_append,List.mem_filterMap]
    left
    exact ⟨.tmp t,by simpa using hx,rfl⟩
  have hguard':fm l.toArray (fv (cR E l tr i) (o.looksAt l.toArray)) o.guard=some ts.γ:=by
    rw [uC o hgetr];exact hguard
  have hwant:=pz (P:=P) hsim hguard'
  have hdlt:∀ d,o.dst=some d→d<a.tmps.size:=by
    intro d hd
    rw [htm]
    rw [hd] at hdst
    have h':d<(cR E l tr i).n:=hdst
    rwa [hEn.1] at h'
  have hslot':∀ (G':Gh) (val:Value),(∀ q v,bg G q v→bg G' q v)→(ts.e.cond=true→bg G' ts.e.v val)→∀ t,t<512 →
      (io t l tr (fun k=>(listed.setIfInBounds i true).getD k false) (E.get t)).cond=true →
      bg G' (io t l tr (fun k=>(listed.setIfInBounds i true).getD k false) (E.get t)).v ((a.put o.dst val).tmps.getD t undef):=by
    intro G' val hmono hval t ht512 hc
    have hfun:(fun k=>(listed.setIfInBounds i true).getD k false)=(fun k=>if k=i then true else listed.getD k false):=by
      funext k;exact yD _ _ _ (by omega)
    rw [hfun] at hc ⊢
    by_cases hd:o.dst=some t
    · rw [yU t l tr _ _ i o ts ho hts hd (fun j y hy hdy hij => by
          have:=hdone hy (.inr (c.hit j i y o hy ho (by simp [zw,hdy,hd])))
          rw [this];simp;omega)] at hc ⊢
      have hlt:=hdlt t hd
      have:(a.put o.dst val).tmps.getD t undef=val:=by rw [hd];simp [Act.put,Array.getD,hlt]
      rw [this];exact hval hc
    · rw [qU t l tr _ _ i o ho hd] at hc ⊢
      have:(a.put o.dst val).tmps.getD t undef=a.tmps.getD t undef:=by
        cases hod:o.dst with
        |none=>rfl
        |some d =>
          have hne:d≠t:=fun e=>hd (by rw [hod,e])
          simp only [Act.put,Array.getD_eq_getD_getElem?]
          rw [Array.getElem?_setIfInBounds_ne hne]
      rw [this]
      exact hmono _ _ (hslot t ht512 hc)
  have hput:∀ val,(a.put o.dst val).defers=G.w0.ds∧(a.put o.dst val).tmps.size=E.n:=by
    intro val;cases o.dst<;>simp [Act.put,hdef,htm]
  have hheap:ld lt i o=true→bh σ tr p=bh σ tr i:=by
    intro hl
    have key:∀ (j:Nat) (y:Oper),l[j]? = some y→ld lt j y=true→(j<p↔j<i):=by
      intro j y hy hly
      have h1:=hloud j y hy hly
      have h2:=hdone hy (.inl (c.loud i j o y ho hy hl hly))
      rw [h2] at h1
      simpa using h1.symm
    rcases Nat.le_total p i with h|h
    · exact (qt ht h (by omega) fun j y hy h1 h2=>by
        cases hly:ld lt j y with
        |false=>rfl
        |true=>have:=(key j y hy hly).2 h2;omega).symm
    · exact qt ht h hp fun j y hy h1 h2=>by
        cases hly:ld lt j y with
        |false=>rfl
        |true=>have:=(key j y hy hly).1 h2;omega
  have hloud':ld lt i o=true→∀ (j:Nat) (y:Oper),l[j]? = some y→ld lt j y=true→(listed.setIfInBounds i true).getD j false=decide (j<i+1):=by
    intro hl j y hy hly
    rw [yD _ _ _ (by omega)]
    by_cases e:j=i
    · subst e;simp
    · rw [iN e,hdone hy (.inl (c.loud i j o y ho hy hl hly))]
      simp;omega
  have hquiet':ld lt i o=false→∀ (j:Nat) (y:Oper),l[j]? = some y→ld lt j y=true→(listed.setIfInBounds i true).getD j false=decide (j<p):=by
    intro hl j y hy hly
    rw [yD _ _ _ (by omega)]
    by_cases e:j=i
    · subst e;rw [ho] at hy;simp only [sJ] at hy;subst hy;rw [hl] at hly;cases hly
    · rw [iN e];exact hloud j y hy hly
  have stay:∀ (G':Gh) (w':World) (val:Value),Gle G G'→bG G.own G'.own→Inv G' (bh σ tr p) w'→ts.σ=bh σ tr i→(ts.e.cond=true→bg G' ts.e.v val)→pQ lt l tr E σ G0 (listed.setIfInBounds i true) (a.put o.dst val) w':=by
    intro G' w' val h1 h2 h3 h4 h5
    refine ⟨hsz',hcl',?_⟩
    have hm:∀ q v,bg G q v→bg G' q v:=fun q v h=>bg.mono h1.le.H h2 h
    cases hl:ld lt i o with
    |true =>
      refine ⟨G',i+1,hG.trans h1,by omega,hloud' hl,?_,(hput val).1.trans (by rw [h1.le.w0]),(hput val).2,h1.le.na.trans hna,hslot' G' val hm h5⟩
      rw [hnext,h4,← hheap hl];exact h3
    |false=>exact ⟨G',p,hG.trans h1,hp,hquiet' hl,h3,(hput val).1.trans (by rw [h1.le.w0]),(hput val).2,h1.le.na.trans hna,hslot' G' val hm h5⟩
  unfold wpOp
  simp only [ho']
  have skip:ts.γ=false→(ts.e.cond=true→bg G ts.e.v undef)→ts.σ=bh σ tr i→(if Region.wanted o (yielded l.toArray a.tmps)=true then o.wp P a w (pQ lt l tr E σ G0 (listed.setIfInBounds i true)) Q∨(o.asks P a w∧LetsOut Q) else pQ lt l tr E σ G0 (listed.setIfInBounds i true) (a.put o.dst undef) w):=by
    intro hγ hc hσ
    rw [iN (by rw [hwant,hγ];simp)]
    exact stay G w undef (Gle.refl G) (bG.refl _) hinv hσ hc
  rcases hstep with ⟨hlt,hstep⟩|⟨hγ,⟨v,hx,he⟩,hσ⟩|⟨hγ,he,hσ⟩
  rotate_left
  · rw [iP (by rw [hwant,hγ])]
    left
    obtain ⟨nx,val,w',G',e1,e2,e3,e4,e5,e6⟩:=hx _ hops _ G a w hsim
    have hfin:=stay G' w' val (Gle.mk' e3 e4) e4 e5 hσ (fun _=>by rw [he];exact e6)
    unfold Oper.wp
    rw [e1]
    rcases e2 with rfl|⟨rfl,rfl⟩
    · exact hfin
    · exact hfin
  · exact skip hγ (by rw [he];exact fun _=>⟨[],rfl,trivial⟩) hσ
  have hld:ld lt i o=kG o:=by unfold ld;rw [hlt];simp
  rcases hstep with ⟨C,v,hrun,hC,hrd,he,hσ⟩|⟨hγ,C,v,hrun,hC,he,_⟩|⟨C,f,args,r,hrun,hC,hargs,hres',he,hσ⟩|⟨hγ,he,hσ⟩|⟨hγ,C,f,args,r,hrun,hC,hto,he,_⟩|⟨hγ,hl,v,hx,he,_⟩
  · cases hγ:ts.γ with
    |false=>exact skip hγ (by rw [he,hγ];intro h;cases h) hσ
    |true =>
      rw [iP (by rw [hwant,hγ])]
      left
      rw [hγ] at hrun
      have hrun1:=(qs (P:=P) (γ:=true) (σ:=bh σ tr i) o.op hops).trans hrun
      have hlo:kG o=false∨kG o=true:=by cases kG o<;>simp
      have notbar:∀ (j:Nat) (y:Oper),l[j]? = some y→ld lt j y=true→listed.getD j false≠decide (j<i)→bs.getD j false=false:=by
        intro j y hy hly hne
        cases hb:bs.getD j false with
        |false=>rfl
        |true=>exact (hne (hdone hy (.inr (c.bar j i y o hy ho hb)))).elim
      have one:∀ (j:Nat),j<l.length→(∀ y,l[j]? = some y→ld lt j y=true→listed.getD j false≠decide (j<i))→nq pv (bh σ tr j) (bh σ tr (j+1)):=by
        intro j hj hne
        have hy:=List.getElem?_eq_getElem hj
        cases hly:ld lt j l[j] with
        |false=>rw [tA ht hy hly];exact nq.refl _ _
        |true=>exact (xA ht hy (notbar j _ hy hly (hne _ hy hly))).2
      have onePv:(∀ j y,l[j]? = some y→ps.getD j false=true→om masks i j=true)→∀ (j:Nat),j<l.length→(∀ y,l[j]? = some y→ld lt j y=true→listed.getD j false≠decide (j<i))→nq [] (bh σ tr j) (bh σ tr (j+1)):=by
        intro hord j hj hne
        have hy:=List.getElem?_eq_getElem hj
        cases hly:ld lt j l[j] with
        |false=>rw [tA ht hy hly];exact nq.refl _ _
        |true =>
          refine .of_ext ((xA ht hy (notbar j _ hy hly (hne _ hy hly))).1 ?_)
          cases hp:ps.getD j false with
          |false=>rfl
          |true=>exact (hne _ hy hly (hdone hy (.inl (hord j _ hy hp)))).elim
      have reach:∀ (q:List Nat),(∀ (j:Nat),j<l.length→(∀ y,l[j]? = some y→ld lt j y=true→listed.getD j false≠decide (j<i))→nq q (bh σ tr j) (bh σ tr (j+1)))→nq q (bh σ tr p) (bh σ tr i)∨nq q (bh σ tr i) (bh σ tr p):=by
        intro q hone
        rcases Nat.le_total p i with h|h
        · left
          refine tz l htl p i h (by omega) fun j h1 h2=>hone j (by omega) fun y hy hly=>?_
          rw [hloud j y hy hly];simp;omega
        · right
          refine tz l htl i p h hp fun j h1 h2=>hone j (by omega) fun y hy hly=>?_
          rw [hloud j y hy hly];simp;omega
      have fromNear:∀ (q:List Nat) (b:Nat) (ob:OB),nq q (bh σ tr p) (bh σ tr i)∨nq q (bh σ tr i) (bh σ tr p)→b ∉ q→b<(bh σ tr p).length→(bh σ tr i)[b]? = some ob→(bh σ tr p)[b]? = some ob:=by
        intro q b ob hn hb hlt hob
        rcases hn with h|h
        · rw [← h.2 b hb hlt];exact hob
        · rw [h.2 b hb (List.getElem?_eq_some_iff.1 hob).1];exact hob
      obtain ⟨C',hrun2,hC'⟩:=CJ (σ':=bh σ tr p) hrun1 hC (fun x hc b ob htop hb=>by
        have hlt:=CL hinv (eG hsim x hc) htop
        rcases hlo with hl|hl
        · rcases c.see i o ho hl with hsee|hsee
          · refine fromNear pv b ob (reach pv one) ?_ hlt hb
            cases x with
            |tmp t =>
              by_cases hmem:t∈o.looksAt l.toArray
              · have h1:=List.all_eq_true.1 hrd t (hsee t hmem)
                have h2:(fv (cR E l tr i) (o.looksAt l.toArray)).get t=(cR E l tr i).get t:=hgetr t hmem
                have htop':sA ((cR E l tr i).get t).v=some b:=by rw [← h2];exact htop
                simp only [B8,htop'] at h1
                simpa using h1
              · exfalso
                have:((fv (cR E l tr i) (o.looksAt l.toArray)).get t).cond=true:=hc
                rw [(hres t hlook).2 hmem] at this;cases this
            |const v =>
              exfalso
              have h1:sA (uq v).v=some b:=htop
              rw [Dx] at h1;cases h1
            |func f=>exfalso;revert htop;simp only [ev];split<;>(intro h;cases h)
            |global g=>cases htop
          · exact fromNear [] b ob (reach [] (onePv hsee)) (by simp) hlt hb
        · rw [hheap (hld.trans hl)];exact hb)
      obtain ⟨val,e1,e2⟩:=B5 hsim rfl o hrun2 hC'
      unfold Oper.wp
      rw [e1]
      exact stay G w val (Gle.refl G) (bG.refl _) hinv hσ fun _=>by rw [he];exact e2
  · rw [iP (by rw [hwant,hγ])]
    left
    rw [hγ] at hrun
    have hl:ld lt i o=true:=by
      rw [hld]
      cases hl:kG o with
      |true=>rfl
      |false=>exact ((uP hl).1 _ _ _ hrun).elim
    have hrun1:=(qs (P:=P) (γ:=true) (σ:=bh σ tr i) o.op hops).trans hrun
    rw [← hheap hl] at hrun1
    obtain ⟨nx,val,w',G',e1,e2,e3,e4,e5,e6⟩:=AA hsim rfl o hrun1 hC
    have hfin:pQ lt l tr E σ G0 (listed.setIfInBounds i true) (a.put o.dst val) w' :=
      ⟨hsz',hcl',G',i+1,hG.trans (Gle.mk' e3 e4),by omega,hloud' hl,by rw [hnext];exact e5,(hput val).1.trans (by rw [e3.w0]),(hput val).2,e3.na.trans hna,
        hslot' G' val (fun q v h=>bg.mono e3.H e4 h) fun _=>by rw [he];exact e6⟩
    unfold Oper.wp
    rw [e1]
    rcases e2 with rfl|⟨rfl,rfl⟩
    · exact hfin
    · exact hfin
  · cases hγ:ts.γ with
    |false=>exact skip hγ (by rw [he,hγ];intro h;cases h) hσ
    |true =>
      rw [iP (by rw [hwant,hγ])]
      left
      rw [hγ] at hrun
      obtain ⟨hC1,hspec⟩:=hC hγ
      have hrun1:=(qs (P:=P) (γ:=true) (σ:=bh σ tr i) o.op hops).trans hrun
      have hrun2:=xy (σ':=bh σ tr p) hrun1
      exact CK hsim o hrun2 hC1 hspec hargs hres' fun G' w' v h1 h2 h3 h4=>stay G' w' v h1 h2 h3 hσ fun _=>by rw [he];exact h4
  · exact skip hγ (by rw [he];exact fun _=>⟨[],rfl,trivial⟩) hσ
  · rw [iP (by rw [hwant,hγ])]
    left
    rw [hγ] at hrun
    have hl:ld lt i o=true:=by
      rw [hld]
      cases hl:kG o with
      |true=>rfl
      |false=>exact ((uP hl).2 _ _ _ hrun).elim
    have hrun1:=(qs (P:=P) (γ:=true) (σ:=bh σ tr i) o.op hops).trans hrun
    rw [← hheap hl] at hrun1 hto
    exact Bq hsim o hrun1 hC hto fun G' w' v h1 h2 h3 h4 h5 =>
      ⟨hsz',hcl',G',i+1,hG.trans h1,by omega,hloud' hl,by rw [hnext];exact h4,(hput v).1.trans (by rw [h1.le.w0]),(hput v).2,h1.le.na.trans hna,
        hslot' G' v (fun q v h=>bg.mono h2 h3 h) fun _=>by rw [he];exact h5⟩
  · rw [iP (by rw [hwant,hγ])]
    left
    have hl:ld lt i o=true:=hld.trans hl
    rw [← hheap hl] at hx
    obtain ⟨nx,val,w',G',e1,e2,e3,e4,e5,e6⟩:=hx _ hops G a w hsim
    have hfin:pQ lt l tr E σ G0 (listed.setIfInBounds i true) (a.put o.dst val) w' :=
      ⟨hsz',hcl',G',i+1,hG.trans (Gle.mk' e3 e4),by omega,hloud' hl,by rw [hnext];exact e5,(hput val).1.trans (by rw [e3.w0]),(hput val).2,e3.na.trans hna,
        hslot' G' val (fun q v h=>bg.mono e3.H e4 h) fun _=>by rw [he];exact e6⟩
    unfold Oper.wp
    rw [e1]
    rcases e2 with rfl|⟨rfl,rfl⟩
    · exact hfin
    · exact hfin
theorem uh(hfz:∀ i,fz.getD i false=false){l:List Oper}{masks:List Nat}{bs ps:List Bool}{rd:List (List Nat)}{lt:List Bool}{E:Env}{σ:List OB}{tr:List TS}(c:xz l.toArray l masks bs ps rd lt)(ht:jl P l.toArray pv l bs ps rd lt fz E σ tr)(G0:Gh){Q:Exit→Act→World→Prop}
    (fin:∀ G a w,Gle G0 G→Sim G (cR E l tr l.length) (bh σ tr l.length) a w→Q .normal a w) :
    ∀ (fuel:Nat) (listed:Array Bool) (a:Act) (w:World),listed.toList.count false≤fuel→pQ lt l tr E σ G0 listed a w→wpAny P .any l.toArray Q fuel listed a w:=by
  have done:∀ (listed:Array Bool) (a:Act) (w:World),pQ lt l tr E σ G0 listed a w→Region.ready .any l.toArray listed=[]→Q .normal a w:=by
    intro listed a w hJ hr
    obtain ⟨hsz,hcl,G,p,hG,hp,hloud,hinv,hdef,htm,hna,hslot⟩:=hJ
    have hall:=uR c hsz hr
    obtain ⟨htl,hat⟩:=ht.at
    have hE:=ug l tr E l.length
    have hheap:bh σ tr l.length=bh σ tr p:=qt ht hp (Nat.le_refl _) fun j y hy h1 h2=>by
      cases hly:ld lt j y with
      |false=>rfl
      |true =>
        have:=hloud j y hy hly
        rw [hall j h2] at this
        have:j<p:=by simpa using this.symm
        omega
    refine fin G a w hG ⟨by rw [hheap];exact hinv,hdef,by rw [hE.1];exact htm,by rw [hE.2];exact hna,fun t hc=>?_⟩
    by_cases h512:t<512
    · have hg:(cR E l tr l.length).get t=io t l tr (fun i=>listed.getD i false) (E.get t):=by
        rw [rF t l tr E l.length (fun j o x hj hd=>c.dst j o hj x hd) htl]
        apply je
        intro j y hy _
        have hlt:=(List.getElem?_eq_some_iff.1 hy).1
        simp [hlt,hall j hlt]
      rw [hg] at hc ⊢
      exact hslot t h512 hc
    · rw [Env.get_big _ t (by omega)] at hc;cases hc
  intro fuel
  induction fuel with
  |zero =>
    intro listed a w hf hJ
    have hr:Region.ready .any l.toArray listed=[]:=by
      rw [List.eq_nil_iff_forall_not_mem]
      intro i hi
      obtain ⟨h1,o,ho,_⟩:=mem_ready.1 hi
      have hlt:i<listed.size:=by rw [hJ.1];have:=(Array.getElem?_eq_some_iff.1 ho).1;simpa using this
      have:listed.toList[i]? = some false:=by
        rw [Array.getD_eq_getD_getElem?,Array.getElem?_eq_getElem hlt] at h1
        rw [Array.getElem?_toList,Array.getElem?_eq_getElem hlt]
        simpa using h1
      have hpos:=List.count_pos_iff.2 (List.mem_of_getElem? this)
      omega
    exact ⟨hr,done listed a w hJ hr⟩
  |succ fuel ih =>
    intro listed a w hf hJ
    refine ⟨fun hr=>done listed a w hJ hr,fun i hi=>?_⟩
    have hstep:=pQ.stepQ (Q:=Q) c ht G0 listed a w i hJ hi (hfz i)
    refine wpOp_mono (fun a' w' hJ'=>ih _ a' w' ?_ hJ') hstep
    obtain ⟨h1,o,ho,_⟩:=mem_ready.1 hi
    have hlt:i<listed.size:=by rw [hJ.1];have:=(Array.getElem?_eq_some_iff.1 ho).1;simpa using this
    have:listed.toList[i]? = some false:=by
      rw [Array.getD_eq_getD_getElem?,Array.getElem?_eq_getElem hlt] at h1
      rw [Array.getElem?_toList,Array.getElem?_eq_getElem hlt]
      simpa using h1
    have hc:=qj _ _ this
    simp only [Array.toList_setIfInBounds]
    omega
def TRQ(P:Program)(ops:Array Oper)(pv:List Nat)(l:List Oper)(bs ps:List Bool)(rd:List (List Nat))(lt:List Bool)(E:Env)(σ:List OB)(k:Env→List OB→Prop):Prop :=
  ∃ tr,lL P ops pv l bs ps rd lt E σ tr∧k (cR E l tr l.length) (bh σ tr l.length)
theorem zx{id:Nat}{l:List Oper}{K:Kt}{E:Env}{σ:List OB}(hm:P.follows .mixedOrders=true)(pv masks:List Nat)(bs ps:List Bool)(rd:List (List Nat))(lt:List Bool)(hc:yE l.toArray l masks bs ps rd lt=true)
    (h:TRQ P l.toArray pv l bs ps rd lt E σ (K .normal)):W P (.region id l.toArray true) K E σ:=fun G a w hs=>by
  obtain ⟨tr,ht,hk⟩:=h
  refine wp_region_any hm ?_
  refine uh (fz:=[]) (fun i=>by simp) (wZ hc) (jl.of ht) G (fun G' a' w' hG hs'=>⟨G',_,_,.normal,hG,hs',rfl,hk⟩) _ _ a _ ?_ ?_
  · simp
  · have hfalse:∀ i,(Array.replicate l.length false).getD i false=false:=by
      intro i
      rw [Array.getD_eq_getD_getElem?,Array.getElem?_replicate]
      split<;>rfl
    refine ⟨by simp,fun i o ho hd=>by simp [hfalse] at hd,G,0,Gle.refl G,by omega,fun j o ho hl=>by simp [hfalse],?_,hs.defers,hs.size,hs.na,fun t ht hc=>?_⟩
    · have:bh σ tr 0=σ:=by cases tr<;>rfl
      rw [this];exact hs.inv.drawn
    · have:io t l tr (fun i=>(Array.replicate l.length false).getD i false) (E.get t)=E.get t:=kq t l tr _ _ fun j o _ _=>hfalse j
      simp only [List.size_toArray] at hc ⊢
      rw [this] at hc ⊢
      exact hs.slot t hc
theorem lL.of{ops:Array Oper}:∀ {l:List Oper} {bs:List Bool} {E:Env} {σ:List OB} {tr:List TS},tu P ops l bs E σ tr→lL P ops [] l bs [] [] [] E σ tr
  |[],_,_,_,_,h=>h
  |o :: l,bs,E,σ,tr,⟨ts,r,h1,⟨h2,h3,h4⟩,h5⟩=>by
    refine ⟨ts,r,h1,⟨h2,h3,.inl ⟨rfl,?_⟩⟩,lL.of h5⟩
    rcases h4 with ⟨C,v,a,b,c,d⟩|⟨a,C,v,b,c,d,e⟩|h|h|h|h
    · exact .inl ⟨C,v,a,b,rfl,c,d⟩
    · exact .inr (.inl ⟨a,C,v,b,c,d,e.imp id .inl⟩)
    · exact .inr (.inr (.inl h))
    · exact .inr (.inr (.inr (.inl h)))
    · obtain ⟨a,C,f,args,p,b,c,d,e,g⟩:=h
      exact .inr (.inr (.inr (.inr (.inl ⟨a,C,f,args,p,b,c,d,e,g.imp id .inl⟩))))
    · obtain ⟨a,b,v,c,d,e⟩:=h
      exact .inr (.inr (.inr (.inr (.inr ⟨a,b,v,c,d,e.imp id .inl⟩))))
theorem xB(i:Nat)(o:Oper):ld [] i o=kG o:=by simp [ld]
theorem B9{ops:Array Oper}{l:List Oper}{masks:List Nat}{bs:List Bool}(h:chk ops l masks bs=true):yE ops l masks bs [] [] []=true:=by
  unfold chk at h
  unfold yE
  rw [show ld ([]:List Bool)=fun _ o=>kG o from by funext i o;exact xB i o]
  refine Bool.and_eq_true_iff.2 ⟨h,?_⟩
  rw [List.all_eq_true]
  intro x _
  simp only [Bool.or_eq_true,List.all_eq_true]
  right
  intro y _
  simp
end
section
variable {P:Program}
theorem CM{l:List Oper}{masks:List Nat}{bs:List Bool}(c:Chk l.toArray l masks bs){listed:Array Bool}(hs:listed.size=l.length)(h:Region.ready .any l.toArray listed=[]):∀ i,i<l.length→listed.getD i false=true:=by
 intro i
 induction i using Nat.strongRecOn with
 |_ i ih =>
  intro hi
  cases hd:listed.getD i false with
  |true=>rfl
  |false =>
   exfalso
   have ho:=List.getElem?_eq_getElem hi
   have:i∈Region.ready .any l.toArray listed:=by
    refine mem_ready.2 ⟨?_,l[i],by simp,fun e he hb=>?_⟩
    ·rw [Array.getD_eq_getD_getElem?] at hd ⊢
     rw [Array.getElem?_eq_getElem (by omega)] at hd ⊢
     simpa using hd
    ·have hlt:=c.lt i _ ho e.on (by simp only [ep,List.mem_map,List.mem_filter];exact ⟨e,⟨by simpa using he,hb⟩,rfl⟩)
     exact ih e.on hlt (by omega)
   rw [h] at this;simp at this
theorem Chk.q{ops:Array Oper}{l:List Oper}{masks:List Nat}{bs:List Bool}(c:Chk ops l masks bs):xz ops l masks bs [] [] [] :=
 ⟨c.mask,c.lt,c.dst,c.look,fun i j x y h1 h2 h3 h4=>c.loud i j x y h1 h2 (by rwa [xB] at h3) (by rwa [xB] at h4),c.hit,c.bar,fun _ _ _ _=>.inr fun j y _ h=>by simp at h⟩
theorem xC(l:List Oper)(tr:List TS)(E:Env)(σ:List OB)(G0:Gh)(listed:Array Bool)(a:Act)(w:World):pQ [] l tr E σ G0 listed a w=StJ l tr E σ G0 listed a w:=by
 unfold pQ StJ
 rw [show ld ([]:List Bool)=fun _ o=>kG o from by funext i o;exact xB i o]
theorem StJ.step{l:List Oper}{bs:List Bool}{masks:List Nat}{E:Env}{σ:List OB}{tr:List TS}(c:Chk l.toArray l masks bs)(ht:tu P l.toArray l bs E σ tr)(G0:Gh){Q:Exit→Act→World→Prop}(listed:Array Bool)(a:Act)(w:World)(i:Nat)
  (hJ:StJ l tr E σ G0 listed a w) (hready:i∈Region.ready .any l.toArray listed):wpOp P l.toArray Q i (StJ l tr E σ G0 (listed.setIfInBounds i true)) a w:=by
 have h:=pQ.stepQ (fz:=[]) (Q:=Q) c.q (jl.of (lL.of ht)) G0 listed a w i (by rw [xC];exact hJ) hready (by simp)
 rwa [show (pQ [] l tr E σ G0 (listed.setIfInBounds i true))=StJ l tr E σ G0 (listed.setIfInBounds i true) from by funext a w;exact xC _ _ _ _ _ _ _ _] at h
theorem Dy{l:List Oper}{masks:List Nat}{bs:List Bool}{E:Env}{σ:List OB}{tr:List TS}(c:Chk l.toArray l masks bs)(ht:tu P l.toArray l bs E σ tr)(G0:Gh){Q:Exit→Act→World→Prop}
  (fin:∀ G a w,Gle G0 G→Sim G (cR E l tr l.length) (bh σ tr l.length) a w→Q .normal a w) :
  ∀ (fuel:Nat) (listed:Array Bool) (a:Act) (w:World),listed.toList.count false≤fuel→StJ l tr E σ G0 listed a w→wpAny P .any l.toArray Q fuel listed a w:=by
 intro fuel listed a w h1 h2
 exact uh (fz:=[]) (fun i=>by simp) c.q (jl.of (lL.of ht)) G0 fin fuel listed a w h1 (by rw [xC];exact h2)
def TR(P:Program)(ops:Array Oper)(l:List Oper)(bs:List Bool)(E:Env)(σ:List OB)(k:Env→List OB→Prop):Prop :=
 ∃ tr,tu P ops l bs E σ tr∧k (cR E l tr l.length) (bh σ tr l.length)
def uS:List OB→List OB→Prop
 |[],_=>True
 |a :: az,b :: bs=>a=b∧uS az bs
 |_ :: _,[]=>False
theorem w6:∀ {σ σ':List OB},uS σ σ'→Ext σ σ'
 |[],σ',_=>⟨σ',rfl⟩
 |a :: az,b :: bs,⟨h1,h2⟩=>by obtain ⟨ρ,h⟩:=w6 h2;exact ⟨ρ,by rw [h1,h];rfl⟩
def vx(P:Program)(ops:Array Oper)(γ:Bool)(C:Prop)(f:FuncId)(args:List PV)(o:Oper)(r:List Oper)(bs:List Bool)(E:Env)(σ:List OB)(k:Env→List OB→Prop):Prop :=
 cA P γ E σ o.op=.call C f args→fm ops E o.guard=some γ→TR P ops (o :: r) bs E σ k
def yV(P:Program)(ops:Array Oper)(γ:Bool)(o:Oper)(r:List Oper)(bs:List Bool)(E:Env)(σ:List OB)(k run:Env→List OB→Prop):R→Prop
 |.ok C v=>eW E o.dst∧C∧run (E.putD o.dst ⟨γ,v⟩) σ
 |.upd C v σ'=>eW E o.dst∧γ=true∧C∧(bs.headD false=true∨uS σ σ')∧run (E.putD o.dst ⟨true,v⟩) σ'
 |.call C f args=>vx P ops γ C f args o r bs E σ k
 |.bad=>False
def jL(P:Program)(ops:Array Oper):List Oper→List Bool→Env→List OB→(Env→List OB→Prop)→Prop
 |[],_,E,σ,k=>k E σ
 |o :: r,bs,E,σ,k =>
  match fm ops E o.guard with
  |none=>False
  |some false=>eW E o.dst∧jL P ops r bs.tail (E.putD o.dst ⟨true,.t []⟩) σ k
  |some true=>yV P ops true o r bs E σ k (fun E' σ'=>jL P ops r bs.tail E' σ' k) (cA P true E σ o.op)
theorem TR.cons{ops:Array Oper}{o:Oper}{r:List Oper}{bs:List Bool}{E:Env}{σ:List OB}{k:Env→List OB→Prop}{ts:TS}(h:Du P ops E σ o (bs.headD false) ts)(ht:TR P ops r bs.tail (E.putD o.dst ts.e) ts.σ k):TR P ops (o :: r) bs E σ k:=by
 obtain ⟨tr,h1,h2⟩:=ht
 refine ⟨ts :: tr,⟨ts,tr,rfl,h,h1⟩,?_⟩
 simpa [cR,bh] using h2
theorem kN{ops:Array Oper}:∀ (l:List Oper) (bs:List Bool) (E:Env) (σ:List OB) (k:Env→List OB→Prop),jL P ops l bs E σ k→TR P ops l bs E σ k
 |[],bs,E,σ,k,h=>⟨[],rfl,by unfold jL at h;simpa [cR,bh] using h⟩
 |o :: r,bs,E,σ,k,h=>by
  unfold jL at h
  split at h
  ·exact h.elim
  ·rename_i hγ
   exact TR.cons (ts:=⟨false,⟨true,.t []⟩,σ⟩) ⟨hγ,h.1,.inr (.inr (.inr (.inl ⟨rfl,rfl,rfl⟩)))⟩ (kN r _ _ _ _ h.2)
  ·rename_i hγ
   unfold yV at h
   split at h
   ·rename_i C v hrun
    obtain ⟨hd,hC,hr⟩:=h
    exact TR.cons (ts:=⟨true,⟨true,v⟩,σ⟩) ⟨hγ,hd,.inl ⟨C,v,hrun,hC,rfl,rfl⟩⟩ (kN r _ _ _ _ hr)
   ·rename_i C v σ' hrun
    obtain ⟨hd,hg,hC,hb,hr⟩:=h
    exact TR.cons (ts:=⟨true,⟨true,v⟩,σ'⟩) ⟨hγ,hd,.inr (.inl ⟨rfl,C,v,hrun,hC,rfl,hb.imp id w6⟩)⟩ (kN r _ _ _ _ hr)
   ·rename_i C f args hrun
    exact h hrun hγ
   ·exact h.elim
theorem vy{ops:Array Oper}{γ:Bool}{C:Prop}{f:FuncId}{args:List PV}{o:Oper}{r:List Oper}{bs:List Bool}{E:Env}{σ:List OB}{k:Env→List OB→Prop}{res:PV}
  (hs:γ=true→a8 P f args res) (hd:eW E o.dst) (hC:γ=true→C) (hargs:args.all PV.noOwn=true) (hres:∀ n,res.ren (du n [])=res)
  (next:jL P ops r bs.tail (E.putD o.dst ⟨γ,res⟩) σ k):vx P ops γ C f args o r bs E σ k:=fun hrun hγ =>
 TR.cons (ts:=⟨γ,⟨γ,res⟩,σ⟩) ⟨hγ,hd,.inr (.inr (.inl ⟨C,f,args,res,hrun,fun h=>⟨hC h,hs h⟩,hargs,hres,rfl,rfl⟩))⟩ (kN r _ _ _ _ next)
theorem zy{id:Nat}{l:List Oper}{K:Kt}{E:Env}{σ:List OB}(hm:P.follows .mixedOrders=true)(masks:List Nat)(bs:List Bool)(hc:chk l.toArray l masks bs=true)
  (h:TR P l.toArray l bs E σ (K .normal)):W P (.region id l.toArray true) K E σ:=by
 obtain ⟨tr,ht,hk⟩:=h
 exact zx hm [] masks bs [] [] [] (B9 hc) ⟨tr,lL.of ht,hk⟩
theorem Fo{id:Nat}{l:List Oper}{K:Kt}{E:Env}{σ:List OB}(hm:P.follows .mixedOrders=true)(masks:List Nat)(bs:List Bool)(hc:chk l.toArray l masks bs=true)
  (h:∀ (k:Env→List OB→Prop),(∀ E σ,K .normal E σ→k E σ)→jL P l.toArray l bs E σ k):W P (.region id l.toArray true) K E σ :=
 zy hm masks bs hc (kN l bs E σ _ (h (K .normal) fun _ _ h=>h))
end
theorem Ca(γ:Bool)(v:PV):aR γ ⟨true,v⟩=True:=by simp [aR]
theorem yW(γ:Bool)(v:PV):aR γ ⟨γ,v⟩=True:=by simp [aR]
section
variable (n na:Nat) (t x a0 a1 a2 a3 a4 a5 a6 a7:Tr) (e:Ent) (i:Nat)
theorem Dz:
    ((∀ (n na : Nat) (t : Tr) (i : Nat), Env.get ⟨n, na, t⟩ i = (((t.get (i / 64)).get (i / 8 % 8)).get (i % 8)).ent) ∧
     (∀ (n na:Nat) (t:Tr) (i:Nat) (e:Ent),Env.put ⟨n,na,t⟩ i e=⟨n,na,t.put (i / 64) ((t.get (i / 64)).put (i / 8 % 8) (((t.get (i / 64)).get (i / 8 % 8)).put (i % 8) (.leaf e)))⟩) ∧
     (∀ (E:Env) (i:Nat) (e:Ent),Env.putD E (some i) e=E.put i e)∧(∀ (E:Env) (e:Ent),Env.putD E none e=E) ∧
     (∀ (n na:Nat) (t:Tr) (d:Tmp),eW ⟨n,na,t⟩ (some d)=(d<n))∧(∀ E:Env,eW E none=True)) ∧
    ((∀ i,Tr.get .nil i=.nil)∧(∀ e,Tr.ent (.leaf e)=e)∧Tr.ent .nil=⟨false,.x⟩) :=
  ⟨⟨fun _ _ _ _=>rfl,fun _ _ _ _ _=>rfl,fun _ _ _=>rfl,fun _ _=>rfl,fun _ _ _ _=>rfl,fun _=>rfl⟩,fun _=>rfl,fun _=>rfl,rfl⟩
theorem DA:
    ((∀ a0 a1 a2 a3 a4 a5 a6 a7, Tr.get (.node a0 a1 a2 a3 a4 a5 a6 a7) 0 = a0) ∧ (∀ a0 a1 a2 a3 a4 a5 a6 a7, Tr.get (.node a0 a1 a2 a3 a4 a5 a6 a7) 1 = a1) ∧
     (∀ a0 a1 a2 a3 a4 a5 a6 a7,Tr.get (.node a0 a1 a2 a3 a4 a5 a6 a7) 2=a2)∧(∀ a0 a1 a2 a3 a4 a5 a6 a7,Tr.get (.node a0 a1 a2 a3 a4 a5 a6 a7) 3=a3)) ∧
    ((∀ a0 a1 a2 a3 a4 a5 a6 a7, Tr.get (.node a0 a1 a2 a3 a4 a5 a6 a7) 4 = a4) ∧ (∀ a0 a1 a2 a3 a4 a5 a6 a7, Tr.get (.node a0 a1 a2 a3 a4 a5 a6 a7) 5 = a5) ∧
     (∀ a0 a1 a2 a3 a4 a5 a6 a7,Tr.get (.node a0 a1 a2 a3 a4 a5 a6 a7) 6=a6)∧(∀ a0 a1 a2 a3 a4 a5 a6 a7,Tr.get (.node a0 a1 a2 a3 a4 a5 a6 a7) 7=a7)):=by
  refine ⟨⟨?_,?_,?_,?_⟩,?_,?_,?_,?_⟩<;>(intros;rfl)
theorem DB:
    (((∀ a0 a1 a2 a3 a4 a5 a6 a7 x, Tr.put (.node a0 a1 a2 a3 a4 a5 a6 a7) 0 x = .node x a1 a2 a3 a4 a5 a6 a7) ∧ (∀ a0 a1 a2 a3 a4 a5 a6 a7 x, Tr.put (.node a0 a1 a2 a3 a4 a5 a6 a7) 1 x = .node a0 x a2 a3 a4 a5 a6 a7) ∧
      (∀ a0 a1 a2 a3 a4 a5 a6 a7 x,Tr.put (.node a0 a1 a2 a3 a4 a5 a6 a7) 2 x=.node a0 a1 x a3 a4 a5 a6 a7)∧(∀ a0 a1 a2 a3 a4 a5 a6 a7 x,Tr.put (.node a0 a1 a2 a3 a4 a5 a6 a7) 3 x=.node a0 a1 a2 x a4 a5 a6 a7)) ∧
     ((∀ a0 a1 a2 a3 a4 a5 a6 a7 x, Tr.put (.node a0 a1 a2 a3 a4 a5 a6 a7) 4 x = .node a0 a1 a2 a3 x a5 a6 a7) ∧ (∀ a0 a1 a2 a3 a4 a5 a6 a7 x, Tr.put (.node a0 a1 a2 a3 a4 a5 a6 a7) 5 x = .node a0 a1 a2 a3 a4 x a6 a7) ∧
      (∀ a0 a1 a2 a3 a4 a5 a6 a7 x,Tr.put (.node a0 a1 a2 a3 a4 a5 a6 a7) 6 x=.node a0 a1 a2 a3 a4 a5 x a7)∧(∀ a0 a1 a2 a3 a4 a5 a6 a7 x,Tr.put (.node a0 a1 a2 a3 a4 a5 a6 a7) 7 x=.node a0 a1 a2 a3 a4 a5 a6 x))) ∧
    (((∀ x, Tr.put .nil 0 x = .node x .nil .nil .nil .nil .nil .nil .nil) ∧ (∀ x, Tr.put .nil 1 x = .node .nil x .nil .nil .nil .nil .nil .nil) ∧
      (∀ x,Tr.put .nil 2 x=.node .nil .nil x .nil .nil .nil .nil .nil)∧(∀ x,Tr.put .nil 3 x=.node .nil .nil .nil x .nil .nil .nil .nil)) ∧
     ((∀ x, Tr.put .nil 4 x = .node .nil .nil .nil .nil x .nil .nil .nil) ∧ (∀ x, Tr.put .nil 5 x = .node .nil .nil .nil .nil .nil x .nil .nil) ∧
      (∀ x,Tr.put .nil 6 x=.node .nil .nil .nil .nil .nil .nil x .nil)∧(∀ x,Tr.put .nil 7 x=.node .nil .nil .nil .nil .nil .nil .nil x))) ∧
    (((∀ e x,Tr.put (.leaf e) 0 x=.node x .nil .nil .nil .nil .nil .nil .nil))):=by
  refine ⟨⟨⟨?_,?_,?_,?_⟩,?_,?_,?_,?_⟩,⟨⟨?_,?_,?_,?_⟩,?_,?_,?_,?_⟩,?_⟩<;>(intros;rfl)
end
theorem HM:
    ((∀ E t,ev E (.tmp t)=E.get t)∧(∀ E v,ev E (.const v)=uq v)∧(∀ E f,ev E (.func f)=if f<4096 then ⟨true,.c (.fn f [])⟩ else ⟨false,.x⟩)) ∧
    ((∀ k n, uq (.int k n) = ⟨true, .c (.int k n)⟩) ∧ (∀ b, uq (.bool b) = ⟨true, .c (.bool b)⟩) ∧ (∀ s, uq (.string s) = ⟨true, .c (.str s.data.toList)⟩) ∧
     (uq (.pointer none)=⟨true,.c .nilp⟩)∧(uq (.slice none 0 0)=⟨true,.c .nils⟩)∧(uq .nilFunc=⟨true,.c .nilf⟩)∧(uq .nilIface=⟨true,.c .nili⟩)) ∧
    ((∀ cs, uq (.agg cs) = (match nv cs.toList with | some l => ⟨true, .a l⟩ | none => ⟨false, .x⟩)) ∧ (nv [] = some []) ∧
     (∀ v r,nv (v :: r)=(match od v,nv r with|some c,some cs=>some (c :: cs)|_,_=>none)) ∧
     (∀ k n,od (.int k n)=some (.int k n))∧(∀ b,od (.bool b)=some (.bool b))∧(∀ s,od (.string s)=some (.str s.data.toList)) ∧
     (od (.pointer none)=some .nilp)∧(od (.slice none 0 0)=some .nils)∧(od .nilFunc=some .nilf)∧(od .nilIface=some .nili)):=by
  refine ⟨⟨?_,?_,?_⟩,⟨?_,?_,?_,?_,?_,?_,?_⟩,?_,?_,?_,?_,?_,?_,?_,?_,?_,?_⟩<;>(intros;rfl)
theorem GJ:
    ((∀ P γ E σ x, cA P γ E σ (.move x) = .ok (aR γ (ev E x)) (ev E x).v) ∧ (∀ P γ E σ x, cA P γ E σ (.assign x) = .ok (aR γ (ev E x)) (ev E x).v) ∧
     (∀ P γ E σ c a b,cA P γ E σ (.pick c a b)=uy γ (ev E c) (ev E a) (ev E b))∧(∀ P γ E σ T,cA P γ E σ (.alloc T)=pP P σ T) ∧
     (∀ P γ E σ T x,cA P γ E σ (.box T x)=zo P σ T (ev E x))∧(∀ P γ E σ T p,cA P γ E σ (.load T p)=qo P γ σ T (ev E p)) ∧
     (∀ P γ E σ T p x,cA P γ E σ (.store T p x)=qp P σ T (ev E p) (ev E x))∧(∀ P γ E σ x,cA P γ E σ (.nilCheck x)=kL γ σ (ev E x))) ∧
    ((∀ P γ E σ op T x y T', cA P γ E σ (.binOp op T x y T') = n8 P γ op T (ev E x) (ev E y)) ∧ (∀ P γ E σ op T x, cA P γ E σ (.unOp op T x) = unR γ op (ev E x)) ∧
     (∀ P γ E σ s d x,cA P γ E σ (.convert s d x)=uz P γ s d (ev E x))∧(∀ P γ E σ T x i,cA P γ E σ (.fieldAddr T x i)=gT P γ σ T (ev E x) i) ∧
     (∀ P γ E σ T x i,cA P γ E σ (.field T x i)=sj P γ T (ev E x) i)∧(∀ P γ E σ T x i,cA P γ E σ (.indexAddr T x i)=fT P γ σ T (ev E x) (ev E i)) ∧
     (∀ P γ E σ T x i,cA P γ E σ (.index T x i)=oe P γ T (ev E x) (ev E i))∧(∀ P γ E σ x i,cA P γ E σ (.extract x i)=oh γ (ev E x) i)) ∧
    ((∀ P γ E σ T x lo hi mx, cA P γ E σ (.slice T x lo hi mx) = pO P γ σ T (ev E x) (lo.map (ev E)) (hi.map (ev E)) (mx.map (ev E))) ∧
     (∀ P γ E σ T x y,cA P γ E σ (.makeSlice T x y)=lK P σ T (ev E x) (ev E y)) ∧
     (∀ P γ E σ T (l:List (Nat×Operand)),cA P γ E σ (.build T l.toArray)=sm P γ T (wz E l)) ∧
     (∀ P γ E σ T n (l:List (Nat×Operand)),cA P γ E σ (.buildSlice T n l.toArray)=jX P σ T n (wz E l)) ∧
     (∀ P γ E σ fn (first caps:List Operand),cA P γ E σ (.makeFunc fn first.toArray caps.toArray)=ml γ fn (first.map (ev E)) (caps.map (ev E))) ∧
     (∀ P γ E σ f (args:List Operand) ts,cA P γ E σ (.call ⟨.value f,args.toArray,ts⟩)=xl γ (ev E f) (args.map (ev E))) ∧
     (∀ P γ E σ b (args:List Operand) (ts:List TypeId),cA P γ E σ (.call ⟨.builtin b,args.toArray,ts.toArray⟩)=jZ P γ σ b ts (args.map (ev E)))):=by
  refine ⟨⟨?_,?_,?_,?_,?_,?_,?_,?_⟩,⟨?_,?_,?_,?_,?_,?_,?_,?_⟩,?_,?_,?_,?_,?_,?_,?_⟩<;>(intros;rfl)
theorem Fp:
    ((∀ P γ σ T c b off, qo P γ σ T ⟨c, .c (.optr b off)⟩ = (match σ[b]? with
        |some (.box cs)=>.ok (aR γ ⟨c,.c (.optr b off)⟩∧cx P T=true∧0<P.cellsOf T∧off+P.cellsOf T≤cs.length∧(n7 P T=true∨P.cellsOf T=1)) (mkV P T ((cs.drop off).take (P.cellsOf T)))
        |_=>.bad)) ∧
     (∀ P γ σ T c s es i j,qo P γ σ T ⟨c,.c (.tptr s es i j)⟩=.ok (aR γ ⟨c,.c (.tptr s es i j)⟩∧cx P T=true∧0<P.cellsOf T∧(γ=true→i<es.length)∧j+P.cellsOf T≤s∧(n7 P T=true∨P.cellsOf T=1)) (mkV P T (((elt es i).drop j).take (P.cellsOf T)))) ∧
     (∀ P γ σ T c b ver i j, qo P γ σ T ⟨c, .c (.oel b ver i j)⟩ = (match σ[b]? with
        |some (.arr s ver' _ es)=>.ok (aR γ ⟨c,.c (.oel b ver i j)⟩∧ver=ver'∧cx P T=true∧0<P.cellsOf T∧(γ=true→i<es.length)∧j+P.cellsOf T≤s∧(n7 P T=true∨P.cellsOf T=1)) (mkV P T (((elt es i).drop j).take (P.cellsOf T)))
        |_=>.bad))) ∧
    ((∀ P σ T c b off x, qp P σ T ⟨c, .c (.optr b off)⟩ x = (match σ[b]? with
        |some (.box cs)=>.upd (c=true∧x.cond=true∧cx P T=true∧0<P.cellsOf T∧x.v.cells.length=P.cellsOf T∧off+P.cellsOf T≤cs.length) .x (σ.set b (.box (ik cs off x.v.cells)))
        |_=>.bad)) ∧
     (∀ P σ T c b ver i j x, qp P σ T ⟨c, .c (.oel b ver i j)⟩ x = (match σ[b]? with
        |some (.arr s ver' T' es)=>.upd (c=true∧x.cond=true∧ver=ver'∧cx P T=true∧0<P.cellsOf T∧x.v.cells.length=P.cellsOf T∧(x.v.cells.all CV.flat)=true∧i<es.length∧j+P.cellsOf T≤s) .x
            (σ.set b (.arr s ver' T' (es.set i (ik (elt es i) j x.v.cells))))
        |_=>.bad))) ∧
    ((∀ y, PV.cells (.c y) = [y]) ∧ (∀ ys, PV.cells (.a ys) = ys) ∧ (∀ P σ T x, zo P σ T x = .upd (x.cond = true ∧ cx P T = true ∧ 0 < x.v.cells.length) (.c (.optr σ.length 0)) (σ ++ [.box x.v.cells])) ∧
     (∀ P σ T,pP P σ T=(match mG P T with|some z=>.upd (0<z.length) (.c (.optr σ.length 0)) (σ++[.box z])|none=>.bad))) ∧
    ((∀ (σ : List OB) b off, iT σ (.optr b off) = (match σ[b]? with | some (.box _) => True | _ => False)) ∧ (∀ (σ : List OB) b ver lo len, iT σ (.osl b ver lo len) = (match σ[b]? with | some (.arr _ ver' _ _) => ver = ver' | _ => False)) ∧
     (∀ (σ:List OB) b ver i j,iT σ (.oel b ver i j)=(match σ[b]? with|some (.arr _ ver' _ _)=>ver=ver'|_=>False))∧(∀ P T cs,mkV P T cs=(match n7 P T with|true=>.a cs|false=>.c (cs.headD .junk)))):=by
  refine ⟨⟨?_,?_,?_⟩,⟨?_,?_⟩,⟨?_,?_,?_,?_⟩,?_,?_,?_,?_⟩<;>(intros;rfl)
theorem GK:
    ((∀ P γ T c c' k a k' b, n8 P γ .add T ⟨c, .c (.int k a)⟩ ⟨c', .c (.int k' b)⟩ = if k = k' then .ok (aR γ ⟨c, .c (.int k a)⟩ ∧ aR γ ⟨c', .c (.int k' b)⟩ ∧ (γ = true → True)) (.c (.int k (k.wrap (a + b)))) else .bad) ∧
     (∀ P γ T c c' k a k' b,n8 P γ .sub T ⟨c,.c (.int k a)⟩ ⟨c',.c (.int k' b)⟩=if k=k' then .ok (aR γ ⟨c,.c (.int k a)⟩∧aR γ ⟨c',.c (.int k' b)⟩∧(γ=true→True)) (.c (.int k (k.wrap (a - b)))) else .bad) ∧
     (∀ P γ T c c' k a k' b,n8 P γ .mul T ⟨c,.c (.int k a)⟩ ⟨c',.c (.int k' b)⟩=if k=k' then .ok (aR γ ⟨c,.c (.int k a)⟩∧aR γ ⟨c',.c (.int k' b)⟩∧(γ=true→True)) (.c (.int k (k.wrap (a * b)))) else .bad) ∧
     (∀ P γ T c c' k a k' b,n8 P γ .quo T ⟨c,.c (.int k a)⟩ ⟨c',.c (.int k' b)⟩=if k=k' then .ok (aR γ ⟨c,.c (.int k a)⟩∧aR γ ⟨c',.c (.int k' b)⟩∧(γ=true→b≠0)) (.c (.int k (k.wrap (a.tdiv b)))) else .bad) ∧
     (∀ P γ T c c' k a k' b,n8 P γ .rem T ⟨c,.c (.int k a)⟩ ⟨c',.c (.int k' b)⟩=if k=k' then .ok (aR γ ⟨c,.c (.int k a)⟩∧aR γ ⟨c',.c (.int k' b)⟩∧(γ=true→b≠0)) (.c (.int k (a.tmod b))) else .bad)) ∧
    ((∀ P γ T c c' k a k' b, n8 P γ .and T ⟨c, .c (.int k a)⟩ ⟨c', .c (.int k' b)⟩ = if k = k' then .ok (aR γ ⟨c, .c (.int k a)⟩ ∧ aR γ ⟨c', .c (.int k' b)⟩ ∧ (γ = true → True)) (.c (.int k (bits .and k a b))) else .bad) ∧
     (∀ P γ T c c' k a k' b,n8 P γ .or T ⟨c,.c (.int k a)⟩ ⟨c',.c (.int k' b)⟩=if k=k' then .ok (aR γ ⟨c,.c (.int k a)⟩∧aR γ ⟨c',.c (.int k' b)⟩∧(γ=true→True)) (.c (.int k (bits .or k a b))) else .bad) ∧
     (∀ P γ T c c' k a k' b,n8 P γ .xor T ⟨c,.c (.int k a)⟩ ⟨c',.c (.int k' b)⟩=if k=k' then .ok (aR γ ⟨c,.c (.int k a)⟩∧aR γ ⟨c',.c (.int k' b)⟩∧(γ=true→True)) (.c (.int k (bits .xor k a b))) else .bad) ∧
     (∀ P γ T c c' k a k' b,n8 P γ .shl T ⟨c,.c (.int k a)⟩ ⟨c',.c (.int k' b)⟩=.ok (aR γ ⟨c,.c (.int k a)⟩∧aR γ ⟨c',.c (.int k' b)⟩∧(γ=true→0≤b)) (.c (.int k (k.wrap (a * 2 ^ (min b.toNat k.bits)))))) ∧
     (∀ P γ T c c' k a k' b,n8 P γ .shr T ⟨c,.c (.int k a)⟩ ⟨c',.c (.int k' b)⟩=.ok (aR γ ⟨c,.c (.int k a)⟩∧aR γ ⟨c',.c (.int k' b)⟩∧(γ=true→0≤b)) (.c (.int k (a.fdiv (2 ^ (min b.toNat k.bits))))))) ∧
    ((∀ P γ T c c' k a k' b, n8 P γ .eql T ⟨c, .c (.int k a)⟩ ⟨c', .c (.int k' b)⟩ = if k = k' then .ok (aR γ ⟨c, .c (.int k a)⟩ ∧ aR γ ⟨c', .c (.int k' b)⟩ ∧ (γ = true → True)) (.c (.bool (a == b))) else .bad) ∧
     (∀ P γ T c c' k a k' b,n8 P γ .neq T ⟨c,.c (.int k a)⟩ ⟨c',.c (.int k' b)⟩=if k=k' then .ok (aR γ ⟨c,.c (.int k a)⟩∧aR γ ⟨c',.c (.int k' b)⟩∧(γ=true→True)) (.c (.bool (a != b))) else .bad) ∧
     (∀ P γ T c c' k a k' b,n8 P γ .lss T ⟨c,.c (.int k a)⟩ ⟨c',.c (.int k' b)⟩=if k=k' then .ok (aR γ ⟨c,.c (.int k a)⟩∧aR γ ⟨c',.c (.int k' b)⟩∧(γ=true→True)) (.c (.bool (decide (a<b)))) else .bad) ∧
     (∀ P γ T c c' k a k' b,n8 P γ .leq T ⟨c,.c (.int k a)⟩ ⟨c',.c (.int k' b)⟩=if k=k' then .ok (aR γ ⟨c,.c (.int k a)⟩∧aR γ ⟨c',.c (.int k' b)⟩∧(γ=true→True)) (.c (.bool (decide (a≤b)))) else .bad) ∧
     (∀ P γ T c c' k a k' b,n8 P γ .gtr T ⟨c,.c (.int k a)⟩ ⟨c',.c (.int k' b)⟩=if k=k' then .ok (aR γ ⟨c,.c (.int k a)⟩∧aR γ ⟨c',.c (.int k' b)⟩∧(γ=true→True)) (.c (.bool (decide (a>b)))) else .bad) ∧
     (∀ P γ T c c' k a k' b,n8 P γ .geq T ⟨c,.c (.int k a)⟩ ⟨c',.c (.int k' b)⟩=if k=k' then .ok (aR γ ⟨c,.c (.int k a)⟩∧aR γ ⟨c',.c (.int k' b)⟩∧(γ=true→True)) (.c (.bool (decide (a≥b)))) else .bad)):=by
  refine ⟨⟨?_,?_,?_,?_,?_⟩,⟨?_,?_,?_,?_,?_⟩,?_,?_,?_,?_,?_,?_⟩<;>(intros;rfl)
theorem GL:
    ((∀ P γ op T c c' a b, n8 P γ op T ⟨c, .c (.str a)⟩ ⟨c', .c (.str b)⟩ = (match xj op a b with | some (C, v) => .ok (aR γ ⟨c, .c (.str a)⟩ ∧ aR γ ⟨c', .c (.str b)⟩ ∧ (γ = true → C)) v | none => .bad)) ∧
     (∀ P γ op T c c' a b, n8 P γ op T ⟨c, .c (.bool a)⟩ ⟨c', .c (.bool b)⟩ = (match op, eqV P T (.c (.bool a)) (.c (.bool b)) with
        |.eql,some (C,r)=>.ok (aR γ ⟨c,.c (.bool a)⟩∧aR γ ⟨c',.c (.bool b)⟩∧C) (.c (.bool r))|.neq,some (C,r)=>.ok (aR γ ⟨c,.c (.bool a)⟩∧aR γ ⟨c',.c (.bool b)⟩∧C) (.c (.bool (!r)))|_,_=>.bad)) ∧
     (∀ P γ op T c c' a b, n8 P γ op T ⟨c, .a a⟩ ⟨c', .a b⟩ = (match op, eqV P T (.a a) (.a b) with
        |.eql,some (C,r)=>.ok (aR γ ⟨c,.a a⟩∧aR γ ⟨c',.a b⟩∧C) (.c (.bool r))|.neq,some (C,r)=>.ok (aR γ ⟨c,.a a⟩∧aR γ ⟨c',.a b⟩∧C) (.c (.bool (!r)))|_,_=>.bad)) ∧
     (∀ P T a b,eqV P T (.c (.bool a)) (.c (.bool b))=some (xg P T=true,a == b))∧(∀ P T s es,eqV P T (.c (.tree s es)) (.c .nils)=some (lJ P T=true∧es≠[],false))∧(∀ P T,eqV P T (.c .nils) (.c .nils)=some (lJ P T=true,true))∧(∀ P T,eqV P T (.c .emn) (.c .nils)=some (lJ P T=true,false)) ∧
     (∀ P γ op T c c' s es, n8 P γ op T ⟨c, .c (.tree s es)⟩ ⟨c', .c .nils⟩ = (match op, eqV P T (.c (.tree s es)) (.c .nils) with
        |.eql,some (C,r)=>.ok (aR γ ⟨c,.c (.tree s es)⟩∧aR γ ⟨c',.c .nils⟩∧C) (.c (.bool r))|.neq,some (C,r)=>.ok (aR γ ⟨c,.c (.tree s es)⟩∧aR γ ⟨c',.c .nils⟩∧C) (.c (.bool (!r)))|_,_=>.bad)) ∧
     (∀ P γ op T c c', n8 P γ op T ⟨c, .c .nils⟩ ⟨c', .c .nils⟩ = (match op, eqV P T (.c .nils) (.c .nils) with
        |.eql,some (C,r)=>.ok (aR γ ⟨c,.c .nils⟩∧aR γ ⟨c',.c .nils⟩∧C) (.c (.bool r))|.neq,some (C,r)=>.ok (aR γ ⟨c,.c .nils⟩∧aR γ ⟨c',.c .nils⟩∧C) (.c (.bool (!r)))|_,_=>.bad)) ∧
     (∀ P γ op T c c', n8 P γ op T ⟨c, .c .emn⟩ ⟨c', .c .nils⟩ = (match op, eqV P T (.c .emn) (.c .nils) with
        |.eql,some (C,r)=>.ok (aR γ ⟨c,.c .emn⟩∧aR γ ⟨c',.c .nils⟩∧C) (.c (.bool r))|.neq,some (C,r)=>.ok (aR γ ⟨c,.c .emn⟩∧aR γ ⟨c',.c .nils⟩∧C) (.c (.bool (!r)))|_,_=>.bad))∧(∀ P T xs ys,eqV P T (.a xs) (.a ys)=(match yx xs ys with|some b=>some (Aq P T=some (xs.map xi),b)|none=>none))) ∧
    ((∀ γ c b, unR γ .not ⟨c, .c (.bool b)⟩ = .ok (aR γ ⟨c, .c (.bool b)⟩) (.c (.bool (!b)))) ∧ (∀ γ c k n, unR γ .neg ⟨c, .c (.int k n)⟩ = .ok (aR γ ⟨c, .c (.int k n)⟩) (.c (.int k (k.wrap (0 - n))))) ∧
     (∀ γ c k n,unR γ .xor ⟨c,.c (.int k n)⟩=.ok (aR γ ⟨c,.c (.int k n)⟩) (.c (.int k (bits .xor k (if k.signed then -1 else k.max) n)))) ∧
     (∀ γ c a b,uy γ ⟨c,.c (.bool true)⟩ a b=.ok (aR γ ⟨c,.c (.bool true)⟩∧aR γ a) a.v)∧(∀ γ c a b,uy γ ⟨c,.c (.bool false)⟩ a b=.ok (aR γ ⟨c,.c (.bool false)⟩∧aR γ b) b.v) ∧
     (∀ P γ s d c k n,uz P γ s d ⟨c,.c (.int k n)⟩=.ok (aR γ ⟨c,.c (.int k n)⟩∧(P.underlying s).isSome=true∧xh P d=true) (.c (.int (P.intKind d) ((P.intKind d).wrap n)))) ∧
     (∀ P γ s d c n,uz P γ s d ⟨c,.c (.str n)⟩=.ok (aR γ ⟨c,.c (.str n)⟩∧(P.underlying s).isSome=true∧pV P d=true) (.c (.str n)))) ∧
    ((∀ P γ σ T c b off i, gT P γ σ T ⟨c, .c (.optr b off)⟩ i = .ok (aR γ ⟨c, .c (.optr b off)⟩ ∧ iT σ (.optr b off) ∧ qQ P T i = true) (.c (.optr b (off + nn P T i)))) ∧
     (∀ P γ σ T c s es k j i,gT P γ σ T ⟨c,.c (.tptr s es k j)⟩ i=.ok (aR γ ⟨c,.c (.tptr s es k j)⟩∧qQ P T i=true) (.c (.tptr s es k (j+nn P T i)))) ∧
     (∀ P γ σ T c b ver k j i,gT P γ σ T ⟨c,.c (.oel b ver k j)⟩ i=.ok (aR γ ⟨c,.c (.oel b ver k j)⟩∧iT σ (.oel b ver k j)∧qQ P T i=true) (.c (.oel b ver k (j+nn P T i)))) ∧
     (∀ P γ T c ys i, sj P γ T ⟨c, .a ys⟩ i = .ok (aR γ ⟨c, .a ys⟩ ∧ qQ P T i = true ∧ cx P (tl P T i) = true ∧ nn P T i + P.cellsOf (tl P T i) ≤ ys.length ∧ (n7 P (tl P T i) = true ∨ P.cellsOf (tl P T i) = 1))
      (mkV P (tl P T i) ((ys.drop (nn P T i)).take (P.cellsOf (tl P T i)))))):=by
  refine ⟨⟨?_,?_,?_,?_,?_,?_,?_,?_,?_,?_,?_⟩,⟨?_,?_,?_,?_,?_,?_,?_⟩,?_,?_,?_,?_⟩<;>(intros;rfl)
theorem HN:
    ((∀ P γ σ T c c' s es k n, fT P γ σ T ⟨c, .c (.tree s es)⟩ ⟨c', .c (.int k n)⟩ = .ok (aR γ ⟨c, .c (.tree s es)⟩ ∧ aR γ ⟨c', .c (.int k n)⟩ ∧ lJ P T = true ∧ cx P (P.elem T) = true ∧ P.cellsOf (P.elem T) = s ∧ (γ = true → 0 ≤ n ∧ n < es.length)) (.c (.tptr s es n.toNat 0))) ∧
     (∀ P γ σ T c c' b ver lo len k n, fT P γ σ T ⟨c, .c (.osl b ver lo len)⟩ ⟨c', .c (.int k n)⟩ = (match σ[b]? with
        |some (.arr s ver' _ _)=>.ok (aR γ ⟨c,.c (.osl b ver lo len)⟩∧aR γ ⟨c',.c (.int k n)⟩∧ver=ver'∧lJ P T=true∧cx P (P.elem T)=true∧P.cellsOf (P.elem T)=s∧(γ=true→0≤n∧n<len)) (.c (.oel b ver (lo+n.toNat) 0))
        |_=>.bad)) ∧
     (∀ P γ σ T c c' b off k n,fT P γ σ T ⟨c,.c (.optr b off)⟩ ⟨c',.c (.int k n)⟩=.ok (aR γ ⟨c,.c (.optr b off)⟩∧aR γ ⟨c',.c (.int k n)⟩∧iT σ (.optr b off)∧pt P T=true∧cx P (P.elem T)=true∧(γ=true→0≤n∧n<P.arrayLen T)) (.c (.optr b (off+n.toNat * P.cellsOf (P.elem T))))) ∧
     (∀ P γ σ T c c' b ver i j k n, fT P γ σ T ⟨c, .c (.oel b ver i j)⟩ ⟨c', .c (.int k n)⟩ = (match σ[b]? with
        |some (.arr s ver' _ _)=>.ok (aR γ ⟨c,.c (.oel b ver i j)⟩∧aR γ ⟨c',.c (.int k n)⟩∧ver=ver'∧pt P T=true∧cx P (P.elem T)=true∧P.cellsOf (P.elem T)=s∧j=0∧(γ=true→0≤n∧n<P.arrayLen T)) (.c (.oel b ver (i+n.toNat) 0))
        |_=>.bad)) ∧
     (∀ P γ σ T c c' s es i j k n,fT P γ σ T ⟨c,.c (.tptr s es i j)⟩ ⟨c',.c (.int k n)⟩=.ok (aR γ ⟨c,.c (.tptr s es i j)⟩∧aR γ ⟨c',.c (.int k n)⟩∧pt P T=true∧cx P (P.elem T)=true∧P.cellsOf (P.elem T)=s∧i=0∧j=0∧P.arrayLen T=es.length∧(γ=true→0≤n∧n<es.length)) (.c (.tptr s es n.toNat 0))) ∧
     (∀ P γ T c c' s k n,oe P γ T ⟨c,.c (.str s)⟩ ⟨c',.c (.int k n)⟩=.ok (aR γ ⟨c,.c (.str s)⟩∧aR γ ⟨c',.c (.int k n)⟩∧pV P T=true∧(γ=true→0≤n∧n<s.length)) (.c (.int .u8 ((s.getD n.toNat 0).toNat)))) ∧
     (∀ P γ T c c' ys k n,oe P γ T ⟨c,.a ys⟩ ⟨c',.c (.int k n)⟩=.ok (aR γ ⟨c,.a ys⟩∧aR γ ⟨c',.c (.int k n)⟩∧pt P T=true∧cx P (P.elem T)=true∧P.arrayLen T * P.cellsOf (P.elem T)≤ys.length∧n7 P (P.elem T)=false∧P.cellsOf (P.elem T)=1∧(γ=true→0≤n∧n<P.arrayLen T)) (.c (ys.getD n.toNat .junk)))) ∧
    ((∀ γ c ps i, oh γ ⟨c, .t ps⟩ i = .ok (aR γ ⟨c, .t ps⟩ ∧ i < ps.length) (ps.getD i .x)) ∧
     (∀ P γ σ T c s es,ur P γ σ T ⟨c,.c (.tree s es)⟩=.ok (aR γ ⟨c,.c (.tree s es)⟩∧lJ P T=true) (.c (.int .i64 es.length))) ∧
     (∀ P γ σ T c b ver lo len,ur P γ σ T ⟨c,.c (.osl b ver lo len)⟩=.ok (aR γ ⟨c,.c (.osl b ver lo len)⟩∧iT σ (.osl b ver lo len)∧lJ P T=true) (.c (.int .i64 len))) ∧
     (∀ P γ σ T c,ur P γ σ T ⟨c,.c .nils⟩=.ok (aR γ ⟨c,.c .nils⟩∧lJ P T=true) (.c (.int .i64 0)))∧(∀ P γ σ T c,ur P γ σ T ⟨c,.c .emn⟩=.ok (aR γ ⟨c,.c .emn⟩∧lJ P T=true) (.c (.int .i64 0)))∧(∀ P γ σ T c,ur P γ σ T ⟨c,.c .emp⟩=.ok (aR γ ⟨c,.c .emp⟩∧lJ P T=true) (.c (.int .i64 0))) ∧
     (∀ P γ σ T c s,ur P γ σ T ⟨c,.c (.str s)⟩=.ok (aR γ ⟨c,.c (.str s)⟩∧pV P T=true) (.c (.int .i64 s.length)))) ∧
    ((∀ P γ σ T x, jZ P γ σ .len [T] [x] = ur P γ σ T x) ∧ (∀ P γ σ T T' x y, jZ P γ σ .append [T, T'] [x, y] = if T = T' ∨ pV P T' then pk P σ T x y else .bad) ∧
     (∀ P γ σ l x y,jZ P γ σ .min l [x,y]=jY γ false x y)∧(∀ P γ σ l x y,jZ P γ σ .max l [x,y]=jY γ true x y) ∧
     (∀ γ mx c c' k a k' b,jY γ mx ⟨c,.c (.int k a)⟩ ⟨c',.c (.int k' b)⟩=.ok (aR γ ⟨c,.c (.int k a)⟩∧aR γ ⟨c',.c (.int k' b)⟩∧k=k') (.c (.int k (if mx then (if b>a then b else a) else (if b<a then b else a))))) ∧
     (∀ γ c g caps args,xl γ ⟨c,.c (.fn g caps)⟩ args=if g<4096 then .call (c=true∧∀ e∈args,aR γ e) g (args.map (·.v)++caps.map .c) else xk c (g - 4096) caps args)∧(∀ c g caps,xk c g caps []=.call (c=true) g (caps.map .c)) ∧
     (∀ γ σ c b off,kL γ σ ⟨c,.c (.optr b off)⟩=.ok (aR γ ⟨c,.c (.optr b off)⟩∧iT σ (.optr b off)) (.c (.optr b off)))):=by
  refine ⟨⟨?_,?_,?_,?_,?_,?_,?_⟩,⟨?_,?_,?_,?_,?_,?_,?_⟩,?_,?_,?_,?_,?_,?_,?_,?_⟩<;>(intros;rfl)
theorem EG:
    (∀ ops E,fm ops E none=some true)∧(∀ (l:List Oper) E j w,fm l.toArray E (some (j,w))=(match l[j]? with
      |none=>none
      |some o=>(match o.dst with|none=>none|some d=>(match (E.get d).cond,(E.get d).v with|true,.c (.bool X)=>some (X == w)|true,.t []=>some false|_,_=>none)))):=by
  refine ⟨?_,?_⟩
  · intros;rfl
  · intro l E j w;rw [← List.getElem?_toArray];rfl
theorem EH{α:Type}[Inhabited α](f:α→List CV)(xs:List α)(i:Nat)(h:i<xs.length):elt (xs.map f) i=f (xs.getD i default):=by
 simp [elt,List.getD,h]
def Tr.le:Tr→Tr→Prop
  |_,.nil=>True
  |t,.leaf e'=>e'.cond=false∨t=.leaf e'
  |.node a0 a1 a2 a3 a4 a5 a6 a7,.node b0 b1 b2 b3 b4 b5 b6 b7=>Tr.le a0 b0∧Tr.le a1 b1∧Tr.le a2 b2∧Tr.le a3 b3∧Tr.le a4 b4∧Tr.le a5 b5∧Tr.le a6 b6∧Tr.le a7 b7
  |.nil,.node b0 b1 b2 b3 b4 b5 b6 b7=>Tr.le .nil b0∧Tr.le .nil b1∧Tr.le .nil b2∧Tr.le .nil b3∧Tr.le .nil b4∧Tr.le .nil b5∧Tr.le .nil b6∧Tr.le .nil b7
  |_,.node _ _ _ _ _ _ _ _=>False
def Tr.under(n:Nat):Tr→Prop
  |.nil=>True
  |.leaf e=>e.cond=false∨e.v.under n
  |.node a0 a1 a2 a3 a4 a5 a6 a7=>Tr.under n a0∧Tr.under n a1∧Tr.under n a2∧Tr.under n a3∧Tr.under n a4∧Tr.under n a5∧Tr.under n a6∧Tr.under n a7
theorem Tr.le_get{t t':Tr}(h:Tr.le t t')(j:Nat):Tr.le (t.get j) (t'.get j):=by
  rcases Nat.lt_or_ge j 8 with hj|hj
  · have hj':j=0∨j=1∨j=2∨j=3∨j=4∨j=5∨j=6∨j=7:=by omega
    cases t' with
    |nil=>show Tr.le _ .nil;cases t.get j<;>trivial
    |leaf e=>show Tr.le _ .nil;cases t.get j<;>trivial
    |node b0 b1 b2 b3 b4 b5 b6 b7 =>
      cases t with
      |nil =>
        obtain ⟨h0,h1,h2,h3,h4,h5,h6,h7⟩:=h
        rcases hj' with rfl|rfl|rfl|rfl|rfl|rfl|rfl|rfl<;>assumption
      |leaf e=>exact h.elim
      |node a0 a1 a2 a3 a4 a5 a6 a7 =>
        obtain ⟨h0,h1,h2,h3,h4,h5,h6,h7⟩:=h
        rcases hj' with rfl|rfl|rfl|rfl|rfl|rfl|rfl|rfl<;>assumption
  · rw [Tr.get_big t' j hj];cases t.get j<;>trivial
theorem Tr.le_ent{t t':Tr}(h:Tr.le t t')(hc:t'.ent.cond=true):t.ent=t'.ent:=by
  cases t' with
  |nil=>cases hc
  |node=>cases hc
  |leaf e =>
    have h':e.cond=false∨t=.leaf e:=by cases t<;>exact h
    rcases h' with h'|h'
    · simp only [Tr.ent] at hc;rw [h'] at hc;cases hc
    · rw [h']
theorem Tr.under_get{n:Nat}{t:Tr}(h:Tr.under n t)(j:Nat):Tr.under n (t.get j):=by
  rcases Nat.lt_or_ge j 8 with hj|hj
  · have hj':j=0∨j=1∨j=2∨j=3∨j=4∨j=5∨j=6∨j=7:=by omega
    cases t with
    |nil=>trivial
    |leaf e=>trivial
    |node a0 a1 a2 a3 a4 a5 a6 a7 =>
      obtain ⟨h0,h1,h2,h3,h4,h5,h6,h7⟩:=h
      rcases hj' with rfl|rfl|rfl|rfl|rfl|rfl|rfl|rfl<;>assumption
  · rw [Tr.get_big t j hj];trivial
theorem Tr.under_ent{n:Nat}{t:Tr}(h:Tr.under n t)(hc:t.ent.cond=true):t.ent.v.under n:=by
  cases t with
  |nil=>cases hc
  |node=>cases hc
  | leaf e => rcases h with h | h
              · simp only [Tr.ent] at hc;rw [h] at hc;cases hc
              · exact h
def sS(E:Env)(σ:List OB)(E':Env)(τ:List OB):Prop :=
  (E.n=E'.n∧E.na=E'.na)∧Tr.le E.t E'.t∧(∃ ρ,σ=τ++ρ)∧E.na≤τ.length∧bY τ.length τ∧Tr.under τ.length E'.t
theorem sS.sim{G:Gh}{E E':Env}{σ τ:List OB}{a:Act}{w:World}(h:sS E σ E' τ)(hs:Sim G E σ a w) :
    ∃ G',Gle G G'∧Sim G' E' τ a w:=by
  obtain ⟨⟨hn,hna'⟩,hk,⟨ρ,rfl⟩,hna,hob,hsl⟩:=h
  refine ⟨{ G with own:=G.own.take τ.length },⟨⟨fun _ _ h=>h,rfl,rfl,rfl⟩,?_⟩,hs.inv.drop hob,hs.defers,by rw [← hn];exact hs.size,by rw [← hna'];exact hs.na,fun i hc=>?_⟩
  · intro b oo hb hoo
    refine ⟨oo,?_,fun o' e=>⟨o',e,.inl rfl⟩⟩
    rw [hs.na] at hb
    simp only
    rw [List.getElem?_take_of_lt (by omega)];exact hoo
  · have hE:E.get i=E'.get i:=Tr.le_ent (Tr.le_get (Tr.le_get (Tr.le_get hk _) _) _) hc
    have hu:(E'.get i).v.under τ.length:=Tr.under_ent (Tr.under_get (Tr.under_get (Tr.under_get hsl _) _) _) hc
    have hr:=hs.slot i (by rw [hE];exact hc)
    rw [hE] at hr
    exact bg.drop (G:=G) (G':={ G with own:=G.own.take τ.length }) rfl rfl hu hr
def Env.erase(E:Env)(i:Nat):Env:=⟨E.n,E.na,E.t.put (i / 64) ((E.t.get (i / 64)).put (i / 8 % 8) (((E.t.get (i / 64)).get (i / 8 % 8)).put (i % 8) .nil))⟩
def Env.forget(E:Env):List Nat→Env
  |[]=>E
  |i :: r=>Env.forget (E.erase i) r
def Env.puts(E:Env):List (Nat×PV)→Env
  |[]=>E
  |(i,p) :: r=>Env.puts (E.put i ⟨true,p⟩) r
def Env.over(E:Env)(ms:List Nat)(l:List (Nat×PV)):Env:=(E.forget ms).puts l
section
variable {P:Program} {K:Kt} {E E0:Env} {σ:List OB}
theorem Cb{c:Code}{E':Env}{τ:List OB}(h:sS E σ E' τ)(hw:W P c K E' τ):W P c K E σ:=fun G a w hs=>by
  obtain ⟨G',h1,h2⟩:=h.sim hs
  exact Code.wp_mono (fun _ _ _ hq=>fj.back h1 hq) (hw G' a w h2)
theorem Tr.get_erase(t:Tr)(i j:Nat)(x:Tr):(t.put i x).get j=.nil∨(t.put i x).get j=t.get j∨(j=i∧(t.put i x).get j=x):=by
  rcases Nat.lt_or_ge i 8 with hi|hi
  · rw [Tr.get_put t i j x hi]
    by_cases e:j=i
    · subst e;simp
    · simp [e]
  · rcases Tr.put_big t i j x hi with h|h
    · exact .inr (.inl h)
    · exact .inl h
theorem Env.erase_get(E:Env)(i j:Nat)(h:((E.erase i).get j).cond=true):(E.erase i).get j=E.get j:=by
  unfold Env.erase Env.get at *
  simp only at *
  have nil1:∀ k,(Tr.nil.get k)=.nil:=fun _=>rfl
  rcases Tr.get_erase E.t (i / 64) (j / 64) ((E.t.get (i / 64)).put (i / 8 % 8) (((E.t.get (i / 64)).get (i / 8 % 8)).put (i % 8) .nil)) with e|e|⟨e0,e⟩
  · rw [e] at h;simp [nil1,Tr.ent] at h
  · rw [e]
  · rw [e] at h ⊢
    rcases Tr.get_erase (E.t.get (i / 64)) (i / 8 % 8) (j / 8 % 8) (((E.t.get (i / 64)).get (i / 8 % 8)).put (i % 8) .nil) with f|f|⟨f0,f⟩
    · rw [f] at h;simp [nil1,Tr.ent] at h
    · rw [f,e0]
    · rw [f] at h ⊢
      rcases Tr.get_erase ((E.t.get (i / 64)).get (i / 8 % 8)) (i % 8) (j % 8) .nil with g|g|⟨g0,g⟩
      · rw [g] at h;simp [Tr.ent] at h
      · rw [g,e0,f0]
      · rw [g] at h;simp [Tr.ent] at h
theorem Env.erase_sim{G:Gh}{E:Env}{σ:List OB}{a:Act}{w:World}(h:Sim G E σ a w)(i:Nat):Sim G (E.erase i) σ a w :=
  ⟨h.inv,h.defers,h.size,h.na,fun j hc=>by have e:=Env.erase_get E i j hc;rw [e] at hc ⊢;exact h.slot j hc⟩
theorem Env.forget_sim{G:Gh}{σ:List OB}{a:Act}{w:World}:∀ (ms:List Nat) {E:Env},Sim G E σ a w→Sim G (E.forget ms) σ a w
  |[],_,h=>h
  |i :: r,_,h=>Env.forget_sim r (Env.erase_sim h i)
theorem pA{c:Code}(ms:List Nat)(h:W P c K (E.forget ms) σ):W P c K E σ:=fun G a w hs=>h G a w (Env.forget_sim ms hs)
theorem ar{id:Nat}{l:List Oper}{y:Code}(ms:List Nat)
    (h:∀ (k:Env→List OB→Prop) (kp:PV→Env→List OB→Prop),(∀ E σ,W P y K E σ→k E σ)→(∀ p E σ,K (.panic p) E σ→kp p E σ)→e7 P l.toArray l E σ (fun E σ=>k (E.forget ms) σ) kp) :
    W P (.seq (.region id l.toArray false) y) K E σ:=oL fun G a w hs =>
  wp_region_lit (fC (fun _ _ _ hp=>fj.mono (fun x E σ hk=>by
      cases x with
      |normal=>exact pA ms hk
      |exit id=>exact hk.elim
      |ret=>exact hk.elim
      |panic p=>exact hk) hp)
    l a w (mm l E σ _ _ (h (W P y K) (fun p=>K (.panic p)) (fun _ _ h=>h) (fun _ _ _ h=>h)) G a w hs))
theorem Bu{id:Nat}{l:List Oper}{y:Code}(ms:List Nat)(hm:P.follows .mixedOrders=true)(masks:List Nat)(bs:List Bool)(hc:chk l.toArray l masks bs=true)
    (h:∀ (k:Env→List OB→Prop),(∀ E σ,W P y K E σ→k E σ)→jL P l.toArray l bs E σ (fun E σ=>k (E.forget ms) σ)):W P (.seq (.region id l.toArray true) y) K E σ :=
  oL (zy hm masks bs hc (by
    obtain ⟨tr,h1,h2⟩:=kN l bs E σ _ (h (W P y K) fun _ _ h=>h)
    exact ⟨tr,h1,pA ms h2⟩))
theorem ak{k:Env→List OB→Prop}(h:k E σ):wB k K .normal E σ:=h
theorem bn{k:Env→List OB→Prop}{i:Nat}(h:K (.exit i) E σ):wB k K (.exit i) E σ:=h
theorem bj{k:Env→List OB→Prop}(h:K .ret E σ):wB k K .ret E σ:=h
theorem dv{k:Env→List OB→Prop}{p:PV}(h:K (.panic p) E σ):wB k K (.panic p) E σ:=h
theorem au{i:Nat}(h:K .normal E σ):sr i K .normal E σ:=h
theorem aI{i:Nat}(h:K .normal E σ):sr i K (.exit i) E σ:=by simp only [sr,if_true];exact h
theorem DC{i j:Nat}(hj:j≠i)(h:K (.exit j) E σ):sr i K (.exit j) E σ:=by simp only [sr,iN hj];exact h
theorem aC{i:Nat}(h:K .ret E σ):sr i K .ret E σ:=h
theorem bf{i:Nat}{p:PV}(h:K (.panic p) E σ):sr i K (.panic p) E σ:=h
section
variable {α:Type} {ms:List Nat} {slots:α→List (Nat×PV)} {heap:α→List OB} {inv:α→Prop} {μ:α→Nat} {x:α}
end
theorem bw{c:Operand}{x y:Code}{X:Bool}(hc:ev E c=⟨true,.c (.bool X)⟩)(hX:X=true)(h:W P x K E σ):W P (.cond c x y) K E σ :=
  Dt hc (fun _=>h) (fun h'=>by rw [hX] at h';cases h')
theorem cH{c:Operand}{x y:Code}{X:Bool}(hc:ev E c=⟨true,.c (.bool X)⟩)(hX:X=false)(h:W P y K E σ):W P (.cond c x y) K E σ :=
  Dt hc (fun h'=>by rw [hX] at h';cases h') (fun _=>h)
end
def rG:List OB→List OB→Prop
  |[],_=>True
  |a :: az,b :: bs=>a=b∧rG az bs
  |_ :: _,[]=>False
theorem xD:∀ {τ σ:List OB},rG τ σ→∃ ρ,σ=τ++ρ
  |[],σ,_=>⟨σ,rfl⟩
  |a :: az,b :: bs,h=>by obtain ⟨ρ,hr⟩:=xD h.2;exact ⟨ρ,by rw [h.1,hr];rfl⟩
theorem CN(τ ρ:List OB):rG τ (τ++ρ):=by
  induction τ with
  |nil=>trivial
  |cons a az ih=>exact ⟨rfl,ih⟩
theorem DD:
    ((∀ E σ E' τ, sS E σ E' τ = ((E.n = E'.n ∧ E.na = E'.na) ∧ Tr.le E.t E'.t ∧ rG τ σ ∧ E.na ≤ τ.length ∧ bY τ.length τ ∧ Tr.under τ.length E'.t)) ∧
     (∀ τ,rG [] τ=True)∧(∀ a az b bs,rG (a :: az) (b :: bs)=(a=b∧rG az bs))∧(∀ a az,rG (a :: az) []=False) ∧
     (∀ t,Tr.le t .nil=True)∧(∀ e t,Tr.le t (.leaf ⟨false,e⟩)=True)∧(∀ c v v',Tr.le (.leaf ⟨c,v⟩) (.leaf ⟨true,v'⟩)=(c=true∧v=v')) ∧
     (∀ b0 b1 b2 b3 b4 b5 b6 b7,Tr.le .nil (.node b0 b1 b2 b3 b4 b5 b6 b7)=(Tr.le .nil b0∧Tr.le .nil b1∧Tr.le .nil b2∧Tr.le .nil b3∧Tr.le .nil b4∧Tr.le .nil b5∧Tr.le .nil b6∧Tr.le .nil b7)) ∧
     (∀ a0 a1 a2 a3 a4 a5 a6 a7 b0 b1 b2 b3 b4 b5 b6 b7,Tr.le (.node a0 a1 a2 a3 a4 a5 a6 a7) (.node b0 b1 b2 b3 b4 b5 b6 b7)=(Tr.le a0 b0∧Tr.le a1 b1∧Tr.le a2 b2∧Tr.le a3 b3∧Tr.le a4 b4∧Tr.le a5 b5∧Tr.le a6 b6∧Tr.le a7 b7))) ∧
    ((∀ n, Tr.under n .nil = True) ∧ (∀ n v, Tr.under n (.leaf ⟨false, v⟩) = True) ∧ (∀ n v, Tr.under n (.leaf ⟨true, v⟩) = v.under n) ∧
     (∀ n a0 a1 a2 a3 a4 a5 a6 a7,Tr.under n (.node a0 a1 a2 a3 a4 a5 a6 a7)=(Tr.under n a0∧Tr.under n a1∧Tr.under n a2∧Tr.under n a3∧Tr.under n a4∧Tr.under n a5∧Tr.under n a6∧Tr.under n a7))) ∧
    ((∀ E ms l,Env.over E ms l=(E.forget ms).puts l) ∧      (∀ E,Env.puts E []=E)∧(∀ E i p r,Env.puts E ((i,p) :: r)=Env.puts (E.put i ⟨true,p⟩) r)) ∧
    ((∀ n, bY n [] = True) ∧ (∀ n o r, bY n (o :: r) = (o.under n ∧ bY n r)) ∧ (∀ n cs, OB.under n (.box cs) = dK n cs) ∧ (∀ n, OB.under n .dead = True) ∧ (∀ n s v T es, OB.under n (.arr s v T es) = True) ∧ (∀ n P k m, OB.under n (.mp P k m) = True) ∧
     (∀ n,dK n []=True)∧(∀ n c r,dK n (c :: r)=(c.under n∧dK n r))∧(∀ n y,PV.under n (.c y)=y.under n)∧(∀ n ys,PV.under n (.a ys)=dK n ys)∧(∀ n,PV.under n .x=True)) ∧
    ((∀ n b, CV.under n (.bool b) = True) ∧ (∀ n k m, CV.under n (.int k m) = True) ∧ (∀ n s, CV.under n (.str s) = True) ∧ (∀ n s es, CV.under n (.tree s es) = True) ∧ (∀ n s es i j, CV.under n (.tptr s es i j) = True) ∧
     (∀ n,CV.under n .nilp=True)∧(∀ n,CV.under n .nils=True)∧(∀ n,CV.under n .nilf=True)∧(∀ n,CV.under n .nili=True)∧(∀ n,CV.under n .emp=True)∧(∀ n,CV.under n .emn=True)∧(∀ n,CV.under n .junk=True) ∧
     (∀ n b off,CV.under n (.optr b off)=(b<n))∧(∀ n b v l k,CV.under n (.osl b v l k)=(b<n))∧(∀ n b v i j,CV.under n (.oel b v i j)=(b<n))∧(∀ n f,CV.under n (.fn f [])=True)∧(∀ n t g cs,CV.under n (.ifc t g cs)=True)):=by
  refine ⟨⟨?_,?_,?_,?_,?_,?_,?_,?_,?_⟩,⟨?_,?_,?_,?_⟩,⟨?_,?_,?_⟩,⟨?_,?_,?_,?_,?_,?_,?_,?_,?_,?_,?_⟩,?_,?_,?_,?_,?_,?_,?_,?_,?_,?_,?_,?_,?_,?_,?_,?_,?_⟩
  all_goals first
    |(intros;rfl)
    |(intro E σ E' τ;unfold sS;exact propext ⟨fun ⟨h1,h2,⟨ρ,h3⟩,h4⟩=>⟨h1,h2,by rw [h3];exact CN τ ρ,h4⟩,fun ⟨h1,h2,h3,h4⟩=>⟨h1,h2,xD h3,h4⟩⟩)
    |(intro t;cases t<;>rfl)
    |(intro e t;cases t<;>simp [Tr.le];done)
    |(intros;simp [Tr.le];done)
    |(intros;simp [Tr.under];done)
    |(intros;simp [CV.under];done)
theorem ot{P:Program}{c:Code}{K:Kt}{E E':Env}{σ σ':List OB}(hE:E=E')(hσ:σ=σ')(h:W P c K E' σ'):W P c K E σ:=by subst hE hσ;exact h
theorem Fq:
    ((∀ x y,(PV.c x=PV.c y)=(x=y))∧(∀ x y,(PV.a x=PV.a y)=(x=y))∧(∀ x y,(PV.t x=PV.t y)=(x=y))∧(∀ k n k' n',(CV.int k n=CV.int k' n')=(k=k'∧n=n'))∧(∀ b b',(CV.bool b=CV.bool b')=(b=b'))∧(∀ b b',(CV.str b=CV.str b')=(b=b'))) ∧
    ((∀ s es s' es', (CV.tree s es = CV.tree s' es') = (s = s' ∧ es = es')) ∧ (∀ s es i j s' es' i' j', (CV.tptr s es i j = CV.tptr s' es' i' j') = (s = s' ∧ es = es' ∧ i = i' ∧ j = j')) ∧
     (∀ b o b' o',(CV.optr b o=CV.optr b' o')=(b=b'∧o=o'))∧(∀ b v l n b' v' l' n',(CV.osl b v l n=CV.osl b' v' l' n')=(b=b'∧v=v'∧l=l'∧n=n'))∧(∀ b v l n b' v' l' n',(CV.oel b v l n=CV.oel b' v' l' n')=(b=b'∧v=v'∧l=l'∧n=n'))) ∧
    ((∀ cs cs', (OB.box cs = OB.box cs') = (cs = cs')) ∧ (∀ s v T es s' v' T' es', (OB.arr s v T es = OB.arr s' v' T' es') = (s = s' ∧ v = v' ∧ T = T' ∧ es = es')) ∧ (∀ P k m P' k' m', (OB.mp P k m = OB.mp P' k' m') = (P = P' ∧ k = k' ∧ m = m')) ∧
     (∀ {α:Type} (a:α) az b bs,(a :: az=b :: bs)=(a=b∧az=bs))∧(∀ {α β:Type} (a:α) (b:β) a' b',((a,b)=(a',b'))=(a=a'∧b=b'))):=by
  refine ⟨⟨?_,?_,?_,?_,?_,?_⟩,⟨?_,?_,?_,?_,?_⟩,?_,?_,?_,?_,?_⟩<;>(intros;simp)
theorem GM:
    ((∀ P rs post pp E σ, qr P rs post pp .ret E σ = (match im P E σ rs with | some (C, ps) => C ∧ ps.all PV.isV = true ∧ post (gn ps) σ | none => False)) ∧
     (∀ P rs post pp E σ,qr P rs post pp .normal E σ=(match im P E σ rs with|some (C,ps)=>C∧ps.all PV.isV=true∧post (gn ps) σ|none=>False)) ∧
     (∀ P rs post pp p E σ,qr P rs post pp (.panic p) E σ=pp p σ)) ∧
    ((∀ P E σ, im P E σ [] = some (True, [])) ∧ (∀ P E σ r rs, im P E σ (r :: rs) = (match CI P E σ r, im P E σ rs with | some (C, p), some (C', ps) => some (C ∧ C', p :: ps) | _, _ => none)) ∧
     (∀ P E σ t,CI P E σ (.tmp t)=some ((E.get t).cond=true,(E.get t).v))∧(∀ P E σ t T,CI P E σ (.cell t T)=(match qo P true σ T (E.get t) with|.ok C v=>some (C,v)|_=>none))) ∧
    ((∀ p,gn [p]=p)∧(gn []=.t [])∧(∀ p q r,gn (p :: q :: r)=.t (p :: q :: r))∧(∀ y,PV.isV (.c y)=true)∧(∀ y,PV.isV (.a y)=true)∧(PV.isV .x=true)):=by
  refine ⟨⟨?_,?_,?_⟩,⟨?_,?_,?_,?_⟩,?_,?_,?_,?_,?_,?_⟩<;>(intros;rfl)
theorem GN:(∀ E,Env.forget E []=E)∧(∀ E i r,Env.forget E (i :: r)=Env.forget (E.erase i) r)∧(∀ n na t i,Env.erase ⟨n,na,t⟩ i=⟨n,na,t.put (i / 64) ((t.get (i / 64)).put (i / 8 % 8) (((t.get (i / 64)).get (i / 8 % 8)).put (i % 8) .nil))⟩) :=
  ⟨fun _=>rfl,fun _ _ _=>rfl,fun _ _ _ _=>rfl⟩
def qu(n:Nat):List PV→Prop
 |[]=>True
 |p :: r=>p.under n∧qu n r
def PV.underP(n:Nat):PV→Prop
 |.t ps=>qu n ps
 |p=>p.under n
theorem si.drop{G G':Gh}{n:Nat}(hH:G'.H=G.H)(ho:G'.own=G.own.take n){p:PV}{v:Value}(hb:p.under n)(h:si G p v):si G' p v:=by
 cases p with
 |x=>trivial
 |c y=>exact Rep.drop hH ho hb h
 |a ys=>obtain ⟨vs,rfl,h2⟩:=h;exact ⟨vs,rfl,aW.under hH ho hb h2⟩
 |t ps=>exact hb.elim
theorem bg.dropP{G G':Gh}{n:Nat}(hH:G'.H=G.H)(ho:G'.own=G.own.take n){p:PV}{v:Value}(hb:p.underP n)(h:bg G p v):bg G' p v:=by
 cases p with
 |x=>trivial
 |c y=>exact bg.drop (p:=.c y) hH ho hb h
 |a ys=>exact bg.drop (p:=.a ys) hH ho hb h
 |t ps =>
  obtain ⟨vs,rfl,h2⟩:=h
  refine ⟨vs,rfl,?_⟩
  have hb':qu n ps:=hb
  clear hb
  induction ps generalizing vs with
  |nil=>cases vs<;>simp_all [aW]
  |cons p ps ih =>
   cases vs with
   |nil=>simp [aW] at h2
   |cons v vs=>exact ⟨si.drop hH ho hb'.1 h2.1,ih vs h2.2 hb'.2⟩
def Bv(n:Nat)(post:PV→List OB→Prop)(p:PV)(σ:List OB):Prop :=
 ∃ τ,rG τ σ∧n≤τ.length∧bY τ.length τ∧p.underP τ.length∧post p τ
theorem cT.drop{P:Program}{f:FuncId}{args:List PV}{σ:List OB}{post pp:PV→List OB→Prop}(h:cT P f args σ (Bv σ.length post) pp):cT P f args σ post pp:=by
 refine ⟨h.1,fun G w vs hna hds hi ha=>(h.2 G w vs hna hds hi ha).mono fun e w' hr=>?_⟩
 obtain ⟨G',σ',p,v,h1,h2,h3,h4⟩:=hr
 rcases h4 with ⟨rfl,τ,k1,k2,k3,k4,k5⟩|h4
 ·obtain ⟨ρ,rfl⟩:=xD k1
  refine ⟨{ G' with own:=G'.own.take τ.length },τ,p,v,⟨⟨h1.le.H,h1.le.F,h1.le.w0,h1.le.na⟩,?_⟩,h2.drop k3,bg.dropP (G:=G') (G':={ G' with own:=G'.own.take τ.length }) rfl rfl k4 h3,.inl ⟨rfl,k5⟩⟩
  intro b oo hb hoo
  obtain ⟨oo',q1,q2⟩:=h1.own b oo hb hoo
  refine ⟨oo',?_,q2⟩
  simp only
  rw [List.getElem?_take_of_lt (by omega)];exact q1
 ·exact ⟨G',σ',p,v,h1,h2,h3,.inr h4⟩
theorem xE{P:Program}{σ:List OB}{f:FuncId}{fn:Func}{c:Code}{args:List PV}{post pp:PV→List OB→Prop}(n:Nat)(rs:List ResultVar)(hf:P.funcs[f]? = some fn)(hb:fn.body=some c)(hn:fn.ntmps=n)(hr:fn.results.toList=rs)
  (hname:(fn.name == "runtime.NumGoroutine")=false) (hlen:args.length≤n)
  (h:W P c (qr P rs (Bv σ.length post) pp) (Env.ofList n σ.length (j9 0 args)) σ):cT P f args σ post pp :=
 cT.drop (EF n rs hf hb hn hr hname hlen h)
theorem EI:((∀ n ps,PV.underP n (.t ps)=qu n ps)∧(∀ n y,PV.underP n (.c y)=y.under n)∧(∀ n ys,PV.underP n (.a ys)=dK n ys)∧(∀ n,PV.underP n .x=True)) ∧
  ((∀ n,qu n []=True)∧(∀ n p r,qu n (p :: r)=(p.under n∧qu n r))):=by
 refine ⟨⟨?_,?_,?_,?_⟩,?_,?_⟩<;>(intros;rfl)
theorem CO{P:Program}{rs:List ResultVar}{n:Nat}{post pp:PV→List OB→Prop}{E:Env}{σ:List OB}(τ:List OB)
  (h:match im P E σ rs with|some (C,ps)=>C∧ps.all PV.isV=true∧(rG τ σ∧n≤τ.length∧bY τ.length τ∧(gn ps).underP τ.length∧post (gn ps) τ)|none=>False):qr P rs (Bv n post) pp .ret E σ:=by
 simp only [qr]
 split at h
 ·rename_i C ps e
  rw [e]
  exact ⟨h.1,h.2.1,τ,h.2.2⟩
 ·exact h.elim
theorem ui{P:Program}{rs:List ResultVar}{n:Nat}{post pp:PV→List OB→Prop}{E:Env}{σ:List OB}(τ:List OB)
  (h:match im P E σ rs with|some (C,ps)=>C∧ps.all PV.isV=true∧(rG τ σ∧n≤τ.length∧bY τ.length τ∧(gn ps).underP τ.length∧post (gn ps) τ)|none=>False):qr P rs (Bv n post) pp .normal E σ:=by
 simp only [qr]
 split at h
 ·rename_i C ps e
  rw [e]
  exact ⟨h.1,h.2.1,τ,h.2.2⟩
 ·exact h.elim
def lE(E:Env)(σ:List OB)(E':Env)(σ':List OB):Prop :=
  ∀ (G:Gh) (a:Act) (w:World),Sim G E σ a w→∃ G',Gle G G'∧Sim G' E' σ' a w
theorem gg{P:Program}{c:Code}{K:Kt}{E E':Env}{σ σ':List OB}(hg:lE E σ E' σ')(h:W P c K E' σ'):W P c K E σ:=fun G a w hs=>by
  obtain ⟨G',h1,h2⟩:=hg G a w hs
  exact Code.wp_mono (fun _ _ _ hq=>fj.back h1 hq) (h G' a w h2)
theorem aF{P:Program}{ops:Array Oper}{γ:Bool}{C:Prop}{f:FuncId}{args:List PV}{o:Oper}{r:List Oper}{E E':Env}{σ σ':List OB}{k:Env→List OB→Prop}{kp:PV→Env→List OB→Prop}
    (hg:lE E σ E' σ') (h:e7 P ops (o :: r) E' σ' k kp):oj P ops γ C f args o r E σ k kp:=by
  intro _ _ G a w hs
  obtain ⟨G',h1,h2⟩:=hg G a w hs
  exact fC (fun _ _ _ hq=>fj.back h1 hq) _ _ _ (mm _ _ _ _ _ h G' a w h2)
def CV.frO(b ver s:Nat)(es:List (List CV)):CV→CV
  |.osl b' v lo len=>if b'=b then (if v=ver∧lo+len≤es.length then .tree s ((es.drop lo).take len) else .junk) else .osl b' v lo len
  |.oel b' v i j=>if b'=b then .junk else .oel b' v i j
  |.optr b' off=>if b'=b then .junk else .optr b' off
  |.fn f caps=>.fn f caps
  |.junk=>.junk
  |.bool x=>.bool x
  |.int k n=>.int k n
  |.str x=>.str x
  |.nilp=>.nilp
  |.nils=>.nils
  |.nilf=>.nilf
  |.nili=>.nili
  |.emp=>.emp
  |.emn=>.emn
  |.tree s' es'=>.tree s' es'
  |.tptr s' es' i j=>.tptr s' es' i j
  |.ifc T g cs=>.ifc T g cs
def CV.fr(b ver s:Nat)(es:List (List CV)):CV→CV
  |.fn f caps=>.fn f (caps.map (CV.frO b ver s es))
  |c=>c.frO b ver s es
def PV.fr(b ver s:Nat)(es:List (List CV)):PV→PV
  |.x=>.x
  |.c y=>.c (y.fr b ver s es)
  |.a ys=>.a (ys.map (CV.fr b ver s es))
  |.t _=>.x
def OB.fr(b ver s:Nat)(es:List (List CV)):OB→OB
  |.box cs=>.box (cs.map (CV.fr b ver s es))
  |.arr s' v T e=>.arr s' v T e
  |.dead=>.dead
  |.mp P k m=>.mp P k m
def Tr.fr(b ver s:Nat)(es:List (List CV)):Tr→Tr
  |.nil=>.nil
  |.leaf e=>.leaf ⟨e.cond && (match e.v with|.t _=>false|_=>true),e.v.fr b ver s es⟩
  |.node a0 a1 a2 a3 a4 a5 a6 a7=>.node (a0.fr b ver s es) (a1.fr b ver s es) (a2.fr b ver s es) (a3.fr b ver s es) (a4.fr b ver s es) (a5.fr b ver s es) (a6.fr b ver s es) (a7.fr b ver s es)
def Env.fr(b ver s:Nat)(es:List (List CV))(E:Env):Env:=⟨E.n,E.na,E.t.fr b ver s es⟩
theorem Tr.fr_get(b ver s:Nat)(es:List (List CV))(t:Tr)(j:Nat):(t.fr b ver s es).get j=(t.get j).fr b ver s es:=by
  rcases Nat.lt_or_ge j 8 with hj|hj
  · have hj':j=0∨j=1∨j=2∨j=3∨j=4∨j=5∨j=6∨j=7:=by omega
    cases t<;>rcases hj' with rfl|rfl|rfl|rfl|rfl|rfl|rfl|rfl<;>rfl
  · rw [Tr.get_big _ _ hj,Tr.get_big _ _ hj];rfl
theorem Tr.fr_ent(b ver s:Nat)(es:List (List CV))(t:Tr):(t.fr b ver s es).ent=⟨t.ent.cond && (match t.ent.v with|.t _=>false|_=>true),t.ent.v.fr b ver s es⟩:=by
  cases t<;>rfl
def frG(G:Gh)(w:World)(b:Nat)(o:OG):Gh :=
  { G with H:=fun x=>if G.H x=none∧o.has=true∧x=o.blk then w.heap[x]? else G.H x,own:=G.own.set b none,tabs:=G.tabs.mono fun x y h=>by rw [iN (fun k=>by rw [k.1] at h;cases h)];exact h }
section
variable {G:Gh} {σ:List OB} {w:World} {b s ver:Nat} {T:TypeId} {es:List (List CV)} {o:OG}
theorem Cc(hi:Inv G σ w)(ho:G.own[b]? = some (some o)):∀ x y,G.H x=some y→(frG G w b o).H x=some y:=by
  intro x y h
  simp only [frG]
  split
  · rename_i hc
    rw [hc.1] at h;cases h
  · exact h
theorem Cd(ho:G.own[b]? = some (some o)):bG G.own (G.own.set b none):=by
  intro x oo h
  by_cases e:x=b
  · subst e
    have hlt:x<G.own.length:=(List.getElem?_eq_some_iff.1 h).1
    exact ⟨none,by simp [hlt],fun o' ho'=>by cases ho'⟩
  · exact ⟨oo,by rw [List.getElem?_set_ne (Ne.symm e)];exact h,fun o' ho'=>⟨o',ho',.inl rfl⟩⟩
theorem mN(hi:Inv G σ w)(hσ:σ[b]? = some (.arr s ver T es))(ho:G.own[b]? = some (some o)){c:CV}{v:Value}(h:gm G c v):gm (frG G w b o) (c.frO b ver s es) v:=by
  have h1:v.oneCell'=true:=gm.one h
  have hm:∀ {c},gm G c v→gm (frG G w b o) c v:=fun h=>gm.mono (Cc hi ho) (Cd ho) h
  have junk:gm (frG G w b o) .junk v:=.junk v h1
  cases c<;>simp only [CV.frO]<;>try exact hm h
  case optr b' off =>
    split
    · exact junk
    · exact hm h
  case oel b' v' i j =>
    split
    · exact junk
    · exact hm h
  case osl b' v' lo len =>
    split
    · rename_i e
      subst e
      split
      · rename_i hc
        obtain ⟨rfl,hle⟩:=hc
        obtain ⟨_,oo,k1,k2⟩:=h
        rw [ho] at k1
        simp only [sJ] at k1
        obtain ⟨o',g1,g2,g3,g4,g5,g6,g7,g8,g9⟩:=hi.own b' _ hσ
        rw [ho] at g1
        simp only [sJ] at g1
        subst g1
        obtain ⟨q1,q2⟩:=k2 o k1.symm
        obtain ⟨q3,a,rfl,q4⟩:=q2 g2.symm
        have hlen:((es.drop lo).take len).length=len:=by simp;omega
        show br _ _ _
        rcases Nat.eq_zero_or_pos len with e0|e0
        · subst e0
          simp only [List.take_zero]
          exact .tree0 s a _ (fun h=>by
            cases hh:o.has with
            |true=>obtain ⟨a',e,_⟩:=q4 hh;rw [h] at e;cases e
            |false=>have:=g8 hh;omega)
        · have hh:o.has=true:=by
            cases hh:o.has with
            |true=>rfl
            |false=>have:=g8 hh;omega
          obtain ⟨a',rfl,q5⟩:=q4 hh
          have:=q5 (by omega)
          subst this
          obtain ⟨c,fz,r1,r2,r3,r4⟩:=g9 hh
          have hget:∀ (i:Nat) (e:List CV),((es.drop lo).take len)[i]? = some e→es[lo+i]? = some e:=by
            intro i e h
            rw [List.getElem?_take] at h
            split at h
            · rwa [List.getElem?_drop] at h
            · cases h
          have hr:=br.tree (H:=(frG G w b' o).H) s ((es.drop lo).take len) o.blk (o.off+lo * o.sz) (o.cap - lo) c T fz (fun i j=>(c[o.off+lo * o.sz+i * s+j]?).getD undef) (by simp [frG,hh,r1,(hi.sep b' o ho hh).1]) (by omega)
            (fun i e h=>g7 e (List.mem_of_getElem? (hget i e h)))
            (fun i j e x h1 h2=>by
              obtain ⟨v,r5,_⟩:=r4 (lo+i) j e x (hget i e h1) h2
              have:o.off+lo * o.sz+i * s+j=o.off+(lo+i) * s+j:=by rw [g3,Nat.add_mul];omega
              rw [this,r5];rfl)
            (fun i j e x h1 h2=>by
              obtain ⟨v,r5,r6⟩:=r4 (lo+i) j e x (hget i e h1) h2
              have:o.off+lo * o.sz+i * s+j=o.off+(lo+i) * s+j:=by rw [g3,Nat.add_mul];omega
              rw [this,r5]
              exact br.mono (Cc hi ho) r6)
          rw [hlen] at hr
          exact hr
      · exact junk
    · exact hm h
theorem Fr(hi:Inv G σ w)(hσ:σ[b]? = some (.arr s ver T es))(ho:G.own[b]? = some (some o)){c:CV}{v:Value}(h:Rep G c v):Rep (frG G w b o) (c.fr b ver s es) v:=by
  cases c
  case fn f caps =>
    obtain ⟨vs,rfl,h2⟩:=h
    refine ⟨vs,rfl,?_⟩
    induction caps generalizing vs with
    |nil=>cases vs<;>simp_all [aW]
    |cons c cs ih =>
      cases vs with
      |nil=>simp [aW] at h2
      |cons v vs=>exact ⟨mN hi hσ ho h2.1,ih vs h2.2⟩
  all_goals first
    |exact mN hi hσ ho (c:=.junk) h
    |exact mN hi hσ ho (c:=.bool _) h
    |exact mN hi hσ ho (c:=.int _ _) h
    |exact mN hi hσ ho (c:=.str _) h
    |exact mN hi hσ ho (c:=.nilp) h
    |exact mN hi hσ ho (c:=.nils) h
    |exact mN hi hσ ho (c:=.nilf) h
    |exact mN hi hσ ho (c:=.nili) h
    |exact mN hi hσ ho (c:=.emp) h
    |exact mN hi hσ ho (c:=.emn) h
    |exact mN hi hσ ho (c:=.tree _ _) h
    |exact mN hi hσ ho (c:=.tptr _ _ _ _) h
    |exact mN hi hσ ho (c:=.ifc _ _ _) h
    |skip
  case optr b' off =>
    have:=mN hi hσ ho (c:=.optr b' off) h
    simp only [CV.fr]
    by_cases e:b'=b<;>simp only [CV.frO,e,if_true,if_false] at this ⊢<;>exact this
  case osl b' v' lo len =>
    have:=mN hi hσ ho (c:=.osl b' v' lo len) h
    simp only [CV.fr]
    by_cases e:b'=b
    · by_cases e2:v'=ver∧lo+len≤es.length<;>simp only [CV.frO,e,e2,if_true,if_false] at this ⊢<;>exact this
    · simp only [CV.frO,e,if_false] at this ⊢;exact this
  case oel b' v' i j =>
    have:=mN hi hσ ho (c:=.oel b' v' i j) h
    simp only [CV.fr]
    by_cases e:b'=b<;>simp only [CV.frO,e,if_true,if_false] at this ⊢<;>exact this
theorem DE(hi:Inv G σ w)(hσ:σ[b]? = some (.arr s ver T es))(ho:G.own[b]? = some (some o)):∀ {cs:List CV} {vs:List Value},aW (Rep G) cs vs→aW (Rep (frG G w b o)) (cs.map (CV.fr b ver s es)) vs
  |[],[],_=>trivial
  |_ :: _,_ :: _,h=>⟨Fr hi hσ ho h.1,DE hi hσ ho h.2⟩
theorem GO(hi:Inv G σ w)(hσ:σ[b]? = some (.arr s ver T es))(ho:G.own[b]? = some (some o)):Inv (frG G w b o) ((σ.set b .dead).map (OB.fr b ver s es)) w:=by
  have hH:=Cc (b:=b) hi ho
  have hblt:b<G.own.length:=(List.getElem?_eq_some_iff.1 ho).1
  have hne:∀ (x:Nat) (o':OG),(G.own.set b none)[x]? = some (some o')→x≠b∧G.own[x]? = some (some o'):=by
    intro x o' h
    by_cases e:x=b
    · subst e;simp [hblt] at h
    · rw [List.getElem?_set_ne (Ne.symm e)] at h;exact ⟨e,h⟩
  refine ⟨?_,hi.hF,?_,by simp [frG,hi.len],?_,fun x x' o1 o2 h1 h2=>hi.inj x x' o1 o2 (hne _ _ h1).2 (hne _ _ h2).2,?_,hi.os,hi.tape,hi.output,hi.grow⟩
  · intro x y h
    simp only [frG] at h
    split at h
    · exact h
    · exact hi.hH x y h
  · intro x y h
    simp only [frG]
    split
    · rename_i hc
      have:=(hi.sep b o ho hc.2.1).2
      have h:G.F x=some y:=h
      rw [hc.2.2] at h;rw [this] at h;cases h
    · exact hi.HF x y h
  · intro x ob h
    rw [List.getElem?_map,Option.map_eq_some_iff] at h
    obtain ⟨ob',h1,rfl⟩:=h
    by_cases e:x=b
    · subst e
      have hlt:x<σ.length:=(List.getElem?_eq_some_iff.1 hσ).1
      simp only [List.getElem?_set_self hlt,sJ] at h1
      subst h1
      simp [OB.fr,qn,frG,hblt]
    · rw [List.getElem?_set_ne (Ne.symm e)] at h1
      have hx:(frG G w b o).own[x]? = G.own[x]? := by simp only [frG];exact List.getElem?_set_ne (Ne.symm e)
      have hok:=hi.own x ob' h1
      cases ob' with
      |dead=>simpa [OB.fr,qn,hx] using hok
      |box cs =>
        obtain ⟨o',c,T',g1,g2,g3,g4,g5⟩:=hok
        exact ⟨o',c,T',hx.trans g1,g2,g3,g4,DE hi hσ ho g5⟩
      |arr s' v' T' e' =>
        obtain ⟨o',g1,g2,g3,g4,g5,g6,g7,g8,g9⟩:=hok
        refine ⟨o',hx.trans g1,g2,g3,g4,g5,g6,g7,g8,fun hh=>?_⟩
        obtain ⟨c,fz,r1,r2,r3,r4⟩:=g9 hh
        exact ⟨c,fz,r1,r2,r3,fun i j e y p1 p2=>by obtain ⟨v,p3,p4⟩:=r4 i j e y p1 p2;exact ⟨v,p3,br.mono hH p4⟩⟩
      |mp P k m =>
        obtain ⟨o',g1,g2,g3,g4,g5⟩:=hok
        exact ⟨o',hx.trans g1,g2,g3,g4,g5.keep hH rfl⟩
  · intro x o' h hh
    obtain ⟨e,h'⟩:=hne _ _ h
    obtain ⟨s1,s2⟩:=hi.sep x o' h' hh
    refine ⟨?_,s2⟩
    simp only [frG]
    split
    · rename_i hc
      exact (e (hi.inj x b o' o h' ho hh hc.2.1 hc.2.2)).elim
    · exact s1
end
theorem aG{E:Env}{σ:List OB}(b:Nat){s ver:Nat}{T:TypeId}{es:List (List CV)}(hσ:σ[b]? = some (.arr s ver T es)):lE E σ (E.fr b ver s es) ((σ.set b .dead).map (OB.fr b ver s es)):=by
  intro G a w hs
  have hi:=hs.inv
  obtain ⟨o,ho,_⟩:=hi.own b _ hσ
  refine ⟨frG G w b o,.mk' ⟨Cc hi ho,rfl,rfl,rfl⟩ (Cd ho),GO hi hσ ho,hs.defers,hs.size,hs.na,fun i hc=>?_⟩
  have hget:(E.fr b ver s es).get i=⟨(E.get i).cond && (match (E.get i).v with|.t _=>false|_=>true),(E.get i).v.fr b ver s es⟩:=by
    unfold Env.get Env.fr
    simp only
    rw [Tr.fr_get,Tr.fr_get,Tr.fr_get,Tr.fr_ent]
  rw [hget] at hc ⊢
  simp only [Bool.and_eq_true] at hc
  have hr:=hs.slot i hc.1
  cases hv:(E.get i).v with
  |x=>trivial
  |c y=>rw [hv] at hr;exact Fr hi hσ ho hr
  |a ys=>rw [hv] at hr;obtain ⟨vs,e,h2⟩:=hr;exact ⟨vs,e,DE hi hσ ho h2⟩
  |t ps=>rw [hv] at hc;simp at hc
theorem HO:
    ((∀ b v s es n na t, Env.fr b v s es ⟨n, na, t⟩ = ⟨n, na, t.fr b v s es⟩) ∧ (∀ b v s es, Tr.fr b v s es .nil = .nil) ∧ (∀ b v s es c y, Tr.fr b v s es (.leaf ⟨c, .c y⟩) = .leaf ⟨c, .c (y.fr b v s es)⟩) ∧ (∀ b v s es c ys, Tr.fr b v s es (.leaf ⟨c, .a ys⟩) = .leaf ⟨c, .a (ys.map (CV.fr b v s es))⟩) ∧
     (∀ b v s es c ps,Tr.fr b v s es (.leaf ⟨c,.t ps⟩)=.leaf ⟨false,.x⟩)∧(∀ b v s es c,Tr.fr b v s es (.leaf ⟨c,.x⟩)=.leaf ⟨c,.x⟩) ∧
     (∀ b v s es a0 a1 a2 a3 a4 a5 a6 a7,Tr.fr b v s es (.node a0 a1 a2 a3 a4 a5 a6 a7)=.node (a0.fr b v s es) (a1.fr b v s es) (a2.fr b v s es) (a3.fr b v s es) (a4.fr b v s es) (a5.fr b v s es) (a6.fr b v s es) (a7.fr b v s es))) ∧
    ((∀ b v s es,OB.fr b v s es .dead=.dead)∧(∀ b v s es cs,OB.fr b v s es (.box cs)=.box (cs.map (CV.fr b v s es)))∧(∀ b v s es s' v' T e,OB.fr b v s es (.arr s' v' T e)=.arr s' v' T e)∧(∀ b v s es P k m,OB.fr b v s es (.mp P k m)=.mp P k m)) ∧
    ((∀ b v s es x, CV.fr b v s es (.bool x) = .bool x) ∧ (∀ b v s es k n, CV.fr b v s es (.int k n) = .int k n) ∧ (∀ b v s es x, CV.fr b v s es (.str x) = .str x) ∧ (∀ b v s es, CV.fr b v s es .nilp = .nilp) ∧ (∀ b v s es, CV.fr b v s es .nils = .nils) ∧
     (∀ b v s es,CV.fr b v s es .nilf=.nilf)∧(∀ b v s es,CV.fr b v s es .nili=.nili)∧(∀ b v s es,CV.fr b v s es .emp=.emp)∧(∀ b v s es,CV.fr b v s es .emn=.emn)∧(∀ b v s es,CV.fr b v s es .junk=.junk)∧(∀ b v s es s' e',CV.fr b v s es (.tree s' e')=.tree s' e') ∧
     (∀ b v s es s' e' i j,CV.fr b v s es (.tptr s' e' i j)=.tptr s' e' i j)∧(∀ b v s es T g cs,CV.fr b v s es (.ifc T g cs)=.ifc T g cs)) ∧
    ((∀ b v s es b' v' lo len, CV.fr b v s es (.osl b' v' lo len) = if b' = b then (if v' = v ∧ lo + len ≤ es.length then .tree s ((es.drop lo).take len) else .junk) else .osl b' v' lo len) ∧
     (∀ b v s es b' v' i j,CV.fr b v s es (.oel b' v' i j)=if b'=b then .junk else .oel b' v' i j)∧(∀ b v s es b' off,CV.fr b v s es (.optr b' off)=if b'=b then .junk else .optr b' off) ∧
     (∀ b v s es f caps,CV.fr b v s es (.fn f caps)=.fn f (caps.map (CV.frO b v s es)))):=by
  refine ⟨⟨?_,?_,?_,?_,?_,?_,?_⟩,⟨?_,?_,?_,?_⟩,⟨?_,?_,?_,?_,?_,?_,?_,?_,?_,?_,?_,?_,?_⟩,?_,?_,?_,?_⟩
  all_goals intros
  all_goals first|rfl|(simp [Tr.fr,PV.fr];done)
theorem qV:(∀ n f,CV.under n (.fn f [])=True)∧(∀ n f b off r,CV.under n (.fn f (.optr b off :: r))=(b<n∧CV.under n (.fn f r)))∧(∀ n f b v lo k r,CV.under n (.fn f (.osl b v lo k :: r))=(b<n∧CV.under n (.fn f r))) ∧
    (∀ n f k i r,CV.under n (.fn f (.int k i :: r))=CV.under n (.fn f r))∧(∀ n f k i r,CV.under n (.fn f (.tree k i :: r))=CV.under n (.fn f r))∧(∀ n f s r,CV.under n (.fn f (.str s :: r))=CV.under n (.fn f r))∧(∀ n f s r,CV.under n (.fn f (.bool s :: r))=CV.under n (.fn f r)):=by
  refine ⟨?_,?_,?_,?_,?_,?_,?_⟩<;>intros<;>simp [CV.under]
theorem oY{E:Env}{d:Nat}(h:Nat.ble (d+1) E.n=true):eW E (some d):=Nat.le_of_ble_eq_true h
def PV.ren1(r:Nat→Nat):PV→PV
  |.c y=>.c (y.ren r)
  |.a ys=>.a (ys.map (CV.ren r))
  |q=>q
theorem GP:
    ((∀ r y,PV.ren r (.c y)=.c (y.ren r))∧(∀ r ys,PV.ren r (.a ys)=.a (ys.map (CV.ren r)))∧(∀ r,PV.ren r .x=.x)∧(∀ r ps,PV.ren r (.t ps)=.t (ps.map (PV.ren1 r)))∧(∀ r y,PV.ren1 r (.c y)=.c (y.ren r))∧(∀ r ys,PV.ren1 r (.a ys)=.a (ys.map (CV.ren r)))) ∧
    ((∀ r cs,OB.ren r (.box cs)=.box (cs.map (CV.ren r)))∧(∀ r,OB.ren r .dead=.dead)∧(∀ r s v T es,OB.ren r (.arr s v T es)=.arr s v T es)∧(∀ r P k m,OB.ren r (.mp P k m)=.mp P k m)) ∧
    ((∀ r x, CV.ren r (.bool x) = .bool x) ∧ (∀ r k n, CV.ren r (.int k n) = .int k n) ∧ (∀ r x, CV.ren r (.str x) = .str x) ∧ (∀ r, CV.ren r .nilp = .nilp) ∧ (∀ r, CV.ren r .nils = .nils) ∧ (∀ r, CV.ren r .nilf = .nilf) ∧ (∀ r, CV.ren r .nili = .nili) ∧ (∀ r, CV.ren r .emp = .emp) ∧ (∀ r, CV.ren r .emn = .emn) ∧ (∀ r, CV.ren r .junk = .junk) ∧
     (∀ r s es,CV.ren r (.tree s es)=.tree s es)∧(∀ r s es i j,CV.ren r (.tptr s es i j)=.tptr s es i j)∧(∀ r T g cs,CV.ren r (.ifc T g cs)=.ifc T g cs)) ∧
    ((∀ r b off, CV.ren r (.optr b off) = .optr (r b) off) ∧ (∀ r b v lo n, CV.ren r (.osl b v lo n) = .osl (r b) v lo n) ∧ (∀ r b v i j, CV.ren r (.oel b v i j) = .oel (r b) v i j) ∧ (∀ r f caps, CV.ren r (.fn f caps) = .fn f (caps.map (CV.ren0 r))) ∧
     (∀ r b off,CV.ren0 r (.optr b off)=.optr (r b) off)∧(∀ r b v lo n,CV.ren0 r (.osl b v lo n)=.osl (r b) v lo n)∧(∀ r k n,CV.ren0 r (.int k n)=.int k n)∧(∀ r s es,CV.ren0 r (.tree s es)=.tree s es)∧(∀ r x,CV.ren0 r (.str x)=.str x)∧(∀ r x,CV.ren0 r (.bool x)=.bool x)) ∧
    ((∀ n ρ k,du n ρ k=if k<ρ.length then ρ.getD k 0 else n+(k - ρ.length))∧(∀ {α:Type} (σ xs:List α),dJ σ [] xs=σ++xs)∧(∀ {α:Type} (σ xs:List α) b ρ x,dJ σ (b :: ρ) (x :: xs)=dJ (σ.set b x) ρ xs)):=by
  refine ⟨⟨?_,?_,?_,?_,?_,?_⟩,⟨?_,?_,?_,?_⟩,⟨?_,?_,?_,?_,?_,?_,?_,?_,?_,?_,?_,?_,?_⟩,⟨?_,?_,?_,?_,?_,?_,?_,?_,?_,?_⟩,?_,?_,?_⟩<;>intros<;>first|rfl|simp [dJ]
def ut{S O:Type}(body:S→Option (S ⊕ O)):Nat→S→Option O
  |0,_=>none
  |n+1,s=>match body s with
    |none=>none
    |some (.inl s')=>ut body n s'
    |some (.inr o)=>some o
theorem yX{S O:Type}{body:S→Option (S ⊕ O)}:∀ {n:Nat} {s:S} {o:O},ut body n s=some o→ut body (n+1) s=some o
  |0,_,_,h=>by cases h
  |n+1,s,o,h=>by
    unfold ut at h ⊢
    cases hb:body s with
    |none=>rw [hb] at h;cases h
    |some r=>cases r with
      |inl s'=>rw [hb] at h;exact yX h
      |inr o'=>rw [hb] at h;exact h
theorem Ce{S O:Type}{body:S→Option (S ⊕ O)}{n m:Nat}{s:S}{o:O}(h:ut body n s=some o)(hm:n≤m):ut body m s=some o:=by
  induction hm with
  |refl=>exact h
  |step _ ih=>exact yX ih
open Classical in
noncomputable def bD{S O:Type}(body:S→Option (S ⊕ O))(s:S):Option O :=
  if h:∃ n o,ut body n s=some o then some (Classical.choose (Classical.choose_spec h)) else none
theorem rH{S O:Type}{body:S→Option (S ⊕ O)}{s:S}{o:O}(h:bD body s=some o):∃ n,ut body n s=some o:=by
  unfold bD at h
  split at h
  · rename_i hx
    simp only [sJ] at h
    exact ⟨_,h ▸ Classical.choose_spec (Classical.choose_spec hx)⟩
  · cases h
theorem sB{S O:Type}{body:S→Option (S ⊕ O)}{s:S}{o:O}{n:Nat}(h:ut body n s=some o):bD body s=some o:=by
  have hx:∃ n o,ut body n s=some o:=⟨n,o,h⟩
  cases hl:bD body s with
  |none=>unfold bD at hl;rw [dif_pos hx] at hl;cases hl
  |some o' =>
    obtain ⟨m,hm⟩:=rH hl
    have h1:=Ce h (Nat.le_max_left n m)
    have h2:=Ce hm (Nat.le_max_right n m)
    rw [h1] at h2;exact h2.symm
theorem dZ{S O:Type}(body:S→Option (S ⊕ O))(s:S):bD body s=match body s with
    |none=>none
    |some (.inl s')=>bD body s'
    |some (.inr o)=>some o:=by
  cases hb:body s with
  |none =>
    cases hl:bD body s with
    |none=>rfl
    |some o =>
      obtain ⟨n,hn⟩:=rH hl
      cases n with
      |zero=>cases hn
      |succ n=>simp [ut,hb] at hn
  |some r =>
    cases r with
    |inr o=>exact sB (n:=1) (by simp [ut,hb])
    |inl s' =>
      show bD body s=bD body s'
      cases hl:bD body s with
      |some o =>
        obtain ⟨n,hn⟩:=rH hl
        cases n with
        |zero=>cases hn
        |succ n=>exact (sB (n:=n) (by simpa [ut,hb] using hn)).symm
      |none =>
        cases hl':bD body s' with
        |none=>rfl
        |some o =>
          obtain ⟨n,hn⟩:=rH hl'
          have:=sB (body:=body) (s:=s) (n:=n+1) (o:=o) (by simpa [ut,hb] using hn)
          rw [this] at hl;cases hl
theorem m4{S O:Type}{body:S→Option (S ⊕ O)}{s s':S}(h:body s=some (.inl s')):bD body s=bD body s':=by rw [dZ,h]
theorem gB{S O:Type}{body:S→Option (S ⊕ O)}{s:S}{o:O}(h:body s=some (.inr o)):bD body s=some o:=by rw [dZ,h]
theorem gd{α:Type}{p:Prop}[Decidable p]{m:Option α}{r:α}(h:(if p then m else none)=some r):p∧m=some r:=by
  split at h
  · exact ⟨by assumption,h⟩
  · cases h
theorem bd{α β:Type}{o:Option α}{f:α→Option β}{r:β}(h:o.bind f=some r):∃ y,o=some y∧f y=some r:=by
  cases o with
  |none=>cases h
  |some y=>exact ⟨y,rfl,h⟩
def mK(n b:Nat):Prop:=n * b≤140737488355328∧n≤maxLen
instance (n b:Nat):Decidable (mK n b):=inferInstanceAs (Decidable (_∧_))
def eK(k:IntKind)(n:Int):List CV:=[.int k n]
def eB(b:Bool):List CV:=[.bool b]
def eS(s:List UInt8):List CV:=[.str s]
def eL{α:Type}(s:Nat)(f:α→List CV)(l:List α):List CV:=[.tree s (l.map f)]
section
variable {P:Program} {K:Kt} {E E0:Env} {σ:List OB}
theorem lE.refl(E:Env)(σ:List OB):lE E σ E σ:=fun G _ _ hs=>⟨G,Gle.refl G,hs⟩
theorem lE.trans{E E' E'':Env}{σ σ' σ'':List OB}(h:lE E σ E' σ')(h':lE E' σ' E'' σ''):lE E σ E'' σ'':=fun G a w hs=>by
  obtain ⟨G',g1,hs'⟩:=h G a w hs
  obtain ⟨G'',g2,hs''⟩:=h' G' a w hs'
  exact ⟨G'',g1.trans g2,hs''⟩
def EJ{α:Type}(E0:Env)(ms:List Nat)(slots:α→List (Nat×PV))(heap:α→List OB)(inv:α→Prop)(μ:α→Nat)(x:α)(K:Kt):Kt
  |.normal,E,σ=>∃ y E' σ',lE E σ E' σ'∧inv y∧μ y<μ x∧sS E' σ' (E0.over ms (slots y)) (heap y)
  |e,E,σ=>K e E σ
theorem EK{α:Type}{c:Code}(ms:List Nat)(slots:α→List (Nat×PV))(heap:α→List OB)(inv:α→Prop)(μ:α→Nat)(x0:α)(h0:inv x0)(hl:sS E σ (E.over ms (slots x0)) (heap x0))
    (round:∀ x,inv x→W P c (EJ E ms slots heap inv μ x K) (E.over ms (slots x)) (heap x)):W P (.loop c) K E σ:=fun G a w hs=>by
  obtain ⟨G0,hg0,hs0⟩:=hl.sim hs
  refine Code.wp_mono (fun _ _ _ hq=>fj.back hg0 hq) ?_
  intro b k cs
  have key:∀ (m:Nat) (x:α) (G:Gh) (a:Act) (w:World),μ x=m→inv x→Gle G0 G→Sim G (E.over ms (slots x)) (heap x) a w →
      ∃ e a' w',fj G0 K e a' w'∧Arrives P (lone (b.at a (.code c :: .inLoop c :: k)) cs w) b k cs e a' w':=by
    intro m
    induction m using Nat.strongRecOn with
    |_ m ih =>
      intro x G a w hm hinv hG hs
      have hr:=round x hinv G a w hs
      obtain ⟨e,a₁,w₁,hq,harr⟩:=hr b (.inLoop c :: k) cs
      obtain ⟨G',E',σ',px,g1,g2,g3,g4⟩:=hq
      cases px with
      |normal =>
        cases g3
        obtain ⟨y,E2,σ2,hgh,hy,hlt,hless⟩:=g4
        obtain ⟨G1,p1,p2⟩:=hgh G' a₁ w₁ g2
        obtain ⟨G'',q1,q2⟩:=hless.sim p2
        obtain ⟨e₂,a₂,w₂,hq₂,harr₂⟩:=ih (μ y) (hm ▸ hlt) y G'' a₁ w₁ rfl hy (hG.trans (g1.trans (p1.trans q1))) q2
        exact ⟨e₂,a₂,w₂,hq₂,.of_steps (Steps.trans harr (.one step_inLoop)) harr₂⟩
      |exit id=>exact ⟨e,a₁,w₁,fj.back hG ⟨G',E',σ',.exit id,g1,g2,g3,g4⟩,by cases g3;exact .pass (x:=.inLoop c) rfl (fun _ _=>.inl (by simp)) harr⟩
      |ret=>exact ⟨e,a₁,w₁,fj.back hG ⟨G',E',σ',.ret,g1,g2,g3,g4⟩,by cases g3;exact .pass (x:=.inLoop c) rfl (fun _ _=>.inl (by simp)) harr⟩
      |panic p=>exact ⟨e,a₁,w₁,fj.back hG ⟨G',E',σ',.panic p,g1,g2,g3,g4⟩,by obtain ⟨v,rfl,hv⟩:=g3;exact .pass (x:=.inLoop c) rfl (fun _ _=>.inl (by simp)) harr⟩
  obtain ⟨e,a',w',hq,harr⟩:=key _ x0 G0 a w rfl h0 (Gle.refl _) hs0
  exact ⟨e,a',w',hq,.of_steps (.one step_loop) harr⟩
def uT{S V O:Type}(E0:Env)(ms:List Nat)(slots:S→V→List (Nat×PV))(heap:S→V→List OB)(r:S ⊕ O)(K:Kt):Kt
  |.normal,E,σ=>∃ s v E' σ',lE E σ E' σ'∧r=.inl s∧sS E' σ' (E0.over ms (slots s v)) (heap s v)
  |e,E,σ=>K e E σ
theorem aS{S V O:Type}{c:Code}(ms:List Nat)(slots:S→V→List (Nat×PV))(heap:S→V→List OB)(body:S→Option (S ⊕ O))(s0:S)(v0:V){o:O}(ho:bD body s0=some o)
    (hl:sS E σ (E.over ms (slots s0 v0)) (heap s0 v0))
    (round:∀ s v r,body s=some r→(∀ o',r=.inr o'→o'=o)→W P c (uT E ms slots heap r K) (E.over ms (slots s v)) (heap s v)):W P (.loop c) K E σ:=by
  obtain ⟨n,hn⟩:=rH ho
  refine EK (α:=S×V×Nat) ms (fun x=>slots x.1 x.2.1) (fun x=>heap x.1 x.2.1) (fun x=>ut body x.2.2 x.1=some o) (fun x=>x.2.2) (s0,v0,n) hn hl ?_
  rintro ⟨s,v,n⟩ hs
  cases n with
  |zero=>cases hs
  |succ n =>
    simp only [ut] at hs
    cases hb:body s with
    |none=>rw [hb] at hs;cases hs
    |some r =>
      rw [hb] at hs
      refine W.mono (fun x E' σ' h=>?_) (round s v r hb ?_)
      · cases x with
        |normal=>obtain ⟨s',v',E2,σ2,hgh,e,hl'⟩:=h;subst e;exact ⟨(s',v',n),E2,σ2,hgh,hs,Nat.lt_succ_self _,hl'⟩
        |exit i=>exact h
        |ret=>exact h
        |panic p=>exact h
      · rintro o' rfl;simpa using hs
def sC{S V:Type}(E0:Env)(ms:List Nat)(slots:S→V→List (Nat×PV))(heap:S→V→List OB)(J:S→Prop)(K:Kt):Kt
  |.normal,E,σ=>∃ s v E' σ',lE E σ E' σ'∧J s∧sS E' σ' (E0.over ms (slots s v)) (heap s v)
  |e,E,σ=>K e E σ
theorem ay{S V:Type}{c d:Code}(ms:List Nat)(slots:S→V→List (Nat×PV))(heap:S→V→List OB)(J:S→Prop)
    (first:W P c (sC E ms slots heap J K) E σ) (rest:∀ s v,J s→W P d K (E.over ms (slots s v)) (heap s v)):W P (.seq c d) K E σ :=
  oL (W.mono (fun x E' σ' h=>by
    cases x with
    |normal=>obtain ⟨s,v,E2,σ2,hg,h1,h2⟩:=h;exact gg hg (Cb h2 (rest s v h1))
    |exit id=>exact h
    |ret=>exact h
    |panic p=>exact h) first)
section
variable {S V O:Type} {ms:List Nat} {slots:S→V→List (Nat×PV)} {heap:S→V→List OB} {r:S ⊕ O} {J:S→Prop}
theorem aH(s:S)(v:V)(hr:some (Sum.inl s)=some r)(hl:sS E σ (E0.over ms (slots s v)) (heap s v)):uT E0 ms slots heap r K .normal E σ:=⟨s,v,E,σ,lE.refl E σ,(sI hr).symm,hl⟩
theorem DF{E1:Env}{σ1:List OB}(hg:lE E σ E1 σ1)(h:uT E0 ms slots heap r K .normal E1 σ1):uT E0 ms slots heap r K .normal E σ:=by
  obtain ⟨s,v,E2,σ2,g,h1,h2⟩:=h;exact ⟨s,v,E2,σ2,hg.trans g,h1,h2⟩
theorem aX{i:Nat}(h:K (.exit i) E σ):uT E0 ms slots heap r K (.exit i) E σ:=h
theorem ip(h:K .ret E σ):uT E0 ms slots heap r K .ret E σ:=h
theorem d6{p:PV}(h:K (.panic p) E σ):uT E0 ms slots heap r K (.panic p) E σ:=h
theorem ag(s:S)(v:V)(hj:J s)(hl:sS E σ (E0.over ms (slots s v)) (heap s v)):sC E0 ms slots heap J K .normal E σ:=⟨s,v,E,σ,lE.refl E σ,hj,hl⟩
theorem tB{E1:Env}{σ1:List OB}(hg:lE E σ E1 σ1)(h:sC E0 ms slots heap J K .normal E1 σ1):sC E0 ms slots heap J K .normal E σ:=by
  obtain ⟨s,v,E2,σ2,g,h1,h2⟩:=h;exact ⟨s,v,E2,σ2,hg.trans g,h1,h2⟩
theorem xF{i:Nat}(h:K (.exit i) E σ):sC E0 ms slots heap J K (.exit i) E σ:=h
theorem bu(h:K .ret E σ):sC E0 ms slots heap J K .ret E σ:=h
theorem bK{p:PV}(h:K (.panic p) E σ):sC E0 ms slots heap J K (.panic p) E σ:=h
theorem av{o o':O}(h:some (Sum.inr o')=some r)(hr:∀ o',r=.inr o'→o'=o):o'=o:=hr _ (sI h).symm
end
theorem Inv.nil{G:Gh}{σ:List OB}{w:World}(hi:Inv G σ w)(s:Nat)(T:TypeId)(hs:0<s) :
    Inv { G with own:=G.own++[some ⟨0,s,0,0,false,0⟩] } (σ++[.arr s 0 T []]) w:=by
  refine hi.push (.arr s 0 T []) ⟨0,s,0,0,false,0⟩ (Nat.le_refl _) (fun _ _=>rfl) (fun h=>by cases h) rfl rfl rfl ?_
  have hlast:(G.own++[some (⟨0,s,0,0,false,0⟩:OG)])[σ.length]? = some (some ⟨0,s,0,0,false,0⟩):=by rw [← hi.len];simp
  exact ⟨_,hlast,rfl,rfl,hs,Nat.le_refl _,Nat.zero_le _,(fun e he=>nomatch he),fun _=>rfl,fun h=>absurd h (by simp)⟩
theorem Cf{G:Gh}{σ:List OB}{w:World}(hi:Inv G σ w)(s:Nat){v:Value}(hv:br G.H .nils v) :
    gm { G with own:=G.own++[some ⟨0,s,0,0,false,0⟩] } (.osl σ.length 0 0 0) v:=by
  have hlast:(G.own++[some (⟨0,s,0,0,false,0⟩:OG)])[σ.length]? = some (some ⟨0,s,0,0,false,0⟩):=by rw [← hi.len];simp
  cases hv
  exact ⟨rfl,_,hlast,fun o e=>by
    simp only [sJ] at e;subst e
    exact ⟨Nat.le_refl _,fun _=>⟨Nat.le_refl _,none,rfl,fun h=>by cases h⟩⟩⟩
theorem DG{H:Nat→Option Obj}(s:Nat){v:Value}(h:br H .nils v):br H (.tree s []) v:=by
  cases h
  exact .tree0 s none 0 (fun _=>rfl)
theorem iu(i s:Nat)(T:TypeId)(hs:0<s)(hE:E.get i=⟨true,.c .nils⟩)(hin:i<E.n):lE E σ (E.put i ⟨true,.c (.osl σ.length 0 0 0)⟩) (σ++[.arr s 0 T []]):=by
  intro G a w hs'
  refine ⟨{ G with own:=G.own++[some ⟨0,s,0,0,false,0⟩] },.mk' ⟨fun _ _ h=>h,rfl,rfl,rfl⟩ (bG.append _ _),hs'.inv.nil s T hs,hs'.defers,hs'.size,hs'.na,fun j hc=>?_⟩
  have hg:=Env.get_put E i j _ hc
  rw [hg] at hc ⊢
  by_cases hj:j=i
  · subst hj
    rw [iP rfl]
    have:=hs'.slot j (by rw [hE])
    rw [hE] at this
    exact Cf hs'.inv s this
  · rw [iN hj] at hc ⊢
    exact bg.mono (G:=G) (G':={ G with own:=G.own++[some ⟨0,s,0,0,false,0⟩] }) (fun _ _ h=>h) (bG.append _ _) (hs'.slot j hc)
end
theorem Cg{P:Program}{K:Kt}{E:Env}{σ:List OB}{S V:Type}{a b d:Code}(ms:List Nat)(slots:S→V→List (Nat×PV))(heap:S→V→List OB)(J:S→Prop)
    (first:∀ k:Env→List OB→Prop,(∀ E' σ',W P b (sC E ms slots heap J K) E' σ'→k E' σ')→W P a (wB k (sC E ms slots heap J K)) E σ)
    (rest:∀ s v,J s→W P d K (E.over ms (slots s v)) (heap s v)):W P (.seq a (.seq b d)) K E σ :=
  oL (W.mono (fun x E' σ' h=>by
    cases x with
    |normal =>
      refine oL (W.mono (fun x E'' σ'' h'=>?_) h)
      cases x with
      |normal=>obtain ⟨s,v,E2,σ2,hg,h1,h2⟩:=h';exact gg hg (Cb h2 (rest s v h1))
      |exit id=>exact h'
      |ret=>exact h'
      |panic p=>exact h'
    |exit id=>exact h
    |ret=>exact h
    |panic p=>exact h) (first _ fun _ _ h=>h))
theorem GQ:((true == true)=true∧(true == false)=false∧(false == true)=false∧(false == false)=true)∧((!true)=false∧(!false)=true):=by decide
theorem zz:
    ((∀ {α β : Type} (f : α → β) (l : List α) (n : Nat), (l.map f).take n = (l.take n).map f) ∧ (∀ {α β : Type} (f : α → β) (l : List α) (n : Nat), (l.map f).drop n = (l.drop n).map f) ∧
     (∀ {α β:Type} (f:α→β) (l l':List α),l.map f++l'.map f=(l++l').map f)∧(∀ {α:Type} (l:List α),l.take l.length=l)):=by
  refine ⟨?_,?_,?_,?_⟩<;>intros<;>simp
theorem Fs:(∀ {α:Type} (l:List α) (n:Nat),l.length≤n→l.take n=l)∧(∀ {α:Type} (l l':List α),(l++l').length=l.length+l'.length) ∧
    (∀ {α:Type} (l:List α) (i:Nat) (x:α),(l.set i x).length=l.length)∧(∀ {α:Type} (n:Nat) (x:α),(List.replicate n x).length=n):=by
  refine ⟨fun l n h=>List.take_of_length_le h,?_,?_,?_⟩<;>intros<;>simp
def lit{α:Type}(l:List α):List α:=l
theorem qc{α:Type}(l:List α):(lit l).length=l.length:=rfl
def NT:CV→CV→Prop
  |.nils,.tree _ []=>True
  |.emp,.tree _ []=>True
  |.emn,.tree _ []=>True
  |c,c'=>c=c'
def NTs:List CV→List CV→Prop
  |[],[]=>True
  |a :: az,b :: bs=>NT a b∧NTs az bs
  |_,_=>False
theorem NT.rep{G:Gh}{c c':CV}{v:Value}(h:NT c c')(hr:Rep G c v):Rep G c' v:=by
  unfold NT at h
  split at h
  · exact DG _ (show br G.H .nils v from hr)
  · have h':br G.H .emp v:=hr
    show br G.H (.tree _ []) v
    cases h'
    exact .tree0 _ _ 0 (fun _=>rfl)
  · have h':br G.H .emn v:=hr
    show br G.H (.tree _ []) v
    cases h'
    exact .tree0 _ _ _ (fun h=>by cases h)
  · subst h;exact hr
theorem NTs.rep{G:Gh}:∀ {cs cs':List CV} {vs:List Value},NTs cs cs'→aW (Rep G) cs vs→aW (Rep G) cs' vs
  |[],[],_,_,h=>h
  |_ :: _,_ :: _,_ :: _,⟨h1,h2⟩,⟨k1,k2⟩=>⟨NT.rep h1 k1,NTs.rep h2 k2⟩
def NTp:PV→PV→Prop
  |.c y,.c y'=>NT y y'
  |.a ys,.a ys'=>NTs ys ys'
  |_,_=>False
theorem qk{E:Env}{σ:List OB}(i:Nat){p:PV}(p':PV)(hE:E.get i=⟨true,p⟩)(h:NTp p p'):lE E σ (E.put i ⟨true,p'⟩) σ:=by
  intro G a w hs'
  refine ⟨G,Gle.refl G,hs'.inv,hs'.defers,hs'.size,hs'.na,fun j hc=>?_⟩
  have hg:=Env.get_put E i j _ hc
  rw [hg] at hc ⊢
  by_cases hj:j=i
  · subst hj
    rw [iP rfl]
    have:=hs'.slot j (by rw [hE])
    rw [hE] at this
    cases p<;>cases p'<;>try exact h.elim
    · exact NT.rep (G:=G) h this
    · obtain ⟨vs,e,h2⟩:=this;exact ⟨vs,e,NTs.rep h h2⟩
  · rw [iN hj] at hc ⊢
    exact hs'.slot j hc
theorem jh{E:Env}{σ:List OB}(b:Nat){cs:List CV}(cs':List CV)(hσ:σ[b]? = some (.box cs))(h:NTs cs cs'):lE E σ E (σ.set b (.box cs')):=by
  intro G a w hs'
  refine ⟨G,Gle.refl G,?_,hs'.defers,hs'.size,hs'.na,hs'.slot⟩
  have hi:=hs'.inv
  have hlt:b<σ.length:=(List.getElem?_eq_some_iff.1 hσ).1
  refine ⟨hi.hH,hi.hF,hi.HF,by simpa using hi.len,fun k ob hk=>?_,hi.inj,hi.sep,hi.os,hi.tape,hi.output,hi.grow⟩
  by_cases hkb:k=b
  · subst hkb
    rw [List.getElem?_set_self hlt] at hk
    simp only [sJ] at hk;subst hk
    obtain ⟨o,c,T,h1,h2,h3,h4,h5⟩:=hi.own k _ hσ
    exact ⟨o,c,T,h1,h2,h3,h4,NTs.rep h h5⟩
  · rw [List.getElem?_set_ne (Ne.symm hkb)] at hk
    exact hi.own k ob hk
def okI(k:IntKind)(n:Int):Prop:=k.min≤n∧n≤k.max
def okT{α:Type}(_:α):Prop:=True
def okL{α:Type}(p:α→Prop)(l:List α):Prop:=∀ y∈l,p y
def szI{α:Type}(_:α):Nat:=1
def szS(s:List UInt8):Nat:=s.length+1
def szL{α:Type}(f:α→Nat)(l:List α):Nat:=(l.map f).sum+1
theorem eq{α:Type}{f:α→Nat}(hf:∀ x,1≤f x)(l:List α):l.length+1≤szL f l:=by
  unfold szL
  induction l with
  |nil=>simp
  |cons x l ih=>have:=hf x;simp at ih ⊢;omega
theorem iZ{α:Type}{f:α→Nat}{l:List α}{x:α}(h:x∈l):f x+1≤szL f l:=by
  unfold szL
  induction l with
  |nil=>cases h
  |cons y l ih =>
    simp only [List.map_cons,List.sum_cons]
    rcases List.mem_cons.1 h with rfl|h
    · omega
    · have:=ih h;omega
def i6(P:Program)(ops:Array Oper)(l:List Oper)(E:Env)(σ:List OB)(k:Env→List OB→Prop)(kp:PV→Env→List OB→Prop):Prop:=WL P ops l E σ (KR k kp)
section
variable {P:Program} {ops:Array Oper} {E E':Env} {σ σ':List OB} {k:Env→List OB→Prop} {kp:PV→Env→List OB→Prop} {l:List Oper}
theorem aa(h:e7 P ops l E σ k kp):i6 P ops l E σ k kp:=mm l E σ k kp h
theorem fL(hg:lE E σ E' σ')(h:i6 P ops l E' σ' k kp):i6 P ops l E σ k kp:=fun G a w hs=>by
  obtain ⟨G',h1,h2⟩:=hg G a w hs
  exact fC (fun _ _ _ hq=>fj.back h1 hq) _ _ _ (h G' a w h2)
theorem uU{Q Q1:Exit→Act→World→Prop}{l2:List Oper}(h1:∀ a w,Q1 .normal a w→wpList P ops Q l2 a w)(h2:∀ e a w,e≠.normal→Q1 e a w→Q e a w) :
    ∀ (l:List Oper) (a:Act) (w:World),wpList P ops Q1 l a w→wpList P ops Q (l++l2) a w
  |[],a,w,h=>h1 a w h
  |o :: r,a,w,h=>by
    rw [List.cons_append]
    unfold wpList at h ⊢
    have hl:LetsOut Q1→LetsOut Q:=fun ⟨a,w,h⟩=>⟨a,w,h2 _ _ _ (by simp) h⟩
    split at h
    · rename_i hw
      rw [iP hw]
      rcases h with h|⟨h3,h4⟩
      · left
        unfold Oper.wp at h ⊢
        generalize (execOp a.eval o).run P w=res at h
        have ih:=fun a w h=>uU h1 h2 r a w h
        cases res with
        |ok nx w' =>
          cases nx<;>first
            |exact h.elim
            |exact ih _ _ h
            | (refine Calls.mono h fun e w'' hh => ?_
               cases e with
               |returned v=>exact ih _ _ hh
               |panicked ch=>exact h2 _ _ _ (by simp) hh
               |outgrown=>exact hl hh)
            |exact Rows.mono h fun v w'' hh=>ih _ _ hh
        |halt hh w'=>cases hh<;>first|exact h.elim|exact h2 _ _ _ (by simp) h
      · exact .inr ⟨h3,hl h4⟩
    · rename_i hw
      rw [iN hw]
      exact uU h1 h2 r _ _ h
theorem aj(n:Nat)(h:e7 P ops (l.take n) E σ (fun E' σ'=>i6 P ops (l.drop n) E' σ' k kp) kp):i6 P ops l E σ k kp:=fun G a w hs=>by
  have h1:=mm _ _ _ _ _ h G a w hs
  have h2:=uU (Q:=fj G (KR k kp)) (l2:=l.drop n) (fun a w hq=>?_) (fun e a w he hq=>?_) _ _ _ h1
  · rwa [List.take_append_drop] at h2
  · obtain ⟨G',E1,σ1,x,q1,q2,q3,q4⟩:=hq
    cases x<;>simp only [FB] at q3
    · exact fC (fun _ _ _ hq=>fj.back q1 hq) _ _ _ (q4 G' a w q2)
    · cases q3
    · cases q3
    · obtain ⟨v,hv,_⟩:=q3;cases hv
  · obtain ⟨G',E1,σ1,x,q1,q2,q3,q4⟩:=hq
    cases x
    · exact (he q3).elim
    · exact q4.elim
    · exact q4.elim
    · exact ⟨G',E1,σ1,_,q1,q2,q3,q4⟩
theorem bB{K:Kt}{id:Nat}{y:Code}(ms:List Nat)
    (h:∀ (k:Env→List OB→Prop) (kp:PV→Env→List OB→Prop),(∀ E σ,W P y K E σ→k E σ)→(∀ p E σ,K (.panic p) E σ→kp p E σ)→i6 P l.toArray l E σ (fun E σ=>k (E.forget ms) σ) kp) :
    W P (.seq (.region id l.toArray false) y) K E σ:=oL fun G a w hs =>
  wp_region_lit (fC (fun _ _ _ hp=>fj.mono (fun x E σ hk=>by
      cases x with
      |normal=>exact pA ms hk
      |exit id=>exact hk.elim
      |ret=>exact hk.elim
      |panic p=>exact hk) hp)
    l a w (h (W P y K) (fun p=>K (.panic p)) (fun _ _ h=>h) (fun _ _ _ h=>h) G a w hs))
theorem eA{K:Kt}{id:Nat}(h:∀ (k:Env→List OB→Prop) (kp:PV→Env→List OB→Prop),(∀ E σ,K .normal E σ→k E σ)→(∀ p E σ,K (.panic p) E σ→kp p E σ)→i6 P l.toArray l E σ k kp) :
    W P (.region id l.toArray false) K E σ:=fun G a w hs =>
  wp_region_lit (fC (fun _ _ _ hp=>fj.mono (fun x E σ hk=>by cases x<;>first|exact hk|exact hk.elim) hp)
    l a w (h (K .normal) (fun p=>K (.panic p)) (fun _ _ h=>h) (fun _ _ _ h=>h) G a w hs))
end
def oN(P:Program)(E:Env)(σ:List OB)(o:Oper)(v:PV)(σ':List OB):Prop:=∀ G a w,Sim G E σ a w→zt P G (execOp a.eval o) w v σ'
section
variable {P:Program} {ops:Array Oper} {E E':Env} {σ σ':List OB} {k:Env→List OB→Prop} {kp:PV→Env→List OB→Prop} {l:List Oper}
theorem sD{o:Oper}{r:List Oper}{v:PV}(hx:oN P E σ o v σ')(hg:fm ops E o.guard=some true)(hd:eW E o.dst)
    (h:i6 P ops r (E.putD o.dst ⟨true,v⟩) σ' k kp):i6 P ops (o :: r) E σ k kp:=fun G a w hs=>by
  have hw:=pz (P:=P) hs hg
  unfold wpList
  rw [iP hw]
  obtain ⟨nx,val,w',G',e1,e2,e3,e4,e5,e6⟩:=hx G a w hs
  left
  unfold Oper.wp
  have hs':Sim G' (E.putD o.dst ⟨true,v⟩) σ' (a.put o.dst val) w':=(hs.ghost e5 e3.H e3.w0 e3.na e4).putD o.dst hd _ val fun _=>e6
  have:=fC (fun e a w h=>fj.back (Gle.mk' e3 e4) h) r _ _ (h G' _ w' hs')
  rw [e1]
  rcases e2 with rfl|⟨rfl,rfl⟩
  · exact this
  · exact this
theorem pB{C:Prop}{f:FuncId}{args:List PV}{o:Oper}{r:List Oper}
    {args':List PV} {σc:List OB} {post pp:PV→List OB→Prop} (hs:cT P f args' σc post pp) (ρ:List Nat) (hd:eW E o.dst) (hC:C) (hnd:ρ.Nodup) (hlt:∀ b∈ρ,b<σ.length)
    (hargs:args=args'.map (PV.ren (du σ.length ρ))) (hσ:ρ.map (fun b=>σ[b]?)=σc.map fun ob=>some (ob.ren (du σ.length ρ))) (hu:fp ρ.length args') (hub:bY ρ.length σc)
    (next:∀ p σ',post p σ'→ρ.length≤σ'.length→i6 P ops r (E.putD o.dst ⟨true,p.ren (du σ.length ρ)⟩) (dJ σ ρ (σ'.map (OB.ren (du σ.length ρ)))) k kp)
    (npanic:∀ p σ',pp p σ'→ρ.length≤σ'.length→kp (p.ren (du σ.length ρ)) E (dJ σ ρ (σ'.map (OB.ren (du σ.length ρ))))) :
    oj P ops true C f args o r E σ k kp:=wC hs ρ hd hC hnd hlt hargs hσ hu hub next npanic
theorem uD{γ:Bool}{C:Prop}{f:FuncId}{args:List PV}{o:Oper}{r:List Oper}{res:PV}(hs:γ=true→a8 P f args res)(hd:eW E o.dst)(hC:γ=true→C)(hargs:args.all PV.noOwn=true)(hres:res.ren (du σ.length [])=res)
    (next:i6 P ops r (E.putD o.dst ⟨γ,res⟩) σ k kp):oj P ops γ C f args o r E σ k kp:=yC hs hd hC hargs hres next
theorem oN.quiet{o:Oper}{v:PV}(h:∀ G a w,Sim G E σ a w→∃ val,(execOp a.eval o).run P w=.ok (.value val) w∧bg G v val):oN P E σ o v σ:=fun G a w hs=>by
  obtain ⟨val,h1,h2⟩:=h G a w hs
  exact ⟨_,val,w,G,h1,.inl rfl,rk.refl G,bG.refl _,hs.inv,h2⟩
theorem sT{G:Gh}{a:Act}{w:World}(hs:Sim G E σ a w){x:Operand}{p:PV}(h:ev E x=⟨true,p⟩):bg G p (a.eval x):=by
  have:=eG hs x
  rw [h] at this
  exact this rfl
end
def CV.mvO(b k vk w:Nat):CV→CV
  |.osl b' v lo len=>if b'=k then (if v=vk then .osl b w lo len else .junk) else .osl b' v lo len
  |.oel b' v i j=>if b'=k then (if v=vk then .oel b w i j else .junk) else .oel b' v i j
  |.optr b' off=>if b'=k then .junk else .optr b' off
  |.fn f caps=>.fn f caps
  |.junk=>.junk
  |.bool x=>.bool x
  |.int k n=>.int k n
  |.str x=>.str x
  |.nilp=>.nilp
  |.nils=>.nils
  |.nilf=>.nilf
  |.nili=>.nili
  |.emp=>.emp
  |.emn=>.emn
  |.tree s' es'=>.tree s' es'
  |.tptr s' es' i j=>.tptr s' es' i j
  |.ifc T g cs=>.ifc T g cs
def CV.mv(b k vk w:Nat):CV→CV
  |.fn f caps=>.fn f (caps.map (CV.mvO b k vk w))
  |c=>c.mvO b k vk w
def PV.mv(b k vk w:Nat):PV→PV
  |.x=>.x
  |.c y=>.c (y.mv b k vk w)
  |.a ys=>.a (ys.map (CV.mv b k vk w))
  |.t _=>.x
def OB.mv(b k vk w:Nat):OB→OB
  |.box cs=>.box (cs.map (CV.mv b k vk w))
  |.arr s' v T e=>.arr s' v T e
  |.dead=>.dead
  |.mp P k m=>.mp P k m
def Tr.mv(b k vk w:Nat):Tr→Tr
  |.nil=>.nil
  |.leaf e=>.leaf ⟨e.cond && (match e.v with|.t _=>false|_=>true),e.v.mv b k vk w⟩
  |.node a0 a1 a2 a3 a4 a5 a6 a7=>.node (a0.mv b k vk w) (a1.mv b k vk w) (a2.mv b k vk w) (a3.mv b k vk w) (a4.mv b k vk w) (a5.mv b k vk w) (a6.mv b k vk w) (a7.mv b k vk w)
def Env.mv(b k vk w:Nat)(E:Env):Env:=⟨E.n,E.na,E.t.mv b k vk w⟩
section
variable {G:Gh} {σ:List OB} {w:World} {b k sb vb sk vk:Nat} {Tb Tk:TypeId} {eb ek:List (List CV)} {ob ok:OG}
end
theorem HZ:
    ((∀ b k v w n na t, Env.mv b k v w ⟨n, na, t⟩ = ⟨n, na, t.mv b k v w⟩) ∧ (∀ b k v w, Tr.mv b k v w .nil = .nil) ∧ (∀ b k v w c y, Tr.mv b k v w (.leaf ⟨c, .c y⟩) = .leaf ⟨c, .c (y.mv b k v w)⟩) ∧ (∀ b k v w c ys, Tr.mv b k v w (.leaf ⟨c, .a ys⟩) = .leaf ⟨c, .a (ys.map (CV.mv b k v w))⟩) ∧
     (∀ b k v w c ps,Tr.mv b k v w (.leaf ⟨c,.t ps⟩)=.leaf ⟨false,.x⟩)∧(∀ b k v w c,Tr.mv b k v w (.leaf ⟨c,.x⟩)=.leaf ⟨c,.x⟩) ∧
     (∀ b k v w a0 a1 a2 a3 a4 a5 a6 a7,Tr.mv b k v w (.node a0 a1 a2 a3 a4 a5 a6 a7)=.node (a0.mv b k v w) (a1.mv b k v w) (a2.mv b k v w) (a3.mv b k v w) (a4.mv b k v w) (a5.mv b k v w) (a6.mv b k v w) (a7.mv b k v w))) ∧
    ((∀ b k v w,OB.mv b k v w .dead=.dead)∧(∀ b k v w cs,OB.mv b k v w (.box cs)=.box (cs.map (CV.mv b k v w)))∧(∀ b k v w s' v' T e,OB.mv b k v w (.arr s' v' T e)=.arr s' v' T e)∧(∀ b k v w P k' m,OB.mv b k v w (.mp P k' m)=.mp P k' m)) ∧
    ((∀ b k v w x, CV.mv b k v w (.bool x) = .bool x) ∧ (∀ b k v w q n, CV.mv b k v w (.int q n) = .int q n) ∧ (∀ b k v w x, CV.mv b k v w (.str x) = .str x) ∧ (∀ b k v w, CV.mv b k v w .nilp = .nilp) ∧ (∀ b k v w, CV.mv b k v w .nils = .nils) ∧
     (∀ b k v w,CV.mv b k v w .nilf=.nilf)∧(∀ b k v w,CV.mv b k v w .nili=.nili)∧(∀ b k v w,CV.mv b k v w .emp=.emp)∧(∀ b k v w,CV.mv b k v w .emn=.emn)∧(∀ b k v w,CV.mv b k v w .junk=.junk)∧(∀ b k v w s' e',CV.mv b k v w (.tree s' e')=.tree s' e') ∧
     (∀ b k v w s' e' i j,CV.mv b k v w (.tptr s' e' i j)=.tptr s' e' i j)∧(∀ b k v w T g cs,CV.mv b k v w (.ifc T g cs)=.ifc T g cs)) ∧
    ((∀ b k v w b' v' lo len, CV.mv b k v w (.osl b' v' lo len) = if b' = k then (if v' = v then .osl b w lo len else .junk) else .osl b' v' lo len) ∧
     (∀ b k v w b' v' i j,CV.mv b k v w (.oel b' v' i j)=if b'=k then (if v'=v then .oel b w i j else .junk) else .oel b' v' i j)∧(∀ b k v w b' off,CV.mv b k v w (.optr b' off)=if b'=k then .junk else .optr b' off) ∧
     (∀ b k v w f caps,CV.mv b k v w (.fn f caps)=.fn f (caps.map (CV.mvO b k v w)))):=by
  refine ⟨⟨?_,?_,?_,?_,?_,?_,?_⟩,⟨?_,?_,?_,?_⟩,⟨?_,?_,?_,?_,?_,?_,?_,?_,?_,?_,?_,?_,?_⟩,?_,?_,?_,?_⟩
  all_goals intros
  all_goals first|rfl|(simp [Tr.mv,PV.mv];done)
theorem oZ{E:Env}{σ:List OB}(b j s:Nat)(T:TypeId){cs:List CV}(hs:0<s)(hσ:σ[b]? = some (.box cs))(hj:cs[j]? = some .nils) :
    lE E σ E (σ.set b (.box (cs.set j (.osl σ.length 0 0 0)))++[.arr s 0 T []]):=by
  intro G a w hs'
  have hi:=hs'.inv
  have hi2:=hi.nil s T hs
  have hle:bG G.own (G.own++[some ⟨0,s,0,0,false,0⟩]):=bG.append _ _
  have hlt:b<σ.length:=(List.getElem?_eq_some_iff.1 hσ).1
  refine ⟨{ G with own:=G.own++[some ⟨0,s,0,0,false,0⟩] },.mk' ⟨fun _ _ h=>h,rfl,rfl,rfl⟩ hle,?_,hs'.defers,hs'.size,hs'.na,fun i hc=>bg.mono (G:=G) (G':={ G with own:=G.own++[some ⟨0,s,0,0,false,0⟩] }) (fun _ _ h=>h) hle (hs'.slot i hc)⟩
  have hset:σ.set b (.box (cs.set j (.osl σ.length 0 0 0)))++[.arr s 0 T []]=(σ++[OB.arr s 0 T []]).set b (.box (cs.set j (.osl σ.length 0 0 0))):=by
    rw [List.set_append_left _ _ hlt]
  rw [hset]
  refine ⟨hi2.hH,hi2.hF,hi2.HF,by simpa using hi2.len,fun x ob hx=>?_,hi2.inj,hi2.sep,hi2.os,hi2.tape,hi2.output,hi2.grow⟩
  by_cases hxb:x=b
  · subst hxb
    rw [List.getElem?_set_self (by simp;omega)] at hx
    simp only [sJ] at hx;subst hx
    obtain ⟨o,c,T',h1,h2,h3,h4,h5⟩:=hi2.own x (.box cs) (by rw [List.getElem?_append_left hlt];exact hσ)
    refine ⟨o,c,T',h1,h2,h3,h4,?_⟩
    have hlen:=h5.length
    refine aW.of_get (by simpa using hlen) fun i y v hy hv=>?_
    by_cases e:i=j
    · subst e
      have hl:i<cs.length:=(List.getElem?_eq_some_iff.1 hj).1
      rw [List.getElem?_set_self hl] at hy
      simp only [sJ] at hy;subst hy
      obtain ⟨v',hv',hr⟩:=h5.get i _ hj
      rw [hv] at hv'
      simp only [sJ] at hv';subst hv'
      exact Cf hi s (v:=v) hr
    · rw [List.getElem?_set_ne (Ne.symm e)] at hy
      obtain ⟨v',hv',hr⟩:=h5.get i _ hy
      rw [hv] at hv'
      simp only [sJ] at hv';subst hv'
      exact hr
  · rw [List.getElem?_set_ne (Ne.symm hxb)] at hx
    exact hi2.own x ob hx
def CV.dnO(b k:Nat):CV→CV
  |.osl b' v lo len=>if b'=k then .osl b v lo len else if b'=b then .junk else .osl b' v lo len
  |.oel b' v i j=>if b'=k then .oel b v i j else if b'=b then .junk else .oel b' v i j
  |.optr b' off=>if b'=k then .optr b off else if b'=b then .junk else .optr b' off
  |.fn f caps=>.fn f caps
  |.junk=>.junk
  |.bool x=>.bool x
  |.int k n=>.int k n
  |.str x=>.str x
  |.nilp=>.nilp
  |.nils=>.nils
  |.nilf=>.nilf
  |.nili=>.nili
  |.emp=>.emp
  |.emn=>.emn
  |.tree s' es'=>.tree s' es'
  |.tptr s' es' i j=>.tptr s' es' i j
  |.ifc T g cs=>.ifc T g cs
def CV.dn(b k:Nat):CV→CV
  |.fn f caps=>.fn f (caps.map (CV.dnO b k))
  |c=>c.dnO b k
def PV.dn(b k:Nat):PV→PV
  |.x=>.x
  |.c y=>.c (y.dn b k)
  |.a ys=>.a (ys.map (CV.dn b k))
  |.t _=>.x
def OB.dn(b k:Nat):OB→OB
  |.box cs=>.box (cs.map (CV.dn b k))
  |.arr s' v T e=>.arr s' v T e
  |.dead=>.dead
  |.mp P k m=>.mp P k m
def Tr.dn(b k:Nat):Tr→Tr
  |.nil=>.nil
  |.leaf e=>.leaf ⟨e.cond && (match e.v with|.t _=>false|_=>true),e.v.dn b k⟩
  |.node a0 a1 a2 a3 a4 a5 a6 a7=>.node (a0.dn b k) (a1.dn b k) (a2.dn b k) (a3.dn b k) (a4.dn b k) (a5.dn b k) (a6.dn b k) (a7.dn b k)
def Env.dn(b k:Nat)(E:Env):Env:=⟨E.n,E.na,E.t.dn b k⟩
section
variable {G:Gh} {σ:List OB} {w:World} {b k:Nat} {oo:Option OG}
end
theorem H0:
    ((∀ b k n na t, Env.dn b k ⟨n, na, t⟩ = ⟨n, na, t.dn b k⟩) ∧ (∀ b k, Tr.dn b k .nil = .nil) ∧ (∀ b k c y, Tr.dn b k (.leaf ⟨c, .c y⟩) = .leaf ⟨c, .c (y.dn b k)⟩) ∧ (∀ b k c ys, Tr.dn b k (.leaf ⟨c, .a ys⟩) = .leaf ⟨c, .a (ys.map (CV.dn b k))⟩) ∧
     (∀ b k c ps,Tr.dn b k (.leaf ⟨c,.t ps⟩)=.leaf ⟨false,.x⟩)∧(∀ b k c,Tr.dn b k (.leaf ⟨c,.x⟩)=.leaf ⟨c,.x⟩) ∧
     (∀ b k a0 a1 a2 a3 a4 a5 a6 a7,Tr.dn b k (.node a0 a1 a2 a3 a4 a5 a6 a7)=.node (a0.dn b k) (a1.dn b k) (a2.dn b k) (a3.dn b k) (a4.dn b k) (a5.dn b k) (a6.dn b k) (a7.dn b k))) ∧
    ((∀ b k,OB.dn b k .dead=.dead)∧(∀ b k cs,OB.dn b k (.box cs)=.box (cs.map (CV.dn b k)))∧(∀ b k s' v' T e,OB.dn b k (.arr s' v' T e)=.arr s' v' T e)∧(∀ b k P k' m,OB.dn b k (.mp P k' m)=.mp P k' m)) ∧
    ((∀ b k x, CV.dn b k (.bool x) = .bool x) ∧ (∀ b k q n, CV.dn b k (.int q n) = .int q n) ∧ (∀ b k x, CV.dn b k (.str x) = .str x) ∧ (∀ b k, CV.dn b k .nilp = .nilp) ∧ (∀ b k, CV.dn b k .nils = .nils) ∧
     (∀ b k,CV.dn b k .nilf=.nilf)∧(∀ b k,CV.dn b k .nili=.nili)∧(∀ b k,CV.dn b k .emp=.emp)∧(∀ b k,CV.dn b k .emn=.emn)∧(∀ b k,CV.dn b k .junk=.junk)∧(∀ b k s' e',CV.dn b k (.tree s' e')=.tree s' e') ∧
     (∀ b k s' e' i j,CV.dn b k (.tptr s' e' i j)=.tptr s' e' i j)∧(∀ b k T g cs,CV.dn b k (.ifc T g cs)=.ifc T g cs)) ∧
    ((∀ b k b' v' lo len, CV.dn b k (.osl b' v' lo len) = if b' = k then .osl b v' lo len else if b' = b then .junk else .osl b' v' lo len) ∧
     (∀ b k b' v' i j,CV.dn b k (.oel b' v' i j)=if b'=k then .oel b v' i j else if b'=b then .junk else .oel b' v' i j)∧(∀ b k b' off,CV.dn b k (.optr b' off)=if b'=k then .optr b off else if b'=b then .junk else .optr b' off) ∧
     (∀ b k f caps,CV.dn b k (.fn f caps)=.fn f (caps.map (CV.dnO b k)))):=by
  refine ⟨⟨?_,?_,?_,?_,?_,?_,?_⟩,⟨?_,?_,?_,?_⟩,⟨?_,?_,?_,?_,?_,?_,?_,?_,?_,?_,?_,?_,?_⟩,?_,?_,?_,?_⟩
  all_goals intros
  all_goals first|rfl|(simp [Tr.dn,PV.dn];done)
theorem DI{α:Type}(l:List α)(n:Nat)(h:l.length≤n):(lit l).take n=lit l:=List.take_of_length_le h
theorem zA{α β:Type}(f:α→β)(l:List α)(n:Nat)(h:l.length≤n):((lit l).map f).take n=(lit l).map f:=List.take_of_length_le (by simpa [lit] using h)
theorem dq{α:Type}{f:α→List CV}{l:List α}{n:Nat}(h:∀ x,(f x).length=n):∀ e∈l.map f,e.length=n:=by
 intro e he
 obtain ⟨x,_,rfl⟩:=List.mem_map.1 he
 exact h x
theorem Ht:(∀ y,PV.capOk (.c y)=(match y with|.fn _ _=>false|_=>true))∧(∀ b o,CV.flat (.optr b o)=false)∧(∀ b,CV.flat (.bool b)=true)∧(∀ k n,CV.flat (.int k n)=true)∧(∀ s,CV.flat (.str s)=true)∧(∀ s e,CV.flat (.tree s e)=true)∧CV.flat .nils=true∧CV.flat .nilp=true∧CV.flat .nilf=true∧CV.flat .nili=true∧CV.flat .emp=true∧(∀ b v l n,CV.flat (.osl b v l n)=false)∧(∀ b v l n,CV.flat (.oel b v l n)=false):=by
 refine ⟨?_,?_,?_,?_,?_,?_,?_,?_,?_,?_,?_,?_,?_⟩<;>intros<;>first|rfl|skip
 rename_i y;cases y<;>rfl
def bL:=(And.intro (And.intro (And.intro (And.intro (And.intro @List.mem_cons.{0} (And.intro @List.not_mem_nil.{0} @forall_eq_or_imp.{1})) (And.intro (And.intro @List.getElem?_cons_zero.{0} @List.getElem?_cons_succ.{0}) (And.intro @List.getElem?_nil.{0} @List.length_cons.{0}))) (And.intro (And.intro (And.intro @List.length_nil.{0} @List.length_map.{0,0}) (And.intro @List.set_cons_zero.{0} @List.set_cons_succ.{0})) (And.intro (And.intro @List.drop_zero.{0} @List.drop_succ_cons.{0}) (And.intro @List.take_succ_cons.{0} @List.take_zero.{0})))) (And.intro (And.intro (And.intro (And.intro @List.headD_cons.{0} @List.cons_append.{0}) (And.intro @List.nil_append.{0} @List.map_cons.{0,0})) (And.intro (And.intro @List.map_nil.{0,0} @List.tail_cons.{0}) (And.intro @List.getD_cons_zero.{0} @List.getD_cons_succ.{0}))) (And.intro (And.intro (And.intro @true_and @and_true) (And.intro @eq_self.{1} @forall_const.{1})) (And.intro (And.intro @if_true.{0} @forall_eq.{1}) (And.intro @imp_self @implies_true.{1}))))) (And.intro (And.intro (And.intro (And.intro (And.intro @true_or @or_true) (And.intro @false_or @or_false)) (And.intro (And.intro @Nat.zero_add @Nat.add_zero) (And.intro @tN @Option.map_some.{0,0}))) (And.intro (And.intro (And.intro @Option.map_none.{0,0} @beq_self_eq_true.{0}) (And.intro @Bool.true_eq_false @Bool.false_eq_true)) (And.intro (And.intro @false_implies @not_false_eq_true) (And.intro @Nat.le_refl @List.all_cons.{0})))) (And.intro (And.intro (And.intro (And.intro @List.all_nil.{0} @List.replicate_succ.{0}) (And.intro @List.replicate_zero.{0} @List.flatten_cons.{0})) (And.intro (And.intro @List.flatten_nil.{0} @List.append_nil.{0}) (And.intro @Bool.and_true @List.foldr_cons.{0,0}))) (And.intro (And.intro (And.intro @List.foldr_nil.{0,0} @Option.isSome_some.{0}) (And.intro @Option.isSome_none.{0} @eK.eq_1)) (And.intro (And.intro @eB.eq_1 @eS.eq_1) (And.intro @eL.eq_1 Ht))))))
def bM:=(And.intro (And.intro (And.intro (And.intro (And.intro EG (And.intro GN Dz)) (And.intro DA (And.intro DB HM))) (And.intro (And.intro GJ (And.intro Fp GK)) (And.intro GL (And.intro HN @Ca)))) (And.intro (And.intro (And.intro @yW (And.intro @qc Fs)) (And.intro zz (And.intro GQ GP))) (And.intro (And.intro (And.intro @ml.eq_1 @ml.eq_2) (And.intro @pk.eq_1 @wy.eq_1)) (And.intro (And.intro @wy.eq_2 @wy.eq_3) (And.intro @wy.eq_4 @wy.eq_5))))) (And.intro (And.intro (And.intro (And.intro @lK.eq_1 (And.intro @pO.eq_1 @pO.eq_3)) (And.intro @yO.eq_1 (And.intro @bnd.eq_1 @bnd.eq_2))) (And.intro (And.intro @xj.eq_1 (And.intro @xj.eq_2 @xj.eq_3)) (And.intro (And.intro @xj.eq_4 @xj.eq_5) (And.intro @xj.eq_6 @xj.eq_7)))) (And.intro (And.intro (And.intro @yx.eq_1 (And.intro @yx.eq_2 @eqC.eq_1)) (And.intro @eqC.eq_2 (And.intro @eqC.eq_3 @ik.eq_1))) (And.intro (And.intro @sm.eq_1 (And.intro @jX.eq_1 @sR.eq_1)) (And.intro (And.intro @sR.eq_2 @wz.eq_1) (And.intro @cut.eq_1 @cut.eq_2))))))
def bR:=And.intro (And.intro (And.intro @e7.eq_1 @e7.eq_2) bL) (And.intro bM (And.intro (And.intro @rE.eq_1 @rE.eq_2) (And.intro @rE.eq_3 @rE.eq_4)))
def bA:=And.intro (And.intro (And.intro (And.intro @jL.eq_1 @jL.eq_2) (And.intro @uS.eq_1 (And.intro @uS.eq_2 @uS.eq_3))) bL) (And.intro bM (And.intro (And.intro @yV.eq_1 @yV.eq_2) (And.intro @yV.eq_3 @yV.eq_4)))
def bE:=And.intro (And.intro DD GN) (And.intro Dz (And.intro DA DB))
def bS:=And.intro (And.intro qV (And.intro Fq @qc)) (And.intro bE (And.intro bL zz))
def bF:=And.intro (And.intro GM EI) (And.intro (And.intro DD Fq) (And.intro (And.intro Fp Dz) (And.intro (And.intro DA DB) (And.intro (And.intro @Ca @yW) (And.intro bL zz)))))
def bZ:=And.intro (And.intro (And.intro HO HZ) (And.intro H0 Fs)) (And.intro zz (And.intro (And.intro @qc (And.intro @DI @zA)) bE))
section
variable {P:Program} {ops:Array Oper} {E E' E1 E2:Env} {σ σ' σ1 σ2:List OB} {k:Env→List OB→Prop} {kp:PV→Env→List OB→Prop} {l:List Oper} {K:Kt} {c y:Code}
theorem em{α:Type}[Inhabited α](f:α→List CV)(xs:List α)(i:Nat)(h:i<xs.length:=by first|omega|(simp only [qc,List.length_cons,List.length_nil,List.length_append,List.length_set,List.length_replicate,List.length_map,List.length_take,List.length_drop];omega)):elt (xs.map f) i=f (xs.getD i default):=EH f xs i h
structure Bx (p:Prop):Prop where
 h:p
theorem sd{p q:Prop}(hq:q)(hp:p:=by first|omega|assumption|decide|exact dq fun _=>rfl|(intro _;omega)|rfl|exact fun e=>absurd (List.map_eq_nil_iff.1 e) (by assumption)|(and_intros<;>first|omega|assumption|decide|exact dq fun _=>rfl)):p∧q:=⟨hp,hq⟩
theorem a2{p q:Prop}(h:p)(i:q):p∧q:=⟨h,i⟩
theorem go{p q:Prop} (hq:q) (h:Bx q→p:=by
  intro hq
  simp only [bR,bT,tab,bX,reduceIte,↓reduceIte,reduceCtorEq,Int.reduceToNat,Nat.reduceDiv,Nat.reduceMod,Nat.reduceLT,Nat.reduceLeDiff,Nat.reduceAdd,Nat.reduceSub,Nat.reduceMul,Nat.reduceEqDiff,Nat.reduceBEq,Nat.reduceBNe,Nat.reduceGT]
  repeat refine sd ?_
  exact hq.1):p:=h ⟨hq⟩
theorem gox{p q F:Prop} (fx:F) (hq:q) (h:F→Bx q→p:=by
  intro fx hq
  simp only [bR,bT,tab,bX,reduceIte,↓reduceIte,reduceCtorEq,Int.reduceToNat,Nat.reduceDiv,Nat.reduceMod,Nat.reduceLT,Nat.reduceLeDiff,Nat.reduceAdd,Nat.reduceSub,Nat.reduceMul,Nat.reduceEqDiff,Nat.reduceBEq,Nat.reduceBNe,Nat.reduceGT,fx]
  repeat refine sd ?_
  exact hq.1):p:=h fx ⟨hq⟩
theorem ga{p q:Prop} (hq:q) (h:Bx q→p:=by
  intro hq
  simp only [bA,bT,tab,bX,reduceIte,↓reduceIte,reduceCtorEq,Int.reduceToNat,Nat.reduceDiv,Nat.reduceMod,Nat.reduceLT,Nat.reduceLeDiff,Nat.reduceAdd,Nat.reduceSub,Nat.reduceMul,Nat.reduceEqDiff,Nat.reduceBEq,Nat.reduceBNe,Nat.reduceGT]
  repeat refine sd ?_
  exact hq.1):p:=h ⟨hq⟩
theorem gax{p q F:Prop} (fx:F) (hq:q) (h:F→Bx q→p:=by
  intro fx hq
  simp only [bA,bT,tab,bX,reduceIte,↓reduceIte,reduceCtorEq,Int.reduceToNat,Nat.reduceDiv,Nat.reduceMod,Nat.reduceLT,Nat.reduceLeDiff,Nat.reduceAdd,Nat.reduceSub,Nat.reduceMul,Nat.reduceEqDiff,Nat.reduceBEq,Nat.reduceBNe,Nat.reduceGT,fx]
  repeat refine sd ?_
  exact hq.1):p:=h fx ⟨hq⟩
theorem gz{p q:Prop} (hq:q) (h:Bx q→p:=by
  intro hq
  simp only [bZ,bL,reduceIte,↓reduceIte,reduceCtorEq,Int.reduceToNat,Nat.reduceDiv,Nat.reduceMod,Nat.reduceLT,Nat.reduceLeDiff,Nat.reduceAdd,Nat.reduceSub,Nat.reduceMul,Nat.reduceEqDiff,Nat.reduceBEq,Nat.reduceBNe,Nat.reduceGT]
  exact hq.1):p:=h ⟨hq⟩
theorem en{p:Prop}(h:p:=by simp only [bF,bT,tab,bX,Sum.elim_inl,Sum.elim_inr,reduceIte,↓reduceIte,reduceCtorEq,Int.reduceToNat,Nat.reduceDiv,Nat.reduceMod,Nat.reduceLT,Nat.reduceLeDiff,Nat.reduceAdd,Nat.reduceSub,Nat.reduceMul,Nat.reduceEqDiff,Nat.reduceBEq,Nat.reduceBNe,Nat.reduceGT]<;>first|done|rfl|(and_intros<;>first|rfl|omega|(simp;done)|(simp [eK,eB,eS,eL];done))):p:=h
theorem ls{p:Prop}(h:p:=by simp only [bS,bX,reduceIte,↓reduceIte,reduceCtorEq,Int.reduceToNat,Nat.reduceDiv,Nat.reduceMod,Nat.reduceLT,Nat.reduceLeDiff,Nat.reduceAdd,Nat.reduceSub,Nat.reduceMul,Nat.reduceEqDiff,Nat.reduceBEq,Nat.reduceBNe,Nat.reduceGT]<;>first|done|(and_intros<;>first|rfl|(simp;done)|omega|(simp [lit,bX,eK,eB,eS,eL];done)|(simp only [qc,List.length_cons,List.length_nil,List.length_append,List.length_set,List.length_replicate,List.length_map,List.length_take,List.length_drop];omega))):p:=h
theorem ah{id:Nat} (ms:List Nat) (next:W P y K E' σ') (h:∀ (k:Env→List OB→Prop) (kp:PV→Env→List OB→Prop),k E' σ'→e7 P l.toArray l E σ (fun E σ=>k (E.forget ms) σ) kp:=by
  intro k kp hk
  refine go ?_
  exact hk):W P (.seq (.region id l.toArray false) y) K E σ:=ar ms fun k kp hk _=>h k kp (hk _ _ next)
theorem bC{id:Nat} (next:K .normal E' σ') (h:∀ (k:Env→List OB→Prop) (kp:PV→Env→List OB→Prop),k E' σ'→e7 P l.toArray l E σ k kp:=by
  intro k kp hk
  refine go ?_
  exact hk):W P (.region id l.toArray false) K E σ:=aJ fun k kp hk _=>h k kp (hk _ _ next)
theorem dx{F:Prop} (fx:F) {id:Nat} (ms:List Nat) (next:W P y K E' σ') (h:F→∀ (k:Env→List OB→Prop) (kp:PV→Env→List OB→Prop),k E' σ'→e7 P l.toArray l E σ (fun E σ=>k (E.forget ms) σ) kp:=by
  intro fx k kp hk
  refine gox fx ?_
  exact hk):W P (.seq (.region id l.toArray false) y) K E σ:=ar ms fun k kp hk _=>h fx k kp (hk _ _ next)
theorem xH{F:Prop} (fx:F) {id:Nat} (next:K .normal E' σ') (h:F→∀ (k:Env→List OB→Prop) (kp:PV→Env→List OB→Prop),k E' σ'→e7 P l.toArray l E σ k kp:=by
  intro fx k kp hk
  refine gox fx ?_
  exact hk):W P (.region id l.toArray false) K E σ:=aJ fun k kp hk _=>h fx k kp (hk _ _ next)
theorem o7(hg:lE E σ E1 σ1) (next:W P c K E2 σ2) (h:W P c K E2 σ2→W P c K E1 σ1:=by
  intro hq
  simp only [bZ,bL,reduceIte,↓reduceIte,reduceCtorEq,Int.reduceToNat,Nat.reduceDiv,Nat.reduceMod,Nat.reduceLT,Nat.reduceLeDiff,Nat.reduceAdd,Nat.reduceSub,Nat.reduceMul,Nat.reduceEqDiff,Nat.reduceBEq,Nat.reduceBNe,Nat.reduceGT]
  exact hq):W P c K E σ:=gg hg (h next)
theorem DL(next:W P c K E' σ)(h:E=E':=by simp only [bE,Nat.reduceDiv,Nat.reduceMod,Nat.reduceLT,Nat.reduceLeDiff,Nat.reduceAdd,Nat.reduceSub,Nat.reduceMul,Nat.reduceEqDiff,Nat.reduceBEq,Nat.reduceBNe,Nat.reduceGT,Int.reduceToNat];rfl):W P c K E σ:=ot h rfl next
theorem aA(next:W P c K E' σ')(h:E=E':=by simp only [bE,Nat.reduceDiv,Nat.reduceMod,Nat.reduceLT,Nat.reduceLeDiff,Nat.reduceAdd,Nat.reduceSub,Nat.reduceMul,Nat.reduceEqDiff,Nat.reduceBEq,Nat.reduceBNe,Nat.reduceGT,Int.reduceToNat];rfl)(h2:σ=σ':=by first|(dsimp only;rfl)|rfl):W P c K E σ:=ot h h2 next
theorem Hv(next:W P c K E' σ')(h:E=E':=by simp only [j9,Env.ofList,List.length_nil,List.length_cons,bE,Nat.reduceDiv,Nat.reduceMod,Nat.reduceLT,Nat.reduceLeDiff,Nat.reduceAdd,Nat.reduceSub,Nat.reduceMul,Nat.reduceEqDiff,Nat.reduceBEq,Nat.reduceBNe,Nat.reduceGT,Int.reduceToNat];rfl)(h2:σ=σ':=by rfl):W P c K E σ:=ot h h2 next
theorem qX(next:W P c K E' σ')(h:E=E':=by simp only [bE,Nat.reduceDiv,Nat.reduceMod,Nat.reduceLT,Nat.reduceLeDiff,Nat.reduceAdd,Nat.reduceSub,Nat.reduceMul,Nat.reduceEqDiff,Nat.reduceBEq,Nat.reduceBNe,Nat.reduceGT,Int.reduceToNat,List.length_cons,List.length_nil,List.length_append,List.cons_append,List.nil_append];rfl)(h2:σ=σ':=by simp only [List.length_cons,List.length_nil,List.length_append,List.cons_append,List.nil_append];rfl):W P c K E σ:=ot h h2 next
theorem lZ(σ':List OB)(next:W P c K E σ')(h:σ=σ':=by first|rfl|(simp only [List.take_of_length_le,List.length_map,List.length_append,List.length_cons,List.length_nil,List.length_replicate,List.length_set,List.map_append,List.map_cons,List.map_nil,List.map_replicate,List.map_set,Nat.le_refl,Nat.zero_add,List.nil_append,List.set_cons_zero,List.set_cons_succ,bX,eK,eB,eS,eL];done)|(simp only [List.take_of_length_le,List.length_map,List.length_append,List.length_cons,List.length_nil,List.length_replicate,List.length_set,List.map_append,List.map_cons,List.map_nil,List.map_replicate,List.map_set,Nat.le_refl,Nat.zero_add,List.nil_append,List.set_cons_zero,List.set_cons_succ,bX,eK,eB,eS,eL];rfl)|(simp;done)|(simp only [lit,List.map_append,List.map_cons,List.map_nil,List.map_set,List.map_replicate,List.nil_append,bX,eK,eB,eS,eL];done)):W P c K E σ:=ot rfl h next
theorem RP{γ:Bool}{C:Prop}{f:FuncId}{args:List PV}{o:Oper}{r:List Oper}{res:PV}(hs:γ=true→a8 P f args res)(next:i6 P ops r (E.putD o.dst ⟨γ,res⟩) σ k kp)
  (hd:eW E o.dst:=by first|trivial|exact oY rfl) (hC:γ=true→C:=by first|trivial|(intro _;first|trivial|simp [aR])|simp [aR]) (hargs:args.all PV.noOwn=true:=by exact rfl) (hres:res.ren (du σ.length [])=res:=by exact rfl):oj P ops γ C f args o r E σ k kp:=uD hs hd hC hargs hres next
theorem AP{γ:Bool}{C:Prop}{f:FuncId}{args:List PV}{o:Oper}{r:List Oper}{bs:List Bool}{res:PV}(hs:γ=true→a8 P f args res)(next:jL P ops r bs.tail (E.putD o.dst ⟨γ,res⟩) σ k)
  (hd:eW E o.dst:=by first|trivial|exact oY rfl) (hC:γ=true→C:=by first|trivial|(intro _;first|trivial|simp [aR])|simp [aR]) (hargs:args.all PV.noOwn=true:=by exact rfl) (hres:∀ n,res.ren (du n [])=res:=by exact fun _=>rfl):vx P ops γ C f args o r bs E σ k:=vy hs hd hC hargs hres next
theorem RA{C:Prop}{f:FuncId}{args:List PV}{o:Oper}{r:List Oper}{args':List PV}{σc:List OB}{post:PV→List OB→Prop}(hs:cT P f args' σc post (fun _ _=>False))(ρ:List Nat)
  (next:∀ p σ',post p σ'→ρ.length≤σ'.length→i6 P ops r (E.putD o.dst ⟨true,p.ren (du σ.length ρ)⟩) (dJ σ ρ (σ'.map (OB.ren (du σ.length ρ)))) k kp)
  (hd:eW E o.dst:=by first|trivial|exact oY rfl) (hC:C:=by first|trivial|(intro _;first|trivial|simp [aR])|simp [aR]) (hnd:ρ.Nodup:=by simp) (hlt:∀ b∈ρ,b<σ.length:=by simp)
  (hargs:args=args'.map (PV.ren (du σ.length ρ)):=by exact rfl) (hσ:ρ.map (fun b=>σ[b]?)=σc.map (fun ob=>some (ob.ren (du σ.length ρ))):=by exact rfl) (hu:fp ρ.length args':=by first|trivial|(simp [bX,eK,eB,eS,eL,qV,fp,PV.under,CV.under,bY,OB.under,dK];done)) (hub:bY ρ.length σc:=by first|trivial|(simp [bX,eK,eB,eS,eL,qV,fp,PV.under,CV.under,bY,OB.under,dK];done)) :
  oj P ops true C f args o r E σ k kp:=pB hs ρ hd hC hnd hlt hargs hσ hu hub next (fun _ _ h _=>h.elim)
theorem RS{o:Oper}{r:List Oper}{v:PV}(hx:oN P E σ o v σ')(next:i6 P ops r (E.putD o.dst ⟨true,v⟩) σ' k kp)(hg:fm ops E o.guard=some true:=by first|rfl|(simp only [bR,bT,tab,bX,reduceIte,↓reduceIte,reduceCtorEq,Int.reduceToNat,Nat.reduceDiv,Nat.reduceMod,Nat.reduceLT,Nat.reduceLeDiff,Nat.reduceAdd,Nat.reduceSub,Nat.reduceMul,Nat.reduceEqDiff,Nat.reduceBEq,Nat.reduceBNe,Nat.reduceGT];done))(hd:eW E o.dst:=by first|trivial|exact oY rfl) :
  i6 P ops (o :: r) E σ k kp:=sD hx hg hd next
end
def zM(o:Oper):Bool:=match o.op with|.alloc _=>true|_=>false
def ox(o:Oper):Oper:={ dst:=none,op:=.move (.const (.bool true)),type:=o.type,pos:=o.pos,after:=o.after,guard:=o.guard }
def xL(o:Oper):Oper:=match o.op with|.alloc _=>ox o|_=>o
def jK:List Oper→List Oper
 |[]=>[]
 |[q]=>[ox q]
 |o :: o2 :: r=>xL o :: jK (o2 :: r)
def sG:List Oper→List Oper
 |[]=>[]
 |[q]=>[q]
 |o :: o2 :: r=>match o.op with|.alloc _=>o :: sG (o2 :: r)|_=>sG (o2 :: r)
def EW(l:List Oper)(ts:List Nat)(bs:List Bool):Bool :=
 bs.getD (l.length - 1) false && decide (0<l.length) &&
 l.zipIdx.all fun (o,i) =>
  (if i+1<l.length then !zM o || (o.guard.isNone && (match o.dst with|some t=>decide (t<512) && ts.contains t && (l.zipIdx.all fun (y,j)=>j == i || y.dst != some t)|none=>false)) else o.dst.isNone && o.guard.isNone && !zM o) &&
  (match o.guard with|some (g,_)=>(match l[g]? with|some y=>!zM y|none=>true)|none=>true)
structure EY (l:List Oper) (ts:List Nat) (bs:List Bool):Prop where
 bar:bs.getD (l.length - 1) false=true
 pos:0<l.length
 al:∀ (i:Nat) (o:Oper) (T:TypeId),l[i]? = some o→i+1<l.length→o.op=.alloc T→o.guard=none∧∃ t,o.dst=some t∧t<512∧t∈ts∧∀ (j:Nat) (y:Oper),l[j]? = some y→j≠i→y.dst≠some t
 last:∀ (i:Nat) (o:Oper),l[i]? = some o→i+1=l.length→o.dst=none∧o.guard=none
 ref:∀ (i:Nat) (o:Oper) (g:Nat) (b:Bool) (y:Oper),l[i]? = some o→o.guard=some (g,b)→l[g]? = some y→∀ T,y.op≠.alloc T
theorem EZ{l:List Oper}{ts:List Nat}{bs:List Bool}(h:EW l ts bs=true):EY l ts bs:=by
 unfold EW at h
 simp only [Bool.and_eq_true,List.all_eq_true,decide_eq_true_eq] at h
 obtain ⟨⟨h1,h2⟩,h3⟩:=h
 have m:∀ (i:Nat) (o:Oper),l[i]? = some o→(o,i)∈l.zipIdx:=fun i o ho=>by
  rw [List.mem_zipIdx_iff_getElem?];simpa using ho
 refine ⟨h1,h2,?_,?_,?_⟩
 ·intro i o T ho hi hop
  have:=(h3 _ (m i o ho)).1
  simp only [iP hi,zM,hop,Bool.not_true,Bool.false_or,Bool.and_eq_true,Option.isNone_iff_eq_none] at this
  obtain ⟨g,h⟩:=this
  refine ⟨g,?_⟩
  cases hd:o.dst with
  |none=>rw [hd] at h;simp at h
  |some t =>
   rw [hd] at h
   simp only [Bool.and_eq_true,decide_eq_true_eq,List.contains_eq_mem,List.all_eq_true,Bool.or_eq_true,beq_iff_eq,bne_iff_ne] at h
   refine ⟨t,rfl,h.1.1,h.1.2,fun j y hy hji=>?_⟩
   rcases h.2 _ (m j y hy) with h|h
   ·exact (hji h).elim
   ·exact h
 ·intro i o ho hi
  have:=(h3 _ (m i o ho)).1
  simp only [iN (by omega:¬ i+1<l.length),Bool.and_eq_true,Option.isNone_iff_eq_none] at this
  exact this.1
 ·intro i o g b y ho hg hy T hop
  have:=(h3 _ (m i o ho)).2
  simp [hg,hy,zM,hop] at this
theorem pD:∀ l:List Oper,(jK l).length=l.length
 |[]=>rfl
 |[q]=>rfl
 |o :: o2 :: r=>by simp only [jK,List.length_cons];rw [pD (o2 :: r)];rfl
theorem q9:∀ (l:List Oper) (i:Nat) (o:Oper),l[i]? = some o→(jK l)[i]? = some (if i+1<l.length then xL o else ox o)
 |[],i,o,h=>by simp at h
 |[q],0,o,h=>by simp at h;subst h;rfl
 |[q],i+1,o,h=>by simp at h
 |a :: o2 :: r,0,o,h=>by simp at h;subst h;simp [jK]
 |a :: o2 :: r,i+1,o,h=>by
  have:=q9 (o2 :: r) i o (by simpa using h)
  simp only [jK,List.getElem?_cons_succ,this,List.length_cons]
  congr 1
  by_cases e:i+1<r.length+1
  ·rw [iP e,iP (by omega)]
  ·rw [iN e,iN (by omega)]
theorem uZ{o:Oper}(h:∀ T,o.op≠.alloc T):xL o=o:=by
 unfold xL
 split
 ·rename_i T e;exact (h T e).elim
 ·rfl
theorem Ck{o:Oper}{T:TypeId}(h:o.op=.alloc T):xL o=ox o:=by unfold xL;rw [h]
theorem BD(o:Oper):(xL o).after=o.after∧(xL o).guard=o.guard:=by
 unfold xL
 split<;>exact ⟨rfl,rfl⟩
theorem wa{l:List Oper}{i:Nat}{o':Oper}(h:(jK l)[i]? = some o'):∃ o,l[i]? = some o∧o'=(if i+1<l.length then xL o else ox o)∧o'.after=o.after∧o'.guard=o.guard:=by
 have hlt:i<l.length:=by rw [← pD];exact (List.getElem?_eq_some_iff.1 h).1
 have e:=q9 l i l[i] (List.getElem?_eq_getElem hlt)
 rw [h] at e
 simp only [sJ] at e
 refine ⟨l[i],List.getElem?_eq_getElem hlt,e,?_⟩
 rw [e]
 split
 ·exact BD _
 ·exact ⟨rfl,rfl⟩
theorem xN{l:List Oper}{listed:Array Bool}{i:Nat}(h:i∈Region.ready .any l.toArray listed):i∈Region.ready .any (jK l).toArray listed:=by
 obtain ⟨h1,o,ho,h2⟩:=mem_ready.1 h
 have ho':l[i]? = some o:=by simpa using ho
 have e:=q9 l i o ho'
 obtain ⟨o2,q1,q2,q3,q4⟩:=wa e
 rw [ho'] at q1
 simp only [sJ] at q1
 subst q1
 refine mem_ready.2 ⟨h1,_,by simpa using e,fun x hx=>?_⟩
 rw [q3] at hx
 exact h2 x hx
section
variable {P:Program}
theorem Oper.wp_put{o:Oper}{a:Act}{w:World}{K:Act→World→Prop}{Q:Exit→Act→World→Prop}(h:o.wp P a w K Q) :
  o.wp P a w (fun a' w'=>K a' w'∧∀ t,o.dst≠some t→a'.tmps.getD t undef=a.tmps.getD t undef) Q:=by
 have key:∀ (a1:Act) (v:Value) (t:Nat),a1.tmps=a.tmps→o.dst≠some t→(a1.put o.dst v).tmps.getD t undef=a.tmps.getD t undef:=by
  intro a1 v t h1 ht
  cases hd:o.dst with
  |none=>simp [Act.put,h1]
  |some d =>
   have hne:d≠t:=fun e=>ht (by rw [hd,e])
   simp only [Act.put,Array.getD_eq_getD_getElem?,h1]
   rw [Array.getElem?_setIfInBounds_ne hne]
 unfold Oper.wp at *
 generalize (execOp a.eval o).run P w=r at *
 cases r with
 |ok n w' =>
  cases n<;>simp only [Oper.upon] at h ⊢ <;>
   first
    |exact ⟨h,fun t ht=>key _ _ t rfl ht⟩
    |exact Calls.mono h (fun e w'' he=>by cases e<;>first|exact ⟨he,fun t ht=>key _ _ t rfl ht⟩|exact he)
    |exact Rows.mono h (fun _ _ he=>⟨he,fun t ht=>key _ _ t rfl ht⟩)
 |halt x w'=>cases x<;>simp only [Oper.upon] at h ⊢<;>exact h
theorem AH{ops:Array Oper}{Q:Exit→Act→World→Prop}{i:Nat}{o:Oper}{K:Act→World→Prop}{a:Act}{w:World}(ho:ops[i]? = some o)(h:wpOp P ops Q i K a w) :
  wpOp P ops Q i (fun a' w'=>K a' w'∧∀ t,o.dst≠some t→a'.tmps.getD t undef=a.tmps.getD t undef) a w:=by
 unfold wpOp at *
 simp only [ho] at h ⊢
 split
 ·rename_i hw;simp only [hw,if_true] at h;exact h.imp Oper.wp_put id
 ·rename_i hw
  simp only [hw] at h
  refine ⟨h,fun t ht=>?_⟩
  cases hd:o.dst with
  |none=>simp [Act.put]
  |some d =>
   have hne:d≠t:=fun e=>ht (by rw [hd,e])
   simp only [Act.put,Array.getD_eq_getD_getElem?]
   rw [Array.getElem?_setIfInBounds_ne hne]
theorem AI{l:List Oper}{ts:List Nat}{bs:List Bool}(v:EY l ts bs){i:Nat}{o:Oper}(ho:l[i]? = some o)(tmps:Array Value) :
  Region.wanted o (yielded (jK l).toArray tmps)=Region.wanted o (yielded l.toArray tmps):=by
 unfold Region.wanted
 cases hg:o.guard with
 |none=>rfl
 |some gb =>
  obtain ⟨g,b⟩:=gb
  simp only
  have:yielded (jK l).toArray tmps g=yielded l.toArray tmps g:=by
   unfold yielded
   simp only [List.getElem?_toArray]
   cases hy:l[g]? with
   |none =>
    have:(jK l)[g]? = none:=by
     rw [List.getElem?_eq_none_iff] at hy ⊢
     rw [pD];exact hy
    rw [this]
   |some y =>
    rw [q9 l g y hy]
    by_cases e:g+1<l.length
    ·rw [iP e,uZ (v.ref i o g b y ho hg hy)]
    ·rw [iN e]
     have:=(v.last g y hy (by have:=(List.getElem?_eq_some_iff.1 hy).1;omega)).1
     simp [ox,this]
  rw [this]
theorem CZ{l:List Oper}{ts:List Nat}{bs:List Bool}(v:EY l ts bs){Q:Exit→Act→World→Prop}{i:Nat}{o:Oper}{K:Act→World→Prop}{a:Act}{w:World}(ho:l[i]? = some o)(hi:i+1<l.length)(hn:∀ T,o.op≠.alloc T)
  (h:wpOp P (jK l).toArray Q i K a w):wpOp P l.toArray Q i (fun a' w'=>K a' w'∧∀ t,o.dst≠some t→a'.tmps.getD t undef=a.tmps.getD t undef) a w:=by
 have e:=q9 l i o ho
 rw [iP hi,uZ hn] at e
 have h':=AH (o:=o) (by simpa using e) h
 unfold wpOp at h' ⊢
 simp only [List.getElem?_toArray,e,ho,AI v ho] at h' ⊢
 exact h'
theorem Inv.aside{G:Gh}{σ:List OB}{w:World}(hi:Inv G σ w)(x:Obj):Inv { G with F:=fun b=>if b=w.heap.size then some x else G.F b } σ (w.alloc x):=by
 have old:∀ b,b<w.heap.size→(w.alloc x).heap[b]? = w.heap[b]? := fun b hb=>heap_alloc_old w _ hb
 constructor
 ·intro b y h;rw [old b (dD (hi.hH b y h))];exact hi.hH b y h
 ·intro b y h
  simp only at h
  by_cases e:b=w.heap.size
  ·rw [iP e] at h;rw [e,← h];exact heap_alloc_new w _
  ·rw [iN e] at h;rw [old b (dD (hi.hF b y h))];exact hi.hF b y h
 ·intro b y h
  simp only at h ⊢
  by_cases e:b=w.heap.size
  ·cases hx:G.H b with
   |none=>rfl
   |some z=>have:=dD (hi.hH _ _ hx);omega
  ·rw [iN e] at h;exact hi.HF b y h
 ·exact hi.len
 ·intro b ob h
  exact (hi.own b ob h).keep (fun _ _ h=>h) (bG.refl _) rfl fun o ho hh=>old _ (rl hi ho hh)
 ·exact hi.inj
 ·intro b o h hh
  have:=rl hi h hh
  refine ⟨(hi.sep b o h hh).1,?_⟩
  simp only
  rw [iN (by omega)]
  exact (hi.sep b o h hh).2
 ·exact hi.os
 ·exact hi.tape
 ·exact hi.output
 ·exact Nat.le_trans hi.grow (by simp)
theorem Inv.gain{G:Gh}{σ:List OB}{w:World}(hi:Inv G σ w){blk:Nat}{cs:List CV}{c:Array Value}{T:TypeId}(hA:w.heap[blk]? = some (.cells c T))(hB:G.H blk=none)(hC:G.F blk=none)
  (hD:∀ (b:Nat) (o:OG),G.own[b]? = some (some o)→o.has=true→o.blk≠blk) (h:aW (Rep G) cs c.toList):Inv { G with own:=G.own++[some ⟨blk,0,0,0,true,0⟩] } (σ++[.box cs]) w:=by
 have hle:bG G.own (G.own++[some ⟨blk,0,0,0,true,0⟩]):=bG.append _ _
 have split:∀ (b:Nat) (o':OG),(G.own++[some (⟨blk,0,0,0,true,0⟩:OG)])[b]? = some (some o')→(b<G.own.length∧G.own[b]? = some (some o'))∨(b=G.own.length∧o'=⟨blk,0,0,0,true,0⟩):=by
  intro b o' h
  rcases Nat.lt_or_ge b G.own.length with hb|hb
  ·rw [List.getElem?_append_left hb] at h;exact .inl ⟨hb,h⟩
  ·rw [List.getElem?_append_right hb] at h
   rcases Nat.eq_zero_or_pos (b - G.own.length) with e|e
   ·rw [e] at h;simp at h;exact .inr ⟨by omega,h.symm⟩
   ·rw [List.getElem?_eq_none (by simp;omega)] at h;cases h
 constructor
 ·exact hi.hH
 ·exact hi.hF
 ·exact hi.HF
 ·simp [hi.len]
 ·intro b ob' h'
  rcases Nat.lt_or_ge b σ.length with hb|hb
  ·rw [List.getElem?_append_left hb] at h'
   refine (hi.own b ob' h').keep (fun _ _ h=>h) hle ?_ fun o' ho' hh=>rfl
   exact List.getElem?_append_left (by rw [hi.len];exact hb)
  ·rw [List.getElem?_append_right hb] at h'
   rcases Nat.eq_zero_or_pos (b - σ.length) with e|e
   ·rw [e] at h';simp at h'
    have:b=σ.length:=by omega
    subst this;subst h'
    refine ⟨⟨blk,0,0,0,true,0⟩,c,T,?_,rfl,⟨rfl,rfl⟩,hA,aW.mono (R:=Rep G) (fun _ _ hr=>Rep.mono (G:=G) (G':={ G with own:=G.own++[some ⟨blk,0,0,0,true,0⟩] }) (fun _ _ h=>h) hle hr) h⟩
    show (G.own++_)[σ.length]? = _
    rw [← hi.len];simp
   ·rw [List.getElem?_eq_none (by simp;omega)] at h';cases h'
 ·intro b b' o1 o2 h1 h2 hh1 hh2 he
  rcases split b o1 h1 with ⟨hb,g1⟩|⟨hb,g1⟩<;>rcases split b' o2 h2 with ⟨hb',g2⟩|⟨hb',g2⟩
  ·exact hi.inj b b' o1 o2 g1 g2 hh1 hh2 he
  ·exact (hD b o1 g1 hh1 (by rw [he,g2])).elim
  ·exact (hD b' o2 g2 hh2 (by rw [← he,g1])).elim
  ·omega
 ·intro b o1 h1 hh1
  rcases split b o1 h1 with ⟨hb,h1⟩|⟨hb,rfl⟩
  ·exact hi.sep b o1 h1 hh1
  ·exact ⟨hB,hC⟩
 ·exact hi.os
 ·exact hi.tape
 ·exact hi.output
 ·exact hi.grow
theorem Inv.less{G:Gh}{σ:List OB}{w:World}(hi:Inv G σ w)(F:Nat→Option Obj)(h:∀ b x,F b=some x→G.F b=some x):Inv { G with F:=F } σ w:=by
 constructor
 ·exact hi.hH
 ·exact fun b x e=>hi.hF b x (h b x e)
 ·exact fun b x e=>hi.HF b x (h b x e)
 ·exact hi.len
 ·exact fun b ob e=>(hi.own b ob e).keep (fun _ _ h=>h) (bG.refl _) rfl fun _ _ _=>rfl
 ·exact hi.inj
 ·intro b o e hh
  refine ⟨(hi.sep b o e hh).1,?_⟩
  show F o.blk=none
  cases hx:F o.blk with
  |none=>rfl
  |some x=>have:=h _ _ hx;rw [(hi.sep b o e hh).2] at this;cases this
 ·exact hi.os
 ·exact hi.tape
 ·exact hi.output
 ·exact hi.grow
def H3(P:Program)(l:List Oper)(G0 G1:Gh)(listed:Array Bool)(a:Act):Prop :=
 G1.H=G0.H∧G1.own=G0.own∧G1.w0=G0.w0∧G1.na=G0.na∧(∀ b x,G0.F b=some x→G1.F b=some x) ∧
 ∃ pb:Nat→Nat,
  (∀ (i j:Nat) (o o':Oper) (T T':TypeId),l[i]? = some o→l[j]? = some o'→i+1<l.length→j+1<l.length→o.op=.alloc T→o'.op=.alloc T'→listed.getD i false=true→listed.getD j false=true→pb i=pb j→i=j) ∧
  ∀ (i:Nat) (o:Oper) (T:TypeId) (t:Nat),l[i]? = some o→i+1<l.length→o.op=.alloc T→o.dst=some t→listed.getD i false=true →
   a.tmps.getD t undef=.pointer (some ⟨pb i,0,none⟩)∧G0.F (pb i)=none∧∃ inf u,P.info? T=some inf∧inf.zero=some u∧G1.F (pb i)=some (.cells u.cells T)
def StA(P:Program)(l:List Oper)(tr:List TS)(E:Env)(σ:List OB)(G0:Gh)(listed:Array Bool)(a:Act)(w:World):Prop :=
 ∃ G1,H3 P l G0 G1 listed a∧pQ [] (jK l) tr E σ G1 listed a w
theorem m6{l:List Oper}{listed:Array Bool}(hsz:listed.size=l.length){i:Nat}(hi:i∈Region.ready .any l.toArray listed):listed.getD i false=false∧i<l.length∧∃ o,l[i]? = some o∧∀ j∈ep o,listed.getD j false=true:=by
 obtain ⟨hun,o,ho',hdeps⟩:=mem_ready.1 hi
 have ho:l[i]? = some o:=by simpa using ho'
 have hil:i<l.length:=(List.getElem?_eq_some_iff.1 ho).1
 refine ⟨?_,hil,o,ho,fun j hj=>?_⟩
 ·rw [Array.getD_eq_getD_getElem?] at hun ⊢
  rw [Array.getElem?_eq_getElem (by omega)] at hun ⊢
  simpa using hun
 ·simp only [ep,List.mem_map,List.mem_filter] at hj
  obtain ⟨e,⟨h1,h2⟩,rfl⟩:=hj
  exact hdeps e (by simpa using h1) h2
theorem StA.step{l:List Oper}{ts:List Nat}{bs ps:List Bool}{rd:List (List Nat)}{pv masks:List Nat}{E:Env}{σ:List OB}{tr:List TS}(c:xz (jK l).toArray (jK l) masks bs ps rd [])(v:EY l ts bs)(ht:lL P (jK l).toArray pv (jK l) bs ps rd [] E σ tr)
  (hE:∀ t∈ts,(E.get t).cond=false) (hz:∀ (i:Nat) (o:Oper) (T:TypeId),l[i]? = some o→i+1<l.length→o.op=.alloc T→(∃ z,mG P T=some z)∧eW E o.dst) (G0:Gh) {Q:Exit→Act→World→Prop} (listed:Array Bool) (a:Act) (w:World) (i:Nat)
  (hJ:StA P l tr E σ G0 listed a w) (hi:i∈Region.ready .any l.toArray listed) (hlt:i+1<l.length):wpOp P l.toArray Q i (StA P l tr E σ G0 (listed.setIfInBounds i true)) a w:=by
 obtain ⟨G1,⟨p1,p2,p3,p4,p5,pb,p6,p7⟩,hS⟩:=hJ
 have hsz:listed.size=l.length:=by rw [hS.1,pD]
 obtain ⟨hi0,hil,o,ho,hr⟩:=m6 hsz hi
 have hset:∀ j,(listed.setIfInBounds i true).getD j false=if j=i then true else listed.getD j false:=fun j=>yD _ _ _ (by omega)
 by_cases hn:∀ T,o.op≠.alloc T
 ·have h1:=pQ.stepQ (fz:=[]) (Q:=Q) c (jl.of ht) G1 listed a w i hS (xN hi) (by simp)
  refine wpOp_mono (fun a' w' h=>?_) (CZ v ho hlt hn h1)
  obtain ⟨h2,h3⟩:=h
  refine ⟨G1,⟨p1,p2,p3,p4,p5,pb,?_,?_⟩,h2⟩
  ·intro j k y y' T T' hy hy' hj hk hop hop' hl hl'
   rw [hset] at hl hl'
   have nj:j≠i:=fun e=>by subst e;rw [ho] at hy;simp only [sJ] at hy;subst hy;exact hn T hop
   have nk:k≠i:=fun e=>by subst e;rw [ho] at hy';simp only [sJ] at hy';subst hy';exact hn T' hop'
   rw [iN nj] at hl
   rw [iN nk] at hl'
   exact p6 j k y y' T T' hy hy' hj hk hop hop' hl hl'
  ·intro j y T t hy hj hop hd hl
   rw [hset] at hl
   have nj:j≠i:=fun e=>by subst e;rw [ho] at hy;simp only [sJ] at hy;subst hy;exact hn T hop
   rw [iN nj] at hl
   obtain ⟨q1,q2⟩:=p7 j y T t hy hj hop hd hl
   obtain ⟨_,t',g1,_,_,g4⟩:=v.al j y T hy hj hop
   rw [hd] at g1
   simp only [sJ] at g1
   subst g1
   exact ⟨(h3 t (g4 i o ho (fun e=>nj e.symm))).trans q1,q2⟩
 ·obtain ⟨T,hop⟩:∃ T,o.op=.alloc T:=Classical.byContradiction fun h=>hn fun T e=>h ⟨T,e⟩
  obtain ⟨hg,t,hd,ht512,hts,huniq⟩:=v.al i o T ho hlt hop
  obtain ⟨⟨z,hzT⟩,hdok⟩:=hz i o T ho hlt hop
  obtain ⟨hsz',hcl,G,p,hG,hp,hloud,hinv,hdef,htm,hna,hslot⟩:=hS
  obtain ⟨inf,u,e1,e2,e3,e4,_,e5⟩:=jM G hzT
  have hFG:G.F=G1.F:=hG.le.F
  have hvi:=q9 l i o ho
  rw [iP hlt,Ck hop] at hvi
  have hrun:(execOp a.eval o).run P w=.ok (.value (.pointer (some ⟨w.heap.size,0,none⟩))) (w.alloc (.cells u.cells T)):=by
   simp [execOp,hop,Instr.alloc,jd e1 e2,newVar,newRow]
  unfold wpOp
  simp only [List.getElem?_toArray,ho]
  rw [iP (by unfold Region.wanted;rw [hg])]
  left
  unfold Oper.wp
  rw [hrun]
  show StA P l tr E σ G0 (listed.setIfInBounds i true) (a.put o.dst _) _
  rw [hd]
  have hfree:∀ j y,l[j]? = some y→j+1<l.length→(∃ T,y.op=.alloc T)→listed.getD j false=true→pb j≠w.heap.size:=by
   intro j y hy hj ⟨T',hop'⟩ hl e
   obtain ⟨_,t',g1,_⟩:=v.al j y T' hy hj hop'
   obtain ⟨_,_,_,_,_,_,q⟩:=p7 j y T' t' hy hj hop' g1 hl
   rw [← hFG] at q
   have:=dD (hinv.hF _ _ q)
   omega
  have hput:∀ t',t'≠t→(a.put (some t) (.pointer (some ⟨w.heap.size,0,none⟩))).tmps.getD t' undef=a.tmps.getD t' undef:=by
   intro t' hne
   simp only [Act.put,Array.getD_eq_getD_getElem?]
   rw [Array.getElem?_setIfInBounds_ne (Ne.symm hne)]
  refine ⟨{ G1 with F:=fun b=>if b=w.heap.size then some (.cells u.cells T) else G1.F b },⟨p1,p2,p3,p4,?_,fun j=>if j=i then w.heap.size else pb j,?_,?_⟩,?_⟩
  ·intro b x hb
   have h1:=p5 b x hb
   simp only
   rw [iN]
   ·exact h1
   ·intro e
    rw [← hFG] at h1
    have:=dD (hinv.hF _ _ h1)
    omega
  ·intro j k y y' T1 T2 hy hy' hj hk hop1 hop2 hl hl' he
   rw [hset] at hl hl'
   simp only at he
   by_cases nj:j=i<;>by_cases nk:k=i
   ·omega
   ·rw [iP nj,iN nk] at he;rw [iN nk] at hl'
    exact (hfree k y' hy' hk ⟨T2,hop2⟩ hl' he.symm).elim
   ·rw [iN nj,iP nk] at he;rw [iN nj] at hl
    exact (hfree j y hy hj ⟨T1,hop1⟩ hl he).elim
   ·rw [iN nj,iN nk] at he;rw [iN nj] at hl;rw [iN nk] at hl'
    exact p6 j k y y' T1 T2 hy hy' hj hk hop1 hop2 hl hl' he
  ·intro j y T' t' hy hj hop' hd' hl
   rw [hset] at hl
   by_cases nj:j=i
   ·subst nj
    rw [ho] at hy
    simp only [sJ] at hy
    subst hy
    rw [hd] at hd'
    simp only [sJ] at hd'
    subst hd'
    rw [hop] at hop'
    simp only [Op.alloc.injEq] at hop'
    subst hop'
    simp only [if_true]
    refine ⟨?_,?_,inf,u,e1,e2,?_⟩
    ·have:t<a.tmps.size:=by
      rw [htm]
      rw [hd] at hdok
      exact hdok
     simp [Act.put,Array.getD,this]
    ·cases hx:G0.F w.heap.size with
     |none=>rfl
     |some x =>
      have h1:=p5 _ _ hx
      rw [← hFG] at h1
      have:=dD (hinv.hF _ _ h1)
      omega
    ·simp
   ·rw [iN nj] at hl
    obtain ⟨q1,q2,inf',u',q3,q4,q5⟩:=p7 j y T' t' hy hj hop' hd' hl
    simp only [iN nj]
    have hne:t'≠t:=fun e=>huniq j y hy nj (by rw [hd',e])
    refine ⟨(hput t' hne).trans q1,q2,inf',u',q3,q4,?_⟩
    rw [iN (hfree j y hy hj ⟨T',hop'⟩ hl)]
    exact q5
  ·refine ⟨by simpa using hsz',?_,{ G with F:=fun b=>if b=w.heap.size then some (.cells u.cells T) else G1.F b },p,⟨⟨hG.le.H,rfl,hG.le.w0,hG.le.na⟩,hG.own⟩,hp,?_,?_,hdef,by simpa [Act.put] using htm,hna,?_⟩
   ·intro k ok hk hdn j hj
    simp only at hdn ⊢
    rw [hset] at hdn ⊢
    by_cases e:k=i
    ·subst e;rw [hvi] at hk;simp only [sJ] at hk;subst hk
     by_cases e':j=k
     ·rw [iP e']
     ·rw [iN e'];exact hr j hj
    ·rw [iN e] at hdn
     by_cases e':j=i
     ·rw [iP e']
     ·rw [iN e'];exact hcl k ok hk hdn j hj
   ·intro j y hy hly
    rw [hset]
    by_cases e:j=i
    ·subst e;rw [hvi] at hy;simp only [sJ] at hy;subst hy;simp [ld,kG,ox] at hly
    ·rw [iN e];exact hloud j y hy hly
   ·have:=hinv.aside (.cells u.cells T)
    rw [hFG] at this
    exact this
   ·intro t' ht' hc
    have hfun:(fun k=>(listed.setIfInBounds i true).getD k false)=(fun k=>if k=i then true else listed.getD k false):=by
     funext k;exact hset k
    rw [hfun] at hc ⊢
    rw [qU t' (jK l) tr _ _ i _ hvi (by simp [ox])] at hc ⊢
    by_cases e:t'=t
    ·subst e
     have hno:∀ (j:Nat) (y:Oper),(jK l)[j]? = some y→y.dst=some t'→False:=by
      intro j y hy hyd
      obtain ⟨y0,g1,g2,_⟩:=wa hy
      by_cases ej:j+1<l.length
      ·rw [iP ej] at g2
       by_cases ha:∀ T,y0.op≠.alloc T
       ·rw [uZ ha] at g2
        subst g2
        by_cases eji:j=i
        ·subst eji;rw [ho] at g1;simp only [sJ] at g1;subst g1;exact ha T hop
        ·exact huniq j y g1 eji hyd
       ·obtain ⟨T',ha⟩:∃ T,y0.op=.alloc T:=Classical.byContradiction fun h=>ha fun T e=>h ⟨T,e⟩
        rw [Ck ha] at g2
        subst g2
        cases hyd
      ·rw [iN ej] at g2
       subst g2
       cases hyd
     have hk:io t' (jK l) tr (fun k=>listed.getD k false) (E.get t')=E.get t':=by
      rw [je t' (jK l) tr _ (fun _=>false) _ (fun j y hy hyd=>(hno j y hy hyd).elim)]
      exact kq t' (jK l) tr _ _ fun _ _ _ _=>rfl
     rw [hk,hE t' hts] at hc
     cases hc
    ·rw [hput t' e]
     exact bg.mono (fun _ _ h=>h) (bG.refl _) (hslot t' ht' hc)
theorem xO:∀ (ts:List Nat) (E:Env) (t:Nat),(∀ x∈ts,x<512)→t∈ts→((E.forget ts).get t).cond=false:=by
 have keep:∀ (ts:List Nat) (E:Env) (t:Nat),(E.get t).cond=false→((E.forget ts).get t).cond=false:=by
  intro ts
  induction ts with
  |nil=>intro E t h;exact h
  |cons i r ih =>
   intro E t h
   refine ih (E.erase i) t ?_
   cases hc:((E.erase i).get t).cond with
   |false=>rfl
   |true=>have:=Env.erase_get E i t hc;rw [this,h] at hc;cases hc
 have zap:∀ (E:Env) (i:Nat),i<512→((E.erase i).get i).cond=false:=by
  intro E i h
  unfold Env.erase Env.get
  simp only
  have hb:i / 64<8:=by omega
  rw [Tr.get_put _ _ _ _ hb,iP rfl,Tr.get_put _ _ _ _ (Nat.mod_lt _ (by decide)),iP rfl,Tr.get_put _ _ _ _ (Nat.mod_lt _ (by decide)),iP rfl]
  simp [Tr.ent]
 intro ts
 induction ts with
 |nil=>intro E t _ h;simp at h
 |cons i r ih =>
  intro E t hx h
  by_cases e:t∈r
  ·exact ih (E.erase i) t (fun x hx'=>hx x (by simp [hx'])) e
  ·have:t=i:=by simpa [e] using h
   subst this
   exact keep r _ t (zap E t (hx t (by simp)))
theorem DQ(E:Env)(d:Option Tmp)(e:Ent):(E.putD d e).n=E.n:=by cases d<;>rfl
theorem w8{E E':Env}(h:E.n=E'.n){d:Option Tmp}(hd:eW E d):eW E' d:=by
 cases d with
 |none=>trivial
 |some d=>show d<E'.n;rw [← h];exact hd
theorem wb{ops:Array Oper}{kp:PV→Env→List OB→Prop}{k:Env→List OB→Prop}:∀ (r:List Oper) (E:Env) (σ:List OB),e7 P ops (sG r) E σ k kp →
  ∀ (i:Nat) (o:Oper) (T:TypeId),(∀ (i:Nat) (o:Oper) (T:TypeId),r[i]? = some o→i+1<r.length→o.op=.alloc T→o.guard=none)→r[i]? = some o→i+1<r.length→o.op=.alloc T→(∃ z,mG P T=some z)∧eW E o.dst
 |[],E,σ,h,i,o,T,hg,ho,hi,hop=>by simp at ho
 |[q],E,σ,h,i,o,T,hg,ho,hi,hop=>by simp at hi
 |x :: o2 :: r,E,σ,h,i,o,T,hg,ho,hi,hop=>by
  have hg':∀ (i:Nat) (o:Oper) (T:TypeId),(o2 :: r)[i]? = some o→i+1<(o2 :: r).length→o.op=.alloc T→o.guard=none:=fun i o T h1 h2 h3=>hg (i+1) o T (by simpa using h1) (by simp at h2 ⊢;omega) h3
  by_cases hx:∀ T,x.op≠.alloc T
  ·have e:sG (x :: o2 :: r)=sG (o2 :: r):=by
    unfold sG
    split
    ·rename_i T' e;exact (hx T' e).elim
    ·cases r<;>rfl
   rw [e] at h
   cases i with
   |zero=>simp at ho;subst ho;exact (hx T hop).elim
   |succ i=>exact wb (o2 :: r) E σ h i o T hg' (by simpa using ho) (by simp at hi ⊢;omega) hop
  ·obtain ⟨Tx,hx⟩:∃ T,x.op=.alloc T:=Classical.byContradiction fun h=>hx fun T e=>h ⟨T,e⟩
   have e:sG (x :: o2 :: r)=x :: sG (o2 :: r):=by
    simp only [sG,hx]
   rw [e] at h
   have hgx:=hg 0 x Tx rfl (by simp) hx
   unfold e7 at h
   simp only [fm,hgx,cA,hx,pP] at h
   split at h
   ·rename_i z hz
    simp only [rE] at h
    obtain ⟨hd,_,hr⟩:=h
    cases i with
    |zero=>simp at ho;subst ho;rw [hx] at hop;simp only [Op.alloc.injEq] at hop;subst hop;exact ⟨⟨z,hz⟩,hd⟩
    |succ i =>
     obtain ⟨q1,q2⟩:=wb (o2 :: r) _ _ hr i o T hg' (by simpa using ho) (by simp at hi ⊢;omega) hop
     exact ⟨q1,w8 (DQ _ _ _) q2⟩
   ·simp only [rE] at h
theorem mat{ops:Array Oper}{pb:Nat→Nat}{kp:PV→Env→List OB→Prop}{k:Env→List OB→Prop}{a:Act}{w:World}:∀ (r:List Oper) (m:Nat) (G:Gh) (E:Env) (σ:List OB),Sim G E σ a w →
  (∀ (i : Nat) (o : Oper) (T : TypeId), r[i]? = some o → i + 1 < r.length → o.op = .alloc T → o.guard = none ∧ ∃ t, o.dst = some t ∧ a.tmps.getD t undef = .pointer (some ⟨pb (m + i), 0, none⟩) ∧ G.F (pb (m + i)) = none ∧ G.H (pb (m + i)) = none ∧
   (∀ (b:Nat) (og:OG),G.own[b]? = some (some og)→og.has=true→og.blk≠pb (m+i))∧∃ inf u,P.info? T=some inf∧inf.zero=some u∧w.heap[pb (m+i)]? = some (.cells u.cells T)) →
  (∀ (i j:Nat) (o o':Oper) (T T':TypeId),r[i]? = some o→r[j]? = some o'→i+1<r.length→j+1<r.length→o.op=.alloc T→o'.op=.alloc T'→pb (m+i)=pb (m+j)→i=j) →
  e7 P ops (sG r) E σ k kp→∀ q,r.getLast? = some q→∃ G' E' σ',Gle G G'∧Sim G' E' σ' a w∧e7 P ops [q] E' σ' k kp
 |[],m,G,E,σ,hs,hf,hdist,h,q,hq=>by simp at hq
 |[x],m,G,E,σ,hs,hf,hdist,h,q,hq=>by simp at hq;subst hq;exact ⟨G,E,σ,Gle.refl G,hs,h⟩
 |x :: o2 :: r,m,G,E,σ,hs,hf,hdist,h,q,hq=>by
  have hq':(o2 :: r).getLast? = some q:=by simpa [List.getLast?_cons_cons] using hq
  have hdist':∀ (i j:Nat) (o o':Oper) (T T':TypeId),(o2 :: r)[i]? = some o→(o2 :: r)[j]? = some o'→i+1<(o2 :: r).length→j+1<(o2 :: r).length→o.op=.alloc T→o'.op=.alloc T'→pb (m+1+i)=pb (m+1+j)→i=j:=by
   intro i j o o' T T' h1 h2 h3 h4 h5 h6 h7
   have:=hdist (i+1) (j+1) o o' T T' (by simpa using h1) (by simpa using h2) (by simp at h3 ⊢;omega) (by simp at h4 ⊢;omega) h5 h6 (by rw [show m+(i+1)=m+1+i by omega,show m+(j+1)=m+1+j by omega];exact h7)
   omega
  by_cases hx:∀ T,x.op≠.alloc T
  ·have e:sG (x :: o2 :: r)=sG (o2 :: r):=by
    unfold sG
    split
    ·rename_i T' e;exact (hx T' e).elim
    ·cases r<;>rfl
   rw [e] at h
   refine mat (o2 :: r) (m+1) G E σ hs (fun i o T h1 h2 h3=>?_) hdist' h q hq'
   have:=hf (i+1) o T (by simpa using h1) (by simp at h2 ⊢;omega) h3
   rw [show m+(i+1)=m+1+i by omega] at this
   exact this
  ·obtain ⟨Tx,hx⟩:∃ T,x.op=.alloc T:=Classical.byContradiction fun h=>hx fun T e=>h ⟨T,e⟩
   have e:sG (x :: o2 :: r)=x :: sG (o2 :: r):=by
    simp only [sG,hx]
   rw [e] at h
   obtain ⟨hgx,t,hd,g1,g2,g3,g4,inf,u,g5,g6,g7⟩:=hf 0 x Tx rfl (by simp) hx
   simp only [Nat.add_zero] at g1 g2 g3 g4 g7
   unfold e7 at h
   simp only [fm,hgx,cA,hx,pP] at h
   split at h
   ·rename_i z hz
    simp only [rE] at h
    obtain ⟨hdk,_,hr⟩:=h
    obtain ⟨inf',u',k1,k2,_,_,_,k5⟩:=jM G hz
    rw [g5] at k1;simp only [sJ] at k1;subst k1
    rw [g6] at k2;simp only [sJ] at k2;subst k2
    have hinv:=hs.inv.gain (cs:=z) g7 g3 g2 g4 (aW.mono (fun _ _ hr=>br.rep hr) k5)
    have hle:bG G.own (G.own++[some (⟨pb m,0,0,0,true,0⟩:OG)]):=bG.append _ _
    rw [hd] at hr
    have hsim:Sim { G with own:=G.own++[some ⟨pb m,0,0,0,true,0⟩] } (E.putD (some t) ⟨true,.c (.optr σ.length 0)⟩) (σ++[.box z]) a w:=by
     refine ⟨hinv,hs.defers,hs.size,hs.na,fun i hc=>?_⟩
     have hg:=Env.get_put E t i _ hc
     show bg _ ((E.put t _).get i).v _
     rw [hg]
     by_cases ei:i=t
     ·rw [iP ei,ei,g1]
      refine ⟨rfl,some ⟨pb m,0,0,0,true,0⟩,?_,fun og e _=>by simp only [sJ] at e;subst e;rfl⟩
      show (G.own++_)[σ.length]? = _
      rw [← hs.inv.len];simp
     ·rw [iN ei]
      have hc':(E.get i).cond=true:=by
       have:((E.put t ⟨true,.c (.optr σ.length 0)⟩).get i).cond=true:=hc
       rw [hg,iN ei] at this;exact this
      exact bg.mono (G:=G) (G':={ G with own:=G.own++[some ⟨pb m,0,0,0,true,0⟩] }) (fun _ _ h=>h) hle (hs.slot i hc')
    obtain ⟨G',E',σ',q1,q2,q3⟩:=mat (o2 :: r) (m+1) _ _ _ hsim (fun i o T h1 h2 h3=>by
     obtain ⟨f1,t',f2,f3,f4,f5,f6,f7⟩:=hf (i+1) o T (by simpa using h1) (by simp at h2 ⊢;omega) h3
     rw [show m+(i+1)=m+1+i by omega] at f3 f4 f5 f6 f7
     refine ⟨f1,t',f2,f3,f4,f5,fun b og hb hh=>?_,f7⟩
     rcases Nat.lt_or_ge b G.own.length with hb'|hb'
     ·rw [List.getElem?_append_left hb'] at hb;exact f6 b og hb hh
     ·rw [List.getElem?_append_right hb'] at hb
      rcases Nat.eq_zero_or_pos (b - G.own.length) with e0|e0
      ·rw [e0] at hb
       simp only [List.getElem?_cons_zero,sJ] at hb
       subst hb
       intro e1
       have:=hdist 0 (i+1) x o Tx T rfl (by simpa using h1) (by simp) (by simp at h2 ⊢;omega) hx h3 (by rw [Nat.add_zero,show m+(i+1)=m+1+i by omega];exact e1)
       omega
      ·rw [List.getElem?_eq_none (by simp;omega)] at hb;cases hb) hdist' hr q hq'
    have hGle:Gle G { G with own:=G.own++[some ⟨pb m,0,0,0,true,0⟩] }:=⟨⟨fun _ _ h=>h,rfl,rfl,rfl⟩,oV.of_le hle⟩
    exact ⟨G',E',σ',hGle.trans q1,q2,q3⟩
   ·simp only [rE] at h
theorem AJ{l:List Oper}{listed:Array Bool}{i:Nat}(h:i∈Region.ready .any (jK l).toArray listed):i∈Region.ready .any l.toArray listed:=by
 obtain ⟨h1,o,ho,h2⟩:=mem_ready.1 h
 obtain ⟨o2,q1,q2,q3,q4⟩:=wa (show (jK l)[i]? = some o by simpa using ho)
 exact mem_ready.2 ⟨h1,o2,by simpa using q1,fun x hx=>h2 x (by rw [q3];exact hx)⟩
theorem C3{l:List Oper}{i:Nat}{q:Oper}{K:Act→World→Prop}{a:Act}{w:World}(ho:(jK l)[i]? = some (ox q))(hg:q.guard=none)(h:wpOp P (jK l).toArray (fun _ _ _=>False) i K a w):K a w:=by
 unfold wpOp at h
 simp only [List.getElem?_toArray,ho] at h
 rw [iP (by unfold Region.wanted;simp [ox,hg])] at h
 rcases h with h|⟨_,_,_,h⟩
 ·unfold Oper.wp at h
  have:(execOp a.eval (ox q)).run P w=.ok (.value (.bool true)) w:=by simp [execOp,ox,Act.eval]
  rw [this] at h
  exact h
 ·exact h.elim
theorem yZ{ops:Array Oper}{Q:Exit→Act→World→Prop}{listed:Array Bool}(hr:Region.ready .any ops listed=[]):∀ (fuel:Nat) (a:Act) (w:World),Q .normal a w→wpAny P .any ops Q fuel listed a w
 |0,a,w,h=>⟨hr,h⟩
 |fuel+1,a,w,h=>⟨fun _=>h,fun i hi=>by rw [hr] at hi;simp at hi⟩
theorem E5{id:Nat}{l:List Oper}{K:Kt}{E:Env}{σ:List OB}(hm:P.follows .mixedOrders=true)(ts pv masks:List Nat)(bs ps:List Bool)(rd:List (List Nat))(hc:yE (jK l).toArray (jK l) masks bs ps rd []=true)(hv:EW l ts bs=true)(hts:∀ t∈ts,t<512){k:Env→List OB→Prop}{kp:PV→Env→List OB→Prop}(hkn:∀ E σ,k E σ→K .normal E σ)(hkp:∀ p E σ,kp p E σ→K (.panic p) E σ)
  (h:TRQ P (jK l).toArray pv (jK l) bs ps rd [] (E.forget ts) σ (fun E σ=>e7 P l.toArray (sG l) E σ k kp)):W P (.region id l.toArray true) K E σ:=fun G a w hs0=>by
 have hs:=Env.forget_sim ts hs0
 have hE:=fun t ht=>xO ts E t hts ht
 generalize E.forget ts=E1 at hs hE h
 obtain ⟨tr,ht,hk⟩:=h
 have c:=wZ hc
 have v:=EZ hv
 have hz:∀ (i:Nat) (o:Oper) (T:TypeId),l[i]? = some o→i+1<l.length→o.op=.alloc T→(∃ z,mG P T=some z)∧eW E1 o.dst:=fun i o T h1 h2 h3=>by
  obtain ⟨q1,q2⟩:=wb l _ _ hk i o T (fun i o T h1 h2 h3=>(v.al i o T h1 h2 h3).1) h1 h2 h3
  exact ⟨q1,w8 (ug (jK l) tr E1 (jK l).length).1 q2⟩
 have hpos:=v.pos
 obtain ⟨q,hq⟩:∃ q,l[l.length - 1]? = some q:=⟨_,List.getElem?_eq_getElem (by omega)⟩
 obtain ⟨hqd,hqg⟩:=v.last _ q hq (by omega)
 have hvq:=q9 l _ q hq
 rw [iN (by omega)] at hvq
 refine wp_region_any hm ?_
 have key:∀ (fuel:Nat) (listed:Array Bool) (a:Act) (w:World),listed.toList.count false≤fuel→listed.getD (l.length - 1) false=false→StA P l tr E1 σ G listed a w→wpAny P .any l.toArray (fj G K) fuel listed a w:=by
  have some_ready:∀ (listed:Array Bool) (a:Act) (w:World),listed.getD (l.length - 1) false=false→StA P l tr E1 σ G listed a w→Region.ready .any l.toArray listed≠[]:=by
   intro listed a w h1 ⟨G1,_,hS⟩ hr
   have hr':Region.ready .any (jK l).toArray listed=[]:=by
    rw [List.eq_nil_iff_forall_not_mem] at hr ⊢
    exact fun i hi=>hr i (AJ hi)
   have:=uR c hS.1 hr' (l.length - 1) (by rw [pD];omega)
   rw [h1] at this;cases this
  intro fuel
  induction fuel with
  |zero =>
   intro listed a w hf hl hJ
   exfalso
   have hsz:listed.size=l.length:=by obtain ⟨_,_,hS⟩:=hJ;rw [hS.1,pD]
   have:listed.toList[l.length - 1]? = some false:=by
    rw [Array.getD_eq_getD_getElem?,Array.getElem?_eq_getElem (by omega)] at hl
    rw [Array.getElem?_toList,Array.getElem?_eq_getElem (by omega)]
    simpa using hl
   have hpos:=List.count_pos_iff.2 (List.mem_of_getElem? this)
   omega
  |succ fuel ih =>
   intro listed a w hf hl hJ
   refine ⟨fun hr=>(some_ready listed a w hl hJ hr).elim,fun i hi=>?_⟩
   have hsz:listed.size=l.length:=by obtain ⟨_,_,hS⟩:=hJ;rw [hS.1,pD]
   obtain ⟨hi0,hil,o,ho,hr⟩:=m6 hsz hi
   have hset:∀ j,(listed.setIfInBounds i true).getD j false=if j=i then true else listed.getD j false:=fun j=>yD _ _ _ (by omega)
   by_cases hlt:i+1<l.length
   ·refine wpOp_mono (fun a' w' hJ'=>ih _ a' w' ?_ ?_ hJ') (StA.step c v ht hE hz G listed a w i hJ hi hlt)
    ·have:listed.toList[i]? = some false:=by
      rw [Array.getD_eq_getD_getElem?,Array.getElem?_eq_getElem (by omega)] at hi0
      rw [Array.getElem?_toList,Array.getElem?_eq_getElem (by omega)]
      simpa using hi0
     have hc:=qj _ _ this
     simp only [Array.toList_setIfInBounds]
     omega
    ·rw [hset,iN (by omega)];exact hl
   ·have hie:i=l.length - 1:=by omega
    subst hie
    rw [hq] at ho
    simp only [sJ] at ho
    subst ho
    obtain ⟨G1,⟨p1,p2,p3,p4,p5,pb,p6,p7⟩,hS⟩:=hJ
    have hdone:∀ (j:Nat),j<l.length - 1→listed.getD j false=true:=by
     intro j hj
     have hy:=q9 l j l[j] (List.getElem?_eq_getElem (by omega))
     have:=c.done hS.2.1 hvq hl (fun k hk=>by
      have:ep (ox q)=ep q:=rfl
      rw [this] at hk;exact hr k hk) hy (.inl (c.bar (l.length - 1) j _ _ hvq hy v.bar))
     rw [this];simp;omega
    have hst:=C3 hvq hqg (pQ.stepQ (fz:=[]) (Q:=fun _ _ _=>False) c (jl.of ht) G1 listed a w (l.length - 1) hS (xN hi) (by simp))
    have hall:∀ j,j<l.length→(listed.setIfInBounds (l.length - 1) true).getD j false=true:=by
     intro j hj
     rw [hset]
     by_cases e:j=l.length - 1
     ·rw [iP e]
     ·rw [iN e];exact hdone j (by omega)
    obtain ⟨G2,hG2,hsim⟩:=(uh (fz:=[]) (fun i=>by simp) (Q:=fun _ a' w'=>∃ G2,Gle G1 G2∧Sim G2 (cR E1 (jK l) tr (jK l).length) (bh σ tr (jK l).length) a' w') c (jl.of ht) G1 (fun G2 a' w' h1 h2=>⟨G2,h1,h2⟩) 0 (listed.setIfInBounds (l.length - 1) true) a w (by
     refine Nat.le_of_eq (List.count_eq_zero.2 fun hm=>?_)
     obtain ⟨j,hj,he⟩:=List.getElem_of_mem hm
     have hj':j<l.length:=by simpa [hsz] using hj
     have:=hall j hj'
     rw [Array.getD_eq_getD_getElem?,Array.getElem?_eq_getElem (by simpa [hsz] using hj')] at this
     rw [Array.getElem_toList] at he
     simp only [Option.getD_some] at this
     rw [he] at this;cases this) hst).2
    have hF2:G2.F=G1.F:=hG2.le.F
    have hsim':Sim { G2 with F:=G.F } (cR E1 (jK l) tr (jK l).length) (bh σ tr (jK l).length) a w :=
     ⟨hsim.inv.less G.F (fun b x hb=>by rw [hF2];exact p5 b x hb),hsim.defers,hsim.size,hsim.na,fun i hc=>bg.mono (G:=G2) (G':={ G2 with F:=G.F }) (fun _ _ h=>h) (bG.refl _) (hsim.slot i hc)⟩
    obtain ⟨G3,E3,σ3,r1,r2,r3⟩:=mat (pb:=pb) l 0 _ _ _ hsim' (fun j y T h1 h2 h3=>by
     obtain ⟨e1,t,e2,_,_,_⟩:=v.al j y T h1 h2 h3
     obtain ⟨f1,f2,inf,u,f3,f4,f5⟩:=p7 j y T t h1 h2 h3 e2 (hdone j (by omega))
     rw [← hF2] at f5
     simp only [Nat.zero_add]
     refine ⟨e1,t,e2,f1,f2,hsim.inv.HF _ _ f5,fun b og hb hh he=>?_,inf,u,f3,f4,hsim.inv.hF _ _ f5⟩
     have:=(hsim.inv.sep b og hb hh).2
     rw [he,f5] at this;cases this)
     (fun j k y y' T T' h1 h2 h3 h4 h5 h6 h7=>p6 j k y y' T T' h1 h2 h3 h4 h5 h6 (hdone j (by omega)) (hdone k (by omega)) (by simpa using h7)) hk q (by rw [List.getLast?_eq_getElem?];exact hq)
    have hGle:Gle G { G2 with F:=G.F }:=by
     refine ⟨⟨fun b x hb=>hG2.le.H b x (by rw [p1];exact hb),rfl,hG2.le.w0.trans p3,hG2.le.na.trans p4⟩,?_⟩
     have:=hG2.own
     rw [p2,p4] at this
     exact this
    have hw:=mm [q] E3 σ3 _ _ r3 G3 a w r2
    have hw':wpList P l.toArray (fj G K) [q] a w:=fC (fun e a' w' hp=>fj.back (hGle.trans r1) (fj.mono (fun x E σ hx=>by
     cases x with
     |normal=>exact hkn E σ hx
     |exit id=>exact hx.elim
     |ret=>exact hx.elim
     |panic p=>exact hkp p E σ hx) hp)) _ _ _ hw
    have hnil:Region.ready .any l.toArray (listed.setIfInBounds (l.length - 1) true)=[]:=by
     rw [List.eq_nil_iff_forall_not_mem]
     intro j hj
     obtain ⟨g1,g2,_⟩:=m6 (by simpa using hsz) hj
     rw [hall j g2] at g1;cases g1
    have hop:wpOp P l.toArray (fj G K) (l.length - 1) (fun a' w'=>fj G K .normal a' w') a w:=by
     unfold wpOp
     simp only [List.getElem?_toArray,hq]
     unfold wpList at hw'
     exact hw'
    exact wpOp_mono (fun a' w' hn=>yZ hnil fuel a' w' hn) hop
 refine key _ _ a _ (Nat.le_refl _) ?_ ?_ |> fun h=>by
  have e:(Array.replicate l.toArray.size false).toList.count false=l.toArray.size:=by simp
  rw [e] at h;exact h
 ·rw [Array.getD_eq_getD_getElem?,Array.getElem?_replicate];split<;>rfl
 ·have hfalse:∀ i,(Array.replicate l.toArray.size false).getD i false=false:=by
   intro i
   rw [Array.getD_eq_getD_getElem?,Array.getElem?_replicate]
   split<;>rfl
  refine ⟨G,⟨rfl,rfl,rfl,rfl,fun _ _ h=>h,fun _=>0,(fun i j o o' T T' _ _ _ _ _ _ h _ _=>by rw [hfalse] at h;cases h),(fun i o T t _ _ _ _ h=>by rw [hfalse] at h;cases h)⟩,?_⟩
  refine ⟨by simp [pD],(fun i o ho hd=>by simp only [hfalse] at hd;cases hd),G,0,Gle.refl G,by omega,(fun j o ho hl=>by rw [hfalse];simp),?_,hs.defers,hs.size,hs.na,fun t ht hc=>?_⟩
  ·have:bh σ tr 0=σ:=by cases tr<;>rfl
   rw [this];exact hs.inv.drawn
  ·have:io t (jK l) tr (fun i=>(Array.replicate l.toArray.size false).getD i false) (E1.get t)=E1.get t:=kq t (jK l) tr _ _ fun j o _ _=>hfalse j
   rw [this] at hc ⊢
   exact hs.slot t hc
end
end Pam
