/- The theorem on regions whose order is open: what holds in the text's order holds in every order that the edges allow. -/
import Derived.Test.YtmlmnddnklhfpaaGreatDoorBBase1
set_option linter.all false
namespace Pam
open Go
section
variable {P:Program} {ops:Array Oper}
theorem Ab{E E':Env}{ts:List Tmp}(h:∀ t∈ts,E.get t=E'.get t)(x:Operand)(hx:∀ t,x=.tmp t→t∈ts):ev E x=ev E' x:=by
 cases x with
 |tmp t=>exact h t (hx t rfl)
 |_=>rfl
theorem qN{E E':Env}(l:List Operand)(h:∀ x∈l,ev E x=ev E' x):l.map (ev E)=l.map (ev E'):=List.map_congr_left h
theorem oU{γ:Bool}{E E':Env}{σ:List OB}(op:Op)(h:∀ x∈op.operands,ev E x=ev E' x):dG P γ E σ op=dG P γ E' σ op:=by
 cases op
 case move x=>simp only [dG];rw [h x (by simp [Op.operands])]
 case assign x=>simp only [dG];rw [h x (by simp [Op.operands])]
 case pick c a b=>simp only [dG];rw [h c (by simp [Op.operands]),h a (by simp [Op.operands]),h b (by simp [Op.operands])]
 case box T x=>simp only [dG];rw [h x (by simp [Op.operands])]
 case build T parts =>
  simp only [dG,vq]
  rw [List.map_congr_left]
  intro p hp
  rw [h p.2 (by simp only [Op.operands,List.mem_toArray,List.mem_map];exact ⟨p,hp,rfl⟩)]
 case buildSlice T len parts =>
  simp only [dG,vq]
  rw [List.map_congr_left]
  intro p hp
  rw [h p.2 (by simp only [Op.operands,List.mem_toArray,List.mem_map];exact ⟨p,hp,rfl⟩)]
 case load T x=>simp only [dG];rw [h x (by simp [Op.operands])]
 case store T x y=>simp only [dG];rw [h x (by simp [Op.operands]),h y (by simp [Op.operands])]
 case nilCheck x=>simp only [dG];rw [h x (by simp [Op.operands])]
 case binOp op T x y T'=>simp only [dG];rw [h x (by simp [Op.operands]),h y (by simp [Op.operands])]
 case unOp op T x=>simp only [dG];rw [h x (by simp [Op.operands])]
 case convert s d x=>simp only [dG];rw [h x (by simp [Op.operands])]
 case fieldAddr T x i=>simp only [dG];rw [h x (by simp [Op.operands])]
 case field T x i=>simp only [dG];rw [h x (by simp [Op.operands])]
 case indexAddr T x i=>simp only [dG];rw [h x (by simp [Op.operands]),h i (by simp [Op.operands])]
 case index T x i=>simp only [dG];rw [h x (by simp [Op.operands]),h i (by simp [Op.operands])]
 case extract x i=>simp only [dG];rw [h x (by simp [Op.operands])]
 case slice T x lo hi mx =>
  simp only [dG]
  rw [h x (by simp [Op.operands])]
  have hl:∀ o:Option Operand,(∀ y,o=some y→ev E y=ev E' y)→o.map (ev E)=o.map (ev E'):=by
   intro o ho;cases o with
   |none=>rfl
   |some y=>simp [ho y rfl]
  rw [hl lo fun y hy=>h y (by simp [Op.operands,hy]),hl hi fun y hy=>h y (by simp [Op.operands,hy]),hl mx fun y hy=>h y (by simp [Op.operands,hy])]
 case makeSlice T x y=>simp only [dG];rw [h x (by simp [Op.operands]),h y (by simp [Op.operands])]
 case makeFunc fn first caps =>
  simp only [dG]
  rw [qN caps.toList fun x hx=>h x (by simp only [Op.operands,Array.mem_append];right;simpa using hx),qN first.toList fun x hx=>h x (by simp only [Op.operands,Array.mem_append];left;simpa using hx)]
 case call c =>
  simp only [dG]
  have hargs:c.args.toList.map (ev E)=c.args.toList.map (ev E'):=qN _ fun x hx=>h x (by simp only [Op.operands,Call.operands,Array.mem_append];right;simpa using hx)
  rw [hargs]
  split
  ·rename_i f hf
   rw [h f (by simp only [Op.operands,Call.operands,Array.mem_append];left;simp [hf])]
  ·rfl
  ·rfl
 all_goals rfl
theorem tq{E E':Env}(o:Oper)(h:∀ t∈o.looksAt ops,E.get t=E'.get t):gO ops E o.guard=gO ops E' o.guard:=by
 unfold gO
 cases hg:o.guard with
 |none=>rfl
 |some jw =>
  obtain ⟨j,want⟩:=jw
  simp only
  cases ho:ops[j]? with
  |none=>rfl
  |some o' =>
   simp only
   cases hd:o'.dst with
   |none=>rfl
   |some d =>
    simp only
    rw [h d (by simp [Oper.looksAt,hg,ho,hd])]
def qO:PV→Option Nat
 |.c (.optr b _)=>some b
 |.c (.osl b _ _ _)=>some b
 |.c (.oel b _ _ _)=>some b
 |_=>none
theorem Bk{σ σ':List OB}{c:CV}(h:∀ b ob,qO (.c c)=some b→σ[b]? = some ob→σ'[b]? = some ob)(ha:iU σ c):iU σ' c:=by
 cases c<;>simp only [iU] at ha ⊢
 all_goals
  split at ha
  ·rename_i hb;rw [h _ _ rfl hb];exact ha
  ·exact ha.elim
theorem Db{E:Env}{σ σ':List OB}{op:Op}{C:Prop}{v:PV}(h:dG P true E σ op=.ok C v)(hC:C)
  (hh:∀ x,(ev E x).cond=true→∀ b ob,qO (ev E x).v=some b→σ[b]? = some ob→σ'[b]? = some ob):∃ C',dG P true E σ' op=.ok C' v∧C':=by
 have al:∀ x c,(ev E x).v=.c c→aS true (ev E x)→iU σ c→iU σ' c:=fun x c hv hn ha=>Bk (fun b ob ht hb=>hh x (hn rfl) b ob (by rw [hv];exact ht) hb) ha
 have wd:∀ x b ver lo len s,(ev E x).v=.c (.osl b ver lo len)→aS true (ev E x)→ya σ b s→ya σ' b s:=by
  intro x b ver lo len s hv hn ha
  unfold ya at ha ⊢
  cases hb:σ[b]? with
  |none=>rw [hb] at ha;exact ha.elim
  |some ob=>rw [hh x (hn rfl) b ob (by rw [hv];rfl) hb];rw [hb] at ha;exact ha
 cases op
 case load T x =>
  simp only [dG,oQ] at h ⊢
  split at h
  ·rename_i b off hv
   split at h
   ·rename_i cs hb
    simp only [R.ok.injEq] at h;obtain ⟨rfl,rfl⟩:=h
    have:=hh x (hC.1 rfl) b _ (by rw [hv];rfl) hb
    exact ⟨_,by first|rfl|(simp only [hv,this];done)|(simp only [hv,this];rfl)|(simp only [this];done)|(simp only [this];rfl),hC⟩
   ·cases h
  ·rename_i s es i j hv
   exact ⟨C,by first|exact h|(simp only [hv];exact h),hC⟩
  ·rename_i b ver i j hv
   split at h
   ·rename_i s ver' T' es hb
    simp only [R.ok.injEq] at h;obtain ⟨rfl,rfl⟩:=h
    have:=hh x (hC.1 rfl) b _ (by rw [hv];rfl) hb
    exact ⟨_,by first|rfl|(simp only [hv,this];done)|(simp only [hv,this];rfl)|(simp only [this];done)|(simp only [this];rfl),hC⟩
   ·cases h
  ·cases h
 case nilCheck x =>
  simp only [dG,ki] at h ⊢
  split at h
  ·rename_i b off hv
   simp only [R.ok.injEq] at h;obtain ⟨rfl,rfl⟩:=h
   refine ⟨_,by first|rfl|(simp only [hv];done)|(simp only [hv];rfl),?_⟩
   exact ⟨hC.1,al x _ hv hC.1 hC.2⟩
  ·rename_i hv;exact ⟨C,by first|exact h|(simp only [hv];exact h),hC⟩
  ·rename_i b ver i j hv
   simp only [R.ok.injEq] at h;obtain ⟨rfl,rfl⟩:=h
   refine ⟨_,by first|rfl|(simp only [hv];done)|(simp only [hv];rfl),?_⟩
   exact ⟨hC.1,al x _ hv hC.1 hC.2⟩
  ·cases h
 case fieldAddr T x i =>
  simp only [dG,iu] at h ⊢
  split at h
  ·rename_i b off hv
   simp only [R.ok.injEq] at h;obtain ⟨rfl,rfl⟩:=h
   refine ⟨_,by first|rfl|(simp only [hv];done)|(simp only [hv];rfl),?_⟩
   exact ⟨hC.1,al x _ hv hC.1 hC.2.1,hC.2.2⟩
  ·rename_i hv;exact ⟨C,by first|exact h|(simp only [hv];exact h),hC⟩
  ·rename_i b ver k j hv
   simp only [R.ok.injEq] at h;obtain ⟨rfl,rfl⟩:=h
   refine ⟨_,by first|rfl|(simp only [hv];done)|(simp only [hv];rfl),?_⟩
   exact ⟨hC.1,al x _ hv hC.1 hC.2.1,hC.2.2⟩
  ·cases h
 case indexAddr T x i =>
  simp only [dG,gR] at h ⊢
  split at h
  ·rename_i hv hv2;exact ⟨C,by first|exact h|(simp only [hv,hv2];exact h),hC⟩
  ·rename_i b ver lo len k n hv hv2
   split at h
   ·rename_i s ver' T' es hb
    simp only [R.ok.injEq] at h;obtain ⟨rfl,rfl⟩:=h
    have:=hh x (hC.1 rfl) b _ (by rw [hv];rfl) hb
    exact ⟨_,by first|rfl|(simp only [hv,hv2,this];done)|(simp only [hv,hv2,this];rfl)|(simp only [this];done)|(simp only [this];rfl),hC⟩
   ·cases h
  ·rename_i b off k n hv hv2
   simp only [R.ok.injEq] at h;obtain ⟨rfl,rfl⟩:=h
   refine ⟨_,by first|rfl|(simp only [hv,hv2];done)|(simp only [hv,hv2];rfl),?_⟩
   exact ⟨hC.1,hC.2.1,al x _ hv hC.1 hC.2.2.1,hC.2.2.2⟩
  ·rename_i b ver k j k0 n hv hv2
   split at h
   ·rename_i s ver' T' es hb
    simp only [R.ok.injEq] at h;obtain ⟨rfl,rfl⟩:=h
    have:=hh x (hC.1 rfl) b _ (by rw [hv];rfl) hb
    exact ⟨_,by first|rfl|(simp only [hv,hv2,this];done)|(simp only [hv,hv2,this];rfl)|(simp only [this];done)|(simp only [this];rfl),hC⟩
   ·cases h
  ·rename_i hv hv2;exact ⟨C,by first|exact h|(simp only [hv,hv2];exact h),hC⟩
  ·cases h
 case slice T x lo hi mx =>
  simp only [dG,oj] at h ⊢
  split at h
  ·rename_i m hm
   exact ⟨C,by first|exact h|(simp only [hm];exact h),hC⟩
  ·rename_i hm
   split at h
   ·rename_i s es hv
    split at h
    ·rename_i e1 e2;exact ⟨C,by first|exact h|(simp only [hm,hv,e1,e2];exact h),hC⟩
    ·cases h
   ·rename_i b ver lo0 len hv
    split at h
    ·rename_i hlo
     split at h
     ·rename_i _ _ e2
      simp only [R.ok.injEq] at h;obtain ⟨rfl,rfl⟩:=h
      refine ⟨_,by first|rfl|(simp only [hm,hv,hlo,e2];done)|(simp only [hm,hv,hlo,e2];rfl),?_⟩
      exact ⟨hC.1,hC.2.1,al x _ hv hC.1 hC.2.2.1,hC.2.2.2⟩
     ·cases h
    ·rename_i q hlo
     split at h
     ·rename_i _ _ _ _ e1 e2
      simp only [R.ok.injEq] at h;obtain ⟨rfl,rfl⟩:=h
      refine ⟨_,by first|rfl|(simp only [hm,hv,hlo,e1,e2];done)|(simp only [hm,hv,hlo,e1,e2];rfl),?_⟩
      exact ⟨hC.1,hC.2.1,hC.2.2.1,al x _ hv hC.1 hC.2.2.2.1,hC.2.2.2.2.1,hC.2.2.2.2.2.1,wd x _ _ _ _ _ hv hC.1 hC.2.2.2.2.2.2.1,hC.2.2.2.2.2.2.2⟩
     ·cases h
   ·rename_i s hv
    split at h
    ·rename_i e1 e2;exact ⟨C,by first|exact h|(simp only [hm,hv,e1,e2];exact h),hC⟩
    ·cases h
   ·rename_i hv
    exact ⟨C,by first|exact h|(simp only [hm,hv];exact h),hC⟩
   ·cases h
 case call c =>
  simp only [dG] at h ⊢
  split at h
  ·unfold wh at h;split at h<;>first|cases h|(split at h<;>first|cases h|(unfold wg at h;split at h<;>cases h))
  ·rename_i b hcal
   try simp only [hcal]
   unfold jN at h ⊢
   split at h
   ·rename_i T x hts hxs
    try simp only [hts,hxs]
    have hx:∃ X,x=ev E X:=by
     have:x∈c.args.toList.map (ev E):=by rw [hxs];simp
     obtain ⟨X,_,hX⟩:=List.mem_map.1 this
     exact ⟨X,hX.symm⟩
    obtain ⟨X,rfl⟩:=hx
    unfold s8 at h ⊢
    split at h
    ·rename_i hv;exact ⟨C,by first|exact h|(simp only [hv];exact h),hC⟩
    ·rename_i b ver lo len hv
     simp only [R.ok.injEq] at h;obtain ⟨rfl,rfl⟩:=h
     refine ⟨_,by first|rfl|(simp only [hv];done)|(simp only [hv];rfl),?_⟩
     exact ⟨hC.1,al X _ hv hC.1 hC.2.1,hC.2.2⟩
    ·rename_i hv;exact ⟨C,by first|exact h|(simp only [hv];exact h),hC⟩
    ·rename_i hv;exact ⟨C,by first|exact h|(simp only [hv];exact h),hC⟩
    ·rename_i hv;exact ⟨C,by first|exact h|(simp only [hv];exact h),hC⟩
    ·rename_i hv;exact ⟨C,by first|exact h|(simp only [hv];exact h),hC⟩
    ·cases h
   ·split at h
    ·unfold nN at h
     split at h
     ·cases h
     ·split at h<;>first|cases h|(split at h<;>cases h)
    ·cases h
   ·rename_i hxs;exact ⟨C,by first|exact h|(simp only [hxs];exact h),hC⟩
   ·rename_i hxs;exact ⟨C,by first|exact h|(simp only [hxs];exact h),hC⟩
   ·cases h
  ·cases h
 all_goals first
  |exact ⟨C,h,hC⟩
  |(simp only [dG] at h;unfold oR at h;split at h<;>cases h)
  |(simp only [dG] at h;unfold yM at h;cases h)
  |(simp only [dG] at h;unfold jL at h;split at h<;>first|cases h|(split at h<;>cases h))
  |(simp only [dG] at h;unfold pV at h;split at h<;>first|cases h|(split at h<;>cases h))
  |(simp only [dG] at h;unfold kI at h;split at h<;>cases h)
  |cases h
theorem wy{E:Env}{σ σ':List OB}{γ:Bool}{op:Op}{C:Prop}{f:FuncId}{args:List PV}(h:dG P γ E σ op=.call C f args):dG P γ E σ' op=.call C f args:=by
 cases op
 case call c =>
  simp only [dG] at h ⊢
  split at h
  ·exact h
  ·unfold jN at h
   split at h
   ·unfold s8 at h;split at h<;>cases h
   ·split at h
    ·unfold nN at h
     split at h
     ·cases h
     ·split at h<;>first|cases h|(split at h<;>cases h)
    ·cases h
   ·unfold jM at h;split at h<;>cases h
   ·unfold jM at h;split at h<;>cases h
   ·cases h
  ·cases h
 case load=>simp only [dG] at h;unfold oQ at h;split at h<;>first|cases h|(split at h<;>cases h)
 case nilCheck=>simp only [dG] at h;unfold ki at h;split at h<;>cases h
 case fieldAddr=>simp only [dG] at h;unfold iu at h;split at h<;>cases h
 case indexAddr=>simp only [dG] at h;unfold gR at h;split at h<;>first|cases h|(split at h<;>cases h)
 case slice =>
  simp only [dG] at h
  unfold oj at h
  split at h
  ·split at h
   ·split at h
    ·split at h<;>cases h
    ·cases h
   ·cases h
  ·split at h<;>first|cases h|(split at h<;>first|cases h|(split at h<;>cases h))
 case alloc=>simp only [dG] at h;unfold oR at h;split at h<;>cases h
 case box=>simp only [dG] at h;unfold yM at h;cases h
 case buildSlice=>simp only [dG] at h;unfold jL at h;split at h<;>first|cases h|(split at h<;>cases h)
 case store=>simp only [dG] at h;unfold pV at h;split at h<;>first|cases h|(split at h<;>cases h)
 case makeSlice=>simp only [dG] at h;unfold kI at h;split at h<;>cases h
 all_goals exact h
end
end Pam
namespace Pam
open Go
section
variable {P:Program}
theorem Dc{G:Gh}{E:Env}{σ:List OB}{a:Act}{w:World}{C:Prop}{f:FuncId}{args:List PV}{res:PV}{K:Act→World→Prop}{Q:Exit→Act→World→Prop}(hsim:Sim G E σ a w)(o:Oper)
  (hrun:dG P true E σ o.op=.call C f args) (hC:C) (hs:cq P f args res) (hargs:args.all PV.noOwn=true) (hres:∀ n,res.ren (eO n [])=res)
  (next:∀ G' w' v,Gle G G'→cO G.own G'.own→Inv G' σ w'→bm G' res v→K (a.put o.dst v) w'):o.wp P a w K Q:=by
 have ha:args.map (PV.ren (eO σ.length []))=args∧gD 0 args:=by
  clear hs hrun
  induction args with
  |nil=>exact ⟨rfl,trivial⟩
  |cons p l ih =>
   simp only [List.all_cons,Bool.and_eq_true] at hargs
   obtain ⟨h1,h2⟩:=PV.noOwn_ren hargs.1 (eO σ.length [])
   obtain ⟨h3,h4⟩:=ih hargs.2
   exact ⟨by simp [h1,h3],h2 0,h4⟩
 obtain ⟨hf,hcall⟩:=hs
 obtain ⟨vs,e1,e2⟩:=sM hsim rfl o hrun hC hf
 have hi:=hsim.inv
 have hnd:([]:List Nat).Nodup:=List.nodup_nil
 have hlt:∀ b∈([]:List Nat),b<σ.length:=by simp
 have hci:Inv (eq G w []) [] w:=qM (σc:=[]) hi hnd hlt rfl (fun k ob h=>by simp at h) trivial
 have hown:=nF (w:=w) hi hlt
 rw [← ha.1] at e2
 have hcv:=hcall (eq G w []) w vs (by simp [eq]) rfl hci (aZ.unmapP (G:=G) (G':=eq G w []) rfl _ hown ha.2 e2)
 unfold Oper.wp
 rw [e1]
 refine hcv.mono fun e w' hr=>?_
 obtain ⟨G',σ',p,v,h1,h2,h3,h4⟩:=hr
 rcases h4 with ⟨rfl,rfl,rfl⟩|⟨_,h4⟩
 ·obtain ⟨G'',g1,g2,g3,g4⟩:=pH hi hnd hlt h1 h2 (by simp)
  have g5:=g4 _ v h3
  rw [hres] at g5
  exact next G'' w' v g1 g2 (by simpa [eX] using g3) g5
 ·exact h4.elim
theorem Bl{G:Gh}{E:Env}{σ σ2:List OB}{a:Act}{w:World}{C:Prop}{f:FuncId}{args:List PV}{res:PV}{K:Act→World→Prop}{Q:Exit→Act→World→Prop}(hsim:Sim G E σ a w)(o:Oper)
  (hrun:dG P true E σ o.op=.call C f args) (hC:C) (hs:pX P σ f args res σ2)
  (next:∀ G' w' v,Gle G G'→(∀ b o,G.H b=some o→G'.H b=some o)→cO G.own G'.own→Inv G' σ2 w'→bm G' res v→K (a.put o.dst v) w'):o.wp P a w K Q:=by
 obtain ⟨args',σc,post,pp,ρ,⟨hf,hcall⟩,hnd,hlt,hargs,hσ,hu,hub,hpost,hpp⟩:=hs
 obtain ⟨vs,e1,e2⟩:=sM hsim rfl o hrun hC hf
 have hi:=hsim.inv
 have hlen:σc.length=ρ.length:=by have:=congrArg List.length hσ;simpa using this.symm
 have hσ':∀ (k:Nat) (ob:OB),σc[k]? = some ob→∃ b,ρ[k]? = some b∧σ[b]? = some (ob.ren (eO σ.length ρ)):=by
  intro k ob h
  have hk:k<ρ.length:=by rw [← hlen];exact (List.getElem?_eq_some_iff.1 h).1
  have:=congrArg (fun l=>l[k]?) hσ
  simp only [List.getElem?_map,h,Option.map_some,List.getElem?_eq_getElem hk,sJ] at this
  exact ⟨ρ[k],List.getElem?_eq_getElem hk,this⟩
 have hci:=qM hi hnd hlt hlen hσ' hub
 have hown:=nF (w:=w) hi hlt
 rw [hargs] at e2
 have hcv:=hcall (eq G w ρ) w vs (by simp [eq,hlen]) rfl hci (aZ.unmapP (G:=G) (G':=eq G w ρ) rfl _ hown hu e2)
 unfold Oper.wp
 rw [e1]
 refine hcv.mono fun e w' hres=>?_
 obtain ⟨G',σ',p,v,h1,h2,h3,h4⟩:=hres
 have hl:ρ.length≤σ'.length:=by
  rw [← h2.len]
  rcases Nat.eq_zero_or_pos ρ.length with e0|e0
  ·omega
  ·have hlast:(eq G w ρ).own[ρ.length - 1]? = some ((eq G w ρ).own[ρ.length - 1]'(by simp [eq];omega)):=List.getElem?_eq_getElem _
   obtain ⟨oo',q1,_⟩:=h1.own _ _ (by simp [eq];omega) hlast
   have:=(List.getElem?_eq_some_iff.1 q1).1
   omega
 obtain ⟨G'',g1,g2,g3,g4⟩:=pH hi hnd hlt h1 h2 hl
 rcases h4 with ⟨rfl,h4⟩|⟨rfl,h4⟩
 ·obtain ⟨k1,k2⟩:=hpost p σ' h4 hl
  rw [k2] at g3
  have g5:=g4 p v h3
  rw [k1] at g5
  exact next G'' w' v g1 g1.le.H g2 g3 g5
 ·exact (hpp _ _ h4).elim
theorem Dd{G:Gh}{σ:List OB}{w:World}{p:PV}{v:Value}(hi:Inv G σ w)(h:bm G p v){b:Nat}(hb:qO p=some b):b<σ.length:=by
 have:∀ oo:Option OG,G.own[b]? = some oo→b<σ.length:=fun oo h=>by rw [← hi.len];exact (List.getElem?_eq_some_iff.1 h).1
 unfold qO at hb
 split at hb<;>simp only [sJ,reduceCtorEq] at hb
 ·subst hb;have h':hZ G (.optr _ _) v:=h;obtain ⟨_,oo,h1,_⟩:=h';exact this oo h1
 ·subst hb;have h':hZ G (.osl _ _ _ _) v:=h;obtain ⟨_,oo,h1,_⟩:=h';exact this oo h1
 ·subst hb;have h':hZ G (.oel _ _ _ _) v:=h;obtain ⟨_,oo,h1,_⟩:=h';exact this oo h1
def gG(E:Env):List Tmp→Env
 |[]=>⟨E.n,E.na,.nil⟩
 |t :: r=>(gG E r).put t (E.get t)
theorem mw(E:Env):∀ l,(gG E l).n=E.n∧(gG E l).na=E.na
 |[]=>⟨rfl,rfl⟩
 |_ :: r=>mw E r
theorem mZ(E:Env):∀ (l:List Tmp) (t:Tmp),(∀ x∈l,x<512)→(t∈l→(gG E l).get t=E.get t)∧(t ∉ l→((gG E l).get t).cond=false)
 |[],t,_=>⟨fun h=>by simp at h,fun _=>by simp [gG,Env.get,Tr.get,Tr.ent]⟩
 |x :: l,t,h=>by
  obtain ⟨h1,h2⟩:=mZ E l t fun y hy=>h y (by simp [hy])
  simp only [gG]
  rw [Env.get_put' _ x t _ (h x (by simp))]
  constructor
  ·intro ht
   by_cases e:t=x
   ·subst e;simp
   ·rw [iN e];exact h1 (by simpa [e] using ht)
  ·intro ht
   simp only [List.mem_cons,not_or] at ht
   rw [iN ht.1];exact h2 ht.2
theorem un:∀ (l:List Oper) (tr:List TS) (E:Env) (k:Nat),(eM E l tr k).n=E.n∧(eM E l tr k).na=E.na
 |[],tr,E,k=>by cases k<;>simp [eM]
 |o :: l,[],E,k=>by cases k<;>simp [eM]
 |o :: l,ts :: tr,E,0=>by simp [eM]
 |o :: l,ts :: tr,E,k+1=>by
  simp only [eM]
  obtain ⟨h1,h2⟩:=un l tr (E.putD o.dst ts.e) k
  rw [h1,h2]
  cases o.dst<;>exact ⟨rfl,rfl⟩
structure Chk (ops:Array Oper) (l:List Oper) (masks:List Nat) (bar:List Bool):Prop where
 mask:∀ (i:Nat) (o:Oper),l[i]? = some o→masks.getD i 0=orM masks (gY o)
 lt:∀ (i:Nat) (o:Oper),l[i]? = some o→∀ j∈gY o,j<i
 dst:∀ (i:Nat) (o:Oper),l[i]? = some o→∀ d,o.dst=some d→d<512
 look:∀ (i:Nat) (o:Oper),l[i]? = some o→∀ t∈o.looksAt ops,t<512
 loud:∀ (i j:Nat) (x y:Oper),l[i]? = some x→l[j]? = some y→kz x=true→kz y=true→nG masks i j=true
 hit:∀ (i j:Nat) (x y:Oper),l[i]? = some x→l[j]? = some y→Bj ops x y=true→nG masks i j=true
 bar:∀ (i j:Nat) (x y:Oper),l[i]? = some x→l[j]? = some y→bar.getD i false=true→nG masks i j=true
def tI(l:List Oper)(d:Nat→Bool):Prop:=∀ (i:Nat) (o:Oper),l[i]? = some o→d i=true→∀ j∈gY o,d j=true
theorem Chk.bit{ops:Array Oper}{l:List Oper}{masks:List Nat}{bar:List Bool}(c:Chk ops l masks bar){d:Nat→Bool}(hd:tI l d):∀ (i:Nat) (o:Oper),l[i]? = some o→∀ j,(masks.getD i 0).testBit j=true→j<i∧(d i=true→d j=true):=by
 intro i
 induction i using Nat.strongRecOn with
 |_ i ih =>
  intro o ho j hj
  rw [c.mask i o ho] at hj
  obtain ⟨k,hk,h⟩:=ul masks j _ hj
  have hlt:=c.lt i o ho k hk
  have hkl:k<l.length:=by have:=(List.getElem?_eq_some_iff.1 ho).1;omega
  rcases h with rfl|h
  ·exact ⟨hlt,fun hi=>hd i o ho hi k hk⟩
  ·obtain ⟨h1,h2⟩:=ih k hlt l[k] (List.getElem?_eq_getElem hkl) j h
   exact ⟨by omega,fun hi=>h2 (hd i o ho hi k hk)⟩
theorem Chk.done{ops:Array Oper}{l:List Oper}{masks:List Nat}{bar:List Bool}(c:Chk ops l masks bar){d:Nat→Bool}(hd:tI l d){i:Nat}{o:Oper}(ho:l[i]? = some o)(hi:d i=false)
  (hr:∀ j∈gY o,d j=true) {j:Nat} {y:Oper} (hy:l[j]? = some y) (hord:nG masks i j=true∨nG masks j i=true):d j=decide (j<i):=by
 by_cases e:j=i
 ·subst e;simp [hi]
 ·have hord':(masks.getD i 0).testBit j=true∨(masks.getD j 0).testBit i=true:=by
   rcases hord with h|h<;>simp only [nG,Bool.or_eq_true,beq_iff_eq] at h
   ·rcases h with (h|h)|h
    ·exact (e h.symm).elim
    ·exact .inl h
    ·exact .inr h
   ·rcases h with (h|h)|h
    ·exact (e h).elim
    ·exact .inr h
    ·exact .inl h
  rcases hord' with h|h
  ·have hlt:=(c.bit hd i o ho j h).1
   rw [c.mask i o ho] at h
   obtain ⟨k,hk,h⟩:=ul masks j _ h
   have hkl:k<l.length:=by have:=(List.getElem?_eq_some_iff.1 ho).1;have:=c.lt i o ho k hk;omega
   have hdj:d j=true:=by
    rcases h with rfl|h
    ·exact hr k hk
    ·exact (c.bit hd k l[k] (List.getElem?_eq_getElem hkl) j h).2 (hr k hk)
   rw [hdj];simp [hlt]
  ·obtain ⟨h1,h2⟩:=c.bit hd j y hy i h
   have hdj:d j=false:=by
    cases hh:d j with
    |false=>rfl
    |true=>rw [h2 hh] at hi;cases hi
   rw [hdj];simp;omega
def StJ(l:List Oper)(tr:List TS)(E:Env)(σ:List OB)(G0:Gh)(listed:Array Bool)(a:Act)(w:World):Prop :=
 listed.size=l.length∧tI l (fun i=>listed.getD i false) ∧
 ∃ G p,Gle G0 G∧p≤l.length∧(∀ (j:Nat) (o:Oper),l[j]? = some o→kz o=true→listed.getD j false=decide (j<p)) ∧
  Inv G (bt σ tr p) w∧a.defers=G.w0.ds∧a.tmps.size=E.n∧G.na=E.na ∧
  ∀ t,t<512→(jd t l tr (fun i=>listed.getD i false) (E.get t)).cond=true→bm G (jd t l tr (fun i=>listed.getD i false) (E.get t)).v (a.tmps.getD t undef)
theorem Ac(listed:Array Bool)(i j:Nat)(hi:i<listed.size):(listed.setIfInBounds i true).getD j false=if j=i then true else listed.getD j false:=by
 simp only [Array.getD_eq_getD_getElem?,Array.getElem?_setIfInBounds]
 by_cases e:i=j
 ·subst e;simp [hi]
 ·simp [e,Ne.symm e]
end
end Pam
namespace Pam
open Go
def Cc(pv:List Nat)(p:PV):Bool:=match qO p with|some b=>!pv.contains b|none=>true
def lY(pv:List Nat)(σ σ':List OB):Prop:=σ.length≤σ'.length∧∀ b,b ∉ pv→b<σ.length→σ'[b]? = σ[b]?
theorem lY.refl(pv:List Nat)(σ:List OB):lY pv σ σ:=⟨Nat.le_refl _,fun _ _ _=>rfl⟩
theorem lY.trans{pv:List Nat}{σ σ' σ'':List OB}(h:lY pv σ σ')(h':lY pv σ' σ''):lY pv σ σ'' :=
  ⟨Nat.le_trans h.1 h'.1,fun b hb hl=>(h'.2 b hb (Nat.lt_of_lt_of_le hl h.1)).trans (h.2 b hb hl)⟩
theorem lY.of_ext{pv:List Nat}{σ σ':List OB}(h:Ext σ σ'):lY pv σ σ':=by
  obtain ⟨ρ,rfl⟩:=h
  exact ⟨by simp,fun b _ hb=>List.getElem?_append_left hb⟩
def ld(lt:List Bool)(i:Nat)(o:Oper):Bool:=kz o && !(lt.getD i false)
def xP(ops:Array Oper)(l:List Oper)(masks:List Nat)(bar prv:List Bool)(rd:List (List Nat))(lt:List Bool):Bool :=
  (l.zipIdx.all fun (o,i)=>masks.getD i 0 == orM masks (gY o) && (gY o).all (·<i) &&
    (match o.dst with|some d=>decide (d<512)|none=>true) && (o.looksAt ops).all (·<512)) &&
  (l.zipIdx.all fun (x,i)=>l.zipIdx.all fun (y,j)=>(!(ld lt i x && ld lt j y) || nG masks i j) && (!(Bj ops x y) || nG masks i j) && (!(bar.getD i false) || nG masks i j)) &&
  (l.zipIdx.all fun (x,i)=>kz x || (x.looksAt ops).all (fun t=>(rd.getD i []).contains t) || l.zipIdx.all fun (_,j)=>!(prv.getD j false) || nG masks i j)
structure wz (ops:Array Oper) (l:List Oper) (masks:List Nat) (bar prv:List Bool) (rd:List (List Nat)) (lt:List Bool):Prop where
  mask:∀ (i:Nat) (o:Oper),l[i]? = some o→masks.getD i 0=orM masks (gY o)
  lts:∀ (i:Nat) (o:Oper),l[i]? = some o→∀ j∈gY o,j<i
  dst:∀ (i:Nat) (o:Oper),l[i]? = some o→∀ d,o.dst=some d→d<512
  look:∀ (i:Nat) (o:Oper),l[i]? = some o→∀ t∈o.looksAt ops,t<512
  loud:∀ (i j:Nat) (x y:Oper),l[i]? = some x→l[j]? = some y→ld lt i x=true→ld lt j y=true→nG masks i j=true
  hit:∀ (i j:Nat) (x y:Oper),l[i]? = some x→l[j]? = some y→Bj ops x y=true→nG masks i j=true
  bar:∀ (i j:Nat) (x y:Oper),l[i]? = some x→l[j]? = some y→bar.getD i false=true→nG masks i j=true
  see:∀ (i:Nat) (o:Oper),l[i]? = some o→kz o=false→(∀ t∈o.looksAt ops,t∈rd.getD i [])∨∀ j y,l[j]? = some y→prv.getD j false=true→nG masks i j=true
theorem vP{ops:Array Oper}{l:List Oper}{masks:List Nat}{bar prv:List Bool}{rd:List (List Nat)}{lt:List Bool}(h:xP ops l masks bar prv rd lt=true):wz ops l masks bar prv rd lt:=by
  unfold xP at h
  simp only [Bool.and_eq_true,List.all_eq_true] at h
  obtain ⟨⟨h1,h2⟩,h3⟩:=h
  have m:∀ (i:Nat) (o:Oper),l[i]? = some o→(o,i)∈l.zipIdx:=fun i o ho=>by
    rw [List.mem_zipIdx_iff_getElem?];simpa using ho
  constructor
  · intro i o ho;have:=h1 _ (m i o ho);simp only [Bool.and_eq_true,beq_iff_eq] at this;exact this.1.1.1
  · intro i o ho j hj
    have:=h1 _ (m i o ho)
    simp only [Bool.and_eq_true,List.all_eq_true,decide_eq_true_eq] at this
    exact this.1.1.2 j hj
  · intro i o ho d hd
    have:=h1 _ (m i o ho)
    simp only [Bool.and_eq_true,hd,decide_eq_true_eq] at this
    exact this.1.2
  · intro i o ho t ht
    have:=h1 _ (m i o ho)
    simp only [Bool.and_eq_true,List.all_eq_true,decide_eq_true_eq] at this
    exact this.2 t ht
  · intro i j x y hx hy lx ly
    have:=h2 _ (m i x hx) _ (m j y hy)
    simp only [Bool.and_eq_true,Bool.or_eq_true,Bool.not_eq_true',lx,ly] at this
    simpa using this.1.1
  · intro i j x y hx hy hh
    have:=h2 _ (m i x hx) _ (m j y hy)
    simp only [Bool.and_eq_true,Bool.or_eq_true,Bool.not_eq_true',hh] at this
    simpa using this.1.2
  · intro i j x y hx hy hh
    have:=h2 _ (m i x hx) _ (m j y hy)
    simp only [Bool.and_eq_true,Bool.or_eq_true,Bool.not_eq_true',hh] at this
    simpa using this.2
  · intro i o ho hq
    have:=h3 _ (m i o ho)
    simp only [Bool.or_eq_true,hq,Bool.false_eq_true,false_or,List.all_eq_true] at this
    rcases this with h|h
    · exact .inl fun t ht=>by simpa using h t ht
    · right
      intro j y hy hp
      have:=h _ (m j y hy)
      simpa only [hp,Bool.not_true,Bool.false_or,Bool.false_eq_true,false_or] using this
theorem wz.bit{ops:Array Oper}{l:List Oper}{masks:List Nat}{bar prv lt:List Bool}{rd:List (List Nat)}(c:wz ops l masks bar prv rd lt){d:Nat→Bool}(hd:tI l d):∀ (i:Nat) (o:Oper),l[i]? = some o→∀ j,(masks.getD i 0).testBit j=true→j<i∧(d i=true→d j=true):=by
  intro i
  induction i using Nat.strongRecOn with
  |_ i ih =>
    intro o ho j hj
    rw [c.mask i o ho] at hj
    obtain ⟨k,hk,h⟩:=ul masks j _ hj
    have hlt:=c.lts i o ho k hk
    have hkl:k<l.length:=by have:=(List.getElem?_eq_some_iff.1 ho).1;omega
    rcases h with rfl|h
    · exact ⟨hlt,fun hi=>hd i o ho hi k hk⟩
    · obtain ⟨h1,h2⟩:=ih k hlt l[k] (List.getElem?_eq_getElem hkl) j h
      exact ⟨by omega,fun hi=>h2 (hd i o ho hi k hk)⟩
theorem wz.done{ops:Array Oper}{l:List Oper}{masks:List Nat}{bar prv lt:List Bool}{rd:List (List Nat)}(c:wz ops l masks bar prv rd lt){d:Nat→Bool}(hd:tI l d){i:Nat}{o:Oper}(ho:l[i]? = some o)(hi:d i=false)
    (hr:∀ j∈gY o,d j=true) {j:Nat} {y:Oper} (hy:l[j]? = some y) (hord:nG masks i j=true∨nG masks j i=true):d j=decide (j<i):=by
  by_cases e:j=i
  · subst e;simp [hi]
  · have hord':(masks.getD i 0).testBit j=true∨(masks.getD j 0).testBit i=true:=by
      rcases hord with h|h<;>simp only [nG,Bool.or_eq_true,beq_iff_eq] at h
      · rcases h with (h|h)|h
        · exact (e h.symm).elim
        · exact .inl h
        · exact .inr h
      · rcases h with (h|h)|h
        · exact (e h).elim
        · exact .inr h
        · exact .inl h
    rcases hord' with h|h
    · have hlt:=(c.bit hd i o ho j h).1
      rw [c.mask i o ho] at h
      obtain ⟨k,hk,h⟩:=ul masks j _ h
      have hkl:k<l.length:=by have:=(List.getElem?_eq_some_iff.1 ho).1;have:=c.lts i o ho k hk;omega
      have hdj:d j=true:=by
        rcases h with rfl|h
        · exact hr k hk
        · exact (c.bit hd k l[k] (List.getElem?_eq_getElem hkl) j h).2 (hr k hk)
      rw [hdj];simp [hlt]
    · obtain ⟨h1,h2⟩:=c.bit hd j y hy i h
      have hdj:d j=false:=by
        cases hh:d j with
        |false=>rfl
        |true=>rw [h2 hh] at hi;cases hi
      rw [hdj];simp;omega
def Bm(P:Program)(ops:Array Oper)(pv:List Nat)(E:Env)(σ:List OB)(o:Oper)(bar prv:Bool)(rd:List Nat)(lt:Bool)(ts:TS):Prop :=
  gO ops E o.guard=some ts.γ∧gL E o.dst ∧
  ((lt = false ∧ ((∃ C v, dG P ts.γ E σ o.op = .ok C v ∧ C ∧ (rd.all fun t => Cc pv (E.get t).v) = true ∧ ts.e = ⟨ts.γ, v⟩ ∧ ts.σ = σ) ∨
   (ts.γ=true∧∃ C v,dG P ts.γ E σ o.op=.upd C v ts.σ∧C∧ts.e=⟨true,v⟩∧(bar=true∨Ext σ ts.σ∨(prv=true∧lY pv σ ts.σ))) ∨
   (∃ C f args r,dG P ts.γ E σ o.op=.call C f args∧(ts.γ=true→C∧cq P f args r)∧args.all PV.noOwn=true∧(∀ n,r.ren (eO n [])=r)∧ts.e=⟨ts.γ,r⟩∧ts.σ=σ) ∨
   (ts.γ=false∧ts.e=⟨true,.t []⟩∧ts.σ=σ) ∨
   (ts.γ=true∧∃ C f args p,dG P ts.γ E σ o.op=.call C f args∧C∧pX P σ f args p ts.σ∧ts.e=⟨true,p⟩∧(bar=true∨Ext σ ts.σ∨(prv=true∧lY pv σ ts.σ))) ∨
   (ts.γ=true∧kz o=true∧∃ v,(∀ E',(∀ x∈o.op.operands,ev E' x=ev E x)→∀ G a w,Sim G E' σ a w→yQ P G (execOp a.eval o) w v ts.σ)∧ts.e=⟨true,v⟩∧(bar=true∨Ext σ ts.σ∨(prv=true∧lY pv σ ts.σ))))) ∨
   (ts.γ=true∧(∃ v,(∀ E',(∀ x∈o.op.operands,ev E' x=ev E x)→∀ σ' G a w,Sim G E' σ' a w→yQ P G (execOp a.eval o) w v σ')∧ts.e=⟨true,v⟩)∧ts.σ=σ) ∨
   (ts.γ=false∧ts.e=⟨true,.t []⟩∧ts.σ=σ))
def ll(P:Program)(ops:Array Oper)(pv:List Nat):List Oper→List Bool→List Bool→List (List Nat)→List Bool→Env→List OB→List TS→Prop
  |[],_,_,_,_,_,_,tr=>tr=[]
  |o :: l,bs,ps,rd,lt,E,σ,tr=>∃ ts r,tr=ts :: r∧Bm P ops pv E σ o (bs.headD false) (ps.headD false) (rd.headD []) (lt.headD false) ts∧ll P ops pv l bs.tail ps.tail rd.tail lt.tail (E.putD o.dst ts.e) ts.σ r
def D6(P:Program)(ops:Array Oper)(pv:List Nat)(E:Env)(σ:List OB)(o:Oper)(bar prv:Bool)(rd:List Nat)(lt fz:Bool)(ts:TS):Prop :=
  (fz=true∧ts.e=⟨false,.x⟩∧ts.σ=σ)∨(fz=false∧Bm P ops pv E σ o bar prv rd lt ts)
def jA(P:Program)(ops:Array Oper)(pv:List Nat):List Oper→List Bool→List Bool→List (List Nat)→List Bool→List Bool→Env→List OB→List TS→Prop
  |[],_,_,_,_,_,_,_,tr=>tr=[]
  |o :: l,bs,ps,rd,lt,fz,E,σ,tr=>∃ ts r,tr=ts :: r∧D6 P ops pv E σ o (bs.headD false) (ps.headD false) (rd.headD []) (lt.headD false) (fz.headD false) ts∧jA P ops pv l bs.tail ps.tail rd.tail lt.tail fz.tail (E.putD o.dst ts.e) ts.σ r
theorem jA.of{P:Program}{ops:Array Oper}{pv:List Nat}:∀ {l:List Oper} {bs ps:List Bool} {rd:List (List Nat)} {lt:List Bool} {E:Env} {σ:List OB} {tr:List TS},ll P ops pv l bs ps rd lt E σ tr→jA P ops pv l bs ps rd lt [] E σ tr
  |[],_,_,_,_,_,_,_,h=>h
  |o :: l,_,_,_,_,_,_,_,⟨ts,r,h1,h2,h3⟩=>⟨ts,r,h1,.inr ⟨rfl,h2⟩,jA.of h3⟩
section
variable {P:Program} {ops:Array Oper} {pv:List Nat} {fz:List Bool}
theorem qk:∀ (l:List Bool) (i:Nat),l[i]? = some false→(l.set i true).count false+1=l.count false
  |[],i,h=>by simp at h
  |b :: l,0,h=>by
    simp only [List.getElem?_cons_zero,sJ] at h
    subst h
    simp
  |b :: l,i+1,h=>by
    have:=qk l i (by simpa using h)
    simp only [List.set_cons_succ,List.count_cons]
    omega
theorem Inv.drawn{G:Gh}{σ:List OB}{w:World}(h:Inv G σ w):Inv G σ { w with drawn:=w.drawn+1 } :=
  ⟨h.hH,h.hF,h.HF,h.len,fun b ob hb=>(h.own b ob hb).keep (fun _ _ h=>h) (cO.refl _) rfl (fun _ _ _=>rfl),h.inj,h.sep,h.os,h.tape,h.output,h.grow⟩
theorem rR{σ:List OB}{tr:List TS}(l:List Oper)(hlen:tr.length=l.length)(p:Nat):∀ (q:Nat),p≤q→q≤l.length→(∀ j,p≤j→j<q→lY pv (bt σ tr j) (bt σ tr (j+1)))→lY pv (bt σ tr p) (bt σ tr q)
  | 0, h, _, _ => by have : p = 0 := by omega
                     subst this;exact lY.refl _ _
  |q+1,h,hq,he=>by
    by_cases e:p=q+1
    · subst e;exact lY.refl _ _
    · exact (rR l hlen p q (by omega) (by omega) fun j h1 h2=>he j h1 (by omega)).trans (he q (by omega) (by omega))
theorem Bn{v:Value}{c:CV}(h:mT v=some c):qO (.c c)=none:=by
  unfold mT at h
  split at h<;>first|(cases h;rfl)|cases h
theorem D7(v:Value):qO (s7 v).v=none:=by
  unfold s7
  split
  · split<;>rfl
  · split
    · rename_i h;exact Bn h
    · rfl
theorem tJ{l:List Oper}{masks:List Nat}{bs ps lt:List Bool}{rd:List (List Nat)}(c:wz l.toArray l masks bs ps rd lt){listed:Array Bool}(hs:listed.size=l.length)(h:Region.ready .any l.toArray listed=[]):∀ i,i<l.length→listed.getD i false=true:=by
  intro i
  induction i using Nat.strongRecOn with
  |_ i ih =>
    intro hi
    cases hd:listed.getD i false with
    |true=>rfl
    |false =>
      exfalso
      have ho:=List.getElem?_eq_getElem hi
      have:i∈Region.ready .any l.toArray listed:=by
        refine mem_ready.2 ⟨?_,l[i],by simp,fun e he hb=>?_⟩
        · rw [Array.getD_eq_getD_getElem?] at hd ⊢
          rw [Array.getElem?_eq_getElem (by omega)] at hd ⊢
          simpa using hd
        · have hlt:=c.lts i _ ho e.on (by simp only [gY,List.mem_map,List.mem_filter];exact ⟨e,⟨by simpa using he,hb⟩,rfl⟩)
          exact ih e.on hlt (by omega)
      rw [h] at this;simp at this
def ot(lt:List Bool)(l:List Oper)(tr:List TS)(E:Env)(σ:List OB)(G0:Gh)(listed:Array Bool)(a:Act)(w:World):Prop :=
  listed.size=l.length∧tI l (fun i=>listed.getD i false) ∧
  ∃ G p,Gle G0 G∧p≤l.length∧(∀ (j:Nat) (o:Oper),l[j]? = some o→ld lt j o=true→listed.getD j false=decide (j<p)) ∧
    Inv G (bt σ tr p) w∧a.defers=G.w0.ds∧a.tmps.size=E.n∧G.na=E.na ∧
    ∀ t,t<512→(jd t l tr (fun i=>listed.getD i false) (E.get t)).cond=true→bm G (jd t l tr (fun i=>listed.getD i false) (E.get t)).v (a.tmps.getD t undef)
theorem jA.at:∀ {l:List Oper} {bs ps:List Bool} {rd:List (List Nat)} {lt fz:List Bool} {E:Env} {σ:List OB} {tr:List TS},jA P ops pv l bs ps rd lt fz E σ tr→tr.length=l.length ∧
    ∀ (i:Nat) (o:Oper),l[i]? = some o→∃ ts,tr[i]? = some ts∧D6 P ops pv (eM E l tr i) (bt σ tr i) o (bs.getD i false) (ps.getD i false) (rd.getD i []) (lt.getD i false) (fz.getD i false) ts∧bt σ tr (i+1)=ts.σ
  |[],bs,ps,rd,lt,fz,E,σ,tr,h=>by simp only [jA] at h;subst h;exact ⟨rfl,fun i o h=>by simp at h⟩
  |o :: l,bs,ps,rd,lt,fz,E,σ,tr,h=>by
    obtain ⟨ts,r,rfl,h1,h2⟩:=h
    obtain ⟨h3,h4⟩:=jA.at h2
    refine ⟨by simp [h3],fun i o' ho=>?_⟩
    cases i with
    |zero =>
      simp only [List.getElem?_cons_zero,sJ] at ho
      subst ho
      refine ⟨ts,rfl,?_,?_⟩
      · cases bs<;>cases ps<;>cases rd<;>cases lt<;>cases fz<;>exact h1
      · cases r<;>rfl
    |succ i =>
      obtain ⟨ts',k1,k2,k3⟩:=h4 i o' (by simpa using ho)
      refine ⟨ts',by simpa using k1,?_,?_⟩
      · cases bs<;>cases ps<;>cases rd<;>cases lt<;>cases fz<;>simpa [eM,bt] using k2
      · simpa [bt] using k3
theorem rS{l:List Oper}{bs ps:List Bool}{rd:List (List Nat)}{lt:List Bool}{E:Env}{σ:List OB}{tr:List TS}(ht:jA P ops pv l bs ps rd lt fz E σ tr){j:Nat}{o:Oper}(ho:l[j]? = some o)(hq:ld lt j o=false):bt σ tr (j+1)=bt σ tr j:=by
  obtain ⟨_,h⟩:=ht.at
  obtain ⟨ts,_,h2,h3⟩:=h j o ho
  rw [h3]
  rcases h2 with ⟨_,_,h2⟩|⟨_,h2⟩
  · exact h2
  rcases h2.2.2 with ⟨hlt,h2⟩|⟨_,_,h⟩|⟨_,_,h⟩
  rotate_left
  · exact h
  · exact h
  have hq:kz o=false:=by unfold ld at hq;rw [hlt] at hq;simpa using hq
  obtain ⟨q1,q2⟩:=tH (P:=P) (γ:=ts.γ) (E:=eM E l tr j) (σ:=bt σ tr j) hq
  rcases h2 with ⟨_,_,_,_,_,_,h⟩|⟨_,C,v,h,_⟩|⟨C,f,args,r,h,_⟩|⟨_,_,h⟩|⟨_,C,f,args,p,h,_⟩|⟨_,h,_⟩
  · exact h
  · exact (q1 _ _ _ h).elim
  · exact (q2 _ _ _ h).elim
  · exact h
  · exact (q2 _ _ _ h).elim
  · rw [hq] at h;cases h
theorem oV{l:List Oper}{bs ps:List Bool}{rd:List (List Nat)}{lt:List Bool}{E:Env}{σ:List OB}{tr:List TS}(ht:jA P ops pv l bs ps rd lt fz E σ tr){p q:Nat}(hpq:p≤q)(hq:q≤l.length)
    (h:∀ (j:Nat) (o:Oper),l[j]? = some o→p≤j→j<q→ld lt j o=false):bt σ tr q=bt σ tr p:=by
  induction q with
  | zero => have : p = 0 := by omega
            subst this;rfl
  |succ q ih =>
    by_cases e:p=q+1
    · subst e;rfl
    · have hl:q<l.length:=by omega
      rw [rS ht (List.getElem?_eq_getElem hl) (h q _ (List.getElem?_eq_getElem hl) (by omega) (by omega))]
      exact ih (by omega) (by omega) fun j o ho h1 h2=>h j o ho h1 (by omega)
theorem wA{l:List Oper}{bs ps:List Bool}{rd:List (List Nat)}{lt:List Bool}{E:Env}{σ:List OB}{tr:List TS}(ht:jA P ops pv l bs ps rd lt fz E σ tr){j:Nat}{o:Oper}(ho:l[j]? = some o)(hb:bs.getD j false=false) :
    (ps.getD j false=false→Ext (bt σ tr j) (bt σ tr (j+1)))∧lY pv (bt σ tr j) (bt σ tr (j+1)):=by
  obtain ⟨_,h⟩:=ht.at
  obtain ⟨ts,_,h2,h3⟩:=h j o ho
  rw [h3]
  have same:∀ σ':List OB,σ'=bt σ tr j→(ps.getD j false=false→Ext (bt σ tr j) σ')∧lY pv (bt σ tr j) σ':=fun σ' e=>by
    subst e;exact ⟨fun _=>⟨[],by simp⟩,lY.refl _ _⟩
  have ext:Ext (bt σ tr j) ts.σ→(ps.getD j false=false→Ext (bt σ tr j) ts.σ)∧lY pv (bt σ tr j) ts.σ:=fun e=>⟨fun _=>e,.of_ext e⟩
  rcases h2 with ⟨_,_,h2⟩|⟨_,h2⟩
  · exact same _ h2
  rcases h2.2.2 with ⟨_,h2⟩|⟨_,_,h⟩|⟨_,_,h⟩
  rotate_left
  · exact same _ h
  · exact same _ h
  rcases h2 with ⟨_,_,_,_,_,_,h⟩|⟨_,C,v,h,_,_,h'⟩|⟨C,f,args,r,h,_,_,_,_,h'⟩|⟨_,_,h'⟩|⟨_,C,f,args,p,h,_,_,_,h'⟩|⟨_,_,v,_,_,h'⟩
  · exact same _ h
  · rcases h' with h'|h'|⟨h',h''⟩
    · rw [hb] at h';cases h'
    · exact ext h'
    · exact ⟨fun hp=>by (rw [hp] at h';cases h'),h''⟩
  · exact same _ h'
  · exact same _ h'
  · rcases h' with h'|h'|⟨h',h''⟩
    · rw [hb] at h';cases h'
    · exact ext h'
    · exact ⟨fun hp=>by (rw [hp] at h';cases h'),h''⟩
  · rcases h' with h'|h'|⟨h',h''⟩
    · rw [hb] at h';cases h'
    · exact ext h'
    · exact ⟨fun hp=>by (rw [hp] at h';cases h'),h''⟩
theorem ot.stepQ{l:List Oper}{bs ps:List Bool}{rd:List (List Nat)}{lt:List Bool}{masks:List Nat}{E:Env}{σ:List OB}{tr:List TS}(c:wz l.toArray l masks bs ps rd lt)(ht:jA P l.toArray pv l bs ps rd lt fz E σ tr)(G0:Gh){Q:Exit→Act→World→Prop}(listed:Array Bool)(a:Act)(w:World)(i:Nat)
    (hJ:ot lt l tr E σ G0 listed a w) (hready:i∈Region.ready .any l.toArray listed) (hfi:fz.getD i false=false):wpOp P l.toArray Q i (ot lt l tr E σ G0 (listed.setIfInBounds i true)) a w:=by
  obtain ⟨hsz,hcl,G,p,hG,hp,hloud,hinv,hdef,htm,hna,hslot⟩:=hJ
  obtain ⟨hun,o,ho',hdeps⟩:=mem_ready.1 hready
  have ho:l[i]? = some o:=by simpa using ho'
  have hil:i<l.length:=(List.getElem?_eq_some_iff.1 ho).1
  have hi0:listed.getD i false=false:=by
    rw [Array.getD_eq_getD_getElem?] at hun ⊢
    rw [Array.getElem?_eq_getElem (by omega)] at hun ⊢
    simpa using hun
  have hr:∀ j∈gY o,listed.getD j false=true:=by
    intro j hj
    simp only [gY,List.mem_map,List.mem_filter] at hj
    obtain ⟨e,⟨h1,h2⟩,rfl⟩:=hj
    exact hdeps e (by simpa using h1) h2
  have hdone:=fun {j:Nat} {y:Oper} (hy:l[j]? = some y) (hord:nG masks i j=true∨nG masks j i=true)=>c.done hcl ho hi0 hr hy hord
  obtain ⟨htl,hat⟩:=ht.at
  obtain ⟨ts,hts,hz,hnext⟩:=hat i o ho
  obtain ⟨_,hguard,hdst,hstep⟩:=hz.resolve_left fun h=>by rw [hfi] at h;cases h.1
  have hcl':tI l (fun k=>(listed.setIfInBounds i true).getD k false):=by
    intro k ok hk hd j hj
    simp only at hd ⊢
    rw [Ac _ _ _ (by omega)] at hd ⊢
    by_cases e:k=i
    · subst e;rw [ho] at hk;simp only [sJ] at hk;subst hk
      by_cases e':j=k
      · rw [iP e']
      · rw [iN e'];exact hr j hj
    · rw [iN e] at hd
      by_cases e':j=i
      · rw [iP e']
      · rw [iN e'];exact hcl k ok hk hd j hj
  have hsz':(listed.setIfInBounds i true).size=l.length:=by simpa using hsz
  have hEn:=un l tr E i
  have hlook:=c.look i o ho
  have hreads:∀ t∈o.looksAt l.toArray,(eM E l tr i).get t=jd t l tr (fun j=>listed.getD j false) (E.get t):=by
    intro t htm'
    rw [sO t l tr E i (fun j o x hj hd=>c.dst j o hj x hd) htl]
    apply kA
    intro j y hy hd
    refine (hdone hy (.inr ?_)).symm
    refine c.hit j i y o hy ho ?_
    simp only [Bj,hd,Bool.or_eq_true]
    left
    simpa using htm'
  have hres:=mZ (eM E l tr i) (o.looksAt l.toArray)
  have hgetr:∀ t∈o.looksAt l.toArray,(gG (eM E l tr i) (o.looksAt l.toArray)).get t=(eM E l tr i).get t:=fun t h=>(hres t hlook).1 h
  have hsim:Sim G (gG (eM E l tr i) (o.looksAt l.toArray)) (bt σ tr p) a w:=by
    refine ⟨hinv,hdef,by rw [(mw _ _).1,hEn.1];exact htm,by rw [(mw _ _).2,hEn.2];exact hna,fun t hc=>?_⟩
    by_cases hmem:t∈o.looksAt l.toArray
    · rw [hgetr t hmem,hreads t hmem] at hc ⊢
      exact hslot t (hlook t hmem) hc
    · rw [(hres t hlook).2 hmem] at hc;cases hc
  have hops:∀ x∈o.op.operands,ev (gG (eM E l tr i) (o.looksAt l.toArray)) x=ev (eM E l tr i) x:=by
    intro x hx
    refine Ab (ts:=o.looksAt l.toArray) (fun t h=>hgetr t h) x fun t e=>?_
    subst e
    simp only [Oper.looksAt,List.mem_append,List.mem_filterMap]
    left
    exact ⟨.tmp t,by simpa using hx,rfl⟩
  have hguard':gO l.toArray (gG (eM E l tr i) (o.looksAt l.toArray)) o.guard=some ts.γ:=by
    rw [tq o hgetr];exact hguard
  have hwant:=nU (P:=P) hsim hguard'
  have hdlt:∀ d,o.dst=some d→d<a.tmps.size:=by
    intro d hd
    rw [htm]
    rw [hd] at hdst
    have h':d<(eM E l tr i).n:=hdst
    rwa [hEn.1] at h'
  have hslot':∀ (G':Gh) (val:Value),(∀ q v,bm G q v→bm G' q v)→(ts.e.cond=true→bm G' ts.e.v val)→∀ t,t<512 →
      (jd t l tr (fun k=>(listed.setIfInBounds i true).getD k false) (E.get t)).cond=true →
      bm G' (jd t l tr (fun k=>(listed.setIfInBounds i true).getD k false) (E.get t)).v ((a.put o.dst val).tmps.getD t undef):=by
    intro G' val hmono hval t ht512 hc
    have hfun:(fun k=>(listed.setIfInBounds i true).getD k false)=(fun k=>if k=i then true else listed.getD k false):=by
      funext k;exact Ac _ _ _ (by omega)
    rw [hfun] at hc ⊢
    by_cases hd:o.dst=some t
    · rw [yh t l tr _ _ i o ts ho hts hd (fun j y hy hdy hij => by
          have:=hdone hy (.inr (c.hit j i y o hy ho (by simp [Bj,hdy,hd])))
          rw [this];simp;omega)] at hc ⊢
      have hlt:=hdlt t hd
      have:(a.put o.dst val).tmps.getD t undef=val:=by rw [hd];simp [Act.put,Array.getD,hlt]
      rw [this];exact hval hc
    · rw [vx t l tr _ _ i o ho hd] at hc ⊢
      have:(a.put o.dst val).tmps.getD t undef=a.tmps.getD t undef:=by
        cases hod:o.dst with
        |none=>rfl
        |some d =>
          have hne:d≠t:=fun e=>hd (by rw [hod,e])
          simp only [Act.put,Array.getD_eq_getD_getElem?]
          rw [Array.getElem?_setIfInBounds_ne hne]
      rw [this]
      exact hmono _ _ (hslot t ht512 hc)
  have hput:∀ val,(a.put o.dst val).defers=G.w0.ds∧(a.put o.dst val).tmps.size=E.n:=by
    intro val;cases o.dst<;>simp [Act.put,hdef,htm]
  have hheap:ld lt i o=true→bt σ tr p=bt σ tr i:=by
    intro hl
    have key:∀ (j:Nat) (y:Oper),l[j]? = some y→ld lt j y=true→(j<p↔j<i):=by
      intro j y hy hly
      have h1:=hloud j y hy hly
      have h2:=hdone hy (.inl (c.loud i j o y ho hy hl hly))
      rw [h2] at h1
      simpa using h1.symm
    rcases Nat.le_total p i with h|h
    · exact (oV ht h (by omega) fun j y hy h1 h2=>by
        cases hly:ld lt j y with
        |false=>rfl
        |true=>have:=(key j y hy hly).2 h2;omega).symm
    · exact oV ht h hp fun j y hy h1 h2=>by
        cases hly:ld lt j y with
        |false=>rfl
        |true=>have:=(key j y hy hly).1 h2;omega
  have hloud':ld lt i o=true→∀ (j:Nat) (y:Oper),l[j]? = some y→ld lt j y=true→(listed.setIfInBounds i true).getD j false=decide (j<i+1):=by
    intro hl j y hy hly
    rw [Ac _ _ _ (by omega)]
    by_cases e:j=i
    · subst e;simp
    · rw [iN e,hdone hy (.inl (c.loud i j o y ho hy hl hly))]
      simp;omega
  have hquiet':ld lt i o=false→∀ (j:Nat) (y:Oper),l[j]? = some y→ld lt j y=true→(listed.setIfInBounds i true).getD j false=decide (j<p):=by
    intro hl j y hy hly
    rw [Ac _ _ _ (by omega)]
    by_cases e:j=i
    · subst e;rw [ho] at hy;simp only [sJ] at hy;subst hy;rw [hl] at hly;cases hly
    · rw [iN e];exact hloud j y hy hly
  have stay:∀ (G':Gh) (w':World) (val:Value),Gle G G'→cO G.own G'.own→Inv G' (bt σ tr p) w'→ts.σ=bt σ tr i→(ts.e.cond=true→bm G' ts.e.v val)→ot lt l tr E σ G0 (listed.setIfInBounds i true) (a.put o.dst val) w':=by
    intro G' w' val h1 h2 h3 h4 h5
    refine ⟨hsz',hcl',?_⟩
    have hm:∀ q v,bm G q v→bm G' q v:=fun q v h=>bm.mono h1.le.H h2 h
    cases hl:ld lt i o with
    |true =>
      refine ⟨G',i+1,hG.trans h1,by omega,hloud' hl,?_,(hput val).1.trans (by rw [h1.le.w0]),(hput val).2,h1.le.na.trans hna,hslot' G' val hm h5⟩
      rw [hnext,h4,← hheap hl];exact h3
    |false=>exact ⟨G',p,hG.trans h1,hp,hquiet' hl,h3,(hput val).1.trans (by rw [h1.le.w0]),(hput val).2,h1.le.na.trans hna,hslot' G' val hm h5⟩
  unfold wpOp
  simp only [ho']
  have skip:ts.γ=false→(ts.e.cond=true→bm G ts.e.v undef)→ts.σ=bt σ tr i→(if Region.wanted o (yielded l.toArray a.tmps)=true then o.wp P a w (ot lt l tr E σ G0 (listed.setIfInBounds i true)) Q∨(o.asks P a w∧LetsOut Q) else ot lt l tr E σ G0 (listed.setIfInBounds i true) (a.put o.dst undef) w):=by
    intro hγ hc hσ
    rw [iN (by rw [hwant,hγ];simp)]
    exact stay G w undef (Gle.refl G) (cO.refl _) hinv hσ hc
  rcases hstep with ⟨hlt,hstep⟩|⟨hγ,⟨v,hx,he⟩,hσ⟩|⟨hγ,he,hσ⟩
  rotate_left
  · rw [iP (by rw [hwant,hγ])]
    left
    obtain ⟨nx,val,w',G',e1,e2,e3,e4,e5,e6⟩:=hx _ hops _ G a w hsim
    have hfin:=stay G' w' val (Gle.mk' e3 e4) e4 e5 hσ (fun _=>by rw [he];exact e6)
    unfold Oper.wp
    rw [e1]
    rcases e2 with rfl|⟨rfl,rfl⟩
    · exact hfin
    · exact hfin
  · exact skip hγ (by rw [he];exact fun _=>⟨[],rfl,trivial⟩) hσ
  have hld:ld lt i o=kz o:=by unfold ld;rw [hlt];simp
  rcases hstep with ⟨C,v,hrun,hC,hrd,he,hσ⟩|⟨hγ,C,v,hrun,hC,he,_⟩|⟨C,f,args,r,hrun,hC,hargs,hres',he,hσ⟩|⟨hγ,he,hσ⟩|⟨hγ,C,f,args,r,hrun,hC,hto,he,_⟩|⟨hγ,hl,v,hx,he,_⟩
  · cases hγ:ts.γ with
    |false=>exact skip hγ (by rw [he,hγ];intro h;cases h) hσ
    |true =>
      rw [iP (by rw [hwant,hγ])]
      left
      rw [hγ] at hrun
      have hrun1:=(oU (P:=P) (γ:=true) (σ:=bt σ tr i) o.op hops).trans hrun
      have hlo:kz o=false∨kz o=true:=by cases kz o<;>simp
      have notbar:∀ (j:Nat) (y:Oper),l[j]? = some y→ld lt j y=true→listed.getD j false≠decide (j<i)→bs.getD j false=false:=by
        intro j y hy hly hne
        cases hb:bs.getD j false with
        |false=>rfl
        |true=>exact (hne (hdone hy (.inr (c.bar j i y o hy ho hb)))).elim
      have one:∀ (j:Nat),j<l.length→(∀ y,l[j]? = some y→ld lt j y=true→listed.getD j false≠decide (j<i))→lY pv (bt σ tr j) (bt σ tr (j+1)):=by
        intro j hj hne
        have hy:=List.getElem?_eq_getElem hj
        cases hly:ld lt j l[j] with
        |false=>rw [rS ht hy hly];exact lY.refl _ _
        |true=>exact (wA ht hy (notbar j _ hy hly (hne _ hy hly))).2
      have onePv:(∀ j y,l[j]? = some y→ps.getD j false=true→nG masks i j=true)→∀ (j:Nat),j<l.length→(∀ y,l[j]? = some y→ld lt j y=true→listed.getD j false≠decide (j<i))→lY [] (bt σ tr j) (bt σ tr (j+1)):=by
        intro hord j hj hne
        have hy:=List.getElem?_eq_getElem hj
        cases hly:ld lt j l[j] with
        |false=>rw [rS ht hy hly];exact lY.refl _ _
        |true =>
          refine .of_ext ((wA ht hy (notbar j _ hy hly (hne _ hy hly))).1 ?_)
          cases hp:ps.getD j false with
          |false=>rfl
          |true=>exact (hne _ hy hly (hdone hy (.inl (hord j _ hy hp)))).elim
      have reach:∀ (q:List Nat),(∀ (j:Nat),j<l.length→(∀ y,l[j]? = some y→ld lt j y=true→listed.getD j false≠decide (j<i))→lY q (bt σ tr j) (bt σ tr (j+1)))→lY q (bt σ tr p) (bt σ tr i)∨lY q (bt σ tr i) (bt σ tr p):=by
        intro q hone
        rcases Nat.le_total p i with h|h
        · left
          refine rR l htl p i h (by omega) fun j h1 h2=>hone j (by omega) fun y hy hly=>?_
          rw [hloud j y hy hly];simp;omega
        · right
          refine rR l htl i p h hp fun j h1 h2=>hone j (by omega) fun y hy hly=>?_
          rw [hloud j y hy hly];simp;omega
      have fromNear:∀ (q:List Nat) (b:Nat) (ob:OB),lY q (bt σ tr p) (bt σ tr i)∨lY q (bt σ tr i) (bt σ tr p)→b ∉ q→b<(bt σ tr p).length→(bt σ tr i)[b]? = some ob→(bt σ tr p)[b]? = some ob:=by
        intro q b ob hn hb hlt hob
        rcases hn with h|h
        · rw [← h.2 b hb hlt];exact hob
        · rw [h.2 b hb (List.getElem?_eq_some_iff.1 hob).1];exact hob
      obtain ⟨C',hrun2,hC'⟩:=Db (σ':=bt σ tr p) hrun1 hC (fun x hc b ob htop hb=>by
        have hlt:=Dd hinv (fT hsim x hc) htop
        rcases hlo with hl|hl
        · rcases c.see i o ho hl with hsee|hsee
          · refine fromNear pv b ob (reach pv one) ?_ hlt hb
            cases x with
            |tmp t =>
              by_cases hmem:t∈o.looksAt l.toArray
              · have h1:=List.all_eq_true.1 hrd t (hsee t hmem)
                have h2:(gG (eM E l tr i) (o.looksAt l.toArray)).get t=(eM E l tr i).get t:=hgetr t hmem
                have htop':qO ((eM E l tr i).get t).v=some b:=by rw [← h2];exact htop
                simp only [Cc,htop'] at h1
                simpa using h1
              · exfalso
                have:((gG (eM E l tr i) (o.looksAt l.toArray)).get t).cond=true:=hc
                rw [(hres t hlook).2 hmem] at this;cases this
            |const v =>
              exfalso
              have h1:qO (s7 v).v=some b:=htop
              rw [D7] at h1;cases h1
            |func f=>exfalso;revert htop;simp only [ev];split<;>(intro h;cases h)
            |global g=>cases htop
          · exact fromNear [] b ob (reach [] (onePv hsee)) (by simp) hlt hb
        · rw [hheap (hld.trans hl)];exact hb)
      obtain ⟨val,e1,e2⟩:=B9 hsim rfl o hrun2 hC'
      unfold Oper.wp
      rw [e1]
      exact stay G w val (Gle.refl G) (cO.refl _) hinv hσ fun _=>by rw [he];exact e2
  · rw [iP (by rw [hwant,hγ])]
    left
    rw [hγ] at hrun
    have hl:ld lt i o=true:=by
      rw [hld]
      cases hl:kz o with
      |true=>rfl
      |false=>exact ((tH hl).1 _ _ _ hrun).elim
    have hrun1:=(oU (P:=P) (γ:=true) (σ:=bt σ tr i) o.op hops).trans hrun
    rw [← hheap hl] at hrun1
    obtain ⟨nx,val,w',G',e1,e2,e3,e4,e5,e6⟩:=Aa hsim rfl o hrun1 hC
    have hfin:ot lt l tr E σ G0 (listed.setIfInBounds i true) (a.put o.dst val) w' :=
      ⟨hsz',hcl',G',i+1,hG.trans (Gle.mk' e3 e4),by omega,hloud' hl,by rw [hnext];exact e5,(hput val).1.trans (by rw [e3.w0]),(hput val).2,e3.na.trans hna,
        hslot' G' val (fun q v h=>bm.mono e3.H e4 h) fun _=>by rw [he];exact e6⟩
    unfold Oper.wp
    rw [e1]
    rcases e2 with rfl|⟨rfl,rfl⟩
    · exact hfin
    · exact hfin
  · cases hγ:ts.γ with
    |false=>exact skip hγ (by rw [he,hγ];intro h;cases h) hσ
    |true =>
      rw [iP (by rw [hwant,hγ])]
      left
      rw [hγ] at hrun
      obtain ⟨hC1,hspec⟩:=hC hγ
      have hrun1:=(oU (P:=P) (γ:=true) (σ:=bt σ tr i) o.op hops).trans hrun
      have hrun2:=wy (σ':=bt σ tr p) hrun1
      exact Dc hsim o hrun2 hC1 hspec hargs hres' fun G' w' v h1 h2 h3 h4=>stay G' w' v h1 h2 h3 hσ fun _=>by rw [he];exact h4
  · exact skip hγ (by rw [he];exact fun _=>⟨[],rfl,trivial⟩) hσ
  · rw [iP (by rw [hwant,hγ])]
    left
    rw [hγ] at hrun
    have hl:ld lt i o=true:=by
      rw [hld]
      cases hl:kz o with
      |true=>rfl
      |false=>exact ((tH hl).2 _ _ _ hrun).elim
    have hrun1:=(oU (P:=P) (γ:=true) (σ:=bt σ tr i) o.op hops).trans hrun
    rw [← hheap hl] at hrun1 hto
    exact Bl hsim o hrun1 hC hto fun G' w' v h1 h2 h3 h4 h5 =>
      ⟨hsz',hcl',G',i+1,hG.trans h1,by omega,hloud' hl,by rw [hnext];exact h4,(hput v).1.trans (by rw [h1.le.w0]),(hput v).2,h1.le.na.trans hna,
        hslot' G' v (fun q v h=>bm.mono h2 h3 h) fun _=>by rw [he];exact h5⟩
  · rw [iP (by rw [hwant,hγ])]
    left
    have hl:ld lt i o=true:=hld.trans hl
    rw [← hheap hl] at hx
    obtain ⟨nx,val,w',G',e1,e2,e3,e4,e5,e6⟩:=hx _ hops G a w hsim
    have hfin:ot lt l tr E σ G0 (listed.setIfInBounds i true) (a.put o.dst val) w' :=
      ⟨hsz',hcl',G',i+1,hG.trans (Gle.mk' e3 e4),by omega,hloud' hl,by rw [hnext];exact e5,(hput val).1.trans (by rw [e3.w0]),(hput val).2,e3.na.trans hna,
        hslot' G' val (fun q v h=>bm.mono e3.H e4 h) fun _=>by rw [he];exact e6⟩
    unfold Oper.wp
    rw [e1]
    rcases e2 with rfl|⟨rfl,rfl⟩
    · exact hfin
    · exact hfin
theorem uN(hfz:∀ i,fz.getD i false=false){l:List Oper}{masks:List Nat}{bs ps:List Bool}{rd:List (List Nat)}{lt:List Bool}{E:Env}{σ:List OB}{tr:List TS}(c:wz l.toArray l masks bs ps rd lt)(ht:jA P l.toArray pv l bs ps rd lt fz E σ tr)(G0:Gh){Q:Exit→Act→World→Prop}
    (fin:∀ G a w,Gle G0 G→Sim G (eM E l tr l.length) (bt σ tr l.length) a w→Q .normal a w) :
    ∀ (fuel:Nat) (listed:Array Bool) (a:Act) (w:World),listed.toList.count false≤fuel→ot lt l tr E σ G0 listed a w→wpAny P .any l.toArray Q fuel listed a w:=by
  have done:∀ (listed:Array Bool) (a:Act) (w:World),ot lt l tr E σ G0 listed a w→Region.ready .any l.toArray listed=[]→Q .normal a w:=by
    intro listed a w hJ hr
    obtain ⟨hsz,hcl,G,p,hG,hp,hloud,hinv,hdef,htm,hna,hslot⟩:=hJ
    have hall:=tJ c hsz hr
    obtain ⟨htl,hat⟩:=ht.at
    have hE:=un l tr E l.length
    have hheap:bt σ tr l.length=bt σ tr p:=oV ht hp (Nat.le_refl _) fun j y hy h1 h2=>by
      cases hly:ld lt j y with
      |false=>rfl
      |true =>
        have:=hloud j y hy hly
        rw [hall j h2] at this
        have:j<p:=by simpa using this.symm
        omega
    refine fin G a w hG ⟨by rw [hheap];exact hinv,hdef,by rw [hE.1];exact htm,by rw [hE.2];exact hna,fun t hc=>?_⟩
    by_cases h512:t<512
    · have hg:(eM E l tr l.length).get t=jd t l tr (fun i=>listed.getD i false) (E.get t):=by
        rw [sO t l tr E l.length (fun j o x hj hd=>c.dst j o hj x hd) htl]
        apply kA
        intro j y hy _
        have hlt:=(List.getElem?_eq_some_iff.1 hy).1
        simp [hlt,hall j hlt]
      rw [hg] at hc ⊢
      exact hslot t h512 hc
    · rw [Env.get_big _ t (by omega)] at hc;cases hc
  intro fuel
  induction fuel with
  |zero =>
    intro listed a w hf hJ
    have hr:Region.ready .any l.toArray listed=[]:=by
      rw [List.eq_nil_iff_forall_not_mem]
      intro i hi
      obtain ⟨h1,o,ho,_⟩:=mem_ready.1 hi
      have hlt:i<listed.size:=by rw [hJ.1];have:=(Array.getElem?_eq_some_iff.1 ho).1;simpa using this
      have:listed.toList[i]? = some false:=by
        rw [Array.getD_eq_getD_getElem?,Array.getElem?_eq_getElem hlt] at h1
        rw [Array.getElem?_toList,Array.getElem?_eq_getElem hlt]
        simpa using h1
      have hpos:=List.count_pos_iff.2 (List.mem_of_getElem? this)
      omega
    exact ⟨hr,done listed a w hJ hr⟩
  |succ fuel ih =>
    intro listed a w hf hJ
    refine ⟨fun hr=>done listed a w hJ hr,fun i hi=>?_⟩
    have hstep:=ot.stepQ (Q:=Q) c ht G0 listed a w i hJ hi (hfz i)
    refine wpOp_mono (fun a' w' hJ'=>ih _ a' w' ?_ hJ') hstep
    obtain ⟨h1,o,ho,_⟩:=mem_ready.1 hi
    have hlt:i<listed.size:=by rw [hJ.1];have:=(Array.getElem?_eq_some_iff.1 ho).1;simpa using this
    have:listed.toList[i]? = some false:=by
      rw [Array.getD_eq_getD_getElem?,Array.getElem?_eq_getElem hlt] at h1
      rw [Array.getElem?_toList,Array.getElem?_eq_getElem hlt]
      simpa using h1
    have hc:=qk _ _ this
    simp only [Array.toList_setIfInBounds]
    omega
def TRQ(P:Program)(ops:Array Oper)(pv:List Nat)(l:List Oper)(bs ps:List Bool)(rd:List (List Nat))(lt:List Bool)(E:Env)(σ:List OB)(k:Env→List OB→Prop):Prop :=
  ∃ tr,ll P ops pv l bs ps rd lt E σ tr∧k (eM E l tr l.length) (bt σ tr l.length)
theorem yS{id:Nat}{l:List Oper}{K:Kt}{E:Env}{σ:List OB}(hm:P.follows .mixedOrders=true)(pv masks:List Nat)(bs ps:List Bool)(rd:List (List Nat))(lt:List Bool)(hc:xP l.toArray l masks bs ps rd lt=true)
    (h:TRQ P l.toArray pv l bs ps rd lt E σ (K .normal)):W P (.region id l.toArray true) K E σ:=fun G a w hs=>by
  obtain ⟨tr,ht,hk⟩:=h
  refine wp_region_any hm ?_
  refine uN (fz:=[]) (fun i=>by simp) (vP hc) (jA.of ht) G (fun G' a' w' hG hs'=>⟨G',_,_,.normal,hG,hs',rfl,hk⟩) _ _ a _ ?_ ?_
  · simp
  · have hfalse:∀ i,(Array.replicate l.length false).getD i false=false:=by
      intro i
      rw [Array.getD_eq_getD_getElem?,Array.getElem?_replicate]
      split<;>rfl
    refine ⟨by simp,fun i o ho hd=>by simp [hfalse] at hd,G,0,Gle.refl G,by omega,fun j o ho hl=>by simp [hfalse],?_,hs.defers,hs.size,hs.na,fun t ht hc=>?_⟩
    · have:bt σ tr 0=σ:=by cases tr<;>rfl
      rw [this];exact hs.inv.drawn
    · have:jd t l tr (fun i=>(Array.replicate l.length false).getD i false) (E.get t)=E.get t:=lC t l tr _ _ fun j o _ _=>hfalse j
      simp only [List.size_toArray] at hc ⊢
      rw [this] at hc ⊢
      exact hs.slot t hc
theorem ll.of{ops:Array Oper}:∀ {l:List Oper} {bs:List Bool} {E:Env} {σ:List OB} {tr:List TS},um P ops l bs E σ tr→ll P ops [] l bs [] [] [] E σ tr
  |[],_,_,_,_,h=>h
  |o :: l,bs,E,σ,tr,⟨ts,r,h1,⟨h2,h3,h4⟩,h5⟩=>by
    refine ⟨ts,r,h1,⟨h2,h3,.inl ⟨rfl,?_⟩⟩,ll.of h5⟩
    rcases h4 with ⟨C,v,a,b,c,d⟩|⟨a,C,v,b,c,d,e⟩|h|h|h|h
    · exact .inl ⟨C,v,a,b,rfl,c,d⟩
    · exact .inr (.inl ⟨a,C,v,b,c,d,e.imp id .inl⟩)
    · exact .inr (.inr (.inl h))
    · exact .inr (.inr (.inr (.inl h)))
    · obtain ⟨a,C,f,args,p,b,c,d,e,g⟩:=h
      exact .inr (.inr (.inr (.inr (.inl ⟨a,C,f,args,p,b,c,d,e,g.imp id .inl⟩))))
    · obtain ⟨a,b,v,c,d,e⟩:=h
      exact .inr (.inr (.inr (.inr (.inr ⟨a,b,v,c,d,e.imp id .inl⟩))))
theorem wB(i:Nat)(o:Oper):ld [] i o=kz o:=by simp [ld]
theorem Cd{ops:Array Oper}{l:List Oper}{masks:List Nat}{bs:List Bool}(h:chk ops l masks bs=true):xP ops l masks bs [] [] []=true:=by
  unfold chk at h
  unfold xP
  rw [show ld ([]:List Bool)=fun _ o=>kz o from by funext i o;exact wB i o]
  refine Bool.and_eq_true_iff.2 ⟨h,?_⟩
  rw [List.all_eq_true]
  intro x _
  simp only [Bool.or_eq_true,List.all_eq_true]
  right
  intro y _
  simp
end
end Pam
namespace Pam
open Go
section
variable {P:Program}
theorem Chk.q{ops:Array Oper}{l:List Oper}{masks:List Nat}{bs:List Bool}(c:Chk ops l masks bs):wz ops l masks bs [] [] [] :=
 ⟨c.mask,c.lt,c.dst,c.look,fun i j x y h1 h2 h3 h4=>c.loud i j x y h1 h2 (by rwa [wB] at h3) (by rwa [wB] at h4),c.hit,c.bar,fun _ _ _ _=>.inr fun j y _ h=>by simp at h⟩
theorem Ad(l:List Oper)(tr:List TS)(E:Env)(σ:List OB)(G0:Gh)(listed:Array Bool)(a:Act)(w:World):ot [] l tr E σ G0 listed a w=StJ l tr E σ G0 listed a w:=by
 unfold ot StJ
 rw [show ld ([]:List Bool)=fun _ o=>kz o from by funext i o;exact wB i o]
theorem StJ.step{l:List Oper}{bs:List Bool}{masks:List Nat}{E:Env}{σ:List OB}{tr:List TS}(c:Chk l.toArray l masks bs)(ht:um P l.toArray l bs E σ tr)(G0:Gh){Q:Exit→Act→World→Prop}(listed:Array Bool)(a:Act)(w:World)(i:Nat)
  (hJ:StJ l tr E σ G0 listed a w) (hready:i∈Region.ready .any l.toArray listed):wpOp P l.toArray Q i (StJ l tr E σ G0 (listed.setIfInBounds i true)) a w:=by
 have h:=ot.stepQ (fz:=[]) (Q:=Q) c.q (jA.of (ll.of ht)) G0 listed a w i (by rw [Ad];exact hJ) hready (by simp)
 rwa [show (ot [] l tr E σ G0 (listed.setIfInBounds i true))=StJ l tr E σ G0 (listed.setIfInBounds i true) from by funext a w;exact Ad _ _ _ _ _ _ _ _] at h
def TR(P:Program)(ops:Array Oper)(l:List Oper)(bs:List Bool)(E:Env)(σ:List OB)(k:Env→List OB→Prop):Prop :=
 ∃ tr,um P ops l bs E σ tr∧k (eM E l tr l.length) (bt σ tr l.length)
def tK:List OB→List OB→Prop
 |[],_=>True
 |a :: az,b :: bs=>a=b∧tK az bs
 |_ :: _,[]=>False
theorem vQ:∀ {σ σ':List OB},tK σ σ'→Ext σ σ'
 |[],σ',_=>⟨σ',rfl⟩
 |a :: az,b :: bs,⟨h1,h2⟩=>by obtain ⟨ρ,h⟩:=vQ h2;exact ⟨ρ,by rw [h1,h];rfl⟩
def uo(P:Program)(ops:Array Oper)(γ:Bool)(C:Prop)(f:FuncId)(args:List PV)(o:Oper)(r:List Oper)(bs:List Bool)(E:Env)(σ:List OB)(k:Env→List OB→Prop):Prop :=
 dG P γ E σ o.op=.call C f args→gO ops E o.guard=some γ→TR P ops (o :: r) bs E σ k
def yi(P:Program)(ops:Array Oper)(γ:Bool)(o:Oper)(r:List Oper)(bs:List Bool)(E:Env)(σ:List OB)(k run:Env→List OB→Prop):R→Prop
 |.ok C v=>gL E o.dst∧C∧run (E.putD o.dst ⟨γ,v⟩) σ
 |.upd C v σ'=>gL E o.dst∧γ=true∧C∧(bs.headD false=true∨tK σ σ')∧run (E.putD o.dst ⟨true,v⟩) σ'
 |.call C f args=>uo P ops γ C f args o r bs E σ k
 |.bad=>False
def kj(P:Program)(ops:Array Oper):List Oper→List Bool→Env→List OB→(Env→List OB→Prop)→Prop
 |[],_,E,σ,k=>k E σ
 |o :: r,bs,E,σ,k =>
  match gO ops E o.guard with
  |none=>False
  |some false=>gL E o.dst∧kj P ops r bs.tail (E.putD o.dst ⟨true,.t []⟩) σ k
  |some true=>yi P ops true o r bs E σ k (fun E' σ'=>kj P ops r bs.tail E' σ' k) (dG P true E σ o.op)
theorem TR.cons{ops:Array Oper}{o:Oper}{r:List Oper}{bs:List Bool}{E:Env}{σ:List OB}{k:Env→List OB→Prop}{ts:TS}(h:D4 P ops E σ o (bs.headD false) ts)(ht:TR P ops r bs.tail (E.putD o.dst ts.e) ts.σ k):TR P ops (o :: r) bs E σ k:=by
 obtain ⟨tr,h1,h2⟩:=ht
 refine ⟨ts :: tr,⟨ts,tr,rfl,h,h1⟩,?_⟩
 simpa [eM,bt] using h2
theorem lg{ops:Array Oper}:∀ (l:List Oper) (bs:List Bool) (E:Env) (σ:List OB) (k:Env→List OB→Prop),kj P ops l bs E σ k→TR P ops l bs E σ k
 |[],bs,E,σ,k,h=>⟨[],rfl,by unfold kj at h;simpa [eM,bt] using h⟩
 |o :: r,bs,E,σ,k,h=>by
  unfold kj at h
  split at h
  ·exact h.elim
  ·rename_i hγ
   exact TR.cons (ts:=⟨false,⟨true,.t []⟩,σ⟩) ⟨hγ,h.1,.inr (.inr (.inr (.inl ⟨rfl,rfl,rfl⟩)))⟩ (lg r _ _ _ _ h.2)
  ·rename_i hγ
   unfold yi at h
   split at h
   ·rename_i C v hrun
    obtain ⟨hd,hC,hr⟩:=h
    exact TR.cons (ts:=⟨true,⟨true,v⟩,σ⟩) ⟨hγ,hd,.inl ⟨C,v,hrun,hC,rfl,rfl⟩⟩ (lg r _ _ _ _ hr)
   ·rename_i C v σ' hrun
    obtain ⟨hd,hg,hC,hb,hr⟩:=h
    exact TR.cons (ts:=⟨true,⟨true,v⟩,σ'⟩) ⟨hγ,hd,.inr (.inl ⟨rfl,C,v,hrun,hC,rfl,hb.imp id vQ⟩)⟩ (lg r _ _ _ _ hr)
   ·rename_i C f args hrun
    exact h hrun hγ
   ·exact h.elim
theorem up{ops:Array Oper}{γ:Bool}{C:Prop}{f:FuncId}{args:List PV}{o:Oper}{r:List Oper}{bs:List Bool}{E:Env}{σ:List OB}{k:Env→List OB→Prop}{res:PV}
  (hs:γ=true→cq P f args res) (hd:gL E o.dst) (hC:γ=true→C) (hargs:args.all PV.noOwn=true) (hres:∀ n,res.ren (eO n [])=res)
  (next:kj P ops r bs.tail (E.putD o.dst ⟨γ,res⟩) σ k):uo P ops γ C f args o r bs E σ k:=fun hrun hγ =>
 TR.cons (ts:=⟨γ,⟨γ,res⟩,σ⟩) ⟨hγ,hd,.inr (.inr (.inl ⟨C,f,args,res,hrun,fun h=>⟨hC h,hs h⟩,hargs,hres,rfl,rfl⟩))⟩ (lg r _ _ _ _ next)
theorem Bo{id:Nat}{l:List Oper}{K:Kt}{E:Env}{σ:List OB}(hm:P.follows .mixedOrders=true)(masks:List Nat)(bs:List Bool)(hc:chk l.toArray l masks bs=true)
  (h:TR P l.toArray l bs E σ (K .normal)):W P (.region id l.toArray true) K E σ:=by
 obtain ⟨tr,ht,hk⟩:=h
 exact yS hm [] masks bs [] [] [] (Cd hc) ⟨tr,ll.of ht,hk⟩
theorem In{id:Nat}{l:List Oper}{K:Kt}{E:Env}{σ:List OB}(hm:P.follows .mixedOrders=true)(masks:List Nat)(bs:List Bool)(hc:chk l.toArray l masks bs=true)
  (h:∀ (k:Env→List OB→Prop),(∀ E σ,K .normal E σ→k E σ)→kj P l.toArray l bs E σ k):W P (.region id l.toArray true) K E σ :=
 Bo hm masks bs hc (lg l bs E σ _ (h (K .normal) fun _ _ h=>h))
end
end Pam
namespace Pam
open Go
theorem Ce(γ:Bool)(v:PV):aS γ ⟨true,v⟩=True:=by simp [aS]
theorem yj(γ:Bool)(v:PV):aS γ ⟨γ,v⟩=True:=by simp [aS]
section
variable (n na:Nat) (t x a0 a1 a2 a3 a4 a5 a6 a7:Tr) (e:Ent) (i:Nat)
theorem D8:
    ((∀ (n na : Nat) (t : Tr) (i : Nat), Env.get ⟨n, na, t⟩ i = (((t.get (i / 64)).get (i / 8 % 8)).get (i % 8)).ent) ∧
     (∀ (n na:Nat) (t:Tr) (i:Nat) (e:Ent),Env.put ⟨n,na,t⟩ i e=⟨n,na,t.put (i / 64) ((t.get (i / 64)).put (i / 8 % 8) (((t.get (i / 64)).get (i / 8 % 8)).put (i % 8) (.leaf e)))⟩) ∧
     (∀ (E:Env) (i:Nat) (e:Ent),Env.putD E (some i) e=E.put i e)∧(∀ (E:Env) (e:Ent),Env.putD E none e=E) ∧
     (∀ (n na:Nat) (t:Tr) (d:Tmp),gL ⟨n,na,t⟩ (some d)=(d<n))∧(∀ E:Env,gL E none=True)) ∧
    ((∀ i,Tr.get .nil i=.nil)∧(∀ e,Tr.ent (.leaf e)=e)∧Tr.ent .nil=⟨false,.x⟩) :=
  ⟨⟨fun _ _ _ _=>rfl,fun _ _ _ _ _=>rfl,fun _ _ _=>rfl,fun _ _=>rfl,fun _ _ _ _=>rfl,fun _=>rfl⟩,fun _=>rfl,fun _=>rfl,rfl⟩
theorem D9:
    ((∀ a0 a1 a2 a3 a4 a5 a6 a7, Tr.get (.node a0 a1 a2 a3 a4 a5 a6 a7) 0 = a0) ∧ (∀ a0 a1 a2 a3 a4 a5 a6 a7, Tr.get (.node a0 a1 a2 a3 a4 a5 a6 a7) 1 = a1) ∧
     (∀ a0 a1 a2 a3 a4 a5 a6 a7,Tr.get (.node a0 a1 a2 a3 a4 a5 a6 a7) 2=a2)∧(∀ a0 a1 a2 a3 a4 a5 a6 a7,Tr.get (.node a0 a1 a2 a3 a4 a5 a6 a7) 3=a3)) ∧
    ((∀ a0 a1 a2 a3 a4 a5 a6 a7, Tr.get (.node a0 a1 a2 a3 a4 a5 a6 a7) 4 = a4) ∧ (∀ a0 a1 a2 a3 a4 a5 a6 a7, Tr.get (.node a0 a1 a2 a3 a4 a5 a6 a7) 5 = a5) ∧
     (∀ a0 a1 a2 a3 a4 a5 a6 a7,Tr.get (.node a0 a1 a2 a3 a4 a5 a6 a7) 6=a6)∧(∀ a0 a1 a2 a3 a4 a5 a6 a7,Tr.get (.node a0 a1 a2 a3 a4 a5 a6 a7) 7=a7)):=by
  refine ⟨⟨?_,?_,?_,?_⟩,?_,?_,?_,?_⟩<;>(intros;rfl)
theorem Ea:
    (((∀ a0 a1 a2 a3 a4 a5 a6 a7 x, Tr.put (.node a0 a1 a2 a3 a4 a5 a6 a7) 0 x = .node x a1 a2 a3 a4 a5 a6 a7) ∧ (∀ a0 a1 a2 a3 a4 a5 a6 a7 x, Tr.put (.node a0 a1 a2 a3 a4 a5 a6 a7) 1 x = .node a0 x a2 a3 a4 a5 a6 a7) ∧
      (∀ a0 a1 a2 a3 a4 a5 a6 a7 x,Tr.put (.node a0 a1 a2 a3 a4 a5 a6 a7) 2 x=.node a0 a1 x a3 a4 a5 a6 a7)∧(∀ a0 a1 a2 a3 a4 a5 a6 a7 x,Tr.put (.node a0 a1 a2 a3 a4 a5 a6 a7) 3 x=.node a0 a1 a2 x a4 a5 a6 a7)) ∧
     ((∀ a0 a1 a2 a3 a4 a5 a6 a7 x, Tr.put (.node a0 a1 a2 a3 a4 a5 a6 a7) 4 x = .node a0 a1 a2 a3 x a5 a6 a7) ∧ (∀ a0 a1 a2 a3 a4 a5 a6 a7 x, Tr.put (.node a0 a1 a2 a3 a4 a5 a6 a7) 5 x = .node a0 a1 a2 a3 a4 x a6 a7) ∧
      (∀ a0 a1 a2 a3 a4 a5 a6 a7 x,Tr.put (.node a0 a1 a2 a3 a4 a5 a6 a7) 6 x=.node a0 a1 a2 a3 a4 a5 x a7)∧(∀ a0 a1 a2 a3 a4 a5 a6 a7 x,Tr.put (.node a0 a1 a2 a3 a4 a5 a6 a7) 7 x=.node a0 a1 a2 a3 a4 a5 a6 x))) ∧
    (((∀ x, Tr.put .nil 0 x = .node x .nil .nil .nil .nil .nil .nil .nil) ∧ (∀ x, Tr.put .nil 1 x = .node .nil x .nil .nil .nil .nil .nil .nil) ∧
      (∀ x,Tr.put .nil 2 x=.node .nil .nil x .nil .nil .nil .nil .nil)∧(∀ x,Tr.put .nil 3 x=.node .nil .nil .nil x .nil .nil .nil .nil)) ∧
     ((∀ x, Tr.put .nil 4 x = .node .nil .nil .nil .nil x .nil .nil .nil) ∧ (∀ x, Tr.put .nil 5 x = .node .nil .nil .nil .nil .nil x .nil .nil) ∧
      (∀ x,Tr.put .nil 6 x=.node .nil .nil .nil .nil .nil .nil x .nil)∧(∀ x,Tr.put .nil 7 x=.node .nil .nil .nil .nil .nil .nil .nil x))) ∧
    (((∀ e x,Tr.put (.leaf e) 0 x=.node x .nil .nil .nil .nil .nil .nil .nil))):=by
  refine ⟨⟨⟨?_,?_,?_,?_⟩,?_,?_,?_,?_⟩,⟨⟨?_,?_,?_,?_⟩,?_,?_,?_,?_⟩,?_⟩<;>(intros;rfl)
end
theorem JC:
    ((∀ E t,ev E (.tmp t)=E.get t)∧(∀ E v,ev E (.const v)=s7 v)∧(∀ E f,ev E (.func f)=if f<4096 then ⟨true,.c (.fn f [])⟩ else ⟨false,.x⟩)) ∧
    ((∀ k n, s7 (.int k n) = ⟨true, .c (.int k n)⟩) ∧ (∀ b, s7 (.bool b) = ⟨true, .c (.bool b)⟩) ∧ (∀ s, s7 (.string s) = ⟨true, .c (.str s.data.toList)⟩) ∧
     (s7 (.pointer none)=⟨true,.c .nilp⟩)∧(s7 (.slice none 0 0)=⟨true,.c .nils⟩)∧(s7 .nilFunc=⟨true,.c .nilf⟩)∧(s7 .nilIface=⟨true,.c .nili⟩)) ∧
    ((∀ cs, s7 (.agg cs) = (match mg cs.toList with | some l => ⟨true, .a l⟩ | none => ⟨false, .x⟩)) ∧ (mg [] = some []) ∧
     (∀ v r,mg (v :: r)=(match mT v,mg r with|some c,some cs=>some (c :: cs)|_,_=>none)) ∧
     (∀ k n,mT (.int k n)=some (.int k n))∧(∀ b,mT (.bool b)=some (.bool b))∧(∀ s,mT (.string s)=some (.str s.data.toList)) ∧
     (mT (.pointer none)=some .nilp)∧(mT (.slice none 0 0)=some .nils)∧(mT .nilFunc=some .nilf)∧(mT .nilIface=some .nili)):=by
  refine ⟨⟨?_,?_,?_⟩,⟨?_,?_,?_,?_,?_,?_,?_⟩,?_,?_,?_,?_,?_,?_,?_,?_,?_,?_⟩<;>(intros;rfl)
theorem Io:
    ((∀ P γ E σ x, dG P γ E σ (.move x) = .ok (aS γ (ev E x)) (ev E x).v) ∧ (∀ P γ E σ x, dG P γ E σ (.assign x) = .ok (aS γ (ev E x)) (ev E x).v) ∧
     (∀ P γ E σ c a b,dG P γ E σ (.pick c a b)=ti γ (ev E c) (ev E a) (ev E b))∧(∀ P γ E σ T,dG P γ E σ (.alloc T)=oR P σ T) ∧
     (∀ P γ E σ T x,dG P γ E σ (.box T x)=yM P σ T (ev E x))∧(∀ P γ E σ T p,dG P γ E σ (.load T p)=oQ P γ σ T (ev E p)) ∧
     (∀ P γ E σ T p x,dG P γ E σ (.store T p x)=pV P σ T (ev E p) (ev E x))∧(∀ P γ E σ x,dG P γ E σ (.nilCheck x)=ki γ σ (ev E x))) ∧
    ((∀ P γ E σ op T x y T', dG P γ E σ (.binOp op T x y T') = mQ P γ op T (ev E x) (ev E y)) ∧ (∀ P γ E σ op T x, dG P γ E σ (.unOp op T x) = unR γ op (ev E x)) ∧
     (∀ P γ E σ s d x,dG P γ E σ (.convert s d x)=tj P γ s d (ev E x))∧(∀ P γ E σ T x i,dG P γ E σ (.fieldAddr T x i)=iu P γ σ T (ev E x) i) ∧
     (∀ P γ E σ T x i,dG P γ E σ (.field T x i)=qD P γ T (ev E x) i)∧(∀ P γ E σ T x i,dG P γ E σ (.indexAddr T x i)=gR P γ σ T (ev E x) (ev E i)) ∧
     (∀ P γ E σ T x i,dG P γ E σ (.index T x i)=mU P γ T (ev E x) (ev E i))∧(∀ P γ E σ x i,dG P γ E σ (.extract x i)=mV γ (ev E x) i)) ∧
    ((∀ P γ E σ T x lo hi mx, dG P γ E σ (.slice T x lo hi mx) = oj P γ σ T (ev E x) (lo.map (ev E)) (hi.map (ev E)) (mx.map (ev E))) ∧
     (∀ P γ E σ T x y,dG P γ E σ (.makeSlice T x y)=kI P σ T (ev E x) (ev E y)) ∧
     (∀ P γ E σ T (l:List (Nat×Operand)),dG P γ E σ (.build T l.toArray)=qE P γ T (vq E l)) ∧
     (∀ P γ E σ T n (l:List (Nat×Operand)),dG P γ E σ (.buildSlice T n l.toArray)=jL P σ T n (vq E l)) ∧
     (∀ P γ E σ fn (first caps:List Operand),dG P γ E σ (.makeFunc fn first.toArray caps.toArray)=lf γ fn (first.map (ev E)) (caps.map (ev E))) ∧
     (∀ P γ E σ f (args:List Operand) ts,dG P γ E σ (.call ⟨.value f,args.toArray,ts⟩)=wh γ (ev E f) (args.map (ev E))) ∧
     (∀ P γ E σ b (args:List Operand) (ts:List TypeId),dG P γ E σ (.call ⟨.builtin b,args.toArray,ts.toArray⟩)=jN P γ σ b ts (args.map (ev E)))):=by
  refine ⟨⟨?_,?_,?_,?_,?_,?_,?_,?_⟩,⟨?_,?_,?_,?_,?_,?_,?_,?_⟩,?_,?_,?_,?_,?_,?_,?_⟩<;>(intros;rfl)
theorem GJ:
    ((∀ P γ σ T c b off, oQ P γ σ T ⟨c, .c (.optr b off)⟩ = (match σ[b]? with
        |some (.box cs)=>.ok (aS γ ⟨c,.c (.optr b off)⟩∧dA P T=true∧0<P.cellsOf T∧off+P.cellsOf T≤cs.length∧(me P T=true∨P.cellsOf T=1)) (mkV P T ((cs.drop off).take (P.cellsOf T)))
        |_=>.bad)) ∧
     (∀ P γ σ T c s es i j,oQ P γ σ T ⟨c,.c (.tptr s es i j)⟩=.ok (aS γ ⟨c,.c (.tptr s es i j)⟩∧dA P T=true∧0<P.cellsOf T∧(γ=true→i<es.length)∧j+P.cellsOf T≤s∧(me P T=true∨P.cellsOf T=1)) (mkV P T (((elt es i).drop j).take (P.cellsOf T)))) ∧
     (∀ P γ σ T c b ver i j, oQ P γ σ T ⟨c, .c (.oel b ver i j)⟩ = (match σ[b]? with
        |some (.arr s ver' _ es)=>.ok (aS γ ⟨c,.c (.oel b ver i j)⟩∧ver=ver'∧dA P T=true∧0<P.cellsOf T∧(γ=true→i<es.length)∧j+P.cellsOf T≤s∧(me P T=true∨P.cellsOf T=1)) (mkV P T (((elt es i).drop j).take (P.cellsOf T)))
        |_=>.bad))) ∧
    ((∀ P σ T c b off x, pV P σ T ⟨c, .c (.optr b off)⟩ x = (match σ[b]? with
        |some (.box cs)=>.upd (c=true∧x.cond=true∧dA P T=true∧0<P.cellsOf T∧x.v.cells.length=P.cellsOf T∧off+P.cellsOf T≤cs.length) .x (σ.set b (.box (jK cs off x.v.cells)))
        |_=>.bad)) ∧
     (∀ P σ T c b ver i j x, pV P σ T ⟨c, .c (.oel b ver i j)⟩ x = (match σ[b]? with
        |some (.arr s ver' T' es)=>.upd (c=true∧x.cond=true∧ver=ver'∧dA P T=true∧0<P.cellsOf T∧x.v.cells.length=P.cellsOf T∧(x.v.cells.all CV.flat)=true∧i<es.length∧j+P.cellsOf T≤s) .x
            (σ.set b (.arr s ver' T' (es.set i (jK (elt es i) j x.v.cells))))
        |_=>.bad))) ∧
    ((∀ y, PV.cells (.c y) = [y]) ∧ (∀ ys, PV.cells (.a ys) = ys) ∧ (∀ P σ T x, yM P σ T x = .upd (x.cond = true ∧ dA P T = true ∧ 0 < x.v.cells.length) (.c (.optr σ.length 0)) (σ ++ [.box x.v.cells])) ∧
     (∀ P σ T,oR P σ T=(match no P T with|some z=>.upd (0<z.length) (.c (.optr σ.length 0)) (σ++[.box z])|none=>.bad))) ∧
    ((∀ (σ : List OB) b off, iU σ (.optr b off) = (match σ[b]? with | some (.box _) => True | _ => False)) ∧ (∀ (σ : List OB) b ver lo len, iU σ (.osl b ver lo len) = (match σ[b]? with | some (.arr _ ver' _ _) => ver = ver' | _ => False)) ∧
     (∀ (σ:List OB) b ver i j,iU σ (.oel b ver i j)=(match σ[b]? with|some (.arr _ ver' _ _)=>ver=ver'|_=>False))∧(∀ P T cs,mkV P T cs=(match me P T with|true=>.a cs|false=>.c (cs.headD .junk)))):=by
  refine ⟨⟨?_,?_,?_⟩,⟨?_,?_⟩,⟨?_,?_,?_,?_⟩,?_,?_,?_,?_⟩<;>(intros;rfl)
theorem Ip:
    ((∀ P γ T c c' k a k' b, mQ P γ .add T ⟨c, .c (.int k a)⟩ ⟨c', .c (.int k' b)⟩ = if k = k' then .ok (aS γ ⟨c, .c (.int k a)⟩ ∧ aS γ ⟨c', .c (.int k' b)⟩ ∧ (γ = true → True)) (.c (.int k (k.wrap (a + b)))) else .bad) ∧
     (∀ P γ T c c' k a k' b,mQ P γ .sub T ⟨c,.c (.int k a)⟩ ⟨c',.c (.int k' b)⟩=if k=k' then .ok (aS γ ⟨c,.c (.int k a)⟩∧aS γ ⟨c',.c (.int k' b)⟩∧(γ=true→True)) (.c (.int k (k.wrap (a - b)))) else .bad) ∧
     (∀ P γ T c c' k a k' b,mQ P γ .mul T ⟨c,.c (.int k a)⟩ ⟨c',.c (.int k' b)⟩=if k=k' then .ok (aS γ ⟨c,.c (.int k a)⟩∧aS γ ⟨c',.c (.int k' b)⟩∧(γ=true→True)) (.c (.int k (k.wrap (a * b)))) else .bad) ∧
     (∀ P γ T c c' k a k' b,mQ P γ .quo T ⟨c,.c (.int k a)⟩ ⟨c',.c (.int k' b)⟩=if k=k' then .ok (aS γ ⟨c,.c (.int k a)⟩∧aS γ ⟨c',.c (.int k' b)⟩∧(γ=true→b≠0)) (.c (.int k (k.wrap (a.tdiv b)))) else .bad) ∧
     (∀ P γ T c c' k a k' b,mQ P γ .rem T ⟨c,.c (.int k a)⟩ ⟨c',.c (.int k' b)⟩=if k=k' then .ok (aS γ ⟨c,.c (.int k a)⟩∧aS γ ⟨c',.c (.int k' b)⟩∧(γ=true→b≠0)) (.c (.int k (a.tmod b))) else .bad)) ∧
    ((∀ P γ T c c' k a k' b, mQ P γ .and T ⟨c, .c (.int k a)⟩ ⟨c', .c (.int k' b)⟩ = if k = k' then .ok (aS γ ⟨c, .c (.int k a)⟩ ∧ aS γ ⟨c', .c (.int k' b)⟩ ∧ (γ = true → True)) (.c (.int k (bits .and k a b))) else .bad) ∧
     (∀ P γ T c c' k a k' b,mQ P γ .or T ⟨c,.c (.int k a)⟩ ⟨c',.c (.int k' b)⟩=if k=k' then .ok (aS γ ⟨c,.c (.int k a)⟩∧aS γ ⟨c',.c (.int k' b)⟩∧(γ=true→True)) (.c (.int k (bits .or k a b))) else .bad) ∧
     (∀ P γ T c c' k a k' b,mQ P γ .xor T ⟨c,.c (.int k a)⟩ ⟨c',.c (.int k' b)⟩=if k=k' then .ok (aS γ ⟨c,.c (.int k a)⟩∧aS γ ⟨c',.c (.int k' b)⟩∧(γ=true→True)) (.c (.int k (bits .xor k a b))) else .bad) ∧
     (∀ P γ T c c' k a k' b,mQ P γ .shl T ⟨c,.c (.int k a)⟩ ⟨c',.c (.int k' b)⟩=.ok (aS γ ⟨c,.c (.int k a)⟩∧aS γ ⟨c',.c (.int k' b)⟩∧(γ=true→0≤b)) (.c (.int k (k.wrap (a * 2 ^ (min b.toNat k.bits)))))) ∧
     (∀ P γ T c c' k a k' b,mQ P γ .shr T ⟨c,.c (.int k a)⟩ ⟨c',.c (.int k' b)⟩=.ok (aS γ ⟨c,.c (.int k a)⟩∧aS γ ⟨c',.c (.int k' b)⟩∧(γ=true→0≤b)) (.c (.int k (a.fdiv (2 ^ (min b.toNat k.bits))))))) ∧
    ((∀ P γ T c c' k a k' b, mQ P γ .eql T ⟨c, .c (.int k a)⟩ ⟨c', .c (.int k' b)⟩ = if k = k' then .ok (aS γ ⟨c, .c (.int k a)⟩ ∧ aS γ ⟨c', .c (.int k' b)⟩ ∧ (γ = true → True)) (.c (.bool (a == b))) else .bad) ∧
     (∀ P γ T c c' k a k' b,mQ P γ .neq T ⟨c,.c (.int k a)⟩ ⟨c',.c (.int k' b)⟩=if k=k' then .ok (aS γ ⟨c,.c (.int k a)⟩∧aS γ ⟨c',.c (.int k' b)⟩∧(γ=true→True)) (.c (.bool (a != b))) else .bad) ∧
     (∀ P γ T c c' k a k' b,mQ P γ .lss T ⟨c,.c (.int k a)⟩ ⟨c',.c (.int k' b)⟩=if k=k' then .ok (aS γ ⟨c,.c (.int k a)⟩∧aS γ ⟨c',.c (.int k' b)⟩∧(γ=true→True)) (.c (.bool (decide (a<b)))) else .bad) ∧
     (∀ P γ T c c' k a k' b,mQ P γ .leq T ⟨c,.c (.int k a)⟩ ⟨c',.c (.int k' b)⟩=if k=k' then .ok (aS γ ⟨c,.c (.int k a)⟩∧aS γ ⟨c',.c (.int k' b)⟩∧(γ=true→True)) (.c (.bool (decide (a≤b)))) else .bad) ∧
     (∀ P γ T c c' k a k' b,mQ P γ .gtr T ⟨c,.c (.int k a)⟩ ⟨c',.c (.int k' b)⟩=if k=k' then .ok (aS γ ⟨c,.c (.int k a)⟩∧aS γ ⟨c',.c (.int k' b)⟩∧(γ=true→True)) (.c (.bool (decide (a>b)))) else .bad) ∧
     (∀ P γ T c c' k a k' b,mQ P γ .geq T ⟨c,.c (.int k a)⟩ ⟨c',.c (.int k' b)⟩=if k=k' then .ok (aS γ ⟨c,.c (.int k a)⟩∧aS γ ⟨c',.c (.int k' b)⟩∧(γ=true→True)) (.c (.bool (decide (a≥b)))) else .bad)):=by
  refine ⟨⟨?_,?_,?_,?_,?_⟩,⟨?_,?_,?_,?_,?_⟩,?_,?_,?_,?_,?_,?_⟩<;>(intros;rfl)
theorem Iq:
    ((∀ P γ op T c c' a b, mQ P γ op T ⟨c, .c (.str a)⟩ ⟨c', .c (.str b)⟩ = (match we op a b with | some (C, v) => .ok (aS γ ⟨c, .c (.str a)⟩ ∧ aS γ ⟨c', .c (.str b)⟩ ∧ (γ = true → C)) v | none => .bad)) ∧
     (∀ P γ op T c c' a b, mQ P γ op T ⟨c, .c (.bool a)⟩ ⟨c', .c (.bool b)⟩ = (match op, eqV P T (.c (.bool a)) (.c (.bool b)) with
        |.eql,some (C,r)=>.ok (aS γ ⟨c,.c (.bool a)⟩∧aS γ ⟨c',.c (.bool b)⟩∧C) (.c (.bool r))|.neq,some (C,r)=>.ok (aS γ ⟨c,.c (.bool a)⟩∧aS γ ⟨c',.c (.bool b)⟩∧C) (.c (.bool (!r)))|_,_=>.bad)) ∧
     (∀ P γ op T c c' a b, mQ P γ op T ⟨c, .a a⟩ ⟨c', .a b⟩ = (match op, eqV P T (.a a) (.a b) with
        |.eql,some (C,r)=>.ok (aS γ ⟨c,.a a⟩∧aS γ ⟨c',.a b⟩∧C) (.c (.bool r))|.neq,some (C,r)=>.ok (aS γ ⟨c,.a a⟩∧aS γ ⟨c',.a b⟩∧C) (.c (.bool (!r)))|_,_=>.bad)) ∧
     (∀ P T a b,eqV P T (.c (.bool a)) (.c (.bool b))=some (wa P T=true,a == b))∧(∀ P T s es,eqV P T (.c (.tree s es)) (.c .nils)=some (kH P T=true∧es≠[],false))∧(∀ P T,eqV P T (.c .nils) (.c .nils)=some (kH P T=true,true))∧(∀ P T,eqV P T (.c .emn) (.c .nils)=some (kH P T=true,false)) ∧
     (∀ P γ op T c c' s es, mQ P γ op T ⟨c, .c (.tree s es)⟩ ⟨c', .c .nils⟩ = (match op, eqV P T (.c (.tree s es)) (.c .nils) with
        |.eql,some (C,r)=>.ok (aS γ ⟨c,.c (.tree s es)⟩∧aS γ ⟨c',.c .nils⟩∧C) (.c (.bool r))|.neq,some (C,r)=>.ok (aS γ ⟨c,.c (.tree s es)⟩∧aS γ ⟨c',.c .nils⟩∧C) (.c (.bool (!r)))|_,_=>.bad)) ∧
     (∀ P γ op T c c', mQ P γ op T ⟨c, .c .nils⟩ ⟨c', .c .nils⟩ = (match op, eqV P T (.c .nils) (.c .nils) with
        |.eql,some (C,r)=>.ok (aS γ ⟨c,.c .nils⟩∧aS γ ⟨c',.c .nils⟩∧C) (.c (.bool r))|.neq,some (C,r)=>.ok (aS γ ⟨c,.c .nils⟩∧aS γ ⟨c',.c .nils⟩∧C) (.c (.bool (!r)))|_,_=>.bad)) ∧
     (∀ P γ op T c c', mQ P γ op T ⟨c, .c .emn⟩ ⟨c', .c .nils⟩ = (match op, eqV P T (.c .emn) (.c .nils) with
        |.eql,some (C,r)=>.ok (aS γ ⟨c,.c .emn⟩∧aS γ ⟨c',.c .nils⟩∧C) (.c (.bool r))|.neq,some (C,r)=>.ok (aS γ ⟨c,.c .emn⟩∧aS γ ⟨c',.c .nils⟩∧C) (.c (.bool (!r)))|_,_=>.bad))∧(∀ P T xs ys,eqV P T (.a xs) (.a ys)=(match xJ xs ys with|some b=>some (zM P T=some (xs.map wc),b)|none=>none))) ∧
    ((∀ γ c b, unR γ .not ⟨c, .c (.bool b)⟩ = .ok (aS γ ⟨c, .c (.bool b)⟩) (.c (.bool (!b)))) ∧ (∀ γ c k n, unR γ .neg ⟨c, .c (.int k n)⟩ = .ok (aS γ ⟨c, .c (.int k n)⟩) (.c (.int k (k.wrap (0 - n))))) ∧
     (∀ γ c k n,unR γ .xor ⟨c,.c (.int k n)⟩=.ok (aS γ ⟨c,.c (.int k n)⟩) (.c (.int k (bits .xor k (if k.signed then -1 else k.max) n)))) ∧
     (∀ γ c a b,ti γ ⟨c,.c (.bool true)⟩ a b=.ok (aS γ ⟨c,.c (.bool true)⟩∧aS γ a) a.v)∧(∀ γ c a b,ti γ ⟨c,.c (.bool false)⟩ a b=.ok (aS γ ⟨c,.c (.bool false)⟩∧aS γ b) b.v) ∧
     (∀ P γ s d c k n,tj P γ s d ⟨c,.c (.int k n)⟩=.ok (aS γ ⟨c,.c (.int k n)⟩∧(P.underlying s).isSome=true∧wb P d=true) (.c (.int (P.intKind d) ((P.intKind d).wrap n)))) ∧
     (∀ P γ s d c n,tj P γ s d ⟨c,.c (.str n)⟩=.ok (aS γ ⟨c,.c (.str n)⟩∧(P.underlying s).isSome=true∧ox P d=true) (.c (.str n)))) ∧
    ((∀ P γ σ T c b off i, iu P γ σ T ⟨c, .c (.optr b off)⟩ i = .ok (aS γ ⟨c, .c (.optr b off)⟩ ∧ iU σ (.optr b off) ∧ pE P T i = true) (.c (.optr b (off + lW P T i)))) ∧
     (∀ P γ σ T c s es k j i,iu P γ σ T ⟨c,.c (.tptr s es k j)⟩ i=.ok (aS γ ⟨c,.c (.tptr s es k j)⟩∧pE P T i=true) (.c (.tptr s es k (j+lW P T i)))) ∧
     (∀ P γ σ T c b ver k j i,iu P γ σ T ⟨c,.c (.oel b ver k j)⟩ i=.ok (aS γ ⟨c,.c (.oel b ver k j)⟩∧iU σ (.oel b ver k j)∧pE P T i=true) (.c (.oel b ver k (j+lW P T i)))) ∧
     (∀ P γ T c ys i, qD P γ T ⟨c, .a ys⟩ i = .ok (aS γ ⟨c, .a ys⟩ ∧ pE P T i = true ∧ dA P (rM P T i) = true ∧ lW P T i + P.cellsOf (rM P T i) ≤ ys.length ∧ (me P (rM P T i) = true ∨ P.cellsOf (rM P T i) = 1))
      (mkV P (rM P T i) ((ys.drop (lW P T i)).take (P.cellsOf (rM P T i)))))):=by
  refine ⟨⟨?_,?_,?_,?_,?_,?_,?_,?_,?_,?_,?_⟩,⟨?_,?_,?_,?_,?_,?_,?_⟩,?_,?_,?_,?_⟩<;>(intros;rfl)
theorem JD:
    ((∀ P γ σ T c c' s es k n, gR P γ σ T ⟨c, .c (.tree s es)⟩ ⟨c', .c (.int k n)⟩ = .ok (aS γ ⟨c, .c (.tree s es)⟩ ∧ aS γ ⟨c', .c (.int k n)⟩ ∧ kH P T = true ∧ dA P (P.elem T) = true ∧ P.cellsOf (P.elem T) = s ∧ (γ = true → 0 ≤ n ∧ n < es.length)) (.c (.tptr s es n.toNat 0))) ∧
     (∀ P γ σ T c c' b ver lo len k n, gR P γ σ T ⟨c, .c (.osl b ver lo len)⟩ ⟨c', .c (.int k n)⟩ = (match σ[b]? with
        |some (.arr s ver' _ _)=>.ok (aS γ ⟨c,.c (.osl b ver lo len)⟩∧aS γ ⟨c',.c (.int k n)⟩∧ver=ver'∧kH P T=true∧dA P (P.elem T)=true∧P.cellsOf (P.elem T)=s∧(γ=true→0≤n∧n<len)) (.c (.oel b ver (lo+n.toNat) 0))
        |_=>.bad)) ∧
     (∀ P γ σ T c c' b off k n,gR P γ σ T ⟨c,.c (.optr b off)⟩ ⟨c',.c (.int k n)⟩=.ok (aS γ ⟨c,.c (.optr b off)⟩∧aS γ ⟨c',.c (.int k n)⟩∧iU σ (.optr b off)∧nR P T=true∧dA P (P.elem T)=true∧(γ=true→0≤n∧n<P.arrayLen T)) (.c (.optr b (off+n.toNat * P.cellsOf (P.elem T))))) ∧
     (∀ P γ σ T c c' b ver i j k n, gR P γ σ T ⟨c, .c (.oel b ver i j)⟩ ⟨c', .c (.int k n)⟩ = (match σ[b]? with
        |some (.arr s ver' _ _)=>.ok (aS γ ⟨c,.c (.oel b ver i j)⟩∧aS γ ⟨c',.c (.int k n)⟩∧ver=ver'∧nR P T=true∧dA P (P.elem T)=true∧P.cellsOf (P.elem T)=s∧j=0∧(γ=true→0≤n∧n<P.arrayLen T)) (.c (.oel b ver (i+n.toNat) 0))
        |_=>.bad)) ∧
     (∀ P γ σ T c c' s es i j k n,gR P γ σ T ⟨c,.c (.tptr s es i j)⟩ ⟨c',.c (.int k n)⟩=.ok (aS γ ⟨c,.c (.tptr s es i j)⟩∧aS γ ⟨c',.c (.int k n)⟩∧nR P T=true∧dA P (P.elem T)=true∧P.cellsOf (P.elem T)=s∧i=0∧j=0∧P.arrayLen T=es.length∧(γ=true→0≤n∧n<es.length)) (.c (.tptr s es n.toNat 0))) ∧
     (∀ P γ T c c' s k n,mU P γ T ⟨c,.c (.str s)⟩ ⟨c',.c (.int k n)⟩=.ok (aS γ ⟨c,.c (.str s)⟩∧aS γ ⟨c',.c (.int k n)⟩∧ox P T=true∧(γ=true→0≤n∧n<s.length)) (.c (.int .u8 ((s.getD n.toNat 0).toNat)))) ∧
     (∀ P γ T c c' ys k n,mU P γ T ⟨c,.a ys⟩ ⟨c',.c (.int k n)⟩=.ok (aS γ ⟨c,.a ys⟩∧aS γ ⟨c',.c (.int k n)⟩∧nR P T=true∧dA P (P.elem T)=true∧P.arrayLen T * P.cellsOf (P.elem T)≤ys.length∧me P (P.elem T)=false∧P.cellsOf (P.elem T)=1∧(γ=true→0≤n∧n<P.arrayLen T)) (.c (ys.getD n.toNat .junk)))) ∧
    ((∀ γ c ps i, mV γ ⟨c, .t ps⟩ i = .ok (aS γ ⟨c, .t ps⟩ ∧ i < ps.length) (ps.getD i .x)) ∧
     (∀ P γ σ T c s es,s8 P γ σ T ⟨c,.c (.tree s es)⟩=.ok (aS γ ⟨c,.c (.tree s es)⟩∧kH P T=true) (.c (.int .i64 es.length))) ∧
     (∀ P γ σ T c b ver lo len,s8 P γ σ T ⟨c,.c (.osl b ver lo len)⟩=.ok (aS γ ⟨c,.c (.osl b ver lo len)⟩∧iU σ (.osl b ver lo len)∧kH P T=true) (.c (.int .i64 len))) ∧
     (∀ P γ σ T c,s8 P γ σ T ⟨c,.c .nils⟩=.ok (aS γ ⟨c,.c .nils⟩∧kH P T=true) (.c (.int .i64 0)))∧(∀ P γ σ T c,s8 P γ σ T ⟨c,.c .emn⟩=.ok (aS γ ⟨c,.c .emn⟩∧kH P T=true) (.c (.int .i64 0)))∧(∀ P γ σ T c,s8 P γ σ T ⟨c,.c .emp⟩=.ok (aS γ ⟨c,.c .emp⟩∧kH P T=true) (.c (.int .i64 0))) ∧
     (∀ P γ σ T c s,s8 P γ σ T ⟨c,.c (.str s)⟩=.ok (aS γ ⟨c,.c (.str s)⟩∧ox P T=true) (.c (.int .i64 s.length)))) ∧
    ((∀ P γ σ T x, jN P γ σ .len [T] [x] = s8 P γ σ T x) ∧ (∀ P γ σ T T' x y, jN P γ σ .append [T, T'] [x, y] = if T = T' ∨ ox P T' then nN P σ T x y else .bad) ∧
     (∀ P γ σ l x y,jN P γ σ .min l [x,y]=jM γ false x y)∧(∀ P γ σ l x y,jN P γ σ .max l [x,y]=jM γ true x y) ∧
     (∀ γ mx c c' k a k' b,jM γ mx ⟨c,.c (.int k a)⟩ ⟨c',.c (.int k' b)⟩=.ok (aS γ ⟨c,.c (.int k a)⟩∧aS γ ⟨c',.c (.int k' b)⟩∧k=k') (.c (.int k (if mx then (if b>a then b else a) else (if b<a then b else a))))) ∧
     (∀ γ c g caps args,wh γ ⟨c,.c (.fn g caps)⟩ args=if g<4096 then .call (c=true∧∀ e∈args,aS γ e) g (args.map (·.v)++caps.map .c) else wg c (g - 4096) caps args)∧(∀ c g caps,wg c g caps []=.call (c=true) g (caps.map .c)) ∧
     (∀ γ σ c b off,ki γ σ ⟨c,.c (.optr b off)⟩=.ok (aS γ ⟨c,.c (.optr b off)⟩∧iU σ (.optr b off)) (.c (.optr b off)))):=by
  refine ⟨⟨?_,?_,?_,?_,?_,?_,?_⟩,⟨?_,?_,?_,?_,?_,?_,?_⟩,?_,?_,?_,?_,?_,?_,?_,?_⟩<;>(intros;rfl)
theorem FU:
    (∀ ops E,gO ops E none=some true)∧(∀ (l:List Oper) E j w,gO l.toArray E (some (j,w))=(match l[j]? with
      |none=>none
      |some o=>(match o.dst with|none=>none|some d=>(match (E.get d).cond,(E.get d).v with|true,.c (.bool X)=>some (X == w)|true,.t []=>some false|_,_=>none)))):=by
  refine ⟨?_,?_⟩
  · intros;rfl
  · intro l E j w;rw [← List.getElem?_toArray];rfl
end Pam
namespace Pam
open Go
theorem FV{α:Type}[Inhabited α](f:α→List CV)(xs:List α)(i:Nat)(h:i<xs.length):elt (xs.map f) i=f (xs.getD i default):=by
 simp [elt,List.getD,h]
end Pam
namespace Pam
open Go
def Tr.le:Tr→Tr→Prop
  |_,.nil=>True
  |t,.leaf e'=>e'.cond=false∨t=.leaf e'
  |.node a0 a1 a2 a3 a4 a5 a6 a7,.node b0 b1 b2 b3 b4 b5 b6 b7=>Tr.le a0 b0∧Tr.le a1 b1∧Tr.le a2 b2∧Tr.le a3 b3∧Tr.le a4 b4∧Tr.le a5 b5∧Tr.le a6 b6∧Tr.le a7 b7
  |.nil,.node b0 b1 b2 b3 b4 b5 b6 b7=>Tr.le .nil b0∧Tr.le .nil b1∧Tr.le .nil b2∧Tr.le .nil b3∧Tr.le .nil b4∧Tr.le .nil b5∧Tr.le .nil b6∧Tr.le .nil b7
  |_,.node _ _ _ _ _ _ _ _=>False
def Tr.under(n:Nat):Tr→Prop
  |.nil=>True
  |.leaf e=>e.cond=false∨e.v.under n
  |.node a0 a1 a2 a3 a4 a5 a6 a7=>Tr.under n a0∧Tr.under n a1∧Tr.under n a2∧Tr.under n a3∧Tr.under n a4∧Tr.under n a5∧Tr.under n a6∧Tr.under n a7
theorem Tr.le_get{t t':Tr}(h:Tr.le t t')(j:Nat):Tr.le (t.get j) (t'.get j):=by
  rcases Nat.lt_or_ge j 8 with hj|hj
  · have hj':j=0∨j=1∨j=2∨j=3∨j=4∨j=5∨j=6∨j=7:=by omega
    cases t' with
    |nil=>show Tr.le _ .nil;cases t.get j<;>trivial
    |leaf e=>show Tr.le _ .nil;cases t.get j<;>trivial
    |node b0 b1 b2 b3 b4 b5 b6 b7 =>
      cases t with
      |nil =>
        obtain ⟨h0,h1,h2,h3,h4,h5,h6,h7⟩:=h
        rcases hj' with rfl|rfl|rfl|rfl|rfl|rfl|rfl|rfl<;>assumption
      |leaf e=>exact h.elim
      |node a0 a1 a2 a3 a4 a5 a6 a7 =>
        obtain ⟨h0,h1,h2,h3,h4,h5,h6,h7⟩:=h
        rcases hj' with rfl|rfl|rfl|rfl|rfl|rfl|rfl|rfl<;>assumption
  · rw [Tr.get_big t' j hj];cases t.get j<;>trivial
theorem Tr.le_ent{t t':Tr}(h:Tr.le t t')(hc:t'.ent.cond=true):t.ent=t'.ent:=by
  cases t' with
  |nil=>cases hc
  |node=>cases hc
  |leaf e =>
    have h':e.cond=false∨t=.leaf e:=by cases t<;>exact h
    rcases h' with h'|h'
    · simp only [Tr.ent] at hc;rw [h'] at hc;cases hc
    · rw [h']
theorem Tr.under_get{n:Nat}{t:Tr}(h:Tr.under n t)(j:Nat):Tr.under n (t.get j):=by
  rcases Nat.lt_or_ge j 8 with hj|hj
  · have hj':j=0∨j=1∨j=2∨j=3∨j=4∨j=5∨j=6∨j=7:=by omega
    cases t with
    |nil=>trivial
    |leaf e=>trivial
    |node a0 a1 a2 a3 a4 a5 a6 a7 =>
      obtain ⟨h0,h1,h2,h3,h4,h5,h6,h7⟩:=h
      rcases hj' with rfl|rfl|rfl|rfl|rfl|rfl|rfl|rfl<;>assumption
  · rw [Tr.get_big t j hj];trivial
theorem Tr.under_ent{n:Nat}{t:Tr}(h:Tr.under n t)(hc:t.ent.cond=true):t.ent.v.under n:=by
  cases t with
  |nil=>cases hc
  |node=>cases hc
  | leaf e => rcases h with h | h
              · simp only [Tr.ent] at hc;rw [h] at hc;cases hc
              · exact h
def rt(E:Env)(σ:List OB)(E':Env)(τ:List OB):Prop :=
  (E.n=E'.n∧E.na=E'.na)∧Tr.le E.t E'.t∧(∃ ρ,σ=τ++ρ)∧E.na≤τ.length∧di τ.length τ∧Tr.under τ.length E'.t
theorem rt.sim{G:Gh}{E E':Env}{σ τ:List OB}{a:Act}{w:World}(h:rt E σ E' τ)(hs:Sim G E σ a w) :
    ∃ G',Gle G G'∧Sim G' E' τ a w:=by
  obtain ⟨⟨hn,hna'⟩,hk,⟨ρ,rfl⟩,hna,hob,hsl⟩:=h
  refine ⟨{ G with own:=G.own.take τ.length },⟨⟨fun _ _ h=>h,rfl,rfl,rfl⟩,?_⟩,hs.inv.drop hob,hs.defers,by rw [← hn];exact hs.size,by rw [← hna'];exact hs.na,fun i hc=>?_⟩
  · intro b oo hb hoo
    refine ⟨oo,?_,fun o' e=>⟨o',e,.inl rfl⟩⟩
    rw [hs.na] at hb
    simp only
    rw [List.getElem?_take_of_lt (by omega)];exact hoo
  · have hE:E.get i=E'.get i:=Tr.le_ent (Tr.le_get (Tr.le_get (Tr.le_get hk _) _) _) hc
    have hu:(E'.get i).v.under τ.length:=Tr.under_ent (Tr.under_get (Tr.under_get (Tr.under_get hsl _) _) _) hc
    have hr:=hs.slot i (by rw [hE];exact hc)
    rw [hE] at hr
    exact bm.drop (G:=G) (G':={ G with own:=G.own.take τ.length }) rfl rfl hu hr
def Env.erase(E:Env)(i:Nat):Env:=⟨E.n,E.na,E.t.put (i / 64) ((E.t.get (i / 64)).put (i / 8 % 8) (((E.t.get (i / 64)).get (i / 8 % 8)).put (i % 8) .nil))⟩
def Env.forget(E:Env):List Nat→Env
  |[]=>E
  |i :: r=>Env.forget (E.erase i) r
def Env.puts(E:Env):List (Nat×PV)→Env
  |[]=>E
  |(i,p) :: r=>Env.puts (E.put i ⟨true,p⟩) r
def Env.over(E:Env)(ms:List Nat)(l:List (Nat×PV)):Env:=(E.forget ms).puts l
section
variable {P:Program} {K:Kt} {E E0:Env} {σ:List OB}
theorem Cf{c:Code}{E':Env}{τ:List OB}(h:rt E σ E' τ)(hw:W P c K E' τ):W P c K E σ:=fun G a w hs=>by
  obtain ⟨G',h1,h2⟩:=h.sim hs
  exact Code.wp_mono (fun _ _ _ hq=>hN.back h1 hq) (hw G' a w h2)
theorem Tr.get_erase(t:Tr)(i j:Nat)(x:Tr):(t.put i x).get j=.nil∨(t.put i x).get j=t.get j∨(j=i∧(t.put i x).get j=x):=by
  rcases Nat.lt_or_ge i 8 with hi|hi
  · rw [Tr.get_put t i j x hi]
    by_cases e:j=i
    · subst e;simp
    · simp [e]
  · rcases Tr.put_big t i j x hi with h|h
    · exact .inr (.inl h)
    · exact .inl h
theorem Env.erase_get(E:Env)(i j:Nat)(h:((E.erase i).get j).cond=true):(E.erase i).get j=E.get j:=by
  unfold Env.erase Env.get at *
  simp only at *
  have nil1:∀ k,(Tr.nil.get k)=.nil:=fun _=>rfl
  rcases Tr.get_erase E.t (i / 64) (j / 64) ((E.t.get (i / 64)).put (i / 8 % 8) (((E.t.get (i / 64)).get (i / 8 % 8)).put (i % 8) .nil)) with e|e|⟨e0,e⟩
  · rw [e] at h;simp [nil1,Tr.ent] at h
  · rw [e]
  · rw [e] at h ⊢
    rcases Tr.get_erase (E.t.get (i / 64)) (i / 8 % 8) (j / 8 % 8) (((E.t.get (i / 64)).get (i / 8 % 8)).put (i % 8) .nil) with f|f|⟨f0,f⟩
    · rw [f] at h;simp [nil1,Tr.ent] at h
    · rw [f,e0]
    · rw [f] at h ⊢
      rcases Tr.get_erase ((E.t.get (i / 64)).get (i / 8 % 8)) (i % 8) (j % 8) .nil with g|g|⟨g0,g⟩
      · rw [g] at h;simp [Tr.ent] at h
      · rw [g,e0,f0]
      · rw [g] at h;simp [Tr.ent] at h
theorem Env.erase_sim{G:Gh}{E:Env}{σ:List OB}{a:Act}{w:World}(h:Sim G E σ a w)(i:Nat):Sim G (E.erase i) σ a w :=
  ⟨h.inv,h.defers,h.size,h.na,fun j hc=>by have e:=Env.erase_get E i j hc;rw [e] at hc ⊢;exact h.slot j hc⟩
theorem Env.forget_sim{G:Gh}{σ:List OB}{a:Act}{w:World}:∀ (ms:List Nat) {E:Env},Sim G E σ a w→Sim G (E.forget ms) σ a w
  |[],_,h=>h
  |i :: r,_,h=>Env.forget_sim r (Env.erase_sim h i)
theorem oW{c:Code}(ms:List Nat)(h:W P c K (E.forget ms) σ):W P c K E σ:=fun G a w hs=>h G a w (Env.forget_sim ms hs)
theorem ao{id:Nat}{l:List Oper}{y:Code}(ms:List Nat)
    (h:∀ (k:Env→List OB→Prop) (kp:PV→Env→List OB→Prop),(∀ E σ,W P y K E σ→k E σ)→(∀ p E σ,K (.panic p) E σ→kp p E σ)→jz P l.toArray l E σ (fun E σ=>k (E.forget ms) σ) kp) :
    W P (.seq (.region id l.toArray false) y) K E σ:=nV fun G a w hs =>
  wp_region_lit (gT (fun _ _ _ hp=>hN.mono (fun x E σ hk=>by
      cases x with
      |normal=>exact oW ms hk
      |exit id=>exact hk.elim
      |ret=>exact hk.elim
      |panic p=>exact hk) hp)
    l a w (lJ l E σ _ _ (h (W P y K) (fun p=>K (.panic p)) (fun _ _ h=>h) (fun _ _ _ h=>h)) G a w hs))
theorem Bp{id:Nat}{l:List Oper}{y:Code}(ms:List Nat)(hm:P.follows .mixedOrders=true)(masks:List Nat)(bs:List Bool)(hc:chk l.toArray l masks bs=true)
    (h:∀ (k:Env→List OB→Prop),(∀ E σ,W P y K E σ→k E σ)→kj P l.toArray l bs E σ (fun E σ=>k (E.forget ms) σ)):W P (.seq (.region id l.toArray true) y) K E σ :=
  nV (Bo hm masks bs hc (by
    obtain ⟨tr,h1,h2⟩:=lg l bs E σ _ (h (W P y K) fun _ _ h=>h)
    exact ⟨tr,h1,oW ms h2⟩))
theorem an{k:Env→List OB→Prop}(h:k E σ):vu k K .normal E σ:=h
theorem dq{k:Env→List OB→Prop}{i:Nat}(h:K (.exit i) E σ):vu k K (.exit i) E σ:=h
theorem jP{k:Env→List OB→Prop}(h:K .ret E σ):vu k K .ret E σ:=h
theorem eP{k:Env→List OB→Prop}{p:PV}(h:K (.panic p) E σ):vu k K (.panic p) E σ:=h
theorem aJ{i:Nat}(h:K .normal E σ):qH i K .normal E σ:=h
theorem be{i:Nat}(h:K .normal E σ):qH i K (.exit i) E σ:=by simp only [qH,if_true];exact h
theorem Eb{i j:Nat}(hj:j≠i)(h:K (.exit j) E σ):qH i K (.exit j) E σ:=by simp only [qH,iN hj];exact h
theorem fH{i:Nat}(h:K .ret E σ):qH i K .ret E σ:=h
theorem bi{i:Nat}{p:PV}(h:K (.panic p) E σ):qH i K (.panic p) E σ:=h
section
variable {α:Type} {ms:List Nat} {slots:α→List (Nat×PV)} {heap:α→List OB} {inv:α→Prop} {μ:α→Nat} {x:α}
end
theorem iZ{c:Operand}{x y:Code}{X:Bool}(hc:ev E c=⟨true,.c (.bool X)⟩)(hX:X=true)(h:W P x K E σ):W P (.cond c x y) K E σ :=
  D3 hc (fun _=>h) (fun h'=>by rw [hX] at h';cases h')
theorem eg{c:Operand}{x y:Code}{X:Bool}(hc:ev E c=⟨true,.c (.bool X)⟩)(hX:X=false)(h:W P y K E σ):W P (.cond c x y) K E σ :=
  D3 hc (fun h'=>by rw [hX] at h';cases h') (fun _=>h)
end
def ql:List OB→List OB→Prop
  |[],_=>True
  |a :: az,b :: bs=>a=b∧ql az bs
  |_ :: _,[]=>False
theorem wC:∀ {τ σ:List OB},ql τ σ→∃ ρ,σ=τ++ρ
  |[],σ,_=>⟨σ,rfl⟩
  |a :: az,b :: bs,h=>by obtain ⟨ρ,hr⟩:=wC h.2;exact ⟨ρ,by rw [h.1,hr];rfl⟩
theorem De(τ ρ:List OB):ql τ (τ++ρ):=by
  induction τ with
  |nil=>trivial
  |cons a az ih=>exact ⟨rfl,ih⟩
theorem Ec:
    ((∀ E σ E' τ, rt E σ E' τ = ((E.n = E'.n ∧ E.na = E'.na) ∧ Tr.le E.t E'.t ∧ ql τ σ ∧ E.na ≤ τ.length ∧ di τ.length τ ∧ Tr.under τ.length E'.t)) ∧
     (∀ τ,ql [] τ=True)∧(∀ a az b bs,ql (a :: az) (b :: bs)=(a=b∧ql az bs))∧(∀ a az,ql (a :: az) []=False) ∧
     (∀ t,Tr.le t .nil=True)∧(∀ e t,Tr.le t (.leaf ⟨false,e⟩)=True)∧(∀ c v v',Tr.le (.leaf ⟨c,v⟩) (.leaf ⟨true,v'⟩)=(c=true∧v=v')) ∧
     (∀ b0 b1 b2 b3 b4 b5 b6 b7,Tr.le .nil (.node b0 b1 b2 b3 b4 b5 b6 b7)=(Tr.le .nil b0∧Tr.le .nil b1∧Tr.le .nil b2∧Tr.le .nil b3∧Tr.le .nil b4∧Tr.le .nil b5∧Tr.le .nil b6∧Tr.le .nil b7)) ∧
     (∀ a0 a1 a2 a3 a4 a5 a6 a7 b0 b1 b2 b3 b4 b5 b6 b7,Tr.le (.node a0 a1 a2 a3 a4 a5 a6 a7) (.node b0 b1 b2 b3 b4 b5 b6 b7)=(Tr.le a0 b0∧Tr.le a1 b1∧Tr.le a2 b2∧Tr.le a3 b3∧Tr.le a4 b4∧Tr.le a5 b5∧Tr.le a6 b6∧Tr.le a7 b7))) ∧
    ((∀ n, Tr.under n .nil = True) ∧ (∀ n v, Tr.under n (.leaf ⟨false, v⟩) = True) ∧ (∀ n v, Tr.under n (.leaf ⟨true, v⟩) = v.under n) ∧
     (∀ n a0 a1 a2 a3 a4 a5 a6 a7,Tr.under n (.node a0 a1 a2 a3 a4 a5 a6 a7)=(Tr.under n a0∧Tr.under n a1∧Tr.under n a2∧Tr.under n a3∧Tr.under n a4∧Tr.under n a5∧Tr.under n a6∧Tr.under n a7))) ∧
    ((∀ E ms l,Env.over E ms l=(E.forget ms).puts l) ∧      (∀ E,Env.puts E []=E)∧(∀ E i p r,Env.puts E ((i,p) :: r)=Env.puts (E.put i ⟨true,p⟩) r)) ∧
    ((∀ n, di n [] = True) ∧ (∀ n o r, di n (o :: r) = (o.under n ∧ di n r)) ∧ (∀ n cs, OB.under n (.box cs) = eY n cs) ∧ (∀ n, OB.under n .dead = True) ∧ (∀ n s v T es, OB.under n (.arr s v T es) = True) ∧ (∀ n P k m, OB.under n (.mp P k m) = True) ∧
     (∀ n,eY n []=True)∧(∀ n c r,eY n (c :: r)=(c.under n∧eY n r))∧(∀ n y,PV.under n (.c y)=y.under n)∧(∀ n ys,PV.under n (.a ys)=eY n ys)∧(∀ n,PV.under n .x=True)) ∧
    ((∀ n b, CV.under n (.bool b) = True) ∧ (∀ n k m, CV.under n (.int k m) = True) ∧ (∀ n s, CV.under n (.str s) = True) ∧ (∀ n s es, CV.under n (.tree s es) = True) ∧ (∀ n s es i j, CV.under n (.tptr s es i j) = True) ∧
     (∀ n,CV.under n .nilp=True)∧(∀ n,CV.under n .nils=True)∧(∀ n,CV.under n .nilf=True)∧(∀ n,CV.under n .nili=True)∧(∀ n,CV.under n .emp=True)∧(∀ n,CV.under n .emn=True)∧(∀ n,CV.under n .junk=True) ∧
     (∀ n b off,CV.under n (.optr b off)=(b<n))∧(∀ n b v l k,CV.under n (.osl b v l k)=(b<n))∧(∀ n b v i j,CV.under n (.oel b v i j)=(b<n))∧(∀ n f,CV.under n (.fn f [])=True)∧(∀ n t g cs,CV.under n (.ifc t g cs)=True)):=by
  refine ⟨⟨?_,?_,?_,?_,?_,?_,?_,?_,?_⟩,⟨?_,?_,?_,?_⟩,⟨?_,?_,?_⟩,⟨?_,?_,?_,?_,?_,?_,?_,?_,?_,?_,?_⟩,?_,?_,?_,?_,?_,?_,?_,?_,?_,?_,?_,?_,?_,?_,?_,?_,?_⟩
  all_goals first
    |(intros;rfl)
    |(intro E σ E' τ;unfold rt;exact propext ⟨fun ⟨h1,h2,⟨ρ,h3⟩,h4⟩=>⟨h1,h2,by rw [h3];exact De τ ρ,h4⟩,fun ⟨h1,h2,h3,h4⟩=>⟨h1,h2,wC h3,h4⟩⟩)
    |(intro t;cases t<;>rfl)
    |(intro e t;cases t<;>simp [Tr.le];done)
    |(intros;simp [Tr.le];done)
    |(intros;simp [Tr.under];done)
    |(intros;simp [CV.under];done)
theorem oy{P:Program}{c:Code}{K:Kt}{E E':Env}{σ σ':List OB}(hE:E=E')(hσ:σ=σ')(h:W P c K E' σ'):W P c K E σ:=by subst hE hσ;exact h
theorem GK:
    ((∀ x y,(PV.c x=PV.c y)=(x=y))∧(∀ x y,(PV.a x=PV.a y)=(x=y))∧(∀ x y,(PV.t x=PV.t y)=(x=y))∧(∀ k n k' n',(CV.int k n=CV.int k' n')=(k=k'∧n=n'))∧(∀ b b',(CV.bool b=CV.bool b')=(b=b'))∧(∀ b b',(CV.str b=CV.str b')=(b=b'))) ∧
    ((∀ s es s' es', (CV.tree s es = CV.tree s' es') = (s = s' ∧ es = es')) ∧ (∀ s es i j s' es' i' j', (CV.tptr s es i j = CV.tptr s' es' i' j') = (s = s' ∧ es = es' ∧ i = i' ∧ j = j')) ∧
     (∀ b o b' o',(CV.optr b o=CV.optr b' o')=(b=b'∧o=o'))∧(∀ b v l n b' v' l' n',(CV.osl b v l n=CV.osl b' v' l' n')=(b=b'∧v=v'∧l=l'∧n=n'))∧(∀ b v l n b' v' l' n',(CV.oel b v l n=CV.oel b' v' l' n')=(b=b'∧v=v'∧l=l'∧n=n'))) ∧
    ((∀ cs cs', (OB.box cs = OB.box cs') = (cs = cs')) ∧ (∀ s v T es s' v' T' es', (OB.arr s v T es = OB.arr s' v' T' es') = (s = s' ∧ v = v' ∧ T = T' ∧ es = es')) ∧ (∀ P k m P' k' m', (OB.mp P k m = OB.mp P' k' m') = (P = P' ∧ k = k' ∧ m = m')) ∧
     (∀ {α:Type} (a:α) az b bs,(a :: az=b :: bs)=(a=b∧az=bs))∧(∀ {α β:Type} (a:α) (b:β) a' b',((a,b)=(a',b'))=(a=a'∧b=b'))):=by
  refine ⟨⟨?_,?_,?_,?_,?_,?_⟩,⟨?_,?_,?_,?_,?_⟩,?_,?_,?_,?_,?_⟩<;>(intros;simp)
theorem Ir:
    ((∀ P rs post pp E σ, oT P rs post pp .ret E σ = (match iD P E σ rs with | some (C, ps) => C ∧ ps.all PV.isV = true ∧ post (ia ps) σ | none => False)) ∧
     (∀ P rs post pp E σ,oT P rs post pp .normal E σ=(match iD P E σ rs with|some (C,ps)=>C∧ps.all PV.isV=true∧post (ia ps) σ|none=>False)) ∧
     (∀ P rs post pp p E σ,oT P rs post pp (.panic p) E σ=pp p σ)) ∧
    ((∀ P E σ, iD P E σ [] = some (True, [])) ∧ (∀ P E σ r rs, iD P E σ (r :: rs) = (match Da P E σ r, iD P E σ rs with | some (C, p), some (C', ps) => some (C ∧ C', p :: ps) | _, _ => none)) ∧
     (∀ P E σ t,Da P E σ (.tmp t)=some ((E.get t).cond=true,(E.get t).v))∧(∀ P E σ t T,Da P E σ (.cell t T)=(match oQ P true σ T (E.get t) with|.ok C v=>some (C,v)|_=>none))) ∧
    ((∀ p,ia [p]=p)∧(ia []=.t [])∧(∀ p q r,ia (p :: q :: r)=.t (p :: q :: r))∧(∀ y,PV.isV (.c y)=true)∧(∀ y,PV.isV (.a y)=true)∧(PV.isV .x=true)):=by
  refine ⟨⟨?_,?_,?_⟩,⟨?_,?_,?_,?_⟩,?_,?_,?_,?_,?_,?_⟩<;>(intros;rfl)
theorem Is:(∀ E,Env.forget E []=E)∧(∀ E i r,Env.forget E (i :: r)=Env.forget (E.erase i) r)∧(∀ n na t i,Env.erase ⟨n,na,t⟩ i=⟨n,na,t.put (i / 64) ((t.get (i / 64)).put (i / 8 % 8) (((t.get (i / 64)).get (i / 8 % 8)).put (i % 8) .nil))⟩) :=
  ⟨fun _=>rfl,fun _ _ _=>rfl,fun _ _ _ _=>rfl⟩
end Pam
namespace Pam
open Go
def oX(n:Nat):List PV→Prop
 |[]=>True
 |p :: r=>p.under n∧oX n r
def PV.underP(n:Nat):PV→Prop
 |.t ps=>oX n ps
 |p=>p.under n
theorem qC.drop{G G':Gh}{n:Nat}(hH:G'.H=G.H)(ho:G'.own=G.own.take n){p:PV}{v:Value}(hb:p.under n)(h:qC G p v):qC G' p v:=by
 cases p with
 |x=>trivial
 |c y=>exact Rep.drop hH ho hb h
 |a ys=>obtain ⟨vs,rfl,h2⟩:=h;exact ⟨vs,rfl,aZ.under hH ho hb h2⟩
 |t ps=>exact hb.elim
theorem bm.dropP{G G':Gh}{n:Nat}(hH:G'.H=G.H)(ho:G'.own=G.own.take n){p:PV}{v:Value}(hb:p.underP n)(h:bm G p v):bm G' p v:=by
 cases p with
 |x=>trivial
 |c y=>exact bm.drop (p:=.c y) hH ho hb h
 |a ys=>exact bm.drop (p:=.a ys) hH ho hb h
 |t ps =>
  obtain ⟨vs,rfl,h2⟩:=h
  refine ⟨vs,rfl,?_⟩
  have hb':oX n ps:=hb
  clear hb
  induction ps generalizing vs with
  |nil=>cases vs<;>simp_all [aZ]
  |cons p ps ih =>
   cases vs with
   |nil=>simp [aZ] at h2
   |cons v vs=>exact ⟨qC.drop hH ho hb'.1 h2.1,ih vs h2.2 hb'.2⟩
def Bq(n:Nat)(post:PV→List OB→Prop)(p:PV)(σ:List OB):Prop :=
 ∃ τ,ql τ σ∧n≤τ.length∧di τ.length τ∧p.underP τ.length∧post p τ
theorem ed.drop{P:Program}{f:FuncId}{args:List PV}{σ:List OB}{post pp:PV→List OB→Prop}(h:ed P f args σ (Bq σ.length post) pp):ed P f args σ post pp:=by
 refine ⟨h.1,fun G w vs hna hds hi ha=>(h.2 G w vs hna hds hi ha).mono fun e w' hr=>?_⟩
 obtain ⟨G',σ',p,v,h1,h2,h3,h4⟩:=hr
 rcases h4 with ⟨rfl,τ,k1,k2,k3,k4,k5⟩|h4
 ·obtain ⟨ρ,rfl⟩:=wC k1
  refine ⟨{ G' with own:=G'.own.take τ.length },τ,p,v,⟨⟨h1.le.H,h1.le.F,h1.le.w0,h1.le.na⟩,?_⟩,h2.drop k3,bm.dropP (G:=G') (G':={ G' with own:=G'.own.take τ.length }) rfl rfl k4 h3,.inl ⟨rfl,k5⟩⟩
  intro b oo hb hoo
  obtain ⟨oo',q1,q2⟩:=h1.own b oo hb hoo
  refine ⟨oo',?_,q2⟩
  simp only
  rw [List.getElem?_take_of_lt (by omega)];exact q1
 ·exact ⟨G',σ',p,v,h1,h2,h3,.inr h4⟩
theorem wD{P:Program}{σ:List OB}{f:FuncId}{fn:Func}{c:Code}{args:List PV}{post pp:PV→List OB→Prop}(n:Nat)(rs:List ResultVar)(hf:P.funcs[f]? = some fn)(hb:fn.body=some c)(hn:fn.ntmps=n)(hr:fn.results.toList=rs)
  (hname:(fn.name == "runtime.NumGoroutine")=false) (hlen:args.length≤n)
  (h:W P c (oT P rs (Bq σ.length post) pp) (Env.ofList n σ.length (jO 0 args)) σ):ed P f args σ post pp :=
 ed.drop (FT n rs hf hb hn hr hname hlen h)
theorem FW:((∀ n ps,PV.underP n (.t ps)=oX n ps)∧(∀ n y,PV.underP n (.c y)=y.under n)∧(∀ n ys,PV.underP n (.a ys)=eY n ys)∧(∀ n,PV.underP n .x=True)) ∧
  ((∀ n,oX n []=True)∧(∀ n p r,oX n (p :: r)=(p.under n∧oX n r))):=by
 refine ⟨⟨?_,?_,?_,?_⟩,?_,?_⟩<;>(intros;rfl)
theorem Df{P:Program}{rs:List ResultVar}{n:Nat}{post pp:PV→List OB→Prop}{E:Env}{σ:List OB}(τ:List OB)
  (h:match iD P E σ rs with|some (C,ps)=>C∧ps.all PV.isV=true∧(ql τ σ∧n≤τ.length∧di τ.length τ∧(ia ps).underP τ.length∧post (ia ps) τ)|none=>False):oT P rs (Bq n post) pp .ret E σ:=by
 simp only [oT]
 split at h
 ·rename_i C ps e
  rw [e]
  exact ⟨h.1,h.2.1,τ,h.2.2⟩
 ·exact h.elim
theorem sP{P:Program}{rs:List ResultVar}{n:Nat}{post pp:PV→List OB→Prop}{E:Env}{σ:List OB}(τ:List OB)
  (h:match iD P E σ rs with|some (C,ps)=>C∧ps.all PV.isV=true∧(ql τ σ∧n≤τ.length∧di τ.length τ∧(ia ps).underP τ.length∧post (ia ps) τ)|none=>False):oT P rs (Bq n post) pp .normal E σ:=by
 simp only [oT]
 split at h
 ·rename_i C ps e
  rw [e]
  exact ⟨h.1,h.2.1,τ,h.2.2⟩
 ·exact h.elim
end Pam
namespace Pam
open Go
def kB(E:Env)(σ:List OB)(E':Env)(σ':List OB):Prop :=
  ∀ (G:Gh) (a:Act) (w:World),Sim G E σ a w→∃ G',Gle G G'∧Sim G' E' σ' a w
theorem jr{P:Program}{c:Code}{K:Kt}{E E':Env}{σ σ':List OB}(hg:kB E σ E' σ')(h:W P c K E' σ'):W P c K E σ:=fun G a w hs=>by
  obtain ⟨G',h1,h2⟩:=hg G a w hs
  exact Code.wp_mono (fun _ _ _ hq=>hN.back h1 hq) (h G' a w h2)
theorem aC{P:Program}{ops:Array Oper}{γ:Bool}{C:Prop}{f:FuncId}{args:List PV}{o:Oper}{r:List Oper}{E E':Env}{σ σ':List OB}{k:Env→List OB→Prop}{kp:PV→Env→List OB→Prop}
    (hg:kB E σ E' σ') (h:jz P ops (o :: r) E' σ' k kp):mY P ops γ C f args o r E σ k kp:=by
  intro _ _ G a w hs
  obtain ⟨G',h1,h2⟩:=hg G a w hs
  exact gT (fun _ _ _ hq=>hN.back h1 hq) _ _ _ (lJ _ _ _ _ _ h G' a w h2)
def CV.frO(b ver s:Nat)(es:List (List CV)):CV→CV
  |.osl b' v lo len=>if b'=b then (if v=ver∧lo+len≤es.length then .tree s ((es.drop lo).take len) else .junk) else .osl b' v lo len
  |.oel b' v i j=>if b'=b then .junk else .oel b' v i j
  |.optr b' off=>if b'=b then .junk else .optr b' off
  |.fn f caps=>.fn f caps
  |.junk=>.junk
  |.bool x=>.bool x
  |.int k n=>.int k n
  |.str x=>.str x
  |.nilp=>.nilp
  |.nils=>.nils
  |.nilf=>.nilf
  |.nili=>.nili
  |.emp=>.emp
  |.emn=>.emn
  |.tree s' es'=>.tree s' es'
  |.tptr s' es' i j=>.tptr s' es' i j
  |.ifc T g cs=>.ifc T g cs
def CV.fr(b ver s:Nat)(es:List (List CV)):CV→CV
  |.fn f caps=>.fn f (caps.map (CV.frO b ver s es))
  |c=>c.frO b ver s es
def PV.fr(b ver s:Nat)(es:List (List CV)):PV→PV
  |.x=>.x
  |.c y=>.c (y.fr b ver s es)
  |.a ys=>.a (ys.map (CV.fr b ver s es))
  |.t _=>.x
def OB.fr(b ver s:Nat)(es:List (List CV)):OB→OB
  |.box cs=>.box (cs.map (CV.fr b ver s es))
  |.arr s' v T e=>.arr s' v T e
  |.dead=>.dead
  |.mp P k m=>.mp P k m
def Tr.fr(b ver s:Nat)(es:List (List CV)):Tr→Tr
  |.nil=>.nil
  |.leaf e=>.leaf ⟨e.cond && (match e.v with|.t _=>false|_=>true),e.v.fr b ver s es⟩
  |.node a0 a1 a2 a3 a4 a5 a6 a7=>.node (a0.fr b ver s es) (a1.fr b ver s es) (a2.fr b ver s es) (a3.fr b ver s es) (a4.fr b ver s es) (a5.fr b ver s es) (a6.fr b ver s es) (a7.fr b ver s es)
def Env.fr(b ver s:Nat)(es:List (List CV))(E:Env):Env:=⟨E.n,E.na,E.t.fr b ver s es⟩
theorem Tr.fr_get(b ver s:Nat)(es:List (List CV))(t:Tr)(j:Nat):(t.fr b ver s es).get j=(t.get j).fr b ver s es:=by
  rcases Nat.lt_or_ge j 8 with hj|hj
  · have hj':j=0∨j=1∨j=2∨j=3∨j=4∨j=5∨j=6∨j=7:=by omega
    cases t<;>rcases hj' with rfl|rfl|rfl|rfl|rfl|rfl|rfl|rfl<;>rfl
  · rw [Tr.get_big _ _ hj,Tr.get_big _ _ hj];rfl
theorem Tr.fr_ent(b ver s:Nat)(es:List (List CV))(t:Tr):(t.fr b ver s es).ent=⟨t.ent.cond && (match t.ent.v with|.t _=>false|_=>true),t.ent.v.fr b ver s es⟩:=by
  cases t<;>rfl
def frG(G:Gh)(w:World)(b:Nat)(o:OG):Gh :=
  { G with H:=fun x=>if G.H x=none∧o.has=true∧x=o.blk then w.heap[x]? else G.H x,own:=G.own.set b none,tabs:=G.tabs.mono fun x y h=>by rw [iN (fun k=>by rw [k.1] at h;cases h)];exact h }
section
variable {G:Gh} {σ:List OB} {w:World} {b s ver:Nat} {T:TypeId} {es:List (List CV)} {o:OG}
theorem Cg(hi:Inv G σ w)(ho:G.own[b]? = some (some o)):∀ x y,G.H x=some y→(frG G w b o).H x=some y:=by
  intro x y h
  simp only [frG]
  split
  · rename_i hc
    rw [hc.1] at h;cases h
  · exact h
theorem Ch(ho:G.own[b]? = some (some o)):cO G.own (G.own.set b none):=by
  intro x oo h
  by_cases e:x=b
  · subst e
    have hlt:x<G.own.length:=(List.getElem?_eq_some_iff.1 h).1
    exact ⟨none,by simp [hlt],fun o' ho'=>by cases ho'⟩
  · exact ⟨oo,by rw [List.getElem?_set_ne (Ne.symm e)];exact h,fun o' ho'=>⟨o',ho',.inl rfl⟩⟩
theorem lD(hi:Inv G σ w)(hσ:σ[b]? = some (.arr s ver T es))(ho:G.own[b]? = some (some o)){c:CV}{v:Value}(h:hZ G c v):hZ (frG G w b o) (c.frO b ver s es) v:=by
  have h1:v.oneCell'=true:=hZ.one h
  have hm:∀ {c},hZ G c v→hZ (frG G w b o) c v:=fun h=>hZ.mono (Cg hi ho) (Ch ho) h
  have junk:hZ (frG G w b o) .junk v:=.junk v h1
  cases c<;>simp only [CV.frO]<;>try exact hm h
  case optr b' off =>
    split
    · exact junk
    · exact hm h
  case oel b' v' i j =>
    split
    · exact junk
    · exact hm h
  case osl b' v' lo len =>
    split
    · rename_i e
      subst e
      split
      · rename_i hc
        obtain ⟨rfl,hle⟩:=hc
        obtain ⟨_,oo,k1,k2⟩:=h
        rw [ho] at k1
        simp only [sJ] at k1
        obtain ⟨o',g1,g2,g3,g4,g5,g6,g7,g8,g9⟩:=hi.own b' _ hσ
        rw [ho] at g1
        simp only [sJ] at g1
        subst g1
        obtain ⟨q1,q2⟩:=k2 o k1.symm
        obtain ⟨q3,a,rfl,q4⟩:=q2 g2.symm
        have hlen:((es.drop lo).take len).length=len:=by simp;omega
        show bY _ _ _
        rcases Nat.eq_zero_or_pos len with e0|e0
        · subst e0
          simp only [List.take_zero]
          exact .tree0 s a _ (fun h=>by
            cases hh:o.has with
            |true=>obtain ⟨a',e,_⟩:=q4 hh;rw [h] at e;cases e
            |false=>have:=g8 hh;omega)
        · have hh:o.has=true:=by
            cases hh:o.has with
            |true=>rfl
            |false=>have:=g8 hh;omega
          obtain ⟨a',rfl,q5⟩:=q4 hh
          have:=q5 (by omega)
          subst this
          obtain ⟨c,fz,r1,r2,r3,r4⟩:=g9 hh
          have hget:∀ (i:Nat) (e:List CV),((es.drop lo).take len)[i]? = some e→es[lo+i]? = some e:=by
            intro i e h
            rw [List.getElem?_take] at h
            split at h
            · rwa [List.getElem?_drop] at h
            · cases h
          have hr:=bY.tree (H:=(frG G w b' o).H) s ((es.drop lo).take len) o.blk (o.off+lo * o.sz) (o.cap - lo) c T fz (fun i j=>(c[o.off+lo * o.sz+i * s+j]?).getD undef) (by simp [frG,hh,r1,(hi.sep b' o ho hh).1]) (by omega)
            (fun i e h=>g7 e (List.mem_of_getElem? (hget i e h)))
            (fun i j e x h1 h2=>by
              obtain ⟨v,r5,_⟩:=r4 (lo+i) j e x (hget i e h1) h2
              have:o.off+lo * o.sz+i * s+j=o.off+(lo+i) * s+j:=by rw [g3,Nat.add_mul];omega
              rw [this,r5];rfl)
            (fun i j e x h1 h2=>by
              obtain ⟨v,r5,r6⟩:=r4 (lo+i) j e x (hget i e h1) h2
              have:o.off+lo * o.sz+i * s+j=o.off+(lo+i) * s+j:=by rw [g3,Nat.add_mul];omega
              rw [this,r5]
              exact bY.mono (Cg hi ho) r6)
          rw [hlen] at hr
          exact hr
      · exact junk
    · exact hm h
theorem GL(hi:Inv G σ w)(hσ:σ[b]? = some (.arr s ver T es))(ho:G.own[b]? = some (some o)){c:CV}{v:Value}(h:Rep G c v):Rep (frG G w b o) (c.fr b ver s es) v:=by
  cases c
  case fn f caps =>
    obtain ⟨vs,rfl,h2⟩:=h
    refine ⟨vs,rfl,?_⟩
    induction caps generalizing vs with
    |nil=>cases vs<;>simp_all [aZ]
    |cons c cs ih =>
      cases vs with
      |nil=>simp [aZ] at h2
      |cons v vs=>exact ⟨lD hi hσ ho h2.1,ih vs h2.2⟩
  all_goals first
    |exact lD hi hσ ho (c:=.junk) h
    |exact lD hi hσ ho (c:=.bool _) h
    |exact lD hi hσ ho (c:=.int _ _) h
    |exact lD hi hσ ho (c:=.str _) h
    |exact lD hi hσ ho (c:=.nilp) h
    |exact lD hi hσ ho (c:=.nils) h
    |exact lD hi hσ ho (c:=.nilf) h
    |exact lD hi hσ ho (c:=.nili) h
    |exact lD hi hσ ho (c:=.emp) h
    |exact lD hi hσ ho (c:=.emn) h
    |exact lD hi hσ ho (c:=.tree _ _) h
    |exact lD hi hσ ho (c:=.tptr _ _ _ _) h
    |exact lD hi hσ ho (c:=.ifc _ _ _) h
    |skip
  case optr b' off =>
    have:=lD hi hσ ho (c:=.optr b' off) h
    simp only [CV.fr]
    by_cases e:b'=b<;>simp only [CV.frO,e,if_true,if_false] at this ⊢<;>exact this
  case osl b' v' lo len =>
    have:=lD hi hσ ho (c:=.osl b' v' lo len) h
    simp only [CV.fr]
    by_cases e:b'=b
    · by_cases e2:v'=ver∧lo+len≤es.length<;>simp only [CV.frO,e,e2,if_true,if_false] at this ⊢<;>exact this
    · simp only [CV.frO,e,if_false] at this ⊢;exact this
  case oel b' v' i j =>
    have:=lD hi hσ ho (c:=.oel b' v' i j) h
    simp only [CV.fr]
    by_cases e:b'=b<;>simp only [CV.frO,e,if_true,if_false] at this ⊢<;>exact this
theorem Ed(hi:Inv G σ w)(hσ:σ[b]? = some (.arr s ver T es))(ho:G.own[b]? = some (some o)):∀ {cs:List CV} {vs:List Value},aZ (Rep G) cs vs→aZ (Rep (frG G w b o)) (cs.map (CV.fr b ver s es)) vs
  |[],[],_=>trivial
  |_ :: _,_ :: _,h=>⟨GL hi hσ ho h.1,Ed hi hσ ho h.2⟩
theorem It(hi:Inv G σ w)(hσ:σ[b]? = some (.arr s ver T es))(ho:G.own[b]? = some (some o)):Inv (frG G w b o) ((σ.set b .dead).map (OB.fr b ver s es)) w:=by
  have hH:=Cg (b:=b) hi ho
  have hblt:b<G.own.length:=(List.getElem?_eq_some_iff.1 ho).1
  have hne:∀ (x:Nat) (o':OG),(G.own.set b none)[x]? = some (some o')→x≠b∧G.own[x]? = some (some o'):=by
    intro x o' h
    by_cases e:x=b
    · subst e;simp [hblt] at h
    · rw [List.getElem?_set_ne (Ne.symm e)] at h;exact ⟨e,h⟩
  refine ⟨?_,hi.hF,?_,by simp [frG,hi.len],?_,fun x x' o1 o2 h1 h2=>hi.inj x x' o1 o2 (hne _ _ h1).2 (hne _ _ h2).2,?_,hi.os,hi.tape,hi.output,hi.grow⟩
  · intro x y h
    simp only [frG] at h
    split at h
    · exact h
    · exact hi.hH x y h
  · intro x y h
    simp only [frG]
    split
    · rename_i hc
      have:=(hi.sep b o ho hc.2.1).2
      have h:G.F x=some y:=h
      rw [hc.2.2] at h;rw [this] at h;cases h
    · exact hi.HF x y h
  · intro x ob h
    rw [List.getElem?_map,Option.map_eq_some_iff] at h
    obtain ⟨ob',h1,rfl⟩:=h
    by_cases e:x=b
    · subst e
      have hlt:x<σ.length:=(List.getElem?_eq_some_iff.1 hσ).1
      simp only [List.getElem?_set_self hlt,sJ] at h1
      subst h1
      simp [OB.fr,oP,frG,hblt]
    · rw [List.getElem?_set_ne (Ne.symm e)] at h1
      have hx:(frG G w b o).own[x]? = G.own[x]? := by simp only [frG];exact List.getElem?_set_ne (Ne.symm e)
      have hok:=hi.own x ob' h1
      cases ob' with
      |dead=>simpa [OB.fr,oP,hx] using hok
      |box cs =>
        obtain ⟨o',c,T',g1,g2,g3,g4,g5⟩:=hok
        exact ⟨o',c,T',hx.trans g1,g2,g3,g4,Ed hi hσ ho g5⟩
      |arr s' v' T' e' =>
        obtain ⟨o',g1,g2,g3,g4,g5,g6,g7,g8,g9⟩:=hok
        refine ⟨o',hx.trans g1,g2,g3,g4,g5,g6,g7,g8,fun hh=>?_⟩
        obtain ⟨c,fz,r1,r2,r3,r4⟩:=g9 hh
        exact ⟨c,fz,r1,r2,r3,fun i j e y p1 p2=>by obtain ⟨v,p3,p4⟩:=r4 i j e y p1 p2;exact ⟨v,p3,bY.mono hH p4⟩⟩
      |mp P k m =>
        obtain ⟨o',g1,g2,g3,g4,g5⟩:=hok
        exact ⟨o',hx.trans g1,g2,g3,g4,g5.keep hH rfl⟩
  · intro x o' h hh
    obtain ⟨e,h'⟩:=hne _ _ h
    obtain ⟨s1,s2⟩:=hi.sep x o' h' hh
    refine ⟨?_,s2⟩
    simp only [frG]
    split
    · rename_i hc
      exact (e (hi.inj x b o' o h' ho hh hc.2.1 hc.2.2)).elim
    · exact s1
end
theorem aH{E:Env}{σ:List OB}(b:Nat){s ver:Nat}{T:TypeId}{es:List (List CV)}(hσ:σ[b]? = some (.arr s ver T es)):kB E σ (E.fr b ver s es) ((σ.set b .dead).map (OB.fr b ver s es)):=by
  intro G a w hs
  have hi:=hs.inv
  obtain ⟨o,ho,_⟩:=hi.own b _ hσ
  refine ⟨frG G w b o,.mk' ⟨Cg hi ho,rfl,rfl,rfl⟩ (Ch ho),It hi hσ ho,hs.defers,hs.size,hs.na,fun i hc=>?_⟩
  have hget:(E.fr b ver s es).get i=⟨(E.get i).cond && (match (E.get i).v with|.t _=>false|_=>true),(E.get i).v.fr b ver s es⟩:=by
    unfold Env.get Env.fr
    simp only
    rw [Tr.fr_get,Tr.fr_get,Tr.fr_get,Tr.fr_ent]
  rw [hget] at hc ⊢
  simp only [Bool.and_eq_true] at hc
  have hr:=hs.slot i hc.1
  cases hv:(E.get i).v with
  |x=>trivial
  |c y=>rw [hv] at hr;exact GL hi hσ ho hr
  |a ys=>rw [hv] at hr;obtain ⟨vs,e,h2⟩:=hr;exact ⟨vs,e,Ed hi hσ ho h2⟩
  |t ps=>rw [hv] at hc;simp at hc
theorem JE:
    ((∀ b v s es n na t, Env.fr b v s es ⟨n, na, t⟩ = ⟨n, na, t.fr b v s es⟩) ∧ (∀ b v s es, Tr.fr b v s es .nil = .nil) ∧ (∀ b v s es c y, Tr.fr b v s es (.leaf ⟨c, .c y⟩) = .leaf ⟨c, .c (y.fr b v s es)⟩) ∧ (∀ b v s es c ys, Tr.fr b v s es (.leaf ⟨c, .a ys⟩) = .leaf ⟨c, .a (ys.map (CV.fr b v s es))⟩) ∧
     (∀ b v s es c ps,Tr.fr b v s es (.leaf ⟨c,.t ps⟩)=.leaf ⟨false,.x⟩)∧(∀ b v s es c,Tr.fr b v s es (.leaf ⟨c,.x⟩)=.leaf ⟨c,.x⟩) ∧
     (∀ b v s es a0 a1 a2 a3 a4 a5 a6 a7,Tr.fr b v s es (.node a0 a1 a2 a3 a4 a5 a6 a7)=.node (a0.fr b v s es) (a1.fr b v s es) (a2.fr b v s es) (a3.fr b v s es) (a4.fr b v s es) (a5.fr b v s es) (a6.fr b v s es) (a7.fr b v s es))) ∧
    ((∀ b v s es,OB.fr b v s es .dead=.dead)∧(∀ b v s es cs,OB.fr b v s es (.box cs)=.box (cs.map (CV.fr b v s es)))∧(∀ b v s es s' v' T e,OB.fr b v s es (.arr s' v' T e)=.arr s' v' T e)∧(∀ b v s es P k m,OB.fr b v s es (.mp P k m)=.mp P k m)) ∧
    ((∀ b v s es x, CV.fr b v s es (.bool x) = .bool x) ∧ (∀ b v s es k n, CV.fr b v s es (.int k n) = .int k n) ∧ (∀ b v s es x, CV.fr b v s es (.str x) = .str x) ∧ (∀ b v s es, CV.fr b v s es .nilp = .nilp) ∧ (∀ b v s es, CV.fr b v s es .nils = .nils) ∧
     (∀ b v s es,CV.fr b v s es .nilf=.nilf)∧(∀ b v s es,CV.fr b v s es .nili=.nili)∧(∀ b v s es,CV.fr b v s es .emp=.emp)∧(∀ b v s es,CV.fr b v s es .emn=.emn)∧(∀ b v s es,CV.fr b v s es .junk=.junk)∧(∀ b v s es s' e',CV.fr b v s es (.tree s' e')=.tree s' e') ∧
     (∀ b v s es s' e' i j,CV.fr b v s es (.tptr s' e' i j)=.tptr s' e' i j)∧(∀ b v s es T g cs,CV.fr b v s es (.ifc T g cs)=.ifc T g cs)) ∧
    ((∀ b v s es b' v' lo len, CV.fr b v s es (.osl b' v' lo len) = if b' = b then (if v' = v ∧ lo + len ≤ es.length then .tree s ((es.drop lo).take len) else .junk) else .osl b' v' lo len) ∧
     (∀ b v s es b' v' i j,CV.fr b v s es (.oel b' v' i j)=if b'=b then .junk else .oel b' v' i j)∧(∀ b v s es b' off,CV.fr b v s es (.optr b' off)=if b'=b then .junk else .optr b' off) ∧
     (∀ b v s es f caps,CV.fr b v s es (.fn f caps)=.fn f (caps.map (CV.frO b v s es)))):=by
  refine ⟨⟨?_,?_,?_,?_,?_,?_,?_⟩,⟨?_,?_,?_,?_⟩,⟨?_,?_,?_,?_,?_,?_,?_,?_,?_,?_,?_,?_,?_⟩,?_,?_,?_,?_⟩
  all_goals intros
  all_goals first|rfl|(simp [Tr.fr,PV.fr];done)
theorem pI:(∀ n f,CV.under n (.fn f [])=True)∧(∀ n f b off r,CV.under n (.fn f (.optr b off :: r))=(b<n∧CV.under n (.fn f r)))∧(∀ n f b v lo k r,CV.under n (.fn f (.osl b v lo k :: r))=(b<n∧CV.under n (.fn f r))) ∧
    (∀ n f k i r,CV.under n (.fn f (.int k i :: r))=CV.under n (.fn f r))∧(∀ n f k i r,CV.under n (.fn f (.tree k i :: r))=CV.under n (.fn f r))∧(∀ n f s r,CV.under n (.fn f (.str s :: r))=CV.under n (.fn f r))∧(∀ n f s r,CV.under n (.fn f (.bool s :: r))=CV.under n (.fn f r)):=by
  refine ⟨?_,?_,?_,?_,?_,?_,?_⟩<;>intros<;>simp [CV.under]
theorem nH{E:Env}{d:Nat}(h:Nat.ble (d+1) E.n=true):gL E (some d):=Nat.le_of_ble_eq_true h
def PV.ren1(r:Nat→Nat):PV→PV
  |.c y=>.c (y.ren r)
  |.a ys=>.a (ys.map (CV.ren r))
  |q=>q
theorem Iu:
    ((∀ r y,PV.ren r (.c y)=.c (y.ren r))∧(∀ r ys,PV.ren r (.a ys)=.a (ys.map (CV.ren r)))∧(∀ r,PV.ren r .x=.x)∧(∀ r ps,PV.ren r (.t ps)=.t (ps.map (PV.ren1 r)))∧(∀ r y,PV.ren1 r (.c y)=.c (y.ren r))∧(∀ r ys,PV.ren1 r (.a ys)=.a (ys.map (CV.ren r)))) ∧
    ((∀ r cs,OB.ren r (.box cs)=.box (cs.map (CV.ren r)))∧(∀ r,OB.ren r .dead=.dead)∧(∀ r s v T es,OB.ren r (.arr s v T es)=.arr s v T es)∧(∀ r P k m,OB.ren r (.mp P k m)=.mp P k m)) ∧
    ((∀ r x, CV.ren r (.bool x) = .bool x) ∧ (∀ r k n, CV.ren r (.int k n) = .int k n) ∧ (∀ r x, CV.ren r (.str x) = .str x) ∧ (∀ r, CV.ren r .nilp = .nilp) ∧ (∀ r, CV.ren r .nils = .nils) ∧ (∀ r, CV.ren r .nilf = .nilf) ∧ (∀ r, CV.ren r .nili = .nili) ∧ (∀ r, CV.ren r .emp = .emp) ∧ (∀ r, CV.ren r .emn = .emn) ∧ (∀ r, CV.ren r .junk = .junk) ∧
     (∀ r s es,CV.ren r (.tree s es)=.tree s es)∧(∀ r s es i j,CV.ren r (.tptr s es i j)=.tptr s es i j)∧(∀ r T g cs,CV.ren r (.ifc T g cs)=.ifc T g cs)) ∧
    ((∀ r b off, CV.ren r (.optr b off) = .optr (r b) off) ∧ (∀ r b v lo n, CV.ren r (.osl b v lo n) = .osl (r b) v lo n) ∧ (∀ r b v i j, CV.ren r (.oel b v i j) = .oel (r b) v i j) ∧ (∀ r f caps, CV.ren r (.fn f caps) = .fn f (caps.map (CV.ren0 r))) ∧
     (∀ r b off,CV.ren0 r (.optr b off)=.optr (r b) off)∧(∀ r b v lo n,CV.ren0 r (.osl b v lo n)=.osl (r b) v lo n)∧(∀ r k n,CV.ren0 r (.int k n)=.int k n)∧(∀ r s es,CV.ren0 r (.tree s es)=.tree s es)∧(∀ r x,CV.ren0 r (.str x)=.str x)∧(∀ r x,CV.ren0 r (.bool x)=.bool x)) ∧
    ((∀ n ρ k,eO n ρ k=if k<ρ.length then ρ.getD k 0 else n+(k - ρ.length))∧(∀ {α:Type} (σ xs:List α),eX σ [] xs=σ++xs)∧(∀ {α:Type} (σ xs:List α) b ρ x,eX σ (b :: ρ) (x :: xs)=eX (σ.set b x) ρ xs)):=by
  refine ⟨⟨?_,?_,?_,?_,?_,?_⟩,⟨?_,?_,?_,?_⟩,⟨?_,?_,?_,?_,?_,?_,?_,?_,?_,?_,?_,?_,?_⟩,⟨?_,?_,?_,?_,?_,?_,?_,?_,?_,?_⟩,?_,?_,?_⟩<;>intros<;>first|rfl|simp [eX]
end Pam
namespace Pam
open Go
def s9{S O:Type}(body:S→Option (S ⊕ O)):Nat→S→Option O
  |0,_=>none
  |n+1,s=>match body s with
    |none=>none
    |some (.inl s')=>s9 body n s'
    |some (.inr o)=>some o
theorem yk{S O:Type}{body:S→Option (S ⊕ O)}:∀ {n:Nat} {s:S} {o:O},s9 body n s=some o→s9 body (n+1) s=some o
  |0,_,_,h=>by cases h
  |n+1,s,o,h=>by
    unfold s9 at h ⊢
    cases hb:body s with
    |none=>rw [hb] at h;cases h
    |some r=>cases r with
      |inl s'=>rw [hb] at h;exact yk h
      |inr o'=>rw [hb] at h;exact h
theorem Ci{S O:Type}{body:S→Option (S ⊕ O)}{n m:Nat}{s:S}{o:O}(h:s9 body n s=some o)(hm:n≤m):s9 body m s=some o:=by
  induction hm with
  |refl=>exact h
  |step _ ih=>exact yk ih
open Classical in
noncomputable def dh{S O:Type}(body:S→Option (S ⊕ O))(s:S):Option O :=
  if h:∃ n o,s9 body n s=some o then some (Classical.choose (Classical.choose_spec h)) else none
theorem qm{S O:Type}{body:S→Option (S ⊕ O)}{s:S}{o:O}(h:dh body s=some o):∃ n,s9 body n s=some o:=by
  unfold dh at h
  split at h
  · rename_i hx
    simp only [sJ] at h
    exact ⟨_,h ▸ Classical.choose_spec (Classical.choose_spec hx)⟩
  · cases h
theorem qP{S O:Type}{body:S→Option (S ⊕ O)}{s:S}{o:O}{n:Nat}(h:s9 body n s=some o):dh body s=some o:=by
  have hx:∃ n o,s9 body n s=some o:=⟨n,o,h⟩
  cases hl:dh body s with
  |none=>unfold dh at hl;rw [dif_pos hx] at hl;cases hl
  |some o' =>
    obtain ⟨m,hm⟩:=qm hl
    have h1:=Ci h (Nat.le_max_left n m)
    have h2:=Ci hm (Nat.le_max_right n m)
    rw [h1] at h2;exact h2.symm
theorem iz{S O:Type}(body:S→Option (S ⊕ O))(s:S):dh body s=match body s with
    |none=>none
    |some (.inl s')=>dh body s'
    |some (.inr o)=>some o:=by
  cases hb:body s with
  |none =>
    cases hl:dh body s with
    |none=>rfl
    |some o =>
      obtain ⟨n,hn⟩:=qm hl
      cases n with
      |zero=>cases hn
      |succ n=>simp [s9,hb] at hn
  |some r =>
    cases r with
    |inr o=>exact qP (n:=1) (by simp [s9,hb])
    |inl s' =>
      show dh body s=dh body s'
      cases hl:dh body s with
      |some o =>
        obtain ⟨n,hn⟩:=qm hl
        cases n with
        |zero=>cases hn
        |succ n=>exact (qP (n:=n) (by simpa [s9,hb] using hn)).symm
      |none =>
        cases hl':dh body s' with
        |none=>rfl
        |some o =>
          obtain ⟨n,hn⟩:=qm hl'
          have:=qP (body:=body) (s:=s) (n:=n+1) (o:=o) (by simpa [s9,hb] using hn)
          rw [this] at hl;cases hl
theorem gi{S O:Type}{body:S→Option (S ⊕ O)}{s s':S}(h:body s=some (.inl s')):dh body s=dh body s':=by rw [iz,h]
theorem ee{S O:Type}{body:S→Option (S ⊕ O)}{s:S}{o:O}(h:body s=some (.inr o)):dh body s=some o:=by rw [iz,h]
theorem Dg{S O:Type}{body:S→Option (S ⊕ O)}(inv:S→Prop)(μ:S→Nat)(post:O→Prop)
    (step:∀ s,inv s→(∃ s',body s=some (.inl s')∧inv s'∧μ s'<μ s)∨(∃ o,body s=some (.inr o)∧post o)) (s:S) (h:inv s):∃ o,dh body s=some o∧post o:=by
  have key:∀ (m:Nat) (s:S),μ s=m→inv s→∃ o,dh body s=some o∧post o:=by
    intro m
    induction m using Nat.strongRecOn with
    |_ m ih =>
      intro s hm hs
      rcases step s hs with ⟨s',h1,h2,h3⟩|⟨o,h1,h2⟩
      · rw [gi h1];exact ih (μ s') (hm ▸ h3) s' rfl h2
      · exact ⟨o,ee h1,h2⟩
  exact key _ s rfl h
theorem gd{α:Type}{p:Prop}[Decidable p]{m:Option α}{r:α}(h:(if p then m else none)=some r):p∧m=some r:=by
  split at h
  · exact ⟨by assumption,h⟩
  · cases h
theorem bd{α β:Type}{o:Option α}{f:α→Option β}{r:β}(h:o.bind f=some r):∃ y,o=some y∧f y=some r:=by
  cases o with
  |none=>cases h
  |some y=>exact ⟨y,rfl,h⟩
def lK(n b:Nat):Prop:=n * b≤140737488355328∧n≤maxLen
instance (n b:Nat):Decidable (lK n b):=inferInstanceAs (Decidable (_∧_))
def eK(k:IntKind)(n:Int):List CV:=[.int k n]
def eB(b:Bool):List CV:=[.bool b]
def eS(s:List UInt8):List CV:=[.str s]
def eL{α:Type}(s:Nat)(f:α→List CV)(l:List α):List CV:=[.tree s (l.map f)]
section
variable {P:Program} {K:Kt} {E E0:Env} {σ:List OB}
theorem kB.refl(E:Env)(σ:List OB):kB E σ E σ:=fun G _ _ hs=>⟨G,Gle.refl G,hs⟩
theorem kB.trans{E E' E'':Env}{σ σ' σ'':List OB}(h:kB E σ E' σ')(h':kB E' σ' E'' σ''):kB E σ E'' σ'':=fun G a w hs=>by
  obtain ⟨G',g1,hs'⟩:=h G a w hs
  obtain ⟨G'',g2,hs''⟩:=h' G' a w hs'
  exact ⟨G'',g1.trans g2,hs''⟩
def FX{α:Type}(E0:Env)(ms:List Nat)(slots:α→List (Nat×PV))(heap:α→List OB)(inv:α→Prop)(μ:α→Nat)(x:α)(K:Kt):Kt
  |.normal,E,σ=>∃ y E' σ',kB E σ E' σ'∧inv y∧μ y<μ x∧rt E' σ' (E0.over ms (slots y)) (heap y)
  |e,E,σ=>K e E σ
theorem FY{α:Type}{c:Code}(ms:List Nat)(slots:α→List (Nat×PV))(heap:α→List OB)(inv:α→Prop)(μ:α→Nat)(x0:α)(h0:inv x0)(hl:rt E σ (E.over ms (slots x0)) (heap x0))
    (round:∀ x,inv x→W P c (FX E ms slots heap inv μ x K) (E.over ms (slots x)) (heap x)):W P (.loop c) K E σ:=fun G a w hs=>by
  obtain ⟨G0,hg0,hs0⟩:=hl.sim hs
  refine Code.wp_mono (fun _ _ _ hq=>hN.back hg0 hq) ?_
  intro b k cs
  have key:∀ (m:Nat) (x:α) (G:Gh) (a:Act) (w:World),μ x=m→inv x→Gle G0 G→Sim G (E.over ms (slots x)) (heap x) a w →
      ∃ e a' w',hN G0 K e a' w'∧Arrives P (lone (b.at a (.code c :: .inLoop c :: k)) cs w) b k cs e a' w':=by
    intro m
    induction m using Nat.strongRecOn with
    |_ m ih =>
      intro x G a w hm hinv hG hs
      have hr:=round x hinv G a w hs
      obtain ⟨e,a₁,w₁,hq,harr⟩:=hr b (.inLoop c :: k) cs
      obtain ⟨G',E',σ',px,g1,g2,g3,g4⟩:=hq
      cases px with
      |normal =>
        cases g3
        obtain ⟨y,E2,σ2,hgh,hy,hlt,hless⟩:=g4
        obtain ⟨G1,p1,p2⟩:=hgh G' a₁ w₁ g2
        obtain ⟨G'',q1,q2⟩:=hless.sim p2
        obtain ⟨e₂,a₂,w₂,hq₂,harr₂⟩:=ih (μ y) (hm ▸ hlt) y G'' a₁ w₁ rfl hy (hG.trans (g1.trans (p1.trans q1))) q2
        exact ⟨e₂,a₂,w₂,hq₂,.of_steps (Steps.trans harr (.one step_inLoop)) harr₂⟩
      |exit id=>exact ⟨e,a₁,w₁,hN.back hG ⟨G',E',σ',.exit id,g1,g2,g3,g4⟩,by cases g3;exact .pass (x:=.inLoop c) rfl (fun _ _=>.inl (by simp)) harr⟩
      |ret=>exact ⟨e,a₁,w₁,hN.back hG ⟨G',E',σ',.ret,g1,g2,g3,g4⟩,by cases g3;exact .pass (x:=.inLoop c) rfl (fun _ _=>.inl (by simp)) harr⟩
      |panic p=>exact ⟨e,a₁,w₁,hN.back hG ⟨G',E',σ',.panic p,g1,g2,g3,g4⟩,by obtain ⟨v,rfl,hv⟩:=g3;exact .pass (x:=.inLoop c) rfl (fun _ _=>.inl (by simp)) harr⟩
  obtain ⟨e,a',w',hq,harr⟩:=key _ x0 G0 a w rfl h0 (Gle.refl _) hs0
  exact ⟨e,a',w',hq,.of_steps (.one step_loop) harr⟩
def tL{S V O:Type}(E0:Env)(ms:List Nat)(slots:S→V→List (Nat×PV))(heap:S→V→List OB)(r:S ⊕ O)(K:Kt):Kt
  |.normal,E,σ=>∃ s v E' σ',kB E σ E' σ'∧r=.inl s∧rt E' σ' (E0.over ms (slots s v)) (heap s v)
  |e,E,σ=>K e E σ
theorem cI{S V O:Type}{c:Code}(ms:List Nat)(slots:S→V→List (Nat×PV))(heap:S→V→List OB)(body:S→Option (S ⊕ O))(s0:S)(v0:V){o:O}(ho:dh body s0=some o)
    (hl:rt E σ (E.over ms (slots s0 v0)) (heap s0 v0))
    (round:∀ s v r,body s=some r→(∀ o',r=.inr o'→o'=o)→W P c (tL E ms slots heap r K) (E.over ms (slots s v)) (heap s v)):W P (.loop c) K E σ:=by
  obtain ⟨n,hn⟩:=qm ho
  refine FY (α:=S×V×Nat) ms (fun x=>slots x.1 x.2.1) (fun x=>heap x.1 x.2.1) (fun x=>s9 body x.2.2 x.1=some o) (fun x=>x.2.2) (s0,v0,n) hn hl ?_
  rintro ⟨s,v,n⟩ hs
  cases n with
  |zero=>cases hs
  |succ n =>
    simp only [s9] at hs
    cases hb:body s with
    |none=>rw [hb] at hs;cases hs
    |some r =>
      rw [hb] at hs
      refine W.mono (fun x E' σ' h=>?_) (round s v r hb ?_)
      · cases x with
        |normal=>obtain ⟨s',v',E2,σ2,hgh,e,hl'⟩:=h;subst e;exact ⟨(s',v',n),E2,σ2,hgh,hs,Nat.lt_succ_self _,hl'⟩
        |exit i=>exact h
        |ret=>exact h
        |panic p=>exact h
      · rintro o' rfl;simpa using hs
def qQ{S V:Type}(E0:Env)(ms:List Nat)(slots:S→V→List (Nat×PV))(heap:S→V→List OB)(J:S→Prop)(K:Kt):Kt
  |.normal,E,σ=>∃ s v E' σ',kB E σ E' σ'∧J s∧rt E' σ' (E0.over ms (slots s v)) (heap s v)
  |e,E,σ=>K e E σ
theorem aO{S V:Type}{c d:Code}(ms:List Nat)(slots:S→V→List (Nat×PV))(heap:S→V→List OB)(J:S→Prop)
    (first:W P c (qQ E ms slots heap J K) E σ) (rest:∀ s v,J s→W P d K (E.over ms (slots s v)) (heap s v)):W P (.seq c d) K E σ :=
  nV (W.mono (fun x E' σ' h=>by
    cases x with
    |normal=>obtain ⟨s,v,E2,σ2,hg,h1,h2⟩:=h;exact jr hg (Cf h2 (rest s v h1))
    |exit id=>exact h
    |ret=>exact h
    |panic p=>exact h) first)
section
variable {S V O:Type} {ms:List Nat} {slots:S→V→List (Nat×PV)} {heap:S→V→List OB} {r:S ⊕ O} {J:S→Prop}
theorem bu(s:S)(v:V)(hr:some (Sum.inl s)=some r)(hl:rt E σ (E0.over ms (slots s v)) (heap s v)):tL E0 ms slots heap r K .normal E σ:=⟨s,v,E,σ,kB.refl E σ,(sI hr).symm,hl⟩
theorem Ee{E1:Env}{σ1:List OB}(hg:kB E σ E1 σ1)(h:tL E0 ms slots heap r K .normal E1 σ1):tL E0 ms slots heap r K .normal E σ:=by
  obtain ⟨s,v,E2,σ2,g,h1,h2⟩:=h;exact ⟨s,v,E2,σ2,hg.trans g,h1,h2⟩
theorem cB{i:Nat}(h:K (.exit i) E σ):tL E0 ms slots heap r K (.exit i) E σ:=h
theorem kT(h:K .ret E σ):tL E0 ms slots heap r K .ret E σ:=h
theorem fo{p:PV}(h:K (.panic p) E σ):tL E0 ms slots heap r K (.panic p) E σ:=h
theorem ah(s:S)(v:V)(hj:J s)(hl:rt E σ (E0.over ms (slots s v)) (heap s v)):qQ E0 ms slots heap J K .normal E σ:=⟨s,v,E,σ,kB.refl E σ,hj,hl⟩
theorem rT{E1:Env}{σ1:List OB}(hg:kB E σ E1 σ1)(h:qQ E0 ms slots heap J K .normal E1 σ1):qQ E0 ms slots heap J K .normal E σ:=by
  obtain ⟨s,v,E2,σ2,g,h1,h2⟩:=h;exact ⟨s,v,E2,σ2,hg.trans g,h1,h2⟩
theorem wE{i:Nat}(h:K (.exit i) E σ):qQ E0 ms slots heap J K (.exit i) E σ:=h
theorem iW(h:K .ret E σ):qQ E0 ms slots heap J K .ret E σ:=h
theorem cN{p:PV}(h:K (.panic p) E σ):qQ E0 ms slots heap J K (.panic p) E σ:=h
theorem aF{o o':O}(h:some (Sum.inr o')=some r)(hr:∀ o',r=.inr o'→o'=o):o'=o:=hr _ (sI h).symm
end
theorem Inv.nil{G:Gh}{σ:List OB}{w:World}(hi:Inv G σ w)(s:Nat)(T:TypeId)(hs:0<s) :
    Inv { G with own:=G.own++[some ⟨0,s,0,0,false,0⟩] } (σ++[.arr s 0 T []]) w:=by
  refine hi.push (.arr s 0 T []) ⟨0,s,0,0,false,0⟩ (Nat.le_refl _) (fun _ _=>rfl) (fun h=>by cases h) rfl rfl rfl ?_
  have hlast:(G.own++[some (⟨0,s,0,0,false,0⟩:OG)])[σ.length]? = some (some ⟨0,s,0,0,false,0⟩):=by rw [← hi.len];simp
  exact ⟨_,hlast,rfl,rfl,hs,Nat.le_refl _,Nat.zero_le _,(fun e he=>nomatch he),fun _=>rfl,fun h=>absurd h (by simp)⟩
theorem Cj{G:Gh}{σ:List OB}{w:World}(hi:Inv G σ w)(s:Nat){v:Value}(hv:bY G.H .nils v) :
    hZ { G with own:=G.own++[some ⟨0,s,0,0,false,0⟩] } (.osl σ.length 0 0 0) v:=by
  have hlast:(G.own++[some (⟨0,s,0,0,false,0⟩:OG)])[σ.length]? = some (some ⟨0,s,0,0,false,0⟩):=by rw [← hi.len];simp
  cases hv
  exact ⟨rfl,_,hlast,fun o e=>by
    simp only [sJ] at e;subst e
    exact ⟨Nat.le_refl _,fun _=>⟨Nat.le_refl _,none,rfl,fun h=>by cases h⟩⟩⟩
theorem Ef{H:Nat→Option Obj}(s:Nat){v:Value}(h:bY H .nils v):bY H (.tree s []) v:=by
  cases h
  exact .tree0 s none 0 (fun _=>rfl)
theorem mH(i s:Nat)(T:TypeId)(hs:0<s)(hE:E.get i=⟨true,.c .nils⟩)(hin:i<E.n):kB E σ (E.put i ⟨true,.c (.osl σ.length 0 0 0)⟩) (σ++[.arr s 0 T []]):=by
  intro G a w hs'
  refine ⟨{ G with own:=G.own++[some ⟨0,s,0,0,false,0⟩] },.mk' ⟨fun _ _ h=>h,rfl,rfl,rfl⟩ (cO.append _ _),hs'.inv.nil s T hs,hs'.defers,hs'.size,hs'.na,fun j hc=>?_⟩
  have hg:=Env.get_put E i j _ hc
  rw [hg] at hc ⊢
  by_cases hj:j=i
  · subst hj
    rw [iP rfl]
    have:=hs'.slot j (by rw [hE])
    rw [hE] at this
    exact Cj hs'.inv s this
  · rw [iN hj] at hc ⊢
    exact bm.mono (G:=G) (G':={ G with own:=G.own++[some ⟨0,s,0,0,false,0⟩] }) (fun _ _ h=>h) (cO.append _ _) (hs'.slot j hc)
end
theorem Ck{P:Program}{K:Kt}{E:Env}{σ:List OB}{S V:Type}{a b d:Code}(ms:List Nat)(slots:S→V→List (Nat×PV))(heap:S→V→List OB)(J:S→Prop)
    (first:∀ k:Env→List OB→Prop,(∀ E' σ',W P b (qQ E ms slots heap J K) E' σ'→k E' σ')→W P a (vu k (qQ E ms slots heap J K)) E σ)
    (rest:∀ s v,J s→W P d K (E.over ms (slots s v)) (heap s v)):W P (.seq a (.seq b d)) K E σ :=
  nV (W.mono (fun x E' σ' h=>by
    cases x with
    |normal =>
      refine nV (W.mono (fun x E'' σ'' h'=>?_) h)
      cases x with
      |normal=>obtain ⟨s,v,E2,σ2,hg,h1,h2⟩:=h';exact jr hg (Cf h2 (rest s v h1))
      |exit id=>exact h'
      |ret=>exact h'
      |panic p=>exact h'
    |exit id=>exact h
    |ret=>exact h
    |panic p=>exact h) (first _ fun _ _ h=>h))
theorem Iv:((true == true)=true∧(true == false)=false∧(false == true)=false∧(false == false)=true)∧((!true)=false∧(!false)=true):=by decide
theorem yT:
    ((∀ {α β : Type} (f : α → β) (l : List α) (n : Nat), (l.map f).take n = (l.take n).map f) ∧ (∀ {α β : Type} (f : α → β) (l : List α) (n : Nat), (l.map f).drop n = (l.drop n).map f) ∧
     (∀ {α β:Type} (f:α→β) (l l':List α),l.map f++l'.map f=(l++l').map f)∧(∀ {α:Type} (l:List α),l.take l.length=l)):=by
  refine ⟨?_,?_,?_,?_⟩<;>intros<;>simp
theorem GM:(∀ {α:Type} (l:List α) (n:Nat),l.length≤n→l.take n=l)∧(∀ {α:Type} (l l':List α),(l++l').length=l.length+l'.length) ∧
    (∀ {α:Type} (l:List α) (i:Nat) (x:α),(l.set i x).length=l.length)∧(∀ {α:Type} (n:Nat) (x:α),(List.replicate n x).length=n):=by
  refine ⟨fun l n h=>List.take_of_length_le h,?_,?_,?_⟩<;>intros<;>simp
def lit{α:Type}(l:List α):List α:=l
theorem oE{α:Type}(l:List α):(lit l).length=l.length:=rfl
def NT:CV→CV→Prop
  |.nils,.tree _ []=>True
  |.emp,.tree _ []=>True
  |.emn,.tree _ []=>True
  |c,c'=>c=c'
def NTs:List CV→List CV→Prop
  |[],[]=>True
  |a :: az,b :: bs=>NT a b∧NTs az bs
  |_,_=>False
theorem NT.rep{G:Gh}{c c':CV}{v:Value}(h:NT c c')(hr:Rep G c v):Rep G c' v:=by
  unfold NT at h
  split at h
  · exact Ef _ (show bY G.H .nils v from hr)
  · have h':bY G.H .emp v:=hr
    show bY G.H (.tree _ []) v
    cases h'
    exact .tree0 _ _ 0 (fun _=>rfl)
  · have h':bY G.H .emn v:=hr
    show bY G.H (.tree _ []) v
    cases h'
    exact .tree0 _ _ _ (fun h=>by cases h)
  · subst h;exact hr
theorem NTs.rep{G:Gh}:∀ {cs cs':List CV} {vs:List Value},NTs cs cs'→aZ (Rep G) cs vs→aZ (Rep G) cs' vs
  |[],[],_,_,h=>h
  |_ :: _,_ :: _,_ :: _,⟨h1,h2⟩,⟨k1,k2⟩=>⟨NT.rep h1 k1,NTs.rep h2 k2⟩
def NTp:PV→PV→Prop
  |.c y,.c y'=>NT y y'
  |.a ys,.a ys'=>NTs ys ys'
  |_,_=>False
theorem oL{E:Env}{σ:List OB}(i:Nat){p:PV}(p':PV)(hE:E.get i=⟨true,p⟩)(h:NTp p p'):kB E σ (E.put i ⟨true,p'⟩) σ:=by
  intro G a w hs'
  refine ⟨G,Gle.refl G,hs'.inv,hs'.defers,hs'.size,hs'.na,fun j hc=>?_⟩
  have hg:=Env.get_put E i j _ hc
  rw [hg] at hc ⊢
  by_cases hj:j=i
  · subst hj
    rw [iP rfl]
    have:=hs'.slot j (by rw [hE])
    rw [hE] at this
    cases p<;>cases p'<;>try exact h.elim
    · exact NT.rep (G:=G) h this
    · obtain ⟨vs,e,h2⟩:=this;exact ⟨vs,e,NTs.rep h h2⟩
  · rw [iN hj] at hc ⊢
    exact hs'.slot j hc
theorem jf{E:Env}{σ:List OB}(b:Nat){cs:List CV}(cs':List CV)(hσ:σ[b]? = some (.box cs))(h:NTs cs cs'):kB E σ E (σ.set b (.box cs')):=by
  intro G a w hs'
  refine ⟨G,Gle.refl G,?_,hs'.defers,hs'.size,hs'.na,hs'.slot⟩
  have hi:=hs'.inv
  have hlt:b<σ.length:=(List.getElem?_eq_some_iff.1 hσ).1
  refine ⟨hi.hH,hi.hF,hi.HF,by simpa using hi.len,fun k ob hk=>?_,hi.inj,hi.sep,hi.os,hi.tape,hi.output,hi.grow⟩
  by_cases hkb:k=b
  · subst hkb
    rw [List.getElem?_set_self hlt] at hk
    simp only [sJ] at hk;subst hk
    obtain ⟨o,c,T,h1,h2,h3,h4,h5⟩:=hi.own k _ hσ
    exact ⟨o,c,T,h1,h2,h3,h4,NTs.rep h h5⟩
  · rw [List.getElem?_set_ne (Ne.symm hkb)] at hk
    exact hi.own k ob hk
def okI(k:IntKind)(n:Int):Prop:=k.min≤n∧n≤k.max
def okT{α:Type}(_:α):Prop:=True
def okL{α:Type}(p:α→Prop)(l:List α):Prop:=∀ y∈l,p y
def szI{α:Type}(_:α):Nat:=1
def szS(s:List UInt8):Nat:=s.length+1
def szL{α:Type}(f:α→Nat)(l:List α):Nat:=(l.map f).sum+1
theorem ip{α:Type}{f:α→Nat}(hf:∀ x,1≤f x)(l:List α):l.length+1≤szL f l:=by
  unfold szL
  induction l with
  |nil=>simp
  |cons x l ih=>have:=hf x;simp at ih ⊢;omega
theorem kJ{α:Type}{f:α→Nat}{l:List α}{x:α}(h:x∈l):f x+1≤szL f l:=by
  unfold szL
  induction l with
  |nil=>cases h
  |cons y l ih =>
    simp only [List.map_cons,List.sum_cons]
    rcases List.mem_cons.1 h with rfl|h
    · omega
    · have:=ih h;omega
def i7(P:Program)(ops:Array Oper)(l:List Oper)(E:Env)(σ:List OB)(k:Env→List OB→Prop)(kp:PV→Env→List OB→Prop):Prop:=WL P ops l E σ (KR k kp)
section
variable {P:Program} {ops:Array Oper} {E E':Env} {σ σ':List OB} {k:Env→List OB→Prop} {kp:PV→Env→List OB→Prop} {l:List Oper}
theorem ab(h:jz P ops l E σ k kp):i7 P ops l E σ k kp:=lJ l E σ k kp h
theorem hP(hg:kB E σ E' σ')(h:i7 P ops l E' σ' k kp):i7 P ops l E σ k kp:=fun G a w hs=>by
  obtain ⟨G',h1,h2⟩:=hg G a w hs
  exact gT (fun _ _ _ hq=>hN.back h1 hq) _ _ _ (h G' a w h2)
theorem tM{Q Q1:Exit→Act→World→Prop}{l2:List Oper}(h1:∀ a w,Q1 .normal a w→wpList P ops Q l2 a w)(h2:∀ e a w,e≠.normal→Q1 e a w→Q e a w) :
    ∀ (l:List Oper) (a:Act) (w:World),wpList P ops Q1 l a w→wpList P ops Q (l++l2) a w
  |[],a,w,h=>h1 a w h
  |o :: r,a,w,h=>by
    rw [List.cons_append]
    unfold wpList at h ⊢
    have hl:LetsOut Q1→LetsOut Q:=fun ⟨a,w,h⟩=>⟨a,w,h2 _ _ _ (by simp) h⟩
    split at h
    · rename_i hw
      rw [iP hw]
      rcases h with h|⟨h3,h4⟩
      · left
        unfold Oper.wp at h ⊢
        generalize (execOp a.eval o).run P w=res at h
        have ih:=fun a w h=>tM h1 h2 r a w h
        cases res with
        |ok nx w' =>
          cases nx<;>first
            |exact h.elim
            |exact ih _ _ h
            | (refine Calls.mono h fun e w'' hh => ?_
               cases e with
               |returned v=>exact ih _ _ hh
               |panicked ch=>exact h2 _ _ _ (by simp) hh
               |outgrown=>exact hl hh)
            |exact Rows.mono h fun v w'' hh=>ih _ _ hh
        |halt hh w'=>cases hh<;>first|exact h.elim|exact h2 _ _ _ (by simp) h
      · exact .inr ⟨h3,hl h4⟩
    · rename_i hw
      rw [iN hw]
      exact tM h1 h2 r _ _ h
theorem ak(n:Nat)(h:jz P ops (l.take n) E σ (fun E' σ'=>i7 P ops (l.drop n) E' σ' k kp) kp):i7 P ops l E σ k kp:=fun G a w hs=>by
  have h1:=lJ _ _ _ _ _ h G a w hs
  have h2:=tM (Q:=hN G (KR k kp)) (l2:=l.drop n) (fun a w hq=>?_) (fun e a w he hq=>?_) _ _ _ h1
  · rwa [List.take_append_drop] at h2
  · obtain ⟨G',E1,σ1,x,q1,q2,q3,q4⟩:=hq
    cases x<;>simp only [G8] at q3
    · exact gT (fun _ _ _ hq=>hN.back q1 hq) _ _ _ (q4 G' a w q2)
    · cases q3
    · cases q3
    · obtain ⟨v,hv,_⟩:=q3;cases hv
  · obtain ⟨G',E1,σ1,x,q1,q2,q3,q4⟩:=hq
    cases x
    · exact (he q3).elim
    · exact q4.elim
    · exact q4.elim
    · exact ⟨G',E1,σ1,_,q1,q2,q3,q4⟩
theorem dj{K:Kt}{id:Nat}{y:Code}(ms:List Nat)
    (h:∀ (k:Env→List OB→Prop) (kp:PV→Env→List OB→Prop),(∀ E σ,W P y K E σ→k E σ)→(∀ p E σ,K (.panic p) E σ→kp p E σ)→i7 P l.toArray l E σ (fun E σ=>k (E.forget ms) σ) kp) :
    W P (.seq (.region id l.toArray false) y) K E σ:=nV fun G a w hs =>
  wp_region_lit (gT (fun _ _ _ hp=>hN.mono (fun x E σ hk=>by
      cases x with
      |normal=>exact oW ms hk
      |exit id=>exact hk.elim
      |ret=>exact hk.elim
      |panic p=>exact hk) hp)
    l a w (h (W P y K) (fun p=>K (.panic p)) (fun _ _ h=>h) (fun _ _ _ h=>h) G a w hs))
theorem jg{K:Kt}{id:Nat}(h:∀ (k:Env→List OB→Prop) (kp:PV→Env→List OB→Prop),(∀ E σ,K .normal E σ→k E σ)→(∀ p E σ,K (.panic p) E σ→kp p E σ)→i7 P l.toArray l E σ k kp) :
    W P (.region id l.toArray false) K E σ:=fun G a w hs =>
  wp_region_lit (gT (fun _ _ _ hp=>hN.mono (fun x E σ hk=>by cases x<;>first|exact hk|exact hk.elim) hp)
    l a w (h (K .normal) (fun p=>K (.panic p)) (fun _ _ h=>h) (fun _ _ _ h=>h) G a w hs))
end
end Pam
namespace Pam
open Go
def nr(P:Program)(E:Env)(σ:List OB)(o:Oper)(v:PV)(σ':List OB):Prop:=∀ G a w,Sim G E σ a w→yQ P G (execOp a.eval o) w v σ'
section
variable {P:Program} {ops:Array Oper} {E E':Env} {σ σ':List OB} {k:Env→List OB→Prop} {kp:PV→Env→List OB→Prop} {l:List Oper}
theorem qR{o:Oper}{r:List Oper}{v:PV}(hx:nr P E σ o v σ')(hg:gO ops E o.guard=some true)(hd:gL E o.dst)
    (h:i7 P ops r (E.putD o.dst ⟨true,v⟩) σ' k kp):i7 P ops (o :: r) E σ k kp:=fun G a w hs=>by
  have hw:=nU (P:=P) hs hg
  unfold wpList
  rw [iP hw]
  obtain ⟨nx,val,w',G',e1,e2,e3,e4,e5,e6⟩:=hx G a w hs
  left
  unfold Oper.wp
  have hs':Sim G' (E.putD o.dst ⟨true,v⟩) σ' (a.put o.dst val) w':=(hs.ghost e5 e3.H e3.w0 e3.na e4).putD o.dst hd _ val fun _=>e6
  have:=gT (fun e a w h=>hN.back (Gle.mk' e3 e4) h) r _ _ (h G' _ w' hs')
  rw [e1]
  rcases e2 with rfl|⟨rfl,rfl⟩
  · exact this
  · exact this
theorem nW{C:Prop}{f:FuncId}{args:List PV}{o:Oper}{r:List Oper}
    {args':List PV} {σc:List OB} {post pp:PV→List OB→Prop} (hs:ed P f args' σc post pp) (ρ:List Nat) (hd:gL E o.dst) (hC:C) (hnd:ρ.Nodup) (hlt:∀ b∈ρ,b<σ.length)
    (hargs:args=args'.map (PV.ren (eO σ.length ρ))) (hσ:ρ.map (fun b=>σ[b]?)=σc.map fun ob=>some (ob.ren (eO σ.length ρ))) (hu:gD ρ.length args') (hub:di ρ.length σc)
    (next:∀ p σ',post p σ'→ρ.length≤σ'.length→i7 P ops r (E.putD o.dst ⟨true,p.ren (eO σ.length ρ)⟩) (eX σ ρ (σ'.map (OB.ren (eO σ.length ρ)))) k kp)
    (npanic:∀ p σ',pp p σ'→ρ.length≤σ'.length→kp (p.ren (eO σ.length ρ)) E (eX σ ρ (σ'.map (OB.ren (eO σ.length ρ))))) :
    mY P ops true C f args o r E σ k kp:=vw hs ρ hd hC hnd hlt hargs hσ hu hub next npanic
theorem xQ{γ:Bool}{C:Prop}{f:FuncId}{args:List PV}{o:Oper}{r:List Oper}{res:PV}(hs:γ=true→cq P f args res)(hd:gL E o.dst)(hC:γ=true→C)(hargs:args.all PV.noOwn=true)(hres:res.ren (eO σ.length [])=res)
    (next:i7 P ops r (E.putD o.dst ⟨γ,res⟩) σ k kp):mY P ops γ C f args o r E σ k kp:=xO hs hd hC hargs hres next
theorem nr.quiet{o:Oper}{v:PV}(h:∀ G a w,Sim G E σ a w→∃ val,(execOp a.eval o).run P w=.ok (.value val) w∧bm G v val):nr P E σ o v σ:=fun G a w hs=>by
  obtain ⟨val,h1,h2⟩:=h G a w hs
  exact ⟨_,val,w,G,h1,.inl rfl,pU.refl G,cO.refl _,hs.inv,h2⟩
theorem ru{G:Gh}{a:Act}{w:World}(hs:Sim G E σ a w){x:Operand}{p:PV}(h:ev E x=⟨true,p⟩):bm G p (a.eval x):=by
  have:=fT hs x
  rw [h] at this
  exact this rfl
end
def CV.mvO(b k vk w:Nat):CV→CV
  |.osl b' v lo len=>if b'=k then (if v=vk then .osl b w lo len else .junk) else .osl b' v lo len
  |.oel b' v i j=>if b'=k then (if v=vk then .oel b w i j else .junk) else .oel b' v i j
  |.optr b' off=>if b'=k then .junk else .optr b' off
  |.fn f caps=>.fn f caps
  |.junk=>.junk
  |.bool x=>.bool x
  |.int k n=>.int k n
  |.str x=>.str x
  |.nilp=>.nilp
  |.nils=>.nils
  |.nilf=>.nilf
  |.nili=>.nili
  |.emp=>.emp
  |.emn=>.emn
  |.tree s' es'=>.tree s' es'
  |.tptr s' es' i j=>.tptr s' es' i j
  |.ifc T g cs=>.ifc T g cs
def CV.mv(b k vk w:Nat):CV→CV
  |.fn f caps=>.fn f (caps.map (CV.mvO b k vk w))
  |c=>c.mvO b k vk w
def PV.mv(b k vk w:Nat):PV→PV
  |.x=>.x
  |.c y=>.c (y.mv b k vk w)
  |.a ys=>.a (ys.map (CV.mv b k vk w))
  |.t _=>.x
def OB.mv(b k vk w:Nat):OB→OB
  |.box cs=>.box (cs.map (CV.mv b k vk w))
  |.arr s' v T e=>.arr s' v T e
  |.dead=>.dead
  |.mp P k m=>.mp P k m
def Tr.mv(b k vk w:Nat):Tr→Tr
  |.nil=>.nil
  |.leaf e=>.leaf ⟨e.cond && (match e.v with|.t _=>false|_=>true),e.v.mv b k vk w⟩
  |.node a0 a1 a2 a3 a4 a5 a6 a7=>.node (a0.mv b k vk w) (a1.mv b k vk w) (a2.mv b k vk w) (a3.mv b k vk w) (a4.mv b k vk w) (a5.mv b k vk w) (a6.mv b k vk w) (a7.mv b k vk w)
def Env.mv(b k vk w:Nat)(E:Env):Env:=⟨E.n,E.na,E.t.mv b k vk w⟩
section
variable {G:Gh} {σ:List OB} {w:World} {b k sb vb sk vk:Nat} {Tb Tk:TypeId} {eb ek:List (List CV)} {ob ok:OG}
end
theorem JM:
    ((∀ b k v w n na t, Env.mv b k v w ⟨n, na, t⟩ = ⟨n, na, t.mv b k v w⟩) ∧ (∀ b k v w, Tr.mv b k v w .nil = .nil) ∧ (∀ b k v w c y, Tr.mv b k v w (.leaf ⟨c, .c y⟩) = .leaf ⟨c, .c (y.mv b k v w)⟩) ∧ (∀ b k v w c ys, Tr.mv b k v w (.leaf ⟨c, .a ys⟩) = .leaf ⟨c, .a (ys.map (CV.mv b k v w))⟩) ∧
     (∀ b k v w c ps,Tr.mv b k v w (.leaf ⟨c,.t ps⟩)=.leaf ⟨false,.x⟩)∧(∀ b k v w c,Tr.mv b k v w (.leaf ⟨c,.x⟩)=.leaf ⟨c,.x⟩) ∧
     (∀ b k v w a0 a1 a2 a3 a4 a5 a6 a7,Tr.mv b k v w (.node a0 a1 a2 a3 a4 a5 a6 a7)=.node (a0.mv b k v w) (a1.mv b k v w) (a2.mv b k v w) (a3.mv b k v w) (a4.mv b k v w) (a5.mv b k v w) (a6.mv b k v w) (a7.mv b k v w))) ∧
    ((∀ b k v w,OB.mv b k v w .dead=.dead)∧(∀ b k v w cs,OB.mv b k v w (.box cs)=.box (cs.map (CV.mv b k v w)))∧(∀ b k v w s' v' T e,OB.mv b k v w (.arr s' v' T e)=.arr s' v' T e)∧(∀ b k v w P k' m,OB.mv b k v w (.mp P k' m)=.mp P k' m)) ∧
    ((∀ b k v w x, CV.mv b k v w (.bool x) = .bool x) ∧ (∀ b k v w q n, CV.mv b k v w (.int q n) = .int q n) ∧ (∀ b k v w x, CV.mv b k v w (.str x) = .str x) ∧ (∀ b k v w, CV.mv b k v w .nilp = .nilp) ∧ (∀ b k v w, CV.mv b k v w .nils = .nils) ∧
     (∀ b k v w,CV.mv b k v w .nilf=.nilf)∧(∀ b k v w,CV.mv b k v w .nili=.nili)∧(∀ b k v w,CV.mv b k v w .emp=.emp)∧(∀ b k v w,CV.mv b k v w .emn=.emn)∧(∀ b k v w,CV.mv b k v w .junk=.junk)∧(∀ b k v w s' e',CV.mv b k v w (.tree s' e')=.tree s' e') ∧
     (∀ b k v w s' e' i j,CV.mv b k v w (.tptr s' e' i j)=.tptr s' e' i j)∧(∀ b k v w T g cs,CV.mv b k v w (.ifc T g cs)=.ifc T g cs)) ∧
    ((∀ b k v w b' v' lo len, CV.mv b k v w (.osl b' v' lo len) = if b' = k then (if v' = v then .osl b w lo len else .junk) else .osl b' v' lo len) ∧
     (∀ b k v w b' v' i j,CV.mv b k v w (.oel b' v' i j)=if b'=k then (if v'=v then .oel b w i j else .junk) else .oel b' v' i j)∧(∀ b k v w b' off,CV.mv b k v w (.optr b' off)=if b'=k then .junk else .optr b' off) ∧
     (∀ b k v w f caps,CV.mv b k v w (.fn f caps)=.fn f (caps.map (CV.mvO b k v w)))):=by
  refine ⟨⟨?_,?_,?_,?_,?_,?_,?_⟩,⟨?_,?_,?_,?_⟩,⟨?_,?_,?_,?_,?_,?_,?_,?_,?_,?_,?_,?_,?_⟩,?_,?_,?_,?_⟩
  all_goals intros
  all_goals first|rfl|(simp [Tr.mv,PV.mv];done)
theorem oZ{E:Env}{σ:List OB}(b j s:Nat)(T:TypeId){cs:List CV}(hs:0<s)(hσ:σ[b]? = some (.box cs))(hj:cs[j]? = some .nils) :
    kB E σ E (σ.set b (.box (cs.set j (.osl σ.length 0 0 0)))++[.arr s 0 T []]):=by
  intro G a w hs'
  have hi:=hs'.inv
  have hi2:=hi.nil s T hs
  have hle:cO G.own (G.own++[some ⟨0,s,0,0,false,0⟩]):=cO.append _ _
  have hlt:b<σ.length:=(List.getElem?_eq_some_iff.1 hσ).1
  refine ⟨{ G with own:=G.own++[some ⟨0,s,0,0,false,0⟩] },.mk' ⟨fun _ _ h=>h,rfl,rfl,rfl⟩ hle,?_,hs'.defers,hs'.size,hs'.na,fun i hc=>bm.mono (G:=G) (G':={ G with own:=G.own++[some ⟨0,s,0,0,false,0⟩] }) (fun _ _ h=>h) hle (hs'.slot i hc)⟩
  have hset:σ.set b (.box (cs.set j (.osl σ.length 0 0 0)))++[.arr s 0 T []]=(σ++[OB.arr s 0 T []]).set b (.box (cs.set j (.osl σ.length 0 0 0))):=by
    rw [List.set_append_left _ _ hlt]
  rw [hset]
  refine ⟨hi2.hH,hi2.hF,hi2.HF,by simpa using hi2.len,fun x ob hx=>?_,hi2.inj,hi2.sep,hi2.os,hi2.tape,hi2.output,hi2.grow⟩
  by_cases hxb:x=b
  · subst hxb
    rw [List.getElem?_set_self (by simp;omega)] at hx
    simp only [sJ] at hx;subst hx
    obtain ⟨o,c,T',h1,h2,h3,h4,h5⟩:=hi2.own x (.box cs) (by rw [List.getElem?_append_left hlt];exact hσ)
    refine ⟨o,c,T',h1,h2,h3,h4,?_⟩
    have hlen:=h5.length
    refine aZ.of_get (by simpa using hlen) fun i y v hy hv=>?_
    by_cases e:i=j
    · subst e
      have hl:i<cs.length:=(List.getElem?_eq_some_iff.1 hj).1
      rw [List.getElem?_set_self hl] at hy
      simp only [sJ] at hy;subst hy
      obtain ⟨v',hv',hr⟩:=h5.get i _ hj
      rw [hv] at hv'
      simp only [sJ] at hv';subst hv'
      exact Cj hi s (v:=v) hr
    · rw [List.getElem?_set_ne (Ne.symm e)] at hy
      obtain ⟨v',hv',hr⟩:=h5.get i _ hy
      rw [hv] at hv'
      simp only [sJ] at hv';subst hv'
      exact hr
  · rw [List.getElem?_set_ne (Ne.symm hxb)] at hx
    exact hi2.own x ob hx
def CV.dnO(b k:Nat):CV→CV
  |.osl b' v lo len=>if b'=k then .osl b v lo len else if b'=b then .junk else .osl b' v lo len
  |.oel b' v i j=>if b'=k then .oel b v i j else if b'=b then .junk else .oel b' v i j
  |.optr b' off=>if b'=k then .optr b off else if b'=b then .junk else .optr b' off
  |.fn f caps=>.fn f caps
  |.junk=>.junk
  |.bool x=>.bool x
  |.int k n=>.int k n
  |.str x=>.str x
  |.nilp=>.nilp
  |.nils=>.nils
  |.nilf=>.nilf
  |.nili=>.nili
  |.emp=>.emp
  |.emn=>.emn
  |.tree s' es'=>.tree s' es'
  |.tptr s' es' i j=>.tptr s' es' i j
  |.ifc T g cs=>.ifc T g cs
def CV.dn(b k:Nat):CV→CV
  |.fn f caps=>.fn f (caps.map (CV.dnO b k))
  |c=>c.dnO b k
def PV.dn(b k:Nat):PV→PV
  |.x=>.x
  |.c y=>.c (y.dn b k)
  |.a ys=>.a (ys.map (CV.dn b k))
  |.t _=>.x
def OB.dn(b k:Nat):OB→OB
  |.box cs=>.box (cs.map (CV.dn b k))
  |.arr s' v T e=>.arr s' v T e
  |.dead=>.dead
  |.mp P k m=>.mp P k m
def Tr.dn(b k:Nat):Tr→Tr
  |.nil=>.nil
  |.leaf e=>.leaf ⟨e.cond && (match e.v with|.t _=>false|_=>true),e.v.dn b k⟩
  |.node a0 a1 a2 a3 a4 a5 a6 a7=>.node (a0.dn b k) (a1.dn b k) (a2.dn b k) (a3.dn b k) (a4.dn b k) (a5.dn b k) (a6.dn b k) (a7.dn b k)
def Env.dn(b k:Nat)(E:Env):Env:=⟨E.n,E.na,E.t.dn b k⟩
section
variable {G:Gh} {σ:List OB} {w:World} {b k:Nat} {oo:Option OG}
end
theorem JN:
    ((∀ b k n na t, Env.dn b k ⟨n, na, t⟩ = ⟨n, na, t.dn b k⟩) ∧ (∀ b k, Tr.dn b k .nil = .nil) ∧ (∀ b k c y, Tr.dn b k (.leaf ⟨c, .c y⟩) = .leaf ⟨c, .c (y.dn b k)⟩) ∧ (∀ b k c ys, Tr.dn b k (.leaf ⟨c, .a ys⟩) = .leaf ⟨c, .a (ys.map (CV.dn b k))⟩) ∧
     (∀ b k c ps,Tr.dn b k (.leaf ⟨c,.t ps⟩)=.leaf ⟨false,.x⟩)∧(∀ b k c,Tr.dn b k (.leaf ⟨c,.x⟩)=.leaf ⟨c,.x⟩) ∧
     (∀ b k a0 a1 a2 a3 a4 a5 a6 a7,Tr.dn b k (.node a0 a1 a2 a3 a4 a5 a6 a7)=.node (a0.dn b k) (a1.dn b k) (a2.dn b k) (a3.dn b k) (a4.dn b k) (a5.dn b k) (a6.dn b k) (a7.dn b k))) ∧
    ((∀ b k,OB.dn b k .dead=.dead)∧(∀ b k cs,OB.dn b k (.box cs)=.box (cs.map (CV.dn b k)))∧(∀ b k s' v' T e,OB.dn b k (.arr s' v' T e)=.arr s' v' T e)∧(∀ b k P k' m,OB.dn b k (.mp P k' m)=.mp P k' m)) ∧
    ((∀ b k x, CV.dn b k (.bool x) = .bool x) ∧ (∀ b k q n, CV.dn b k (.int q n) = .int q n) ∧ (∀ b k x, CV.dn b k (.str x) = .str x) ∧ (∀ b k, CV.dn b k .nilp = .nilp) ∧ (∀ b k, CV.dn b k .nils = .nils) ∧
     (∀ b k,CV.dn b k .nilf=.nilf)∧(∀ b k,CV.dn b k .nili=.nili)∧(∀ b k,CV.dn b k .emp=.emp)∧(∀ b k,CV.dn b k .emn=.emn)∧(∀ b k,CV.dn b k .junk=.junk)∧(∀ b k s' e',CV.dn b k (.tree s' e')=.tree s' e') ∧
     (∀ b k s' e' i j,CV.dn b k (.tptr s' e' i j)=.tptr s' e' i j)∧(∀ b k T g cs,CV.dn b k (.ifc T g cs)=.ifc T g cs)) ∧
    ((∀ b k b' v' lo len, CV.dn b k (.osl b' v' lo len) = if b' = k then .osl b v' lo len else if b' = b then .junk else .osl b' v' lo len) ∧
     (∀ b k b' v' i j,CV.dn b k (.oel b' v' i j)=if b'=k then .oel b v' i j else if b'=b then .junk else .oel b' v' i j)∧(∀ b k b' off,CV.dn b k (.optr b' off)=if b'=k then .optr b off else if b'=b then .junk else .optr b' off) ∧
     (∀ b k f caps,CV.dn b k (.fn f caps)=.fn f (caps.map (CV.dnO b k)))):=by
  refine ⟨⟨?_,?_,?_,?_,?_,?_,?_⟩,⟨?_,?_,?_,?_⟩,⟨?_,?_,?_,?_,?_,?_,?_,?_,?_,?_,?_,?_,?_⟩,?_,?_,?_,?_⟩
  all_goals intros
  all_goals first|rfl|(simp [Tr.dn,PV.dn];done)
theorem Eh{α:Type}(l:List α)(n:Nat)(h:l.length≤n):(lit l).take n=lit l:=List.take_of_length_le h
theorem yU{α β:Type}(f:α→β)(l:List α)(n:Nat)(h:l.length≤n):((lit l).map f).take n=(lit l).map f:=List.take_of_length_le (by simpa [lit] using h)
end Pam
namespace Pam
open Go
theorem gZ{α:Type}{f:α→List CV}{l:List α}{n:Nat}(h:∀ x,(f x).length=n):∀ e∈l.map f,e.length=n:=by
 intro e he
 obtain ⟨x,_,rfl⟩:=List.mem_map.1 he
 exact h x
theorem I8:(∀ y,PV.capOk (.c y)=(match y with|.fn _ _=>false|_=>true))∧(∀ b o,CV.flat (.optr b o)=false)∧(∀ b,CV.flat (.bool b)=true)∧(∀ k n,CV.flat (.int k n)=true)∧(∀ s,CV.flat (.str s)=true)∧(∀ s e,CV.flat (.tree s e)=true)∧CV.flat .nils=true∧CV.flat .nilp=true∧CV.flat .nilf=true∧CV.flat .nili=true∧CV.flat .emp=true∧(∀ b v l n,CV.flat (.osl b v l n)=false)∧(∀ b v l n,CV.flat (.oel b v l n)=false):=by
 refine ⟨?_,?_,?_,?_,?_,?_,?_,?_,?_,?_,?_,?_,?_⟩<;>intros<;>first|rfl|skip
 rename_i y;cases y<;>rfl
def bL:=(And.intro (And.intro (And.intro (And.intro (And.intro @List.mem_cons.{0} (And.intro @List.not_mem_nil.{0} @forall_eq_or_imp.{1})) (And.intro (And.intro @List.getElem?_cons_zero.{0} @List.getElem?_cons_succ.{0}) (And.intro @List.getElem?_nil.{0} @List.length_cons.{0}))) (And.intro (And.intro (And.intro @List.length_nil.{0} @List.length_map.{0,0}) (And.intro @List.set_cons_zero.{0} @List.set_cons_succ.{0})) (And.intro (And.intro @List.drop_zero.{0} @List.drop_succ_cons.{0}) (And.intro @List.take_succ_cons.{0} @List.take_zero.{0})))) (And.intro (And.intro (And.intro (And.intro @List.headD_cons.{0} @List.cons_append.{0}) (And.intro @List.nil_append.{0} @List.map_cons.{0,0})) (And.intro (And.intro @List.map_nil.{0,0} @List.tail_cons.{0}) (And.intro @List.getD_cons_zero.{0} @List.getD_cons_succ.{0}))) (And.intro (And.intro (And.intro @true_and @and_true) (And.intro @eq_self.{1} @forall_const.{1})) (And.intro (And.intro @if_true.{0} @forall_eq.{1}) (And.intro @imp_self @implies_true.{1}))))) (And.intro (And.intro (And.intro (And.intro (And.intro @true_or @or_true) (And.intro @false_or @or_false)) (And.intro (And.intro @Nat.zero_add @Nat.add_zero) (And.intro @tN @Option.map_some.{0,0}))) (And.intro (And.intro (And.intro @Option.map_none.{0,0} @beq_self_eq_true.{0}) (And.intro @Bool.true_eq_false @Bool.false_eq_true)) (And.intro (And.intro @false_implies @not_false_eq_true) (And.intro @Nat.le_refl @List.all_cons.{0})))) (And.intro (And.intro (And.intro (And.intro @List.all_nil.{0} @List.replicate_succ.{0}) (And.intro @List.replicate_zero.{0} @List.flatten_cons.{0})) (And.intro (And.intro @List.flatten_nil.{0} @List.append_nil.{0}) (And.intro @Bool.and_true @List.foldr_cons.{0,0}))) (And.intro (And.intro (And.intro @List.foldr_nil.{0,0} @Option.isSome_some.{0}) (And.intro @Option.isSome_none.{0} @eK.eq_1)) (And.intro (And.intro @eB.eq_1 @eS.eq_1) (And.intro @eL.eq_1 I8))))))
def bM:=(And.intro (And.intro (And.intro (And.intro (And.intro FU (And.intro Is D8)) (And.intro D9 (And.intro Ea JC))) (And.intro (And.intro Io (And.intro GJ Ip)) (And.intro Iq (And.intro JD @Ce)))) (And.intro (And.intro (And.intro @yj (And.intro @oE GM)) (And.intro yT (And.intro Iv Iu))) (And.intro (And.intro (And.intro @lf.eq_1 @lf.eq_2) (And.intro @nN.eq_1 @vp.eq_1)) (And.intro (And.intro @vp.eq_2 @vp.eq_3) (And.intro @vp.eq_4 @vp.eq_5))))) (And.intro (And.intro (And.intro (And.intro @kI.eq_1 (And.intro @oj.eq_1 @oj.eq_3)) (And.intro @ya.eq_1 (And.intro @bnd.eq_1 @bnd.eq_2))) (And.intro (And.intro @we.eq_1 (And.intro @we.eq_2 @we.eq_3)) (And.intro (And.intro @we.eq_4 @we.eq_5) (And.intro @we.eq_6 @we.eq_7)))) (And.intro (And.intro (And.intro @xJ.eq_1 (And.intro @xJ.eq_2 @eqC.eq_1)) (And.intro @eqC.eq_2 (And.intro @eqC.eq_3 @jK.eq_1))) (And.intro (And.intro @qE.eq_1 (And.intro @jL.eq_1 @rr.eq_1)) (And.intro (And.intro @rr.eq_2 @vq.eq_1) (And.intro @cut.eq_1 @cut.eq_2))))))
def bR:=And.intro (And.intro (And.intro @jz.eq_1 @jz.eq_2) bL) (And.intro bM (And.intro (And.intro @tp.eq_1 @tp.eq_2) (And.intro @tp.eq_3 @tp.eq_4)))
def bA:=And.intro (And.intro (And.intro (And.intro @kj.eq_1 @kj.eq_2) (And.intro @tK.eq_1 (And.intro @tK.eq_2 @tK.eq_3))) bL) (And.intro bM (And.intro (And.intro @yi.eq_1 @yi.eq_2) (And.intro @yi.eq_3 @yi.eq_4)))
def bE:=And.intro (And.intro Ec Is) (And.intro D8 (And.intro D9 Ea))
def bS:=And.intro (And.intro pI (And.intro GK @oE)) (And.intro bE (And.intro bL yT))
def bF:=And.intro (And.intro Ir FW) (And.intro (And.intro Ec GK) (And.intro (And.intro GJ D8) (And.intro (And.intro D9 Ea) (And.intro (And.intro @Ce @yj) (And.intro bL yT)))))
def bZ:=And.intro (And.intro (And.intro JE JM) (And.intro JN GM)) (And.intro yT (And.intro (And.intro @oE (And.intro @Eh @yU)) bE))
end Pam
namespace Pam
open Go
section
variable {P:Program} {ops:Array Oper} {E E' E1 E2:Env} {σ σ' σ1 σ2:List OB} {k:Env→List OB→Prop} {kp:PV→Env→List OB→Prop} {l:List Oper} {K:Kt} {c y:Code}
theorem em{α:Type}[Inhabited α](f:α→List CV)(xs:List α)(i:Nat)(h:i<xs.length:=by first|omega|(simp only [oE,List.length_cons,List.length_nil,List.length_append,List.length_set,List.length_replicate,List.length_map,List.length_take,List.length_drop];omega)):elt (xs.map f) i=f (xs.getD i default):=FV f xs i h
structure Bx (p:Prop):Prop where
 h:p
theorem sd{p q:Prop}(hq:q)(hp:p:=by first|omega|assumption|decide|exact gZ fun _=>rfl|(intro _;omega)|rfl|exact fun e=>absurd (List.map_eq_nil_iff.1 e) (by assumption)|(and_intros<;>first|omega|assumption|decide|exact gZ fun _=>rfl)):p∧q:=⟨hp,hq⟩
theorem a2{p q:Prop}(h:p)(i:q):p∧q:=⟨h,i⟩
theorem go{p q:Prop} (hq:q) (h:Bx q→p:=by
  intro hq
  simp only [bR,bT,tab,bX,reduceIte,↓reduceIte,reduceCtorEq,Int.reduceToNat,Nat.reduceDiv,Nat.reduceMod,Nat.reduceLT,Nat.reduceLeDiff,Nat.reduceAdd,Nat.reduceSub,Nat.reduceMul,Nat.reduceEqDiff,Nat.reduceBEq,Nat.reduceBNe,Nat.reduceGT]
  repeat refine sd ?_
  exact hq.1):p:=h ⟨hq⟩
theorem gox{p q F:Prop} (fx:F) (hq:q) (h:F→Bx q→p:=by
  intro fx hq
  simp only [bR,bT,tab,bX,reduceIte,↓reduceIte,reduceCtorEq,Int.reduceToNat,Nat.reduceDiv,Nat.reduceMod,Nat.reduceLT,Nat.reduceLeDiff,Nat.reduceAdd,Nat.reduceSub,Nat.reduceMul,Nat.reduceEqDiff,Nat.reduceBEq,Nat.reduceBNe,Nat.reduceGT,fx]
  repeat refine sd ?_
  exact hq.1):p:=h fx ⟨hq⟩
theorem ga{p q:Prop} (hq:q) (h:Bx q→p:=by
  intro hq
  simp only [bA,bT,tab,bX,reduceIte,↓reduceIte,reduceCtorEq,Int.reduceToNat,Nat.reduceDiv,Nat.reduceMod,Nat.reduceLT,Nat.reduceLeDiff,Nat.reduceAdd,Nat.reduceSub,Nat.reduceMul,Nat.reduceEqDiff,Nat.reduceBEq,Nat.reduceBNe,Nat.reduceGT]
  repeat refine sd ?_
  exact hq.1):p:=h ⟨hq⟩
theorem gax{p q F:Prop} (fx:F) (hq:q) (h:F→Bx q→p:=by
  intro fx hq
  simp only [bA,bT,tab,bX,reduceIte,↓reduceIte,reduceCtorEq,Int.reduceToNat,Nat.reduceDiv,Nat.reduceMod,Nat.reduceLT,Nat.reduceLeDiff,Nat.reduceAdd,Nat.reduceSub,Nat.reduceMul,Nat.reduceEqDiff,Nat.reduceBEq,Nat.reduceBNe,Nat.reduceGT,fx]
  repeat refine sd ?_
  exact hq.1):p:=h fx ⟨hq⟩
theorem gz{p q:Prop} (hq:q) (h:Bx q→p:=by
  intro hq
  simp only [bZ,bL,reduceIte,↓reduceIte,reduceCtorEq,Int.reduceToNat,Nat.reduceDiv,Nat.reduceMod,Nat.reduceLT,Nat.reduceLeDiff,Nat.reduceAdd,Nat.reduceSub,Nat.reduceMul,Nat.reduceEqDiff,Nat.reduceBEq,Nat.reduceBNe,Nat.reduceGT]
  exact hq.1):p:=h ⟨hq⟩
theorem en{p:Prop}(h:p:=by simp only [bF,bT,tab,bX,Sum.elim_inl,Sum.elim_inr,reduceIte,↓reduceIte,reduceCtorEq,Int.reduceToNat,Nat.reduceDiv,Nat.reduceMod,Nat.reduceLT,Nat.reduceLeDiff,Nat.reduceAdd,Nat.reduceSub,Nat.reduceMul,Nat.reduceEqDiff,Nat.reduceBEq,Nat.reduceBNe,Nat.reduceGT]<;>first|done|rfl|(and_intros<;>first|rfl|omega|(simp;done)|(simp [eK,eB,eS,eL];done))):p:=h
theorem ls{p:Prop}(h:p:=by simp only [bS,bX,reduceIte,↓reduceIte,reduceCtorEq,Int.reduceToNat,Nat.reduceDiv,Nat.reduceMod,Nat.reduceLT,Nat.reduceLeDiff,Nat.reduceAdd,Nat.reduceSub,Nat.reduceMul,Nat.reduceEqDiff,Nat.reduceBEq,Nat.reduceBNe,Nat.reduceGT]<;>first|done|(and_intros<;>first|rfl|(simp;done)|omega|(simp [lit,bX,eK,eB,eS,eL];done)|(simp only [oE,List.length_cons,List.length_nil,List.length_append,List.length_set,List.length_replicate,List.length_map,List.length_take,List.length_drop];omega))):p:=h
theorem aj{id:Nat} (ms:List Nat) (next:W P y K E' σ') (h:∀ (k:Env→List OB→Prop) (kp:PV→Env→List OB→Prop),k E' σ'→jz P l.toArray l E σ (fun E σ=>k (E.forget ms) σ) kp:=by
  intro k kp hk
  refine go ?_
  exact hk):W P (.seq (.region id l.toArray false) y) K E σ:=ao ms fun k kp hk _=>h k kp (hk _ _ next)
theorem fL{id:Nat} (next:K .normal E' σ') (h:∀ (k:Env→List OB→Prop) (kp:PV→Env→List OB→Prop),k E' σ'→jz P l.toArray l E σ k kp:=by
  intro k kp hk
  refine go ?_
  exact hk):W P (.region id l.toArray false) K E σ:=aR fun k kp hk _=>h k kp (hk _ _ next)
theorem gv{F:Prop} (fx:F) {id:Nat} (ms:List Nat) (next:W P y K E' σ') (h:F→∀ (k:Env→List OB→Prop) (kp:PV→Env→List OB→Prop),k E' σ'→jz P l.toArray l E σ (fun E σ=>k (E.forget ms) σ) kp:=by
  intro fx k kp hk
  refine gox fx ?_
  exact hk):W P (.seq (.region id l.toArray false) y) K E σ:=ao ms fun k kp hk _=>h fx k kp (hk _ _ next)
theorem Ej{F:Prop} (fx:F) {id:Nat} (next:K .normal E' σ') (h:F→∀ (k:Env→List OB→Prop) (kp:PV→Env→List OB→Prop),k E' σ'→jz P l.toArray l E σ k kp:=by
  intro fx k kp hk
  refine gox fx ?_
  exact hk):W P (.region id l.toArray false) K E σ:=aR fun k kp hk _=>h fx k kp (hk _ _ next)
theorem qS(hg:kB E σ E1 σ1) (next:W P c K E2 σ2) (h:W P c K E2 σ2→W P c K E1 σ1:=by
  intro hq
  simp only [bZ,bL,reduceIte,↓reduceIte,reduceCtorEq,Int.reduceToNat,Nat.reduceDiv,Nat.reduceMod,Nat.reduceLT,Nat.reduceLeDiff,Nat.reduceAdd,Nat.reduceSub,Nat.reduceMul,Nat.reduceEqDiff,Nat.reduceBEq,Nat.reduceBNe,Nat.reduceGT]
  exact hq):W P c K E σ:=jr hg (h next)
theorem Ek(next:W P c K E' σ)(h:E=E':=by simp only [bE,Nat.reduceDiv,Nat.reduceMod,Nat.reduceLT,Nat.reduceLeDiff,Nat.reduceAdd,Nat.reduceSub,Nat.reduceMul,Nat.reduceEqDiff,Nat.reduceBEq,Nat.reduceBNe,Nat.reduceGT,Int.reduceToNat];rfl):W P c K E σ:=oy h rfl next
theorem aQ(next:W P c K E' σ')(h:E=E':=by simp only [bE,Nat.reduceDiv,Nat.reduceMod,Nat.reduceLT,Nat.reduceLeDiff,Nat.reduceAdd,Nat.reduceSub,Nat.reduceMul,Nat.reduceEqDiff,Nat.reduceBEq,Nat.reduceBNe,Nat.reduceGT,Int.reduceToNat];rfl)(h2:σ=σ':=by first|(dsimp only;rfl)|rfl):W P c K E σ:=oy h h2 next
theorem Ja(next:W P c K E' σ')(h:E=E':=by simp only [jO,Env.ofList,List.length_nil,List.length_cons,bE,Nat.reduceDiv,Nat.reduceMod,Nat.reduceLT,Nat.reduceLeDiff,Nat.reduceAdd,Nat.reduceSub,Nat.reduceMul,Nat.reduceEqDiff,Nat.reduceBEq,Nat.reduceBNe,Nat.reduceGT,Int.reduceToNat];rfl)(h2:σ=σ':=by rfl):W P c K E σ:=oy h h2 next
theorem vy(next:W P c K E' σ')(h:E=E':=by simp only [bE,Nat.reduceDiv,Nat.reduceMod,Nat.reduceLT,Nat.reduceLeDiff,Nat.reduceAdd,Nat.reduceSub,Nat.reduceMul,Nat.reduceEqDiff,Nat.reduceBEq,Nat.reduceBNe,Nat.reduceGT,Int.reduceToNat,List.length_cons,List.length_nil,List.length_append,List.cons_append,List.nil_append];rfl)(h2:σ=σ':=by simp only [List.length_cons,List.length_nil,List.length_append,List.cons_append,List.nil_append];rfl):W P c K E σ:=oy h h2 next
theorem mI(σ':List OB)(next:W P c K E σ')(h:σ=σ':=by first|rfl|(simp only [List.take_of_length_le,List.length_map,List.length_append,List.length_cons,List.length_nil,List.length_replicate,List.length_set,List.map_append,List.map_cons,List.map_nil,List.map_replicate,List.map_set,Nat.le_refl,Nat.zero_add,List.nil_append,List.set_cons_zero,List.set_cons_succ,bX,eK,eB,eS,eL];done)|(simp only [List.take_of_length_le,List.length_map,List.length_append,List.length_cons,List.length_nil,List.length_replicate,List.length_set,List.map_append,List.map_cons,List.map_nil,List.map_replicate,List.map_set,Nat.le_refl,Nat.zero_add,List.nil_append,List.set_cons_zero,List.set_cons_succ,bX,eK,eB,eS,eL];rfl)|(simp;done)|(simp only [lit,List.map_append,List.map_cons,List.map_nil,List.map_set,List.map_replicate,List.nil_append,bX,eK,eB,eS,eL];done)):W P c K E σ:=oy rfl h next
theorem RP{γ:Bool}{C:Prop}{f:FuncId}{args:List PV}{o:Oper}{r:List Oper}{res:PV}(hs:γ=true→cq P f args res)(next:i7 P ops r (E.putD o.dst ⟨γ,res⟩) σ k kp)
  (hd:gL E o.dst:=by first|trivial|exact nH rfl) (hC:γ=true→C:=by first|trivial|(intro _;first|trivial|simp [aS])|simp [aS]) (hargs:args.all PV.noOwn=true:=by exact rfl) (hres:res.ren (eO σ.length [])=res:=by exact rfl):mY P ops γ C f args o r E σ k kp:=xQ hs hd hC hargs hres next
theorem AP{γ:Bool}{C:Prop}{f:FuncId}{args:List PV}{o:Oper}{r:List Oper}{bs:List Bool}{res:PV}(hs:γ=true→cq P f args res)(next:kj P ops r bs.tail (E.putD o.dst ⟨γ,res⟩) σ k)
  (hd:gL E o.dst:=by first|trivial|exact nH rfl) (hC:γ=true→C:=by first|trivial|(intro _;first|trivial|simp [aS])|simp [aS]) (hargs:args.all PV.noOwn=true:=by exact rfl) (hres:∀ n,res.ren (eO n [])=res:=by exact fun _=>rfl):uo P ops γ C f args o r bs E σ k:=up hs hd hC hargs hres next
theorem RA{C:Prop}{f:FuncId}{args:List PV}{o:Oper}{r:List Oper}{args':List PV}{σc:List OB}{post:PV→List OB→Prop}(hs:ed P f args' σc post (fun _ _=>False))(ρ:List Nat)
  (next:∀ p σ',post p σ'→ρ.length≤σ'.length→i7 P ops r (E.putD o.dst ⟨true,p.ren (eO σ.length ρ)⟩) (eX σ ρ (σ'.map (OB.ren (eO σ.length ρ)))) k kp)
  (hd:gL E o.dst:=by first|trivial|exact nH rfl) (hC:C:=by first|trivial|(intro _;first|trivial|simp [aS])|simp [aS]) (hnd:ρ.Nodup:=by simp) (hlt:∀ b∈ρ,b<σ.length:=by simp)
  (hargs:args=args'.map (PV.ren (eO σ.length ρ)):=by exact rfl) (hσ:ρ.map (fun b=>σ[b]?)=σc.map (fun ob=>some (ob.ren (eO σ.length ρ))):=by exact rfl) (hu:gD ρ.length args':=by first|trivial|(simp [bX,eK,eB,eS,eL,pI,gD,PV.under,CV.under,di,OB.under,eY];done)) (hub:di ρ.length σc:=by first|trivial|(simp [bX,eK,eB,eS,eL,pI,gD,PV.under,CV.under,di,OB.under,eY];done)) :
  mY P ops true C f args o r E σ k kp:=nW hs ρ hd hC hnd hlt hargs hσ hu hub next (fun _ _ h _=>h.elim)
theorem RS{o:Oper}{r:List Oper}{v:PV}(hx:nr P E σ o v σ')(next:i7 P ops r (E.putD o.dst ⟨true,v⟩) σ' k kp)(hg:gO ops E o.guard=some true:=by first|rfl|(simp only [bR,bT,tab,bX,reduceIte,↓reduceIte,reduceCtorEq,Int.reduceToNat,Nat.reduceDiv,Nat.reduceMod,Nat.reduceLT,Nat.reduceLeDiff,Nat.reduceAdd,Nat.reduceSub,Nat.reduceMul,Nat.reduceEqDiff,Nat.reduceBEq,Nat.reduceBNe,Nat.reduceGT];done))(hd:gL E o.dst:=by first|trivial|exact nH rfl) :
  i7 P ops (o :: r) E σ k kp:=qR hx hg hd next
end
end Pam
namespace Pam
open Go
def Eo(o:Oper):Bool:=match o.op with|.alloc _=>true|_=>false
def ut(o:Oper):Oper:={ dst:=none,op:=.move (.const (.bool true)),type:=o.type,pos:=o.pos,after:=o.after,guard:=o.guard }
def wJ(o:Oper):Oper:=match o.op with|.alloc _=>ut o|_=>o
def jx:List Oper→List Oper
 |[]=>[]
 |[q]=>[ut q]
 |o :: o2 :: r=>wJ o :: jx (o2 :: r)
def qU:List Oper→List Oper
 |[]=>[]
 |[q]=>[q]
 |o :: o2 :: r=>match o.op with|.alloc _=>o :: qU (o2 :: r)|_=>qU (o2 :: r)
def F7(l:List Oper)(ts:List Nat)(bs:List Bool):Bool :=
 bs.getD (l.length - 1) false && decide (0<l.length) &&
 l.zipIdx.all fun (o,i) =>
  (if i+1<l.length then !Eo o || (o.guard.isNone && (match o.dst with|some t=>decide (t<512) && ts.contains t && (l.zipIdx.all fun (y,j)=>j == i || y.dst != some t)|none=>false)) else o.dst.isNone && o.guard.isNone && !Eo o) &&
  (match o.guard with|some (g,_)=>(match l[g]? with|some y=>!Eo y|none=>true)|none=>true)
structure F8 (l:List Oper) (ts:List Nat) (bs:List Bool):Prop where
 bar:bs.getD (l.length - 1) false=true
 pos:0<l.length
 al:∀ (i:Nat) (o:Oper) (T:TypeId),l[i]? = some o→i+1<l.length→o.op=.alloc T→o.guard=none∧∃ t,o.dst=some t∧t<512∧t∈ts∧∀ (j:Nat) (y:Oper),l[j]? = some y→j≠i→y.dst≠some t
 last:∀ (i:Nat) (o:Oper),l[i]? = some o→i+1=l.length→o.dst=none∧o.guard=none
 ref:∀ (i:Nat) (o:Oper) (g:Nat) (b:Bool) (y:Oper),l[i]? = some o→o.guard=some (g,b)→l[g]? = some y→∀ T,y.op≠.alloc T
theorem F9{l:List Oper}{ts:List Nat}{bs:List Bool}(h:F7 l ts bs=true):F8 l ts bs:=by
 unfold F7 at h
 simp only [Bool.and_eq_true,List.all_eq_true,decide_eq_true_eq] at h
 obtain ⟨⟨h1,h2⟩,h3⟩:=h
 have m:∀ (i:Nat) (o:Oper),l[i]? = some o→(o,i)∈l.zipIdx:=fun i o ho=>by
  rw [List.mem_zipIdx_iff_getElem?];simpa using ho
 refine ⟨h1,h2,?_,?_,?_⟩
 ·intro i o T ho hi hop
  have:=(h3 _ (m i o ho)).1
  simp only [iP hi,Eo,hop,Bool.not_true,Bool.false_or,Bool.and_eq_true,Option.isNone_iff_eq_none] at this
  obtain ⟨g,h⟩:=this
  refine ⟨g,?_⟩
  cases hd:o.dst with
  |none=>rw [hd] at h;simp at h
  |some t =>
   rw [hd] at h
   simp only [Bool.and_eq_true,decide_eq_true_eq,List.contains_eq_mem,List.all_eq_true,Bool.or_eq_true,beq_iff_eq,bne_iff_ne] at h
   refine ⟨t,rfl,h.1.1,h.1.2,fun j y hy hji=>?_⟩
   rcases h.2 _ (m j y hy) with h|h
   ·exact (hji h).elim
   ·exact h
 ·intro i o ho hi
  have:=(h3 _ (m i o ho)).1
  simp only [iN (by omega:¬ i+1<l.length),Bool.and_eq_true,Option.isNone_iff_eq_none] at this
  exact this.1
 ·intro i o g b y ho hg hy T hop
  have:=(h3 _ (m i o ho)).2
  simp [hg,hy,Eo,hop] at this
theorem nX:∀ l:List Oper,(jx l).length=l.length
 |[]=>rfl
 |[q]=>rfl
 |o :: o2 :: r=>by simp only [jx,List.length_cons];rw [nX (o2 :: r)];rfl
theorem pL:∀ (l:List Oper) (i:Nat) (o:Oper),l[i]? = some o→(jx l)[i]? = some (if i+1<l.length then wJ o else ut o)
 |[],i,o,h=>by simp at h
 |[q],0,o,h=>by simp at h;subst h;rfl
 |[q],i+1,o,h=>by simp at h
 |a :: o2 :: r,0,o,h=>by simp at h;subst h;simp [jx]
 |a :: o2 :: r,i+1,o,h=>by
  have:=pL (o2 :: r) i o (by simpa using h)
  simp only [jx,List.getElem?_cons_succ,this,List.length_cons]
  congr 1
  by_cases e:i+1<r.length+1
  ·rw [iP e,iP (by omega)]
  ·rw [iN e,iN (by omega)]
theorem tR{o:Oper}(h:∀ T,o.op≠.alloc T):wJ o=o:=by
 unfold wJ
 split
 ·rename_i T e;exact (h T e).elim
 ·rfl
theorem Co{o:Oper}{T:TypeId}(h:o.op=.alloc T):wJ o=ut o:=by unfold wJ;rw [h]
theorem Bw(o:Oper):(wJ o).after=o.after∧(wJ o).guard=o.guard:=by
 unfold wJ
 split<;>exact ⟨rfl,rfl⟩
theorem uR{l:List Oper}{i:Nat}{o':Oper}(h:(jx l)[i]? = some o'):∃ o,l[i]? = some o∧o'=(if i+1<l.length then wJ o else ut o)∧o'.after=o.after∧o'.guard=o.guard:=by
 have hlt:i<l.length:=by rw [← nX];exact (List.getElem?_eq_some_iff.1 h).1
 have e:=pL l i l[i] (List.getElem?_eq_getElem hlt)
 rw [h] at e
 simp only [sJ] at e
 refine ⟨l[i],List.getElem?_eq_getElem hlt,e,?_⟩
 rw [e]
 split
 ·exact Bw _
 ·exact ⟨rfl,rfl⟩
theorem wK{l:List Oper}{listed:Array Bool}{i:Nat}(h:i∈Region.ready .any l.toArray listed):i∈Region.ready .any (jx l).toArray listed:=by
 obtain ⟨h1,o,ho,h2⟩:=mem_ready.1 h
 have ho':l[i]? = some o:=by simpa using ho
 have e:=pL l i o ho'
 obtain ⟨o2,q1,q2,q3,q4⟩:=uR e
 rw [ho'] at q1
 simp only [sJ] at q1
 subst q1
 refine mem_ready.2 ⟨h1,_,by simpa using e,fun x hx=>?_⟩
 rw [q3] at hx
 exact h2 x hx
section
variable {P:Program}
theorem Oper.wp_put{o:Oper}{a:Act}{w:World}{K:Act→World→Prop}{Q:Exit→Act→World→Prop}(h:o.wp P a w K Q) :
  o.wp P a w (fun a' w'=>K a' w'∧∀ t,o.dst≠some t→a'.tmps.getD t undef=a.tmps.getD t undef) Q:=by
 have key:∀ (a1:Act) (v:Value) (t:Nat),a1.tmps=a.tmps→o.dst≠some t→(a1.put o.dst v).tmps.getD t undef=a.tmps.getD t undef:=by
  intro a1 v t h1 ht
  cases hd:o.dst with
  |none=>simp [Act.put,h1]
  |some d =>
   have hne:d≠t:=fun e=>ht (by rw [hd,e])
   simp only [Act.put,Array.getD_eq_getD_getElem?,h1]
   rw [Array.getElem?_setIfInBounds_ne hne]
 unfold Oper.wp at *
 generalize (execOp a.eval o).run P w=r at *
 cases r with
 |ok n w' =>
  cases n<;>simp only [Oper.upon] at h ⊢ <;>
   first
    |exact ⟨h,fun t ht=>key _ _ t rfl ht⟩
    |exact Calls.mono h (fun e w'' he=>by cases e<;>first|exact ⟨he,fun t ht=>key _ _ t rfl ht⟩|exact he)
    |exact Rows.mono h (fun _ _ he=>⟨he,fun t ht=>key _ _ t rfl ht⟩)
 |halt x w'=>cases x<;>simp only [Oper.upon] at h ⊢<;>exact h
theorem Ep{ops:Array Oper}{Q:Exit→Act→World→Prop}{i:Nat}{o:Oper}{K:Act→World→Prop}{a:Act}{w:World}(ho:ops[i]? = some o)(h:wpOp P ops Q i K a w) :
  wpOp P ops Q i (fun a' w'=>K a' w'∧∀ t,o.dst≠some t→a'.tmps.getD t undef=a.tmps.getD t undef) a w:=by
 unfold wpOp at *
 simp only [ho] at h ⊢
 split
 ·rename_i hw;simp only [hw,if_true] at h;exact h.imp Oper.wp_put id
 ·rename_i hw
  simp only [hw] at h
  refine ⟨h,fun t ht=>?_⟩
  cases hd:o.dst with
  |none=>simp [Act.put]
  |some d =>
   have hne:d≠t:=fun e=>ht (by rw [hd,e])
   simp only [Act.put,Array.getD_eq_getD_getElem?]
   rw [Array.getElem?_setIfInBounds_ne hne]
theorem Ak{l:List Oper}{ts:List Nat}{bs:List Bool}(v:F8 l ts bs){i:Nat}{o:Oper}(ho:l[i]? = some o)(tmps:Array Value) :
  Region.wanted o (yielded (jx l).toArray tmps)=Region.wanted o (yielded l.toArray tmps):=by
 unfold Region.wanted
 cases hg:o.guard with
 |none=>rfl
 |some gb =>
  obtain ⟨g,b⟩:=gb
  simp only
  have:yielded (jx l).toArray tmps g=yielded l.toArray tmps g:=by
   unfold yielded
   simp only [List.getElem?_toArray]
   cases hy:l[g]? with
   |none =>
    have:(jx l)[g]? = none:=by
     rw [List.getElem?_eq_none_iff] at hy ⊢
     rw [nX];exact hy
    rw [this]
   |some y =>
    rw [pL l g y hy]
    by_cases e:g+1<l.length
    ·rw [iP e,tR (v.ref i o g b y ho hg hy)]
    ·rw [iN e]
     have:=(v.last g y hy (by have:=(List.getElem?_eq_some_iff.1 hy).1;omega)).1
     simp [ut,this]
  rw [this]
theorem Dn{l:List Oper}{ts:List Nat}{bs:List Bool}(v:F8 l ts bs){Q:Exit→Act→World→Prop}{i:Nat}{o:Oper}{K:Act→World→Prop}{a:Act}{w:World}(ho:l[i]? = some o)(hi:i+1<l.length)(hn:∀ T,o.op≠.alloc T)
  (h:wpOp P (jx l).toArray Q i K a w):wpOp P l.toArray Q i (fun a' w'=>K a' w'∧∀ t,o.dst≠some t→a'.tmps.getD t undef=a.tmps.getD t undef) a w:=by
 have e:=pL l i o ho
 rw [iP hi,tR hn] at e
 have h':=Ep (o:=o) (by simpa using e) h
 unfold wpOp at h' ⊢
 simp only [List.getElem?_toArray,e,ho,Ak v ho] at h' ⊢
 exact h'
theorem Inv.aside{G:Gh}{σ:List OB}{w:World}(hi:Inv G σ w)(x:Obj):Inv { G with F:=fun b=>if b=w.heap.size then some x else G.F b } σ (w.alloc x):=by
 have old:∀ b,b<w.heap.size→(w.alloc x).heap[b]? = w.heap[b]? := fun b hb=>heap_alloc_old w _ hb
 constructor
 ·intro b y h;rw [old b (fS (hi.hH b y h))];exact hi.hH b y h
 ·intro b y h
  simp only at h
  by_cases e:b=w.heap.size
  ·rw [iP e] at h;rw [e,← h];exact heap_alloc_new w _
  ·rw [iN e] at h;rw [old b (fS (hi.hF b y h))];exact hi.hF b y h
 ·intro b y h
  simp only at h ⊢
  by_cases e:b=w.heap.size
  ·cases hx:G.H b with
   |none=>rfl
   |some z=>have:=fS (hi.hH _ _ hx);omega
  ·rw [iN e] at h;exact hi.HF b y h
 ·exact hi.len
 ·intro b ob h
  exact (hi.own b ob h).keep (fun _ _ h=>h) (cO.refl _) rfl fun o ho hh=>old _ (pW hi ho hh)
 ·exact hi.inj
 ·intro b o h hh
  have:=pW hi h hh
  refine ⟨(hi.sep b o h hh).1,?_⟩
  simp only
  rw [iN (by omega)]
  exact (hi.sep b o h hh).2
 ·exact hi.os
 ·exact hi.tape
 ·exact hi.output
 ·exact Nat.le_trans hi.grow (by simp)
theorem Inv.gain{G:Gh}{σ:List OB}{w:World}(hi:Inv G σ w){blk:Nat}{cs:List CV}{c:Array Value}{T:TypeId}(hA:w.heap[blk]? = some (.cells c T))(hB:G.H blk=none)(hC:G.F blk=none)
  (hD:∀ (b:Nat) (o:OG),G.own[b]? = some (some o)→o.has=true→o.blk≠blk) (h:aZ (Rep G) cs c.toList):Inv { G with own:=G.own++[some ⟨blk,0,0,0,true,0⟩] } (σ++[.box cs]) w:=by
 have hle:cO G.own (G.own++[some ⟨blk,0,0,0,true,0⟩]):=cO.append _ _
 have split:∀ (b:Nat) (o':OG),(G.own++[some (⟨blk,0,0,0,true,0⟩:OG)])[b]? = some (some o')→(b<G.own.length∧G.own[b]? = some (some o'))∨(b=G.own.length∧o'=⟨blk,0,0,0,true,0⟩):=by
  intro b o' h
  rcases Nat.lt_or_ge b G.own.length with hb|hb
  ·rw [List.getElem?_append_left hb] at h;exact .inl ⟨hb,h⟩
  ·rw [List.getElem?_append_right hb] at h
   rcases Nat.eq_zero_or_pos (b - G.own.length) with e|e
   ·rw [e] at h;simp at h;exact .inr ⟨by omega,h.symm⟩
   ·rw [List.getElem?_eq_none (by simp;omega)] at h;cases h
 constructor
 ·exact hi.hH
 ·exact hi.hF
 ·exact hi.HF
 ·simp [hi.len]
 ·intro b ob' h'
  rcases Nat.lt_or_ge b σ.length with hb|hb
  ·rw [List.getElem?_append_left hb] at h'
   refine (hi.own b ob' h').keep (fun _ _ h=>h) hle ?_ fun o' ho' hh=>rfl
   exact List.getElem?_append_left (by rw [hi.len];exact hb)
  ·rw [List.getElem?_append_right hb] at h'
   rcases Nat.eq_zero_or_pos (b - σ.length) with e|e
   ·rw [e] at h';simp at h'
    have:b=σ.length:=by omega
    subst this;subst h'
    refine ⟨⟨blk,0,0,0,true,0⟩,c,T,?_,rfl,⟨rfl,rfl⟩,hA,aZ.mono (R:=Rep G) (fun _ _ hr=>Rep.mono (G:=G) (G':={ G with own:=G.own++[some ⟨blk,0,0,0,true,0⟩] }) (fun _ _ h=>h) hle hr) h⟩
    show (G.own++_)[σ.length]? = _
    rw [← hi.len];simp
   ·rw [List.getElem?_eq_none (by simp;omega)] at h';cases h'
 ·intro b b' o1 o2 h1 h2 hh1 hh2 he
  rcases split b o1 h1 with ⟨hb,g1⟩|⟨hb,g1⟩<;>rcases split b' o2 h2 with ⟨hb',g2⟩|⟨hb',g2⟩
  ·exact hi.inj b b' o1 o2 g1 g2 hh1 hh2 he
  ·exact (hD b o1 g1 hh1 (by rw [he,g2])).elim
  ·exact (hD b' o2 g2 hh2 (by rw [← he,g1])).elim
  ·omega
 ·intro b o1 h1 hh1
  rcases split b o1 h1 with ⟨hb,h1⟩|⟨hb,rfl⟩
  ·exact hi.sep b o1 h1 hh1
  ·exact ⟨hB,hC⟩
 ·exact hi.os
 ·exact hi.tape
 ·exact hi.output
 ·exact hi.grow
theorem Inv.less{G:Gh}{σ:List OB}{w:World}(hi:Inv G σ w)(F:Nat→Option Obj)(h:∀ b x,F b=some x→G.F b=some x):Inv { G with F:=F } σ w:=by
 constructor
 ·exact hi.hH
 ·exact fun b x e=>hi.hF b x (h b x e)
 ·exact fun b x e=>hi.HF b x (h b x e)
 ·exact hi.len
 ·exact fun b ob e=>(hi.own b ob e).keep (fun _ _ h=>h) (cO.refl _) rfl fun _ _ _=>rfl
 ·exact hi.inj
 ·intro b o e hh
  refine ⟨(hi.sep b o e hh).1,?_⟩
  show F o.blk=none
  cases hx:F o.blk with
  |none=>rfl
  |some x=>have:=h _ _ hx;rw [(hi.sep b o e hh).2] at this;cases this
 ·exact hi.os
 ·exact hi.tape
 ·exact hi.output
 ·exact hi.grow
def JR(P:Program)(l:List Oper)(G0 G1:Gh)(listed:Array Bool)(a:Act):Prop :=
 G1.H=G0.H∧G1.own=G0.own∧G1.w0=G0.w0∧G1.na=G0.na∧(∀ b x,G0.F b=some x→G1.F b=some x) ∧
 ∃ pb:Nat→Nat,
  (∀ (i j:Nat) (o o':Oper) (T T':TypeId),l[i]? = some o→l[j]? = some o'→i+1<l.length→j+1<l.length→o.op=.alloc T→o'.op=.alloc T'→listed.getD i false=true→listed.getD j false=true→pb i=pb j→i=j) ∧
  ∀ (i:Nat) (o:Oper) (T:TypeId) (t:Nat),l[i]? = some o→i+1<l.length→o.op=.alloc T→o.dst=some t→listed.getD i false=true →
   a.tmps.getD t undef=.pointer (some ⟨pb i,0,none⟩)∧G0.F (pb i)=none∧∃ inf u,P.info? T=some inf∧inf.zero=some u∧G1.F (pb i)=some (.cells u.cells T)
def StA(P:Program)(l:List Oper)(tr:List TS)(E:Env)(σ:List OB)(G0:Gh)(listed:Array Bool)(a:Act)(w:World):Prop :=
 ∃ G1,JR P l G0 G1 listed a∧ot [] (jx l) tr E σ G1 listed a w
theorem qV{l:List Oper}{listed:Array Bool}(hsz:listed.size=l.length){i:Nat}(hi:i∈Region.ready .any l.toArray listed):listed.getD i false=false∧i<l.length∧∃ o,l[i]? = some o∧∀ j∈gY o,listed.getD j false=true:=by
 obtain ⟨hun,o,ho',hdeps⟩:=mem_ready.1 hi
 have ho:l[i]? = some o:=by simpa using ho'
 have hil:i<l.length:=(List.getElem?_eq_some_iff.1 ho).1
 refine ⟨?_,hil,o,ho,fun j hj=>?_⟩
 ·rw [Array.getD_eq_getD_getElem?] at hun ⊢
  rw [Array.getElem?_eq_getElem (by omega)] at hun ⊢
  simpa using hun
 ·simp only [gY,List.mem_map,List.mem_filter] at hj
  obtain ⟨e,⟨h1,h2⟩,rfl⟩:=hj
  exact hdeps e (by simpa using h1) h2
theorem StA.step{l:List Oper}{ts:List Nat}{bs ps:List Bool}{rd:List (List Nat)}{pv masks:List Nat}{E:Env}{σ:List OB}{tr:List TS}(c:wz (jx l).toArray (jx l) masks bs ps rd [])(v:F8 l ts bs)(ht:ll P (jx l).toArray pv (jx l) bs ps rd [] E σ tr)
  (hE:∀ t∈ts,(E.get t).cond=false) (hz:∀ (i:Nat) (o:Oper) (T:TypeId),l[i]? = some o→i+1<l.length→o.op=.alloc T→(∃ z,no P T=some z)∧gL E o.dst) (G0:Gh) {Q:Exit→Act→World→Prop} (listed:Array Bool) (a:Act) (w:World) (i:Nat)
  (hJ:StA P l tr E σ G0 listed a w) (hi:i∈Region.ready .any l.toArray listed) (hlt:i+1<l.length):wpOp P l.toArray Q i (StA P l tr E σ G0 (listed.setIfInBounds i true)) a w:=by
 obtain ⟨G1,⟨p1,p2,p3,p4,p5,pb,p6,p7⟩,hS⟩:=hJ
 have hsz:listed.size=l.length:=by rw [hS.1,nX]
 obtain ⟨hi0,hil,o,ho,hr⟩:=qV hsz hi
 have hset:∀ j,(listed.setIfInBounds i true).getD j false=if j=i then true else listed.getD j false:=fun j=>Ac _ _ _ (by omega)
 by_cases hn:∀ T,o.op≠.alloc T
 ·have h1:=ot.stepQ (fz:=[]) (Q:=Q) c (jA.of ht) G1 listed a w i hS (wK hi) (by simp)
  refine wpOp_mono (fun a' w' h=>?_) (Dn v ho hlt hn h1)
  obtain ⟨h2,h3⟩:=h
  refine ⟨G1,⟨p1,p2,p3,p4,p5,pb,?_,?_⟩,h2⟩
  ·intro j k y y' T T' hy hy' hj hk hop hop' hl hl'
   rw [hset] at hl hl'
   have nj:j≠i:=fun e=>by subst e;rw [ho] at hy;simp only [sJ] at hy;subst hy;exact hn T hop
   have nk:k≠i:=fun e=>by subst e;rw [ho] at hy';simp only [sJ] at hy';subst hy';exact hn T' hop'
   rw [iN nj] at hl
   rw [iN nk] at hl'
   exact p6 j k y y' T T' hy hy' hj hk hop hop' hl hl'
  ·intro j y T t hy hj hop hd hl
   rw [hset] at hl
   have nj:j≠i:=fun e=>by subst e;rw [ho] at hy;simp only [sJ] at hy;subst hy;exact hn T hop
   rw [iN nj] at hl
   obtain ⟨q1,q2⟩:=p7 j y T t hy hj hop hd hl
   obtain ⟨_,t',g1,_,_,g4⟩:=v.al j y T hy hj hop
   rw [hd] at g1
   simp only [sJ] at g1
   subst g1
   exact ⟨(h3 t (g4 i o ho (fun e=>nj e.symm))).trans q1,q2⟩
 ·obtain ⟨T,hop⟩:∃ T,o.op=.alloc T:=Classical.byContradiction fun h=>hn fun T e=>h ⟨T,e⟩
  obtain ⟨hg,t,hd,ht512,hts,huniq⟩:=v.al i o T ho hlt hop
  obtain ⟨⟨z,hzT⟩,hdok⟩:=hz i o T ho hlt hop
  obtain ⟨hsz',hcl,G,p,hG,hp,hloud,hinv,hdef,htm,hna,hslot⟩:=hS
  obtain ⟨inf,u,e1,e2,e3,e4,_,e5⟩:=mF G hzT
  have hFG:G.F=G1.F:=hG.le.F
  have hvi:=pL l i o ho
  rw [iP hlt,Co hop] at hvi
  have hrun:(execOp a.eval o).run P w=.ok (.value (.pointer (some ⟨w.heap.size,0,none⟩))) (w.alloc (.cells u.cells T)):=by
   simp [execOp,hop,Instr.alloc,j7 e1 e2,newVar,newRow]
  unfold wpOp
  simp only [List.getElem?_toArray,ho]
  rw [iP (by unfold Region.wanted;rw [hg])]
  left
  unfold Oper.wp
  rw [hrun]
  show StA P l tr E σ G0 (listed.setIfInBounds i true) (a.put o.dst _) _
  rw [hd]
  have hfree:∀ j y,l[j]? = some y→j+1<l.length→(∃ T,y.op=.alloc T)→listed.getD j false=true→pb j≠w.heap.size:=by
   intro j y hy hj ⟨T',hop'⟩ hl e
   obtain ⟨_,t',g1,_⟩:=v.al j y T' hy hj hop'
   obtain ⟨_,_,_,_,_,_,q⟩:=p7 j y T' t' hy hj hop' g1 hl
   rw [← hFG] at q
   have:=fS (hinv.hF _ _ q)
   omega
  have hput:∀ t',t'≠t→(a.put (some t) (.pointer (some ⟨w.heap.size,0,none⟩))).tmps.getD t' undef=a.tmps.getD t' undef:=by
   intro t' hne
   simp only [Act.put,Array.getD_eq_getD_getElem?]
   rw [Array.getElem?_setIfInBounds_ne (Ne.symm hne)]
  refine ⟨{ G1 with F:=fun b=>if b=w.heap.size then some (.cells u.cells T) else G1.F b },⟨p1,p2,p3,p4,?_,fun j=>if j=i then w.heap.size else pb j,?_,?_⟩,?_⟩
  ·intro b x hb
   have h1:=p5 b x hb
   simp only
   rw [iN]
   ·exact h1
   ·intro e
    rw [← hFG] at h1
    have:=fS (hinv.hF _ _ h1)
    omega
  ·intro j k y y' T1 T2 hy hy' hj hk hop1 hop2 hl hl' he
   rw [hset] at hl hl'
   simp only at he
   by_cases nj:j=i<;>by_cases nk:k=i
   ·omega
   ·rw [iP nj,iN nk] at he;rw [iN nk] at hl'
    exact (hfree k y' hy' hk ⟨T2,hop2⟩ hl' he.symm).elim
   ·rw [iN nj,iP nk] at he;rw [iN nj] at hl
    exact (hfree j y hy hj ⟨T1,hop1⟩ hl he).elim
   ·rw [iN nj,iN nk] at he;rw [iN nj] at hl;rw [iN nk] at hl'
    exact p6 j k y y' T1 T2 hy hy' hj hk hop1 hop2 hl hl' he
  ·intro j y T' t' hy hj hop' hd' hl
   rw [hset] at hl
   by_cases nj:j=i
   ·subst nj
    rw [ho] at hy
    simp only [sJ] at hy
    subst hy
    rw [hd] at hd'
    simp only [sJ] at hd'
    subst hd'
    rw [hop] at hop'
    simp only [Op.alloc.injEq] at hop'
    subst hop'
    simp only [if_true]
    refine ⟨?_,?_,inf,u,e1,e2,?_⟩
    ·have:t<a.tmps.size:=by
      rw [htm]
      rw [hd] at hdok
      exact hdok
     simp [Act.put,Array.getD,this]
    ·cases hx:G0.F w.heap.size with
     |none=>rfl
     |some x =>
      have h1:=p5 _ _ hx
      rw [← hFG] at h1
      have:=fS (hinv.hF _ _ h1)
      omega
    ·simp
   ·rw [iN nj] at hl
    obtain ⟨q1,q2,inf',u',q3,q4,q5⟩:=p7 j y T' t' hy hj hop' hd' hl
    simp only [iN nj]
    have hne:t'≠t:=fun e=>huniq j y hy nj (by rw [hd',e])
    refine ⟨(hput t' hne).trans q1,q2,inf',u',q3,q4,?_⟩
    rw [iN (hfree j y hy hj ⟨T',hop'⟩ hl)]
    exact q5
  ·refine ⟨by simpa using hsz',?_,{ G with F:=fun b=>if b=w.heap.size then some (.cells u.cells T) else G1.F b },p,⟨⟨hG.le.H,rfl,hG.le.w0,hG.le.na⟩,hG.own⟩,hp,?_,?_,hdef,by simpa [Act.put] using htm,hna,?_⟩
   ·intro k ok hk hdn j hj
    simp only at hdn ⊢
    rw [hset] at hdn ⊢
    by_cases e:k=i
    ·subst e;rw [hvi] at hk;simp only [sJ] at hk;subst hk
     by_cases e':j=k
     ·rw [iP e']
     ·rw [iN e'];exact hr j hj
    ·rw [iN e] at hdn
     by_cases e':j=i
     ·rw [iP e']
     ·rw [iN e'];exact hcl k ok hk hdn j hj
   ·intro j y hy hly
    rw [hset]
    by_cases e:j=i
    ·subst e;rw [hvi] at hy;simp only [sJ] at hy;subst hy;simp [ld,kz,ut] at hly
    ·rw [iN e];exact hloud j y hy hly
   ·have:=hinv.aside (.cells u.cells T)
    rw [hFG] at this
    exact this
   ·intro t' ht' hc
    have hfun:(fun k=>(listed.setIfInBounds i true).getD k false)=(fun k=>if k=i then true else listed.getD k false):=by
     funext k;exact hset k
    rw [hfun] at hc ⊢
    rw [vx t' (jx l) tr _ _ i _ hvi (by simp [ut])] at hc ⊢
    by_cases e:t'=t
    ·subst e
     have hno:∀ (j:Nat) (y:Oper),(jx l)[j]? = some y→y.dst=some t'→False:=by
      intro j y hy hyd
      obtain ⟨y0,g1,g2,_⟩:=uR hy
      by_cases ej:j+1<l.length
      ·rw [iP ej] at g2
       by_cases ha:∀ T,y0.op≠.alloc T
       ·rw [tR ha] at g2
        subst g2
        by_cases eji:j=i
        ·subst eji;rw [ho] at g1;simp only [sJ] at g1;subst g1;exact ha T hop
        ·exact huniq j y g1 eji hyd
       ·obtain ⟨T',ha⟩:∃ T,y0.op=.alloc T:=Classical.byContradiction fun h=>ha fun T e=>h ⟨T,e⟩
        rw [Co ha] at g2
        subst g2
        cases hyd
      ·rw [iN ej] at g2
       subst g2
       cases hyd
     have hk:jd t' (jx l) tr (fun k=>listed.getD k false) (E.get t')=E.get t':=by
      rw [kA t' (jx l) tr _ (fun _=>false) _ (fun j y hy hyd=>(hno j y hy hyd).elim)]
      exact lC t' (jx l) tr _ _ fun _ _ _ _=>rfl
     rw [hk,hE t' hts] at hc
     cases hc
    ·rw [hput t' e]
     exact bm.mono (fun _ _ h=>h) (cO.refl _) (hslot t' ht' hc)
theorem By:∀ (ts:List Nat) (E:Env) (t:Nat),(∀ x∈ts,x<512)→t∈ts→((E.forget ts).get t).cond=false:=by
 have keep:∀ (ts:List Nat) (E:Env) (t:Nat),(E.get t).cond=false→((E.forget ts).get t).cond=false:=by
  intro ts
  induction ts with
  |nil=>intro E t h;exact h
  |cons i r ih =>
   intro E t h
   refine ih (E.erase i) t ?_
   cases hc:((E.erase i).get t).cond with
   |false=>rfl
   |true=>have:=Env.erase_get E i t hc;rw [this,h] at hc;cases hc
 have zap:∀ (E:Env) (i:Nat),i<512→((E.erase i).get i).cond=false:=by
  intro E i h
  unfold Env.erase Env.get
  simp only
  have hb:i / 64<8:=by omega
  rw [Tr.get_put _ _ _ _ hb,iP rfl,Tr.get_put _ _ _ _ (Nat.mod_lt _ (by decide)),iP rfl,Tr.get_put _ _ _ _ (Nat.mod_lt _ (by decide)),iP rfl]
  simp [Tr.ent]
 intro ts
 induction ts with
 |nil=>intro E t _ h;simp at h
 |cons i r ih =>
  intro E t hx h
  by_cases e:t∈r
  ·exact ih (E.erase i) t (fun x hx'=>hx x (by simp [hx'])) e
  ·have:t=i:=by simpa [e] using h
   subst this
   exact keep r _ t (zap E t (hx t (by simp)))
theorem H2(E:Env)(d:Option Tmp)(e:Ent):(E.putD d e).n=E.n:=by cases d<;>rfl
theorem Cp{E E':Env}(h:E.n=E'.n){d:Option Tmp}(hd:gL E d):gL E' d:=by
 cases d with
 |none=>trivial
 |some d=>show d<E'.n;rw [← h];exact hd
theorem uS{ops:Array Oper}{kp:PV→Env→List OB→Prop}{k:Env→List OB→Prop}:∀ (r:List Oper) (E:Env) (σ:List OB),jz P ops (qU r) E σ k kp →
  ∀ (i:Nat) (o:Oper) (T:TypeId),(∀ (i:Nat) (o:Oper) (T:TypeId),r[i]? = some o→i+1<r.length→o.op=.alloc T→o.guard=none)→r[i]? = some o→i+1<r.length→o.op=.alloc T→(∃ z,no P T=some z)∧gL E o.dst
 |[],E,σ,h,i,o,T,hg,ho,hi,hop=>by simp at ho
 |[q],E,σ,h,i,o,T,hg,ho,hi,hop=>by simp at hi
 |x :: o2 :: r,E,σ,h,i,o,T,hg,ho,hi,hop=>by
  have hg':∀ (i:Nat) (o:Oper) (T:TypeId),(o2 :: r)[i]? = some o→i+1<(o2 :: r).length→o.op=.alloc T→o.guard=none:=fun i o T h1 h2 h3=>hg (i+1) o T (by simpa using h1) (by simp at h2 ⊢;omega) h3
  by_cases hx:∀ T,x.op≠.alloc T
  ·have e:qU (x :: o2 :: r)=qU (o2 :: r):=by
    unfold qU
    split
    ·rename_i T' e;exact (hx T' e).elim
    ·cases r<;>rfl
   rw [e] at h
   cases i with
   |zero=>simp at ho;subst ho;exact (hx T hop).elim
   |succ i=>exact uS (o2 :: r) E σ h i o T hg' (by simpa using ho) (by simp at hi ⊢;omega) hop
  ·obtain ⟨Tx,hx⟩:∃ T,x.op=.alloc T:=Classical.byContradiction fun h=>hx fun T e=>h ⟨T,e⟩
   have e:qU (x :: o2 :: r)=x :: qU (o2 :: r):=by
    simp only [qU,hx]
   rw [e] at h
   have hgx:=hg 0 x Tx rfl (by simp) hx
   unfold jz at h
   simp only [gO,hgx,dG,hx,oR] at h
   split at h
   ·rename_i z hz
    simp only [tp] at h
    obtain ⟨hd,_,hr⟩:=h
    cases i with
    |zero=>simp at ho;subst ho;rw [hx] at hop;simp only [Op.alloc.injEq] at hop;subst hop;exact ⟨⟨z,hz⟩,hd⟩
    |succ i =>
     obtain ⟨q1,q2⟩:=uS (o2 :: r) _ _ hr i o T hg' (by simpa using ho) (by simp at hi ⊢;omega) hop
     exact ⟨q1,Cp (H2 _ _ _) q2⟩
   ·simp only [tp] at h
theorem mat{ops:Array Oper}{pb:Nat→Nat}{kp:PV→Env→List OB→Prop}{k:Env→List OB→Prop}{a:Act}{w:World}:∀ (r:List Oper) (m:Nat) (G:Gh) (E:Env) (σ:List OB),Sim G E σ a w →
  (∀ (i : Nat) (o : Oper) (T : TypeId), r[i]? = some o → i + 1 < r.length → o.op = .alloc T → o.guard = none ∧ ∃ t, o.dst = some t ∧ a.tmps.getD t undef = .pointer (some ⟨pb (m + i), 0, none⟩) ∧ G.F (pb (m + i)) = none ∧ G.H (pb (m + i)) = none ∧
   (∀ (b:Nat) (og:OG),G.own[b]? = some (some og)→og.has=true→og.blk≠pb (m+i))∧∃ inf u,P.info? T=some inf∧inf.zero=some u∧w.heap[pb (m+i)]? = some (.cells u.cells T)) →
  (∀ (i j:Nat) (o o':Oper) (T T':TypeId),r[i]? = some o→r[j]? = some o'→i+1<r.length→j+1<r.length→o.op=.alloc T→o'.op=.alloc T'→pb (m+i)=pb (m+j)→i=j) →
  jz P ops (qU r) E σ k kp→∀ q,r.getLast? = some q→∃ G' E' σ',Gle G G'∧Sim G' E' σ' a w∧jz P ops [q] E' σ' k kp
 |[],m,G,E,σ,hs,hf,hdist,h,q,hq=>by simp at hq
 |[x],m,G,E,σ,hs,hf,hdist,h,q,hq=>by simp at hq;subst hq;exact ⟨G,E,σ,Gle.refl G,hs,h⟩
 |x :: o2 :: r,m,G,E,σ,hs,hf,hdist,h,q,hq=>by
  have hq':(o2 :: r).getLast? = some q:=by simpa [List.getLast?_cons_cons] using hq
  have hdist':∀ (i j:Nat) (o o':Oper) (T T':TypeId),(o2 :: r)[i]? = some o→(o2 :: r)[j]? = some o'→i+1<(o2 :: r).length→j+1<(o2 :: r).length→o.op=.alloc T→o'.op=.alloc T'→pb (m+1+i)=pb (m+1+j)→i=j:=by
   intro i j o o' T T' h1 h2 h3 h4 h5 h6 h7
   have:=hdist (i+1) (j+1) o o' T T' (by simpa using h1) (by simpa using h2) (by simp at h3 ⊢;omega) (by simp at h4 ⊢;omega) h5 h6 (by rw [show m+(i+1)=m+1+i by omega,show m+(j+1)=m+1+j by omega];exact h7)
   omega
  by_cases hx:∀ T,x.op≠.alloc T
  ·have e:qU (x :: o2 :: r)=qU (o2 :: r):=by
    unfold qU
    split
    ·rename_i T' e;exact (hx T' e).elim
    ·cases r<;>rfl
   rw [e] at h
   refine mat (o2 :: r) (m+1) G E σ hs (fun i o T h1 h2 h3=>?_) hdist' h q hq'
   have:=hf (i+1) o T (by simpa using h1) (by simp at h2 ⊢;omega) h3
   rw [show m+(i+1)=m+1+i by omega] at this
   exact this
  ·obtain ⟨Tx,hx⟩:∃ T,x.op=.alloc T:=Classical.byContradiction fun h=>hx fun T e=>h ⟨T,e⟩
   have e:qU (x :: o2 :: r)=x :: qU (o2 :: r):=by
    simp only [qU,hx]
   rw [e] at h
   obtain ⟨hgx,t,hd,g1,g2,g3,g4,inf,u,g5,g6,g7⟩:=hf 0 x Tx rfl (by simp) hx
   simp only [Nat.add_zero] at g1 g2 g3 g4 g7
   unfold jz at h
   simp only [gO,hgx,dG,hx,oR] at h
   split at h
   ·rename_i z hz
    simp only [tp] at h
    obtain ⟨hdk,_,hr⟩:=h
    obtain ⟨inf',u',k1,k2,_,_,_,k5⟩:=mF G hz
    rw [g5] at k1;simp only [sJ] at k1;subst k1
    rw [g6] at k2;simp only [sJ] at k2;subst k2
    have hinv:=hs.inv.gain (cs:=z) g7 g3 g2 g4 (aZ.mono (fun _ _ hr=>bY.rep hr) k5)
    have hle:cO G.own (G.own++[some (⟨pb m,0,0,0,true,0⟩:OG)]):=cO.append _ _
    rw [hd] at hr
    have hsim:Sim { G with own:=G.own++[some ⟨pb m,0,0,0,true,0⟩] } (E.putD (some t) ⟨true,.c (.optr σ.length 0)⟩) (σ++[.box z]) a w:=by
     refine ⟨hinv,hs.defers,hs.size,hs.na,fun i hc=>?_⟩
     have hg:=Env.get_put E t i _ hc
     show bm _ ((E.put t _).get i).v _
     rw [hg]
     by_cases ei:i=t
     ·rw [iP ei,ei,g1]
      refine ⟨rfl,some ⟨pb m,0,0,0,true,0⟩,?_,fun og e _=>by simp only [sJ] at e;subst e;rfl⟩
      show (G.own++_)[σ.length]? = _
      rw [← hs.inv.len];simp
     ·rw [iN ei]
      have hc':(E.get i).cond=true:=by
       have:((E.put t ⟨true,.c (.optr σ.length 0)⟩).get i).cond=true:=hc
       rw [hg,iN ei] at this;exact this
      exact bm.mono (G:=G) (G':={ G with own:=G.own++[some ⟨pb m,0,0,0,true,0⟩] }) (fun _ _ h=>h) hle (hs.slot i hc')
    obtain ⟨G',E',σ',q1,q2,q3⟩:=mat (o2 :: r) (m+1) _ _ _ hsim (fun i o T h1 h2 h3=>by
     obtain ⟨f1,t',f2,f3,f4,f5,f6,f7⟩:=hf (i+1) o T (by simpa using h1) (by simp at h2 ⊢;omega) h3
     rw [show m+(i+1)=m+1+i by omega] at f3 f4 f5 f6 f7
     refine ⟨f1,t',f2,f3,f4,f5,fun b og hb hh=>?_,f7⟩
     rcases Nat.lt_or_ge b G.own.length with hb'|hb'
     ·rw [List.getElem?_append_left hb'] at hb;exact f6 b og hb hh
     ·rw [List.getElem?_append_right hb'] at hb
      rcases Nat.eq_zero_or_pos (b - G.own.length) with e0|e0
      ·rw [e0] at hb
       simp only [List.getElem?_cons_zero,sJ] at hb
       subst hb
       intro e1
       have:=hdist 0 (i+1) x o Tx T rfl (by simpa using h1) (by simp) (by simp at h2 ⊢;omega) hx h3 (by rw [Nat.add_zero,show m+(i+1)=m+1+i by omega];exact e1)
       omega
      ·rw [List.getElem?_eq_none (by simp;omega)] at hb;cases hb) hdist' hr q hq'
    have hGle:Gle G { G with own:=G.own++[some ⟨pb m,0,0,0,true,0⟩] }:=⟨⟨fun _ _ h=>h,rfl,rfl,rfl⟩,oq.of_le hle⟩
    exact ⟨G',E',σ',hGle.trans q1,q2,q3⟩
   ·simp only [tp] at h
theorem Al{l:List Oper}{listed:Array Bool}{i:Nat}(h:i∈Region.ready .any (jx l).toArray listed):i∈Region.ready .any l.toArray listed:=by
 obtain ⟨h1,o,ho,h2⟩:=mem_ready.1 h
 obtain ⟨o2,q1,q2,q3,q4⟩:=uR (show (jx l)[i]? = some o by simpa using ho)
 exact mem_ready.2 ⟨h1,o2,by simpa using q1,fun x hx=>h2 x (by rw [q3];exact hx)⟩
theorem Do{l:List Oper}{i:Nat}{q:Oper}{K:Act→World→Prop}{a:Act}{w:World}(ho:(jx l)[i]? = some (ut q))(hg:q.guard=none)(h:wpOp P (jx l).toArray (fun _ _ _=>False) i K a w):K a w:=by
 unfold wpOp at h
 simp only [List.getElem?_toArray,ho] at h
 rw [iP (by unfold Region.wanted;simp [ut,hg])] at h
 rcases h with h|⟨_,_,_,h⟩
 ·unfold Oper.wp at h
  have:(execOp a.eval (ut q)).run P w=.ok (.value (.bool true)) w:=by simp [execOp,ut,Act.eval]
  rw [this] at h
  exact h
 ·exact h.elim
theorem Dp{ops:Array Oper}{Q:Exit→Act→World→Prop}{listed:Array Bool}(hr:Region.ready .any ops listed=[]):∀ (fuel:Nat) (a:Act) (w:World),Q .normal a w→wpAny P .any ops Q fuel listed a w
 |0,a,w,h=>⟨hr,h⟩
 |fuel+1,a,w,h=>⟨fun _=>h,fun i hi=>by rw [hr] at hi;simp at hi⟩
theorem Ga{id:Nat}{l:List Oper}{K:Kt}{E:Env}{σ:List OB}(hm:P.follows .mixedOrders=true)(ts pv masks:List Nat)(bs ps:List Bool)(rd:List (List Nat))(hc:xP (jx l).toArray (jx l) masks bs ps rd []=true)(hv:F7 l ts bs=true)(hts:∀ t∈ts,t<512){k:Env→List OB→Prop}{kp:PV→Env→List OB→Prop}(hkn:∀ E σ,k E σ→K .normal E σ)(hkp:∀ p E σ,kp p E σ→K (.panic p) E σ)
  (h:TRQ P (jx l).toArray pv (jx l) bs ps rd [] (E.forget ts) σ (fun E σ=>jz P l.toArray (qU l) E σ k kp)):W P (.region id l.toArray true) K E σ:=fun G a w hs0=>by
 have hs:=Env.forget_sim ts hs0
 have hE:=fun t ht=>By ts E t hts ht
 generalize E.forget ts=E1 at hs hE h
 obtain ⟨tr,ht,hk⟩:=h
 have c:=vP hc
 have v:=F9 hv
 have hz:∀ (i:Nat) (o:Oper) (T:TypeId),l[i]? = some o→i+1<l.length→o.op=.alloc T→(∃ z,no P T=some z)∧gL E1 o.dst:=fun i o T h1 h2 h3=>by
  obtain ⟨q1,q2⟩:=uS l _ _ hk i o T (fun i o T h1 h2 h3=>(v.al i o T h1 h2 h3).1) h1 h2 h3
  exact ⟨q1,Cp (un (jx l) tr E1 (jx l).length).1 q2⟩
 have hpos:=v.pos
 obtain ⟨q,hq⟩:∃ q,l[l.length - 1]? = some q:=⟨_,List.getElem?_eq_getElem (by omega)⟩
 obtain ⟨hqd,hqg⟩:=v.last _ q hq (by omega)
 have hvq:=pL l _ q hq
 rw [iN (by omega)] at hvq
 refine wp_region_any hm ?_
 have key:∀ (fuel:Nat) (listed:Array Bool) (a:Act) (w:World),listed.toList.count false≤fuel→listed.getD (l.length - 1) false=false→StA P l tr E1 σ G listed a w→wpAny P .any l.toArray (hN G K) fuel listed a w:=by
  have some_ready:∀ (listed:Array Bool) (a:Act) (w:World),listed.getD (l.length - 1) false=false→StA P l tr E1 σ G listed a w→Region.ready .any l.toArray listed≠[]:=by
   intro listed a w h1 ⟨G1,_,hS⟩ hr
   have hr':Region.ready .any (jx l).toArray listed=[]:=by
    rw [List.eq_nil_iff_forall_not_mem] at hr ⊢
    exact fun i hi=>hr i (Al hi)
   have:=tJ c hS.1 hr' (l.length - 1) (by rw [nX];omega)
   rw [h1] at this;cases this
  intro fuel
  induction fuel with
  |zero =>
   intro listed a w hf hl hJ
   exfalso
   have hsz:listed.size=l.length:=by obtain ⟨_,_,hS⟩:=hJ;rw [hS.1,nX]
   have:listed.toList[l.length - 1]? = some false:=by
    rw [Array.getD_eq_getD_getElem?,Array.getElem?_eq_getElem (by omega)] at hl
    rw [Array.getElem?_toList,Array.getElem?_eq_getElem (by omega)]
    simpa using hl
   have hpos:=List.count_pos_iff.2 (List.mem_of_getElem? this)
   omega
  |succ fuel ih =>
   intro listed a w hf hl hJ
   refine ⟨fun hr=>(some_ready listed a w hl hJ hr).elim,fun i hi=>?_⟩
   have hsz:listed.size=l.length:=by obtain ⟨_,_,hS⟩:=hJ;rw [hS.1,nX]
   obtain ⟨hi0,hil,o,ho,hr⟩:=qV hsz hi
   have hset:∀ j,(listed.setIfInBounds i true).getD j false=if j=i then true else listed.getD j false:=fun j=>Ac _ _ _ (by omega)
   by_cases hlt:i+1<l.length
   ·refine wpOp_mono (fun a' w' hJ'=>ih _ a' w' ?_ ?_ hJ') (StA.step c v ht hE hz G listed a w i hJ hi hlt)
    ·have:listed.toList[i]? = some false:=by
      rw [Array.getD_eq_getD_getElem?,Array.getElem?_eq_getElem (by omega)] at hi0
      rw [Array.getElem?_toList,Array.getElem?_eq_getElem (by omega)]
      simpa using hi0
     have hc:=qk _ _ this
     simp only [Array.toList_setIfInBounds]
     omega
    ·rw [hset,iN (by omega)];exact hl
   ·have hie:i=l.length - 1:=by omega
    subst hie
    rw [hq] at ho
    simp only [sJ] at ho
    subst ho
    obtain ⟨G1,⟨p1,p2,p3,p4,p5,pb,p6,p7⟩,hS⟩:=hJ
    have hdone:∀ (j:Nat),j<l.length - 1→listed.getD j false=true:=by
     intro j hj
     have hy:=pL l j l[j] (List.getElem?_eq_getElem (by omega))
     have:=c.done hS.2.1 hvq hl (fun k hk=>by
      have:gY (ut q)=gY q:=rfl
      rw [this] at hk;exact hr k hk) hy (.inl (c.bar (l.length - 1) j _ _ hvq hy v.bar))
     rw [this];simp;omega
    have hst:=Do hvq hqg (ot.stepQ (fz:=[]) (Q:=fun _ _ _=>False) c (jA.of ht) G1 listed a w (l.length - 1) hS (wK hi) (by simp))
    have hall:∀ j,j<l.length→(listed.setIfInBounds (l.length - 1) true).getD j false=true:=by
     intro j hj
     rw [hset]
     by_cases e:j=l.length - 1
     ·rw [iP e]
     ·rw [iN e];exact hdone j (by omega)
    obtain ⟨G2,hG2,hsim⟩:=(uN (fz:=[]) (fun i=>by simp) (Q:=fun _ a' w'=>∃ G2,Gle G1 G2∧Sim G2 (eM E1 (jx l) tr (jx l).length) (bt σ tr (jx l).length) a' w') c (jA.of ht) G1 (fun G2 a' w' h1 h2=>⟨G2,h1,h2⟩) 0 (listed.setIfInBounds (l.length - 1) true) a w (by
     refine Nat.le_of_eq (List.count_eq_zero.2 fun hm=>?_)
     obtain ⟨j,hj,he⟩:=List.getElem_of_mem hm
     have hj':j<l.length:=by simpa [hsz] using hj
     have:=hall j hj'
     rw [Array.getD_eq_getD_getElem?,Array.getElem?_eq_getElem (by simpa [hsz] using hj')] at this
     rw [Array.getElem_toList] at he
     simp only [Option.getD_some] at this
     rw [he] at this;cases this) hst).2
    have hF2:G2.F=G1.F:=hG2.le.F
    have hsim':Sim { G2 with F:=G.F } (eM E1 (jx l) tr (jx l).length) (bt σ tr (jx l).length) a w :=
     ⟨hsim.inv.less G.F (fun b x hb=>by rw [hF2];exact p5 b x hb),hsim.defers,hsim.size,hsim.na,fun i hc=>bm.mono (G:=G2) (G':={ G2 with F:=G.F }) (fun _ _ h=>h) (cO.refl _) (hsim.slot i hc)⟩
    obtain ⟨G3,E3,σ3,r1,r2,r3⟩:=mat (pb:=pb) l 0 _ _ _ hsim' (fun j y T h1 h2 h3=>by
     obtain ⟨e1,t,e2,_,_,_⟩:=v.al j y T h1 h2 h3
     obtain ⟨f1,f2,inf,u,f3,f4,f5⟩:=p7 j y T t h1 h2 h3 e2 (hdone j (by omega))
     rw [← hF2] at f5
     simp only [Nat.zero_add]
     refine ⟨e1,t,e2,f1,f2,hsim.inv.HF _ _ f5,fun b og hb hh he=>?_,inf,u,f3,f4,hsim.inv.hF _ _ f5⟩
     have:=(hsim.inv.sep b og hb hh).2
     rw [he,f5] at this;cases this)
     (fun j k y y' T T' h1 h2 h3 h4 h5 h6 h7=>p6 j k y y' T T' h1 h2 h3 h4 h5 h6 (hdone j (by omega)) (hdone k (by omega)) (by simpa using h7)) hk q (by rw [List.getLast?_eq_getElem?];exact hq)
    have hGle:Gle G { G2 with F:=G.F }:=by
     refine ⟨⟨fun b x hb=>hG2.le.H b x (by rw [p1];exact hb),rfl,hG2.le.w0.trans p3,hG2.le.na.trans p4⟩,?_⟩
     have:=hG2.own
     rw [p2,p4] at this
     exact this
    have hw:=lJ [q] E3 σ3 _ _ r3 G3 a w r2
    have hw':wpList P l.toArray (hN G K) [q] a w:=gT (fun e a' w' hp=>hN.back (hGle.trans r1) (hN.mono (fun x E σ hx=>by
     cases x with
     |normal=>exact hkn E σ hx
     |exit id=>exact hx.elim
     |ret=>exact hx.elim
     |panic p=>exact hkp p E σ hx) hp)) _ _ _ hw
    have hnil:Region.ready .any l.toArray (listed.setIfInBounds (l.length - 1) true)=[]:=by
     rw [List.eq_nil_iff_forall_not_mem]
     intro j hj
     obtain ⟨g1,g2,_⟩:=qV (by simpa using hsz) hj
     rw [hall j g2] at g1;cases g1
    have hop:wpOp P l.toArray (hN G K) (l.length - 1) (fun a' w'=>hN G K .normal a' w') a w:=by
     unfold wpOp
     simp only [List.getElem?_toArray,hq]
     unfold wpList at hw'
     exact hw'
    exact wpOp_mono (fun a' w' hn=>Dp hnil fuel a' w' hn) hop
 refine key _ _ a _ (Nat.le_refl _) ?_ ?_ |> fun h=>by
  have e:(Array.replicate l.toArray.size false).toList.count false=l.toArray.size:=by simp
  rw [e] at h;exact h
 ·rw [Array.getD_eq_getD_getElem?,Array.getElem?_replicate];split<;>rfl
 ·have hfalse:∀ i,(Array.replicate l.toArray.size false).getD i false=false:=by
   intro i
   rw [Array.getD_eq_getD_getElem?,Array.getElem?_replicate]
   split<;>rfl
  refine ⟨G,⟨rfl,rfl,rfl,rfl,fun _ _ h=>h,fun _=>0,(fun i j o o' T T' _ _ _ _ _ _ h _ _=>by rw [hfalse] at h;cases h),(fun i o T t _ _ _ _ h=>by rw [hfalse] at h;cases h)⟩,?_⟩
  refine ⟨by simp [nX],(fun i o ho hd=>by simp only [hfalse] at hd;cases hd),G,0,Gle.refl G,by omega,(fun j o ho hl=>by rw [hfalse];simp),?_,hs.defers,hs.size,hs.na,fun t ht hc=>?_⟩
  ·have:bt σ tr 0=σ:=by cases tr<;>rfl
   rw [this];exact hs.inv.drawn
  ·have:jd t (jx l) tr (fun i=>(Array.replicate l.toArray.size false).getD i false) (E1.get t)=E1.get t:=lC t (jx l) tr _ _ fun j o _ _=>hfalse j
   rw [this] at hc ⊢
   exact hs.slot t hc
end
end Pam
namespace Pam
open Go
section
variable {P:Program} {E:Env} {σ:List OB}
theorem za(k:IntKind)(L:List Int)(n:Nat)(h:n<L.length):(L.map (CV.int k)).getD n .junk=.int k (L.getD n 0):=by
 simp [List.getD,h]
theorem Gc{o:Oper}{T:TypeId}{x i:Operand}{ys:List CV}{k k':IntKind}{n:Int}(L:List Int)(m:Nat)(ho:o.op=.index T x i)(hx:ev E x=⟨true,.a ys⟩)(hi:ev E i=⟨true,.c (.int k' n)⟩)
  (hy:ys=L.map (CV.int k)) (hC:nR P T=true∧dA P (P.elem T)=true∧P.arrayLen T * P.cellsOf (P.elem T)≤L.length∧me P (P.elem T)=false∧P.cellsOf (P.elem T)=1) (hl:P.arrayLen T=m) (hm:L.length=m)
  (h0:0≤n) (h1:n<(m:Int)):nr P E σ o (.c (.int k (L.getD n.toNat 0))) σ:=.quiet fun G a w hs=>by
 subst hy
 have h:∃ C,mU P true T (ev E x) (ev E i)=.ok C (.c ((L.map (CV.int k)).getD n.toNat .junk))∧C:=by
  rw [hx,hi]
  refine ⟨_,by unfold mU;rfl,?_⟩
  exact ⟨fun _=>rfl,fun _=>rfl,hC.1,hC.2.1,by simpa using hC.2.2.1,hC.2.2.2.1,hC.2.2.2.2,fun _=>⟨h0,by rw [hl];exact h1⟩⟩
 obtain ⟨C,h,hc⟩:=h
 obtain ⟨r,e1,e2⟩:=uM (P:=P) (G:=G) (w:=w) h hc rfl (fT hs x) (fT hs i)
 have:n.toNat<L.length:=by omega
 rw [za k L n.toNat this] at e2
 exact ⟨r,by simp only [execOp,ho];exact nq e1,e2⟩
end
end Pam
namespace Pam
open Go
def Dk(ops:Array Oper)(l:List Oper)(masks:List Nat)(bar prv:List Bool)(rd:List (List Nat)):Bool :=
  chk ops l masks bar &&
  (l.zipIdx.all fun (x,i)=>kz x || (x.looksAt ops).all (fun t=>(rd.getD i []).contains t) || l.zipIdx.all fun (_,j)=>!(prv.getD j false) || nG masks i j)
def El(P:Program)(ops:Array Oper)(pv:List Nat)(E:Env)(σ:List OB)(o:Oper)(bar prv:Bool)(rd:List Nat)(ts:TS):Prop :=
  gO ops E o.guard=some ts.γ∧gL E o.dst ∧
  ((∃ C v, dG P ts.γ E σ o.op = .ok C v ∧ C ∧ (rd.all fun t => Cc pv (E.get t).v) = true ∧ ts.e = ⟨ts.γ, v⟩ ∧ ts.σ = σ) ∨
   (ts.γ=true∧∃ C v,dG P ts.γ E σ o.op=.upd C v ts.σ∧C∧ts.e=⟨true,v⟩∧(bar=true∨Ext σ ts.σ∨(prv=true∧lY pv σ ts.σ))) ∨
   (∃ C f args r,dG P ts.γ E σ o.op=.call C f args∧(ts.γ=true→C∧cq P f args r)∧args.all PV.noOwn=true∧(∀ n,r.ren (eO n [])=r)∧ts.e=⟨ts.γ,r⟩∧ts.σ=σ) ∨
   (ts.γ=false∧ts.e=⟨true,.t []⟩∧ts.σ=σ) ∨
   (ts.γ=true∧∃ C f args p,dG P ts.γ E σ o.op=.call C f args∧C∧pX P σ f args p ts.σ∧ts.e=⟨true,p⟩∧(bar=true∨Ext σ ts.σ∨(prv=true∧lY pv σ ts.σ))) ∨
   (ts.γ=true∧kz o=true∧∃ v,(∀ E',(∀ x∈o.op.operands,ev E' x=ev E x)→∀ G a w,Sim G E' σ a w→yQ P G (execOp a.eval o) w v ts.σ)∧ts.e=⟨true,v⟩∧(bar=true∨Ext σ ts.σ∨(prv=true∧lY pv σ ts.σ))))
def yW(P:Program)(ops:Array Oper)(pv:List Nat):List Oper→List Bool→List Bool→List (List Nat)→Env→List OB→List TS→Prop
  |[],_,_,_,_,_,tr=>tr=[]
  |o :: l,bs,ps,rd,E,σ,tr=>∃ ts r,tr=ts :: r∧El P ops pv E σ o (bs.headD false) (ps.headD false) (rd.headD []) ts∧yW P ops pv l bs.tail ps.tail rd.tail (E.putD o.dst ts.e) ts.σ r
section
variable {P:Program} {ops:Array Oper} {pv:List Nat}
theorem ll.ofP:∀ {l:List Oper} {bs ps:List Bool} {rd:List (List Nat)} {E:Env} {σ:List OB} {tr:List TS},yW P ops pv l bs ps rd E σ tr→ll P ops pv l bs ps rd [] E σ tr
  |[],_,_,_,_,_,_,h=>h
  |o :: l,_,_,_,_,_,_,⟨ts,r,h1,⟨h2,h3,h4⟩,h5⟩=>⟨ts,r,h1,⟨h2,h3,.inl ⟨rfl,h4⟩⟩,ll.ofP h5⟩
theorem Ah{ops:Array Oper}{l:List Oper}{masks:List Nat}{bs ps:List Bool}{rd:List (List Nat)}(h:Dk ops l masks bs ps rd=true):xP ops l masks bs ps rd []=true:=by
  unfold Dk chk at h
  unfold xP
  rw [show ld ([]:List Bool)=fun _ o=>kz o from by funext i o;exact wB i o]
  exact h
def TRP(P:Program)(ops:Array Oper)(pv:List Nat)(l:List Oper)(bs ps:List Bool)(rd:List (List Nat))(E:Env)(σ:List OB)(k:Env→List OB→Prop):Prop :=
  ∃ tr,yW P ops pv l bs ps rd E σ tr∧k (eM E l tr l.length) (bt σ tr l.length)
def uq(pv:List Nat):Nat→List OB→List OB→Prop
  |_,[],_=>True
  |i,a :: as_,b :: bs=>(pv.contains i=true∨a=b)∧uq pv (i+1) as_ bs
  |_,_ :: _,[]=>False
theorem wI:∀ {i:Nat} {σ σ':List OB},uq pv i σ σ'→σ.length≤σ'.length∧∀ b,b+i ∉ pv→b<σ.length→σ'[b]? = σ[b]?
  |_,[],_,_=>⟨by simp,fun b _ h=>by simp at h⟩
  |i,a :: as_,b :: bs,⟨h1,h2⟩=>by
    obtain ⟨k1,k2⟩:=wI h2
    refine ⟨by simpa using k1,fun c hc hl=>?_⟩
    cases c with
    |zero =>
      rcases h1 with h|h
      · simp at hc;simp at h;exact (hc h).elim
      · simp [h]
    |succ c=>simpa using k2 c (by simpa [Nat.add_assoc,Nat.add_comm 1] using hc) (by simpa using hl)
def o7(P:Program)(ops:Array Oper)(pv:List Nat)(γ:Bool)(C:Prop)(f:FuncId)(args:List PV)(o:Oper)(r:List Oper)(bs ps:List Bool)(rd:List (List Nat))(E:Env)(σ:List OB)(k:Env→List OB→Prop):Prop :=
  dG P γ E σ o.op=.call C f args→gO ops E o.guard=some γ→TRP P ops pv (o :: r) bs ps rd E σ k
def uO(P:Program)(ops:Array Oper)(pv:List Nat)(γ:Bool)(o:Oper)(r:List Oper)(bs ps:List Bool)(rd:List (List Nat))(E:Env)(σ:List OB)(k run:Env→List OB→Prop):R→Prop
  |.ok C v=>gL E o.dst∧C∧((rd.headD []).all fun t=>Cc pv (E.get t).v)=true∧run (E.putD o.dst ⟨γ,v⟩) σ
  |.upd C v σ'=>gL E o.dst∧γ=true∧C∧(bs.headD false=true∨tK σ σ'∨(ps.headD false=true∧uq pv 0 σ σ'))∧run (E.putD o.dst ⟨true,v⟩) σ'
  |.call C f args=>o7 P ops pv γ C f args o r bs ps rd E σ k
  |.bad=>False
def js(P:Program)(ops:Array Oper)(pv:List Nat):List Oper→List Bool→List Bool→List (List Nat)→Env→List OB→(Env→List OB→Prop)→Prop
  |[],_,_,_,E,σ,k=>k E σ
  |o :: r,bs,ps,rd,E,σ,k =>
    match gO ops E o.guard with
    |none=>False
    |some false=>gL E o.dst∧js P ops pv r bs.tail ps.tail rd.tail (E.putD o.dst ⟨true,.t []⟩) σ k
    |some true=>uO P ops pv true o r bs ps rd E σ k (fun E' σ'=>js P ops pv r bs.tail ps.tail rd.tail E' σ' k) (dG P true E σ o.op)
theorem TRP.cons{o:Oper}{r:List Oper}{bs ps:List Bool}{rd:List (List Nat)}{E:Env}{σ:List OB}{k:Env→List OB→Prop}{ts:TS}(h:El P ops pv E σ o (bs.headD false) (ps.headD false) (rd.headD []) ts)(ht:TRP P ops pv r bs.tail ps.tail rd.tail (E.putD o.dst ts.e) ts.σ k):TRP P ops pv (o :: r) bs ps rd E σ k:=by
  obtain ⟨tr,h1,h2⟩:=ht
  refine ⟨ts :: tr,⟨ts,tr,rfl,h,h1⟩,?_⟩
  simpa [eM,bt] using h2
theorem j8:∀ (l:List Oper) (bs ps:List Bool) (rd:List (List Nat)) (E:Env) (σ:List OB) (k:Env→List OB→Prop),js P ops pv l bs ps rd E σ k→TRP P ops pv l bs ps rd E σ k
  |[],bs,ps,rd,E,σ,k,h=>⟨[],rfl,by unfold js at h;simpa [eM,bt] using h⟩
  |o :: r,bs,ps,rd,E,σ,k,h=>by
    unfold js at h
    split at h
    · exact h.elim
    · rename_i hγ
      exact TRP.cons (ts:=⟨false,⟨true,.t []⟩,σ⟩) ⟨hγ,h.1,.inr (.inr (.inr (.inl ⟨rfl,rfl,rfl⟩)))⟩ (j8 r _ _ _ _ _ _ h.2)
    · rename_i hγ
      unfold uO at h
      split at h
      · rename_i C v hrun
        obtain ⟨hd,hC,hrd,hr⟩:=h
        exact TRP.cons (ts:=⟨true,⟨true,v⟩,σ⟩) ⟨hγ,hd,.inl ⟨C,v,hrun,hC,hrd,rfl,rfl⟩⟩ (j8 r _ _ _ _ _ _ hr)
      · rename_i C v σ' hrun
        obtain ⟨hd,hg,hC,hb,hr⟩:=h
        refine TRP.cons (ts:=⟨true,⟨true,v⟩,σ'⟩) ⟨hγ,hd,.inr (.inl ⟨rfl,C,v,hrun,hC,rfl,?_⟩)⟩ (j8 r _ _ _ _ _ _ hr)
        rcases hb with h|h|⟨h,h'⟩
        · exact .inl h
        · exact .inr (.inl (vQ h))
        · exact .inr (.inr ⟨h,by have:=wI h';exact ⟨this.1,fun b hb hl=>this.2 b hb hl⟩⟩)
      · rename_i C f args hrun
        exact h hrun hγ
      · exact h.elim
theorem xS{γ:Bool}{C:Prop}{f:FuncId}{args:List PV}{o:Oper}{r:List Oper}{bs ps:List Bool}{rd:List (List Nat)}{E:Env}{σ:List OB}{k:Env→List OB→Prop}{res:PV}
    (hs:γ=true→cq P f args res) (hd:gL E o.dst) (hC:γ=true→C) (hargs:args.all PV.noOwn=true) (hres:∀ n,res.ren (eO n [])=res)
    (next:js P ops pv r bs.tail ps.tail rd.tail (E.putD o.dst ⟨γ,res⟩) σ k):o7 P ops pv γ C f args o r bs ps rd E σ k:=fun hrun hγ =>
  TRP.cons (ts:=⟨γ,⟨γ,res⟩,σ⟩) ⟨hγ,hd,.inr (.inr (.inl ⟨C,f,args,res,hrun,fun h=>⟨hC h,hs h⟩,hargs,hres,rfl,rfl⟩))⟩ (j8 r _ _ _ _ _ _ next)
theorem pK{C:Prop}{f:FuncId}{args:List PV}{o:Oper}{r:List Oper}{bs ps:List Bool}{rd:List (List Nat)}{E:Env}{σ σ2:List OB}{k:Env→List OB→Prop}{res:PV}
    (hs:pX P σ f args res σ2) (hd:gL E o.dst) (hC:C) (hb:bs.headD false=true∨tK σ σ2)
    (next:js P ops pv r bs.tail ps.tail rd.tail (E.putD o.dst ⟨true,res⟩) σ2 k):o7 P ops pv true C f args o r bs ps rd E σ k:=fun hrun hγ =>
  TRP.cons (ts:=⟨true,⟨true,res⟩,σ2⟩) ⟨hγ,hd,.inr (.inr (.inr (.inr (.inl ⟨rfl,C,f,args,res,hrun,hC,hs,rfl,hb.imp id fun h=>.inl (vQ h)⟩))))⟩ (j8 r _ _ _ _ _ _ next)
theorem ur{C:Prop}{f:FuncId}{args:List PV}{o:Oper}{r:List Oper}{bs ps:List Bool}{rd:List (List Nat)}{E:Env}{σ σ2:List OB}{k:Env→List OB→Prop}{res:PV}
    (hs:pX P σ f args res σ2) (hd:gL E o.dst) (hC:C) (hb:ps.headD false=true∧uq pv 0 σ σ2)
    (next:js P ops pv r bs.tail ps.tail rd.tail (E.putD o.dst ⟨true,res⟩) σ2 k):o7 P ops pv true C f args o r bs ps rd E σ k:=fun hrun hγ =>
  TRP.cons (ts:=⟨true,⟨true,res⟩,σ2⟩) ⟨hγ,hd,.inr (.inr (.inr (.inr (.inl ⟨rfl,C,f,args,res,hrun,hC,hs,rfl,.inr (.inr ⟨hb.1,by have:=wI hb.2;exact ⟨this.1,fun b h hl=>this.2 b h hl⟩⟩)⟩))))⟩ (j8 r _ _ _ _ _ _ next)
theorem Cm{id:Nat}{l:List Oper}{K:Kt}{E:Env}{σ:List OB}(hm:P.follows .mixedOrders=true)(pv masks:List Nat)(bs ps:List Bool)(rd:List (List Nat))(hc:Dk l.toArray l masks bs ps rd=true)
    (h:TRP P l.toArray pv l bs ps rd E σ (K .normal)):W P (.region id l.toArray true) K E σ:=by
  obtain ⟨tr,ht,hk⟩:=h
  exact yS hm pv masks bs ps rd [] (Ah hc) ⟨tr,ll.ofP ht,hk⟩
theorem tQ{id:Nat}{l:List Oper}{K:Kt}{E:Env}{σ:List OB}(hm:P.follows .mixedOrders=true)(pv masks:List Nat)(bs ps:List Bool)(rd:List (List Nat))(hc:Dk l.toArray l masks bs ps rd=true)
    (h:∀ (k:Env→List OB→Prop),(∀ E σ,K .normal E σ→k E σ)→js P l.toArray pv l bs ps rd E σ k):W P (.region id l.toArray true) K E σ :=
  Cm hm pv masks bs ps rd hc (j8 l bs ps rd E σ _ (h (K .normal) fun _ _ h=>h))
theorem qT{id:Nat}{l:List Oper}{y:Code}{K:Kt}{E:Env}{σ:List OB}(ms:List Nat)(hm:P.follows .mixedOrders=true)(pv masks:List Nat)(bs ps:List Bool)(rd:List (List Nat))(hc:Dk l.toArray l masks bs ps rd=true)
    (h:∀ (k:Env→List OB→Prop),(∀ E σ,W P y K E σ→k E σ)→js P l.toArray pv l bs ps rd E σ (fun E σ=>k (E.forget ms) σ)):W P (.seq (.region id l.toArray true) y) K E σ :=
  nV (Cm hm pv masks bs ps rd hc (by
    obtain ⟨tr,h1,h2⟩:=j8 l bs ps rd E σ _ (h (W P y K) fun _ _ h=>h)
    exact ⟨tr,h1,oW ms h2⟩))
end
def bAP:=And.intro (And.intro (And.intro @js.eq_1 @js.eq_2) bL) (And.intro bM (And.intro (And.intro @uO.eq_1 @uO.eq_2) (And.intro @uO.eq_3 @uO.eq_4)))
end Pam
namespace Pam
open Go
section
variable {P:Program} {ops:Array Oper}
theorem wH{l:List Oper}{bs:List Bool}{E:Env}{σ:List OB}{k:Env→List OB→Prop}(h:kj P ops l bs E σ k):TR P ops l bs E σ k:=lg l bs E σ k h
theorem Cl:∀ {l l':List Oper} {bs bs':List Bool} {E:Env} {σ:List OB} {k:Env→List OB→Prop},bs.length=l.length→TR P ops l bs E σ (fun E' σ'=>TR P ops l' bs' E' σ' k)→TR P ops (l++l') (bs++bs') E σ k
 |[],l',bs,bs',E,σ,k,hl,⟨tr,h1,h2⟩=>by
  have:bs=[]:=List.eq_nil_of_length_eq_zero (by simpa using hl)
  subst this
  simp only [um] at h1
  subst h1
  simpa [eM,bt] using h2
 |o :: l,l',bs,bs',E,σ,k,hl,⟨tr,h1,h2⟩=>by
  obtain ⟨ts,r,rfl,h3,h4⟩:=h1
  match bs,hl with
  |b :: bs,hl =>
   refine TR.cons (bs:=b :: bs++bs') (ts:=ts) ?_ ?_
   ·simpa using h3
   ·exact Cl (by simpa using hl) ⟨r,h4,by simpa [eM,bt] using h2⟩
theorem HZ(n:Nat){l:List Oper}{bs:List Bool}{E:Env}{σ:List OB}{k:Env→List OB→Prop}(hn:bs.length=l.length)(h:kj P ops (l.take n) (bs.take n) E σ (fun E' σ'=>TR P ops (l.drop n) (bs.drop n) E' σ' k)):TR P ops l bs E σ k:=by
 have:=Cl (by simp [hn]) (lg _ _ _ _ _ h)
 rwa [List.take_append_drop,List.take_append_drop] at this
theorem xR{γ:Bool}{C:Prop}{f:FuncId}{args:List PV}{o:Oper}{r:List Oper}{bs:List Bool}{E:Env}{σ:List OB}{k:Env→List OB→Prop}{res:PV}
  (hs:γ=true→cq P f args res) (hd:gL E o.dst) (hC:γ=true→C) (hargs:args.all PV.noOwn=true) (hres:∀ n,res.ren (eO n [])=res)
  (next:TR P ops r bs.tail (E.putD o.dst ⟨γ,res⟩) σ k):uo P ops γ C f args o r bs E σ k:=fun hrun hγ =>
 TR.cons (ts:=⟨γ,⟨γ,res⟩,σ⟩) ⟨hγ,hd,.inr (.inr (.inl ⟨C,f,args,res,hrun,fun h=>⟨hC h,hs h⟩,hargs,hres,rfl,rfl⟩))⟩ next
theorem F4{id:Nat}{l:List Oper}{y:Code}{K:Kt}{E:Env}{σ:List OB}(ms:List Nat)(hm:P.follows .mixedOrders=true)(masks:List Nat)(bs:List Bool)(hc:chk l.toArray l masks bs=true)
  (h:∀ (k:Env→List OB→Prop),(∀ E σ,W P y K E σ→k E σ)→TR P l.toArray l bs E σ (fun E σ=>k (E.forget ms) σ)):W P (.seq (.region id l.toArray true) y) K E σ :=
 nV (Bo hm masks bs hc (by
  obtain ⟨tr,h1,h2⟩:=h (W P y K) fun _ _ h=>h
  exact ⟨tr,h1,oW ms h2⟩))
end
end Pam
namespace Pam
open Go
section
variable {P:Program} {ops:Array Oper}
variable {pv:List Nat}
end
end Pam
namespace Pam
open Go
section
variable {P:Program} {ops:Array Oper} {pv:List Nat}
theorem TRQ.cons{o:Oper}{r:List Oper}{bs ps:List Bool}{rd:List (List Nat)}{lt:List Bool}{E:Env}{σ:List OB}{k:Env→List OB→Prop}{ts:TS}(h:Bm P ops pv E σ o (bs.headD false) (ps.headD false) (rd.headD []) (lt.headD false) ts)(ht:TRQ P ops pv r bs.tail ps.tail rd.tail lt.tail (E.putD o.dst ts.e) ts.σ k):TRQ P ops pv (o :: r) bs ps rd lt E σ k:=by
 obtain ⟨tr,h1,h2⟩:=ht
 refine ⟨ts :: tr,⟨ts,tr,rfl,h,h1⟩,?_⟩
 simpa [eM,bt] using h2
theorem Em:∀ {l:List Oper} {bs ps:List Bool} {rd:List (List Nat)} {lt:List Bool} {E:Env} {σ:List OB} {k:Env→List OB→Prop},lt.any id=false→TRP P ops pv l bs ps rd E σ k→TRQ P ops pv l bs ps rd lt E σ k
 |[],_,_,_,_,_,_,_,_,⟨tr,h1,h2⟩=>by
  simp only [yW] at h1
  subst h1
  exact ⟨[],rfl,h2⟩
 |o :: l,bs,ps,rd,lt,E,σ,k,hl,⟨tr,h1,h2⟩=>by
  obtain ⟨ts,r,rfl,h3,h4⟩:=h1
  have hh:lt.headD false=false∧lt.tail.any id=false:=by
   cases lt with
   |nil=>exact ⟨rfl,rfl⟩
   |cons a lt=>simpa using hl
  exact TRQ.cons (ts:=ts) ⟨h3.1,h3.2.1,.inl ⟨hh.1,h3.2.2⟩⟩ (Em hh.2 ⟨r,h4,by simpa [eM,bt] using h2⟩)
theorem vR{l:List Oper}{bs ps:List Bool}{rd:List (List Nat)}{lt:List Bool}{E:Env}{σ:List OB}{k:Env→List OB→Prop}(hl:lt.any id=false)(h:js P ops pv l bs ps rd E σ k):TRQ P ops pv l bs ps rd lt E σ k:=Em hl (j8 l bs ps rd E σ k h)
theorem Ai:∀ {l l':List Oper} {bs bs' ps ps' lt lt':List Bool} {rd rd':List (List Nat)} {E:Env} {σ:List OB} {k:Env→List OB→Prop},bs.length=l.length→ps.length=l.length→rd.length=l.length→lt.length=l.length →
  TRQ P ops pv l bs ps rd lt E σ (fun E' σ'=>TRQ P ops pv l' bs' ps' rd' lt' E' σ' k)→TRQ P ops pv (l++l') (bs++bs') (ps++ps') (rd++rd') (lt++lt') E σ k
 |[],l',bs,bs',ps,ps',lt,lt',rd,rd',E,σ,k,hl,hl2,hl3,hl4,⟨tr,h1,h2⟩=>by
  have e1:bs=[]:=List.eq_nil_of_length_eq_zero (by simpa using hl)
  have e2:ps=[]:=List.eq_nil_of_length_eq_zero (by simpa using hl2)
  have e3:rd=[]:=List.eq_nil_of_length_eq_zero (by simpa using hl3)
  have e4:lt=[]:=List.eq_nil_of_length_eq_zero (by simpa using hl4)
  subst e1;subst e2;subst e3;subst e4
  simp only [ll] at h1
  subst h1
  simpa [eM,bt] using h2
 |o :: l,l',bs,bs',ps,ps',lt,lt',rd,rd',E,σ,k,hl,hl2,hl3,hl4,⟨tr,h1,h2⟩=>by
  obtain ⟨ts,r,rfl,h3,h4⟩:=h1
  match bs,hl,ps,hl2,rd,hl3,lt,hl4 with
  |b :: bs,hl,p :: ps,hl2,q :: rd,hl3,t :: lt,hl4 =>
   refine TRQ.cons (bs:=b :: bs++bs') (ps:=p :: ps++ps') (rd:=q :: rd++rd') (lt:=t :: lt++lt') (ts:=ts) ?_ ?_
   ·simpa using h3
   ·exact Ai (by simpa using hl) (by simpa using hl2) (by simpa using hl3) (by simpa using hl4) ⟨r,h4,by simpa [eM,bt] using h2⟩
theorem Cn(n:Nat){l:List Oper}{bs ps lt:List Bool}{rd:List (List Nat)}{E:Env}{σ:List OB}{k:Env→List OB→Prop}(hn:bs.length=l.length)(hn2:ps.length=l.length)(hn3:rd.length=l.length)(hn4:lt.length=l.length)(hl:(lt.take n).any id=false)
  (h:js P ops pv (l.take n) (bs.take n) (ps.take n) (rd.take n) E σ (fun E' σ'=>TRQ P ops pv (l.drop n) (bs.drop n) (ps.drop n) (rd.drop n) (lt.drop n) E' σ' k)):TRQ P ops pv l bs ps rd lt E σ k:=by
 have:=Ai (by simp [hn]) (by simp [hn2]) (by simp [hn3]) (by simp [hn4]) (vR hl h)
 rwa [List.take_append_drop,List.take_append_drop,List.take_append_drop,List.take_append_drop,List.take_append_drop] at this
theorem yX{o:Oper}{l:List Oper}{bs ps lt:List Bool}{rd:List (List Nat)}{E:Env}{σ:List OB}{k:Env→List OB→Prop}{v:PV}
  (hx:∀ E',(∀ x∈o.op.operands,ev E' x=ev E x)→∀ σ',nr P E' σ' o v σ') (hg:gO ops E o.guard=some true) (hd:gL E o.dst)
  (next:TRQ P ops pv l bs.tail ps.tail rd.tail lt.tail (E.putD o.dst ⟨true,v⟩) σ k):TRQ P ops pv (o :: l) bs ps rd lt E σ k :=
 TRQ.cons (ts:=⟨true,⟨true,v⟩,σ⟩) ⟨hg,hd,.inr (.inl ⟨rfl,⟨v,fun E' h σ' G a w hs=>hx E' h σ' G a w hs,rfl⟩,rfl⟩)⟩ next
theorem lY.set{pv:List Nat}{σ:List OB}{b:Nat}{ob:OB}(h:pv.contains b=true):lY pv σ (σ.set b ob) :=
 ⟨by simp, fun c hc _ => by
  have:b≠c:=fun e=>by subst e;exact hc (by simpa using h)
  rw [List.getElem?_set_ne this]⟩
theorem yY{id:Nat}{l:List Oper}{y:Code}{K:Kt}{E:Env}{σ:List OB}(ms:List Nat)(hm:P.follows .mixedOrders=true)(pv masks:List Nat)(bs ps:List Bool)(rd:List (List Nat))(lt:List Bool)(hc:xP l.toArray l masks bs ps rd lt=true)
  (h:∀ (k:Env→List OB→Prop),(∀ E σ,W P y K E σ→k E σ)→TRQ P l.toArray pv l bs ps rd lt E σ (fun E σ=>k (E.forget ms) σ)):W P (.seq (.region id l.toArray true) y) K E σ :=
 nV (yS hm pv masks bs ps rd lt hc (by
  obtain ⟨tr,h1,h2⟩:=h (W P y K) fun _ _ h=>h
  exact ⟨tr,h1,oW ms h2⟩))
end
end Pam
namespace Pam
open Go
section
variable {P:Program} {ops:Array Oper}
end
end Pam
namespace Pam
open Go
section
variable {P:Program} {ops:Array Oper} {pv:List Nat} {E E':Env} {σ σ' σ2:List OB} {k:Env→List OB→Prop} {kp:PV→Env→List OB→Prop}
theorem kr{rs:List ResultVar}{n:Nat}{post pp:PV→List OB→Prop}(N:Nat)
  (h : match iD P E σ rs with | some (C, ps) => C ∧ ps.all PV.isV = true ∧ (ql (σ.take N) σ ∧ n ≤ (σ.take N).length ∧ di (σ.take N).length (σ.take N) ∧ (ia ps).underP (σ.take N).length ∧ post (ia ps) (σ.take N)) | none => False := by
   simp only [List.take_succ_cons,List.take_zero,List.take_nil,bF,bT,tab,bX,Sum.elim_inl,Sum.elim_inr,reduceIte,↓reduceIte,reduceCtorEq,Int.reduceToNat,Nat.reduceDiv,Nat.reduceMod,Nat.reduceLT,Nat.reduceLeDiff,Nat.reduceAdd,Nat.reduceSub,Nat.reduceMul,Nat.reduceEqDiff,Nat.reduceBEq,Nat.reduceBNe,Nat.reduceGT]<;>first|done|rfl|(and_intros<;>first|rfl|omega|(simp;done)|(simp [eK,eB,eS,eL];done)|(simp [lit,bX,eK,eB,eS,eL];done)|(simp [CV.under,eY,CV.frO];done))):oT P rs (Bq n post) pp .ret E σ:=Df (σ.take N) h
theorem kn{rs:List ResultVar}{n:Nat}{post pp:PV→List OB→Prop}(N:Nat)
  (h : match iD P E σ rs with | some (C, ps) => C ∧ ps.all PV.isV = true ∧ (ql (σ.take N) σ ∧ n ≤ (σ.take N).length ∧ di (σ.take N).length (σ.take N) ∧ (ia ps).underP (σ.take N).length ∧ post (ia ps) (σ.take N)) | none => False := by
   simp only [List.take_succ_cons,List.take_zero,List.take_nil,bF,bT,tab,bX,Sum.elim_inl,Sum.elim_inr,reduceIte,↓reduceIte,reduceCtorEq,Int.reduceToNat,Nat.reduceDiv,Nat.reduceMod,Nat.reduceLT,Nat.reduceLeDiff,Nat.reduceAdd,Nat.reduceSub,Nat.reduceMul,Nat.reduceEqDiff,Nat.reduceBEq,Nat.reduceBNe,Nat.reduceGT]<;>first|done|rfl|(and_intros<;>first|rfl|omega|(simp;done)|(simp [eK,eB,eS,eL];done)|(simp [lit,bX,eK,eB,eS,eL];done)|(simp [CV.under,eY,CV.frO];done))):oT P rs (Bq n post) pp .normal E σ:=sP (σ.take N) h
theorem sp{p q:Prop}(hq:q)(hp:p:=by first|omega|assumption|decide|exact gZ fun _=>rfl|(intro _;omega)|rfl|exact fun e=>absurd (List.map_eq_nil_iff.1 e) (by assumption)|(and_intros<;>first|omega|assumption|decide|exact gZ fun _=>rfl)|(refine .inl ?_;simp only [tK];and_intros<;>first|rfl|trivial)|(refine .inr (.inl ?_);simp only [tK];and_intros<;>first|rfl|trivial)|(refine .inr ?_;simp only [uq];and_intros<;>first|exact .inl rfl|exact .inr rfl|trivial)|(refine .inr (.inr ⟨rfl,?_⟩);simp only [uq];and_intros<;>first|exact .inl rfl|exact .inr rfl|trivial)|exact .inl rfl):p∧q:=⟨hp,hq⟩
theorem gp{p q:Prop} (hq:q) (h:Bx q→p:=by
  intro hq
  simp only [bAP,bT,tab,bX,reduceIte,↓reduceIte,reduceCtorEq,Int.reduceToNat,Nat.reduceDiv,Nat.reduceMod,Nat.reduceLT,Nat.reduceLeDiff,Nat.reduceAdd,Nat.reduceSub,Nat.reduceMul,Nat.reduceEqDiff,Nat.reduceBEq,Nat.reduceBNe,Nat.reduceGT,List.replicate,List.foldr]
  repeat refine sp ?_
  exact hq.1):p:=h ⟨hq⟩
theorem gpx{p q F:Prop} (fx:F) (hq:q) (h:F→Bx q→p:=by
  intro fx hq
  simp only [bAP,bT,tab,bX,reduceIte,↓reduceIte,reduceCtorEq,Int.reduceToNat,Nat.reduceDiv,Nat.reduceMod,Nat.reduceLT,Nat.reduceLeDiff,Nat.reduceAdd,Nat.reduceSub,Nat.reduceMul,Nat.reduceEqDiff,Nat.reduceBEq,Nat.reduceBNe,Nat.reduceGT,List.replicate,List.foldr,fx]
  repeat refine sp ?_
  exact hq.1):p:=h fx ⟨hq⟩
theorem gt{p q:Prop} (hq:q) (h:Bx q→p:=by
  intro hq
  simp only [bR,bT,tab,bX,reduceIte,↓reduceIte,reduceCtorEq,Int.reduceToNat,Nat.reduceDiv,Nat.reduceMod,Nat.reduceLT,Nat.reduceLeDiff,Nat.reduceAdd,Nat.reduceSub,Nat.reduceMul,Nat.reduceEqDiff,Nat.reduceBEq,Nat.reduceBNe,Nat.reduceGT,bZ]
  repeat refine sd ?_
  exact hq.1):p:=h ⟨hq⟩
theorem gtx{p q F:Prop} (fx:F) (hq:q) (h:F→Bx q→p:=by
  intro fx hq
  simp only [bR,bT,tab,bX,reduceIte,↓reduceIte,reduceCtorEq,Int.reduceToNat,Nat.reduceDiv,Nat.reduceMod,Nat.reduceLT,Nat.reduceLeDiff,Nat.reduceAdd,Nat.reduceSub,Nat.reduceMul,Nat.reduceEqDiff,Nat.reduceBEq,Nat.reduceBNe,Nat.reduceGT,bZ,fx]
  repeat refine sd ?_
  exact hq.1):p:=h fx ⟨hq⟩
theorem gl{p q:Prop} (hq:q) (h:Bx q→p:=by
  intro hq
  simp only [bAP,bT,tab,bX,reduceIte,↓reduceIte,reduceCtorEq,Int.reduceToNat,Nat.reduceDiv,Nat.reduceMod,Nat.reduceLT,Nat.reduceLeDiff,Nat.reduceAdd,Nat.reduceSub,Nat.reduceMul,Nat.reduceEqDiff,Nat.reduceBEq,Nat.reduceBNe,Nat.reduceGT,List.tail_cons]
  exact hq.1):p:=h ⟨hq⟩
theorem la{p:Prop}(h:p:=by first|(simp only [bS,bX,reduceIte,↓reduceIte,reduceCtorEq,Int.reduceToNat,Nat.reduceDiv,Nat.reduceMod,Nat.reduceLT,Nat.reduceLeDiff,Nat.reduceAdd,Nat.reduceSub,Nat.reduceMul,Nat.reduceEqDiff,Nat.reduceBEq,Nat.reduceBNe,Nat.reduceGT]<;>first|done|(and_intros<;>first|rfl|(simp;done)|omega|(simp [lit,bX,eK,eB,eS,eL];done)|(simp only [oE,List.length_cons,List.length_nil,List.length_append,List.length_set,List.length_replicate,List.length_map,List.length_take,List.length_drop];omega)))|(simp only [bS,bX,reduceIte,↓reduceIte,reduceCtorEq,Int.reduceToNat,Nat.reduceDiv,Nat.reduceMod,Nat.reduceLT,Nat.reduceLeDiff,Nat.reduceAdd,Nat.reduceSub,Nat.reduceMul,Nat.reduceEqDiff,Nat.reduceBEq,Nat.reduceBNe,Nat.reduceGT, *]<;>first|done|(and_intros<;>first|rfl|(simp;done)|omega|(simp [lit,bX,eK,eB,eS,eL];done)|(simp only [oE,List.length_cons,List.length_nil,List.length_append,List.length_set,List.length_replicate,List.length_map,List.length_take,List.length_drop];omega)))):p:=h
theorem ct{f:FuncId}{args:List PV}{p:PV}(ρ:List Nat){args':List PV}{σc:List OB}{post pp:PV→List OB→Prop}(hs:ed P f args' σc post pp)
  (h1:ρ.Nodup:=by simp) (h2:∀ b∈ρ,b<σ.length:=by simp) (h3:args=args'.map (PV.ren (eO σ.length ρ)):=by exact rfl) (h4:ρ.map (fun b=>σ[b]?)=σc.map (fun ob=>some (ob.ren (eO σ.length ρ))):=by exact rfl)
  (h5:gD ρ.length args':=by first|trivial|(simp [bX,eK,eB,eS,eL,pI,gD,PV.under,CV.under,di,OB.under,eY];done)) (h6:di ρ.length σc:=by first|trivial|(simp [bX,eK,eB,eS,eL,pI,gD,PV.under,CV.under,di,OB.under,eY];done))
  (h7:∀ q τ,post q τ→ρ.length≤τ.length→q.ren (eO σ.length ρ)=p∧eX σ ρ (τ.map (OB.ren (eO σ.length ρ)))=σ2:=by intro q τ hq _;obtain ⟨rfl,rfl⟩:=hq;exact ⟨rfl,rfl⟩) (h8:∀ q τ,pp q τ→False:=by exact fun _ _ h=>h.elim):pX P σ f args p σ2:=⟨args',σc,post,pp,ρ,hs,h1,h2,h3,h4,h5,h6,h7,h8⟩
theorem cap{C:Prop}{f:FuncId}{args:List PV}{o:Oper}{r:List Oper}{bs ps:List Bool}{rd:List (List Nat)}{res:PV}{ops:Array Oper}(hs:pX P σ f args res σ2)(next:js P ops pv r bs.tail ps.tail rd.tail (E.putD o.dst ⟨true,res⟩) σ2 k)
  (hd:gL E o.dst:=by first|trivial|exact nH rfl) (hC:C:=by first|trivial|(intro _;first|trivial|simp [aS])|simp [aS]) (hb:bs.headD false=true∨tK σ σ2:=by first|exact .inl rfl|exact .inr (by simp only [tK];and_intros<;>first|rfl|trivial)):o7 P ops pv true C f args o r bs ps rd E σ k:=pK hs hd hC hb next
theorem pat{γ:Bool}{C:Prop}{f:FuncId}{args:List PV}{o:Oper}{r:List Oper}{bs:List Bool}{res:PV}(hs:γ=true→cq P f args res)(next:TR P ops r bs.tail (E.putD o.dst ⟨γ,res⟩) σ k)
  (hd:gL E o.dst:=by first|trivial|exact nH rfl) (hC:γ=true→C:=by first|trivial|(intro _;first|trivial|simp [aS])|simp [aS]) (hargs:args.all PV.noOwn=true:=by exact rfl) (hres:∀ n,res.ren (eO n [])=res:=by exact fun _=>rfl):uo P ops γ C f args o r bs E σ k:=xR hs hd hC hargs hres next
theorem pap{γ:Bool}{C:Prop}{f:FuncId}{args:List PV}{o:Oper}{r:List Oper}{bs ps:List Bool}{rd:List (List Nat)}{res:PV}(hs:γ=true→cq P f args res)(next:js P ops pv r bs.tail ps.tail rd.tail (E.putD o.dst ⟨γ,res⟩) σ k)
  (hd:gL E o.dst:=by first|trivial|exact nH rfl) (hC:γ=true→C:=by first|trivial|(intro _;first|trivial|simp [aS])|simp [aS]) (hargs:args.all PV.noOwn=true:=by exact rfl) (hres:∀ n,res.ren (eO n [])=res:=by exact fun _=>rfl):o7 P ops pv γ C f args o r bs ps rd E σ k:=xS hs hd hC hargs hres next
end
end Pam
namespace Pam
open Go
class RB (p:Prop) (b:outParam Bool):Prop where
 t:p→b=true
 f:¬ p→b=false
instance (priority:=low) rbD {p:Prop} [Decidable p]:RB p (decide p):=⟨dT,dF⟩
instance rbE {α:Type} [BEq α] [LawfulBEq α] {a b:α}:RB (a=b) (a == b):=⟨eQ,nB⟩
instance (priority:=high) rbV {b:Bool}:RB (b=true) b:=⟨id,fB⟩
theorem RB.e{p:Prop}{b:Bool}(h:RB p b):p↔b=true:=⟨h.t,fun x=>Classical.byContradiction fun n=>by rw [h.f n] at x;cases x⟩
instance rbN {p:Prop} {b:Bool} [h:RB p b]:RB (¬ p) (!b):=⟨fun x=>by rw [h.f x];rfl,fun x=>by rw [h.t (Classical.not_not.1 x)];rfl⟩
instance (priority:=high) rbM {α:Type} [BEq α] [LawfulBEq α] {a b:α}:RB (¬ a=b) (a != b):=⟨bne_iff_ne.2,fun h=>bne_eq_false_iff_eq.2 (Classical.not_not.1 h)⟩
instance rbA {p q:Prop} {a b:Bool} [h:RB p a] [i:RB q b]:RB (p∧q) (a && b):=⟨fun x=>by rw [h.t x.1,i.t x.2];rfl,fun x=>fB fun y=>x ⟨h.e.2 (Bool.and_eq_true_iff.1 y).1,i.e.2 (Bool.and_eq_true_iff.1 y).2⟩⟩
section
variable {P:Program} {E:Env} {σ:List OB} {K:Kt} {p:Prop} {α:Type} {a b:Option α} {r:α} {X:Bool} {G:Prop}
theorem ci{d:Decidable p}(hm:ite p a b=some r)(h1:p→a=some r→G)(h2:¬ p→b=some r→G):G:=by
 by_cases h:p
 ·rw [iP h] at hm;exact h1 h hm
 ·rw [iN h] at hm;exact h2 h hm
theorem cb{d:Decidable p}[RB p X](hm:ite p a b=some r)(h1:p→X=true→a=some r→G)(h2:¬ p→X=false→b=some r→G):G:=ci hm (fun h=>h1 h (RB.t h)) fun h=>h2 h (RB.f h)
theorem cd{d:Decidable p}[RB p X]{c:Operand}{x y:Code}(hm:ite p a b=some r)(hc:ev E c=⟨true,.c (.bool X)⟩)(h1:p→a=some r→W P x K E σ)(h2:¬ p→b=some r→W P y K E σ):W P (.cond c x y) K E σ :=
 cb hm (fun h hx hm=>iZ hc hx (h1 h hm)) fun h hx hm=>eg hc hx (h2 h hm)
theorem cn{d:Decidable p}[RB p X]{c:Operand}{x y:Code}(hm:ite p a b=some r)(hc:ev E c=⟨true,.c (.bool (!X))⟩)(h1:p→a=some r→W P y K E σ)(h2:¬ p→b=some r→W P x K E σ):W P (.cond c x y) K E σ :=
 cb hm (fun h hx hm=>eg hc (by rw [hx];rfl) (h1 h hm)) fun h hx hm=>iZ hc (by rw [hx];rfl) (h2 h hm)
end
def mkM(l:List Oper):List Nat:=l.foldl (fun ms o=>ms++[orM ms (gY o)]) []
def bl:Nat→Nat→List Bool
 |0,_=>[]
 |n+1,b=>(b % 2 == 1) :: bl n (b / 2)
theorem bl0(b:Nat):bl 0 b=[]:=rfl
theorem blS(n b:Nat):bl (n+1) b=(b % 2 == 1) :: bl n (b / 2):=rfl
section
variable {P:Program} {E E':Env} {σ σ':List OB} {K:Kt} {y:Code} {id:Nat} {l:List Oper} {bs:List Bool}
theorem Jb(ms:List Nat)(n b:Nat)(h:∀ (k:Env→List OB→Prop),(∀ E σ,W P y K E σ→k E σ)→TR P l.toArray l bs E σ (fun E σ=>k (E.forget ms) σ))(hb:bl n b=bs:=by simp only [blS,bl0,Nat.reduceMod,Nat.reduceDiv,Nat.reduceBEq,Nat.reduceEqDiff];exact rfl)(hm:P.follows .mixedOrders=true:=by kernel_rfl)(hc:chk l.toArray l (mkM l) bs=true:=by kernel_rfl):W P (.seq (.region id l.toArray true) y) K E σ:=F4 ms hm (mkM l) bs hc h
theorem Aj(ms:List Nat)(n b:Nat)(h:∀ (k:Env→List OB→Prop),(∀ E σ,W P y K E σ→k E σ)→kj P l.toArray l bs E σ (fun E σ=>k (E.forget ms) σ))(hb:bl n b=bs:=by simp only [blS,bl0,Nat.reduceMod,Nat.reduceDiv,Nat.reduceBEq,Nat.reduceEqDiff];exact rfl)(hm:P.follows .mixedOrders=true:=by kernel_rfl)(hc:chk l.toArray l (mkM l) bs=true:=by kernel_rfl):W P (.seq (.region id l.toArray true) y) K E σ:=Bp ms hm (mkM l) bs hc h
theorem Dl(ms:List Nat)(n b:Nat)(next:W P y K E' σ')(hb:bl n b=bs:=by simp only [blS,bl0,Nat.reduceMod,Nat.reduceDiv,Nat.reduceBEq,Nat.reduceEqDiff];exact rfl)(hm:P.follows .mixedOrders=true:=by kernel_rfl)(hc:chk l.toArray l (mkM l) bs=true:=by kernel_rfl)
  (h : ∀ (k : Env → List OB → Prop), k E' σ' → kj P l.toArray l bs E σ (fun E σ => k (E.forget ms) σ) := by
   intro k hk
   refine ga ?_
   exact hk):W P (.seq (.region id l.toArray true) y) K E σ:=Bp ms hm (mkM l) bs hc fun k hk=>h k (hk _ _ next)
theorem JO(n b:Nat)(next:K .normal E' σ')(hb:bl n b=bs:=by simp only [blS,bl0,Nat.reduceMod,Nat.reduceDiv,Nat.reduceBEq,Nat.reduceEqDiff];exact rfl)(hm:P.follows .mixedOrders=true:=by kernel_rfl)(hc:chk l.toArray l (mkM l) bs=true:=by kernel_rfl)
  (h : ∀ (k : Env → List OB → Prop), k E' σ' → kj P l.toArray l bs E σ k := by
   intro k hk
   refine ga ?_
   exact hk):W P (.region id l.toArray true) K E σ:=In hm (mkM l) bs hc fun k hk=>h k (hk _ _ next)
theorem GN{F:Prop}(fx:F)(ms:List Nat)(n b:Nat)(next:W P y K E' σ')(hb:bl n b=bs:=by simp only [blS,bl0,Nat.reduceMod,Nat.reduceDiv,Nat.reduceBEq,Nat.reduceEqDiff];exact rfl)(hm:P.follows .mixedOrders=true:=by kernel_rfl)(hc:chk l.toArray l (mkM l) bs=true:=by kernel_rfl)
  (h : F → ∀ (k : Env → List OB → Prop), k E' σ' → kj P l.toArray l bs E σ (fun E σ => k (E.forget ms) σ) := by
   intro fx k hk
   refine gax fx ?_
   exact hk):W P (.seq (.region id l.toArray true) y) K E σ:=Bp ms hm (mkM l) bs hc fun k hk=>h fx k (hk _ _ next)
end
theorem sf{P:Program}{σ:List OB}{f:FuncId}{fn:Func}{c:Code}{args:List PV}{post pp:PV→List OB→Prop}{E':Env}(n:Nat)(rs:List ResultVar)(hf:P.funcs[f]? = some fn)(h:W P c (oT P rs (Bq σ.length post) pp) E' σ)
  (hb:fn.body=some c:=by exact rfl) (hn:fn.ntmps=n:=by exact rfl) (hr:fn.results.toList=rs:=by exact rfl) (hname:(fn.name == "runtime.NumGoroutine")=false:=by kernel_rfl) (hlen:args.length≤n:=by simp)
  (he:Env.ofList n σ.length (jO 0 args)=E':=by simp only [jO,Env.ofList,List.length_nil,List.length_cons,bE,Nat.reduceDiv,Nat.reduceMod,Nat.reduceLT,Nat.reduceLeDiff,Nat.reduceAdd,Nat.reduceSub,Nat.reduceMul,Nat.reduceEqDiff,Nat.reduceBEq,Nat.reduceBNe,Nat.reduceGT,Int.reduceToNat];rfl):ed P f args σ post pp :=
 wD n rs hf hb hn hr hname hlen (by rw [he];exact h)
theorem goK{p q:Prop} (h:Bx q→p:=by
  intro hq
  refine go ?_
  exact hq.1) (hq:q):p:=h ⟨hq⟩
theorem gaK{p q:Prop} (h:Bx q→p:=by
  intro hq
  refine ga ?_
  exact hq.1) (hq:q):p:=h ⟨hq⟩
theorem gzK{p q:Prop} (h:Bx q→p:=by
  intro hq
  refine gz ?_
  exact hq.1) (hq:q):p:=h ⟨hq⟩
theorem gpK{p q:Prop} (h:Bx q→p:=by
  intro hq
  refine gp ?_
  exact hq.1) (hq:q):p:=h ⟨hq⟩
theorem gtK{p q:Prop} (h:Bx q→p:=by
  intro hq
  refine gt ?_
  exact hq.1) (hq:q):p:=h ⟨hq⟩
theorem glK{p q:Prop} (h:Bx q→p:=by
  intro hq
  refine gl ?_
  exact hq.1) (hq:q):p:=h ⟨hq⟩
theorem aI{p q F:Prop} (fx:F) (h:F→Bx q→p:=by
  intro fx hq
  refine gox fx ?_
  exact hq.1) (hq:q):p:=h fx ⟨hq⟩
theorem JP{p q F:Prop} (fx:F) (h:F→Bx q→p:=by
  intro fx hq
  refine gax fx ?_
  exact hq.1) (hq:q):p:=h fx ⟨hq⟩
theorem JQ{p q F:Prop} (fx:F) (h:F→Bx q→p:=by
  intro fx hq
  refine gpx fx ?_
  exact hq.1) (hq:q):p:=h fx ⟨hq⟩
theorem H0{p q F:Prop} (fx:F) (h:F→Bx q→p:=by
  intro fx hq
  refine gtx fx ?_
  exact hq.1) (hq:q):p:=h fx ⟨hq⟩
end Pam
