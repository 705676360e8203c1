/- The document's tokens are what a text's tokens are. -/
import Derived.Test.YtnogignohdjjjaaGreatDoorABase3
import Derived.Test.YtnogignohdjjjaaGreatDoorAaPlain1
import Derived.Test.YtnogignohdjjjaaGreatDoorAaFun1
set_option linter.all false
namespace Pam
open Go
theorem uA(c:UInt8):nQ (c.toNat:Int)=some (decide (tSm c)):=rO c
theorem qk(c:UInt8):mz (c.toNat:Int)=some (decide (tDg c)):=ry c
theorem AM(src:List UInt8)(hl:src.length≤100000)(p:Nat)(hp:p≤src.length) :
  nR src p=some ((p+((src.drop p).takeWhile tAn).length:Nat):Int):=by
 unfold nR
 have key:∀ (k p:Nat),p+k=src.length→bJ (fun x4=>kh src x4) (p:Int)=some ((p+((src.drop p).takeWhile tAn).length:Nat):Int):=by
  intro k
  induction k with
  |zero =>
   intro p h
   have:p=src.length:=by omega
   subst this
   rw [List.drop_length]
   refine a8 ?_
   unfold kh
   rw [iN (jc _)];rfl
  |succ k ih =>
   intro p h
   have hp:p<src.length:=by omega
   rw [sj src p hp]
   have hb:kh src (p:Int)=if tAn (src.getD p 0)=true then some (.inl ((p+1:Nat):Int)) else some (.inr (p:Int)):=by
    unfold kh
    rw [iP (ltI hp),iP (inI hp),tN,wr1 p oM,uA,qk]
    simp only [bSq,decide_eq_true_eq]
    unfold tAn
    simp only [decide_eq_true_eq]
    by_cases h1:tSm (src.getD p 0)
    ·rw [iP h1,iP (Or.inl h1)]
    ·rw [iN h1]
     by_cases h2:tDg (src.getD p 0)
     ·rw [iP h2,iP (Or.inr h2)]
     ·rw [iN h2,iN (fun x=>x.elim h1 h2)]
   rw [List.takeWhile_cons]
   by_cases h1:tAn (src.getD p 0)=true
   ·rw [iP h1] at hb ⊢
    rw [dZ hb,ih (p+1) oM,List.length_cons]
    congr 2;omega
   ·rw [iN h1] at hb ⊢
    rw [a8 hb];rfl
 rw [key (src.length - p) p oM]
 rfl
theorem zS(w:List UInt8):mQ w=some (mX w):=by
 unfold mQ
 have hb:∀ x:Int,jd w x=if x<(32:Int) then (if (0≤x∧x<(32:Int)) then (if nC.getD x.toNat default=w then (some (.inr (.inr true))) else (some (.inl (IntKind.wrap .i64 (x+1))))) else none) else (some (.inr (.inl ()))):=fun _=>rfl
 rw [n6 (body:=fun x3=>jd w x3) 32 (fun i=>if nC.getD i default=w then some true else none) ()
  (by
   intro i hi
   show jd w i=_
   rw [hb,iP oM,iP ⟨by omega,by omega⟩,tN,wr1 i oM]
   by_cases h:nC.getD i default=w
   ·rw [iP h,iP h]
   ·rw [iN h,iN h])
  (by
   show jd w (32:Nat)=_
   rw [hb,iN oM])]
 simp only [bSq]
 rcases mW 32 (fun i=>if nC.getD i default=w then some true else none) () with ⟨e,hall⟩|⟨i,z,hi,hf,e⟩
 ·rw [e]
  simp only [Sum.elim_inl]
  unfold jV
  congr 1;symm
  unfold mX
  rw [← Bool.not_eq_true,List.contains_iff_mem]
  intro hm
  obtain ⟨i,hi,he⟩:=List.getElem_of_mem hm
  have hi':i<32:=hi
  have:=hall i hi'
  rw [iP (by simp only [List.getD,List.getElem?_eq_getElem hi,Option.getD_some];exact he)] at this
  cases this
 ·rw [e]
  split at hf
  ·rename_i hw
   simp only [sJ] at hf
   subst hf
   simp only [Sum.elim_inr]
   congr 1;symm
   unfold mX
   rw [List.contains_iff_mem,← hw]
   have hi':i<nC.length:=hi
   simp only [List.getD,List.getElem?_eq_getElem hi',Option.getD_some]
   exact List.getElem_mem hi'
  ·cases hf
theorem zT(i:Nat)(h:i≤18):(10:Nat) ^ i≤1000000000000000000:=by
 have:(10:Nat) ^ i≤10 ^ 18:=Nat.pow_le_pow_right dM h
 exact this
theorem we(w:List UInt8)(hl:w.length≤18):∀ (k i n:Nat),i+k=w.length→n<10 ^ i →
  bJ (fun (x6,x7)=>je w x6 x7) ((n:Int),(i:Int))=some (if ∀ c∈w.drop i,tDg c then .inl (sx n (w.drop i)) else .inr (-1))∧((∀ c∈w.drop i,tDg c)→0≤sx n (w.drop i))
 |0,i,n,h,_=>by
  have:i=w.length:=by omega
  subst this
  rw [List.drop_length,iP (by simp)]
  refine ⟨a8 ?_,fun _=>by simp [sx]⟩
  show je _ _ _=_
  unfold je
  rw [iN (jc _)];rfl
 |k+1,i,n,h,hn=>by
  have hi:i<w.length:=by omega
  rw [sj w i hi]
  obtain ⟨c,hc⟩:∃ c,w.getD i 0=c:=⟨_,rfl⟩
  rw [hc]
  by_cases hd:tDg c
  case neg =>
   rw [iN (fun h=>hd (h c List.mem_cons_self))]
   refine ⟨a8 ?_,fun h=>absurd (h c List.mem_cons_self) hd⟩
   show je _ _ _=_
   unfold je
   rw [iP (ltI hi),iP (inI hi),tN,hc,qk]
   simp only [bSq,decide_eq_true_eq]
   rw [iN hd]
  have hd':48≤c.toNat∧c.toNat≤57:=hd
  have hp:=zT (i+1) oM
  have hps:(10:Nat) ^ (i+1)=10 ^ i * 10:=Nat.pow_succ 10 i
  obtain ⟨q,hq⟩:∃ q,q=(10:Nat) ^ i:=⟨_,rfl⟩
  rw [← hq] at hn hps
  rw [hps] at hp
  have hb:je w (n:Int) (i:Int)=some (.inl (((10 * n+(c.toNat - 48):Nat):Int),((i+1:Nat):Int))):=by
   unfold je
   rw [iP (ltI hi),iP (inI hi),tN,hc,qk]
   simp only [bSq,decide_eq_true_eq]
   rw [iP hd,wr1 i oM]
   have e1:IntKind.wrap .u8 ((c.toNat:Int) - 48)=(c.toNat:Int) - 48:=by rw [IntKind.wrap_u8];omega
   rw [e1,wr (n:=10 * (n:Int)) oM oM,wr (n:=(c.toNat:Int) - 48) oM oM,wr oM oM]
   congr 4
   omega
  obtain ⟨g1,g2⟩:=we w hl k (i+1) (10 * n+(c.toNat - 48)) oM (by rw [hps];omega)
  have hnv:sx (n:Int) (c :: w.drop (i+1))=sx ((10 * n+(c.toNat - 48):Nat):Int) (w.drop (i+1)):=by
   unfold sx
   rw [List.foldl_cons]
   congr 1;omega
  rw [hnv,dZ hb,g1]
  have hall:(∀ d∈c :: w.drop (i+1),tDg d)↔∀ d∈w.drop (i+1),tDg d:=by
   constructor
   ·intro h d hdm;exact h d (List.mem_cons_of_mem _ hdm)
   ·intro h d hdm
    rcases List.mem_cons.1 hdm with rfl|hdm
    ·exact hd
    ·exact h d hdm
  refine ⟨?_,fun h=>g2 (hall.1 h)⟩
  by_cases ha:∀ d∈w.drop (i+1),tDg d
  ·rw [iP ha,iP (hall.2 ha)]
  ·rw [iN ha,iN (fun h=>ha (hall.1 h))]
theorem AN(w:List UInt8):rq w=some (match vK w with|some n=>n|none=>-1)∧∀ n,vK w=some n→0≤n:=by
 unfold rq vK
 by_cases h1:w.length>18
 ·rw [iP oM,iP (Or.inl h1)];exact ⟨rfl,fun n h=>by cases h⟩
 rw [iN oM]
 obtain ⟨g1,g2⟩:=we w oM w.length 0 0 oM dM
 simp only [List.drop_zero,Int.natCast_zero] at g1 g2
 have hj:kL w=some (if ∀ c∈w,tDg c then sx 0 w else -1):=by
  unfold kL lF
  rw [g1]
  simp only [bSq]
  by_cases ha:∀ c∈w,tDg c
  ·rw [iP ha,iP ha];rfl
  ·rw [iN ha,iN ha];rfl
 by_cases h2:w.length>1
 ·rw [iP oM,iP ⟨by omega,by omega⟩]
  cases w with
  |nil=>simp at h2
  |cons c l =>
   by_cases h3:c.toNat=48
   ·rw [iP (show (((c :: l).getD 0 0).toNat:Int)=48 by simp [h3]),iP (Or.inr (Or.inl ⟨h2,by simp [h3]⟩))];exact ⟨rfl,fun n h=>by cases h⟩
   ·rw [iN (show ¬ (((c :: l).getD 0 0).toNat:Int)=48 by simp;omega),hj]
    by_cases ha:∀ d∈c :: l,tDg d
    ·rw [iP ha,iN (fun h=>h.elim h1 (fun h=>h.elim (fun h=>h3 (by simpa using h.2)) (fun h=>h ha)))]
     exact ⟨rfl,fun n h=>by simp only [sJ] at h;rw [← h];exact g2 ha⟩
    ·rw [iN ha,iP (Or.inr (Or.inr ha))];exact ⟨rfl,fun n h=>by cases h⟩
 ·rw [iN oM,hj]
  by_cases ha:∀ d∈w,tDg d
  ·rw [iP ha,iN (fun h=>h.elim h1 (fun h=>h.elim (fun h=>h2 h.1) (fun h=>h ha)))]
   exact ⟨rfl,fun n h=>by simp only [sJ] at h;rw [← h];exact g2 ha⟩
  ·rw [iN ha,iP (Or.inr (Or.inr ha))];exact ⟨rfl,fun n h=>by cases h⟩
theorem AO(src:List UInt8)(hl:src.length≤100000)(p:Nat)(hp:p<src.length)(l:List aa)(hll:l.length≤200000)
  (hb:(src.getD p 0).toNat≠10∧¬ tBl (src.getD p 0)∧(src.getD p 0).toNat≠35) :
  gZ src l p=match qX p (src.drop p) with
   |.inl t=>some (.inl (l++[t],((p+t.text.length:Nat):Int)))
   |.inr e=>some (.inr (.inr ([],ai.mk e p))):=by
 have hd:=sj src p hp
 have hlg:=AM src hl p oM
 obtain ⟨c,hc⟩:∃ c,src.getD p 0=c:=⟨_,rfl⟩
 rw [hc] at hd hb
 obtain ⟨b1,b2,b3⟩:=hb
 unfold tBl at b2
 have tw:(src.drop p).takeWhile tAn <+: src.drop p:=List.takeWhile_prefix _
 have htw:=tw.length_le
 have hlen:(src.drop p).length=src.length - p:=List.length_drop
 have hpart:∀ n:Nat,(src.take (p+n)).drop p=(src.drop p).take n:=fun n=>by rw [List.drop_take,show p+n - p=n by omega]
 have htk:(src.take (p+((src.drop p).takeWhile tAn).length)).drop p=(src.drop p).takeWhile tAn:=by rw [hpart,← List.prefix_iff_eq_take.1 tw]
 obtain ⟨T,hT⟩:∃ T,T=(src.drop p).takeWhile tAn:=⟨_,rfl⟩
 rw [← hT] at hlg htw htk
 have hj2:∀ k:Int,ki src l p ((p+T.length:Nat):Int) k=some (.inl (l++[aa.mk k p T 0],((p+T.length:Nat):Int))):=fun k=>by
  unfold ki
  rw [iP ⟨⟨by omega,by omega,by omega⟩,rP _ oM⟩,tN,tN,htk];rfl
 unfold gZ
 rw [iP (ltI hp),iP (inI hp)]
 simp only [tN,hc]
 rw [iN oM,iN oM,iN oM,iN oM,iN oM,uA,qk,hlg]
 simp only [bSq,decide_eq_true_eq,tN,htk,zS,hj2]
 have hgd:0≤(p:Int)∧(p:Int)≤((p+T.length:Nat):Int)∧((p+T.length:Nat):Int)≤(src.length:Int):=⟨by omega,by omega,by omega⟩
 unfold qB
 simp only [bSq]
 unfold qX
 rw [hd] at hT ⊢
 simp only
 rw [← hT]
 by_cases h1:tSm c
 ·rw [iP h1,iP h1,iP hgd]
  by_cases hw:mX T=true
  ·rw [iP hw,iP hw]
  ·rw [iN hw,iN hw]
   have e:IntKind.wrap .i64 (((p+T.length:Nat):Int) - (p:Int))=(T.length:Int):=by rw [wr oM oM];omega
   rw [e]
   by_cases h12:T.length>12
   ·rw [iP h12,iP oM]
   ·rw [iN h12,iN oM]
 rw [iN h1,iN h1]
 by_cases h2:tDg c
 ·rw [iP h2,iP h2,iP hgd]
  obtain ⟨n1,n2⟩:=AN T
  rw [n1]
  simp only [bSq]
  cases hn:vK T with
  |some n =>
   simp only
   have:=n2 n hn
   rw [iN oM,iP (rP _ oM)];rfl
  |none =>
   simp only
   rw [iP dM]
 rw [iN h2,iN h2]
 have w1:IntKind.wrap .i64 ((p:Int)+1)=((p+1:Nat):Int):=wr1 p oM
 have w2:IntKind.wrap .i64 ((p:Int)+2)=((p+2:Nat):Int):=by rw [wr oM oM];omega
 rw [w1,w2]
 simp only [tN,hpart]
 rw [hd]
 obtain ⟨A,hA⟩:∃ A:Option ((List aa×Int) ⊕ (List aa ⊕ (List aa×ai))),A=some (.inl (l++[aa.mk 4 p [c] 0],((p+1:Nat):Int))):=⟨_,rfl⟩
 obtain ⟨B,hB⟩:∃ B:Option ((List aa×Int) ⊕ (List aa ⊕ (List aa×ai))),B=some (.inr (.inr ([],ai.mk 1 p))):=⟨_,rfl⟩
 have hA':(if (0≤(p:Int)∧(p:Int)≤((p+1:Nat):Int)∧((p+1:Nat):Int)≤(src.length:Int))∧d9 (l.length+1) 40 then (some (.inl (l++lit [aa.mk 4 p ((c :: src.drop (p+1)).take 1) 0],((p+1:Nat):Int))):Option ((List aa×Int) ⊕ (List aa ⊕ (List aa×ai)))) else none)=A:=by
  rw [iP ⟨⟨by omega,by omega,by omega⟩,rP _ oM⟩,hA];rfl
 rw [hA',← hB]
 have hfin:(if c.toNat∈rN then A else B)=match (if c.toNat∈rN then (.inl (aa.mk 4 p [c] 0):aa ⊕ Int) else .inr 1) with
   |.inl t=>some (.inl (l++[t],((p+t.text.length:Nat):Int)))
   |.inr e=>some (.inr (.inr ([],ai.mk e p))):=by
  by_cases h:c.toNat∈rN
  ·rw [iP h,iP h,hA];rfl
  ·rw [iN h,iN h,hB]
 have step:∀ (n:Int) (ns:List Nat) (X:Option ((List aa×Int) ⊕ (List aa ⊕ (List aa×ai)))),0≤n→X=(if c.toNat∈ns then A else B) →
   (if (c.toNat:Int)=n then A else X)=if c.toNat∈n.toNat :: ns then A else B:=fun n ns X h0 hX=>by
  by_cases h:(c.toNat:Int)=n
  ·rw [iP h,iP (by rw [List.mem_cons];left;omega)]
  ·rw [iN h,hX]
   have:(c.toNat∈n.toNat :: ns)↔c.toNat∈ns:=by
    rw [List.mem_cons]
    constructor
    ·rintro (h'|h')
     ·exact absurd oM h
     ·exact h'
    ·exact Or.inr
   simp only [this]
 have chain:=step 40 _ _ dM (step 41 _ _ dM (step 123 _ _ dM (step 125 _ _ dM (step 91 _ _ dM (step 93 _ _ dM (step 60 _ _ dM (step 62 _ _ dM (step 44 _ _ dM (step 59 _ _ dM (step 58 _ _ dM
  (step 43 _ _ dM (step 45 _ _ dM (step 42 _ _ dM (step 47 _ _ dM (step 37 _ _ dM (step 61 _ _ dM (step 94 [] B dM (by simp))))))))))))))))))
 have ht2:∀ a b:UInt8,(c :: src.drop (p+1)).take 2=[a,b]→p+2≤src.length:=fun a b h=>by
  have:((c :: src.drop (p+1)).take 2).length=2:=by rw [h];rfl
  rw [List.length_take,List.length_cons,List.length_drop] at this
  omega
 by_cases h3:((p+1:Nat):Int)<(src.length:Int)
 ·rw [iP h3,iP ⟨by omega,by omega,by omega⟩]
  by_cases h4:(c :: src.drop (p+1)).take 2=[61,61]
  ·rw [iP h4,iP (Or.inl h4),iP (rP _ oM),h4];rfl
  ·rw [iN h4]
   by_cases h5:(c :: src.drop (p+1)).take 2=[45,62]
   ·rw [iP h5,iP (Or.inr h5),iP (rP _ oM),h5];rfl
   ·have hno:¬ ((c :: src.drop (p+1)).take 2=[61,61]∨(c :: src.drop (p+1)).take 2=[45,62]):=fun h=>h.elim h4 h5
    rw [iN h5,iN hno,← hfin]
    exact chain
 ·have hno:¬ ((c :: src.drop (p+1)).take 2=[61,61]∨(c :: src.drop (p+1)).take 2=[45,62]):=fun h=>h.elim (fun h=>by have:=ht2 _ _ h;omega) (fun h=>by have:=ht2 _ _ h;omega)
  rw [iN h3,iN hno,← hfin]
  exact chain
theorem wX(src:List UInt8)(k p q:Nat)(hpq:p≤q)(hq:q≤src.length)(h:blk false (src.drop p)=blk false (src.drop q)):lm (k+1) p (src.drop p)=lm (k+1) q (src.drop q):=by
 rw [lH,lH,h]
 have hb:=tp false (src.drop q)
 have h1:(src.drop p).length=src.length - p:=List.length_drop
 have h2:(src.drop q).length=src.length - q:=List.length_drop
 cases e:blk false (src.drop q) with
 |nil=>rfl
 |cons c l =>
  rw [e] at hb
  simp only
  rw [show p+((src.drop p).length - (c :: l).length)=q+((src.drop q).length - (c :: l).length) by omega]
theorem sv(src:List UInt8)(hl:src.length≤100000)(l:List aa):∀ (k p:Nat),p+k=src.length →
  ∃ q:Nat,bJ (fun x31=>jE src l x31) (p:Int)=some (l,(q:Int))∧p≤q∧q≤src.length∧blk true (src.drop p)=blk false (src.drop q)∧(p<src.length→(src.getD p 0).toNat≠10→p<q)
 |0,p,h=>by
  have:p=src.length:=by omega
  subst this
  refine ⟨src.length,a8 ?_,by omega,by omega,by rw [List.drop_length];rfl,by omega⟩
  show jE _ _ _=_
  unfold jE
  rw [iN (jc _)]
 |k+1,p,h=>by
  have hp:p<src.length:=by omega
  have hb:jE src l (p:Int)=if (src.getD p 0).toNat=10 then some (.inr (l,(p:Int))) else some (.inl ((p+1:Nat):Int)):=by
   unfold jE
   rw [iP (ltI hp),iP (inI hp),tN,wr1 p oM]
   by_cases hc:(src.getD p 0).toNat=10
   ·rw [iN oM,iP hc]
   ·rw [iP oM,iN hc]
  have hd:=sj src p hp
  by_cases hc:(src.getD p 0).toNat=10
  ·rw [iP hc] at hb
   refine ⟨p,a8 hb,by omega,by omega,?_,fun _ h=>absurd hc h⟩
   rw [hd]
   unfold blk
   rw [iP hc,iP hc]
  ·rw [iN hc] at hb
   obtain ⟨q,h1,h2,h3,h4,_⟩:=sv src hl l k (p+1) oM
   refine ⟨q,by rw [dZ hb];exact h1,by omega,h3,?_,fun _ _=>by omega⟩
   rw [hd,← h4]
   conv=>lhs;unfold blk
   rw [iN hc,iP (Or.inl rfl)]
theorem wY(src:List UInt8)(hl:src.length≤100000):∀ (n p:Nat) (l:List aa),p≤src.length→src.length - p<n→l.length≤p →
  bJ (fun (l18,x20)=>gZ src l18 x20) (l,(p:Int))=some (match lm (src.length+1) p (src.drop p) with
   |.inl m=>.inl (l++m)
   |.inr f=>.inr ([],f)):=by
 intro n
 induction n with
 |zero=>intro p l _ h;omega
 |succ n ih =>
  intro p l hp hk hll
  rcases Nat.lt_or_ge p src.length with hlt|hge
  case inr =>
   have:p=src.length:=by omega
   subst this
   rw [List.drop_length,a8 (o:=.inl l) (by
    show gZ _ _ _=_
    unfold gZ
    rw [iN (jc _)])]
   rw [lH]
   simp [blk]
  have hd:=sj src p hlt
  obtain ⟨c,hc⟩:∃ c,src.getD p 0=c:=⟨_,rfl⟩
  have e:blk false (c :: src.drop (p+1))=if c.toNat=10 then blk false (src.drop (p+1)) else if false=true∨tBl c then blk false (src.drop (p+1)) else if c.toNat=35 then blk true (src.drop (p+1)) else c :: src.drop (p+1):=rfl
  rw [hc] at hd
  have skip:∀ q:Nat,p<q→q≤src.length→gZ src l p=some (.inl (l,(q:Int)))→blk false (src.drop p)=blk false (src.drop q) →
    bJ (fun (l18,x20)=>gZ src l18 x20) (l,(p:Int))=some (match lm (src.length+1) p (src.drop p) with
     |.inl m=>.inl (l++m)
     |.inr f=>.inr ([],f)):=fun q h1 h2 h3 h4=>by
   rw [dZ (s':=(l,(q:Int))) h3,ih q l h2 oM oM,wX src src.length p q oM h2 h4]
  by_cases hb:c.toNat=10∨tBl c
  ·refine skip (p+1) oM oM ?_ ?_
   ·unfold gZ
    rw [iP (ltI hlt),iP (inI hlt),tN,hc,wr1 p oM]
    unfold tBl at hb
    by_cases h1:(c.toNat:Int)=32
    ·rw [iP h1]
    rw [iN h1]
    by_cases h2:(c.toNat:Int)=9
    ·rw [iP h2]
    rw [iN h2]
    by_cases h3:(c.toNat:Int)=10
    ·rw [iP h3]
    rw [iN h3,iP oM]
   ·rw [hd,e]
    by_cases h1:c.toNat=10
    ·rw [iP h1]
    ·rw [iN h1,iP (Or.inr (hb.resolve_left h1))]
  have h10:c.toNat≠10:=fun h=>hb (.inl h)
  have hbl:¬ tBl c:=fun h=>hb (.inr h)
  rw [iN h10,iN (fun h=>h.elim (by simp) hbl)] at e
  by_cases h35:c.toNat=35
  ·rw [iP h35] at e
   obtain ⟨q,q1,q2,q3,q4,q5⟩:=sv src hl l (src.length - p) p oM
   refine skip q (q5 hlt (by rw [hc];exact h10)) q3 ?_ ?_
   ·unfold gZ
    rw [iP (ltI hlt),iP (inI hlt),tN,hc]
    unfold tBl at hbl
    rw [iN oM,iN oM,iN oM,iN oM,iP oM,q1]
    rfl
   ·rw [← q4,hd,e]
    conv=>rhs;unfold blk
    rw [iN h10,iP (Or.inl rfl)]
  rw [iN h35] at e
  have h1:=AO src hl p hlt l oM (by rw [hc];exact ⟨h10,hbl,h35⟩)
  rw [lH,hd,e]
  simp only
  rw [hd] at h1
  rw [show p+((c :: src.drop (p+1)).length - (c :: src.drop (p+1)).length)=p by omega]
  cases ht:qX p (c :: src.drop (p+1)) with
  |inr er =>
   rw [ht] at h1
   rw [a8 (o:=.inr ([],ai.mk er p)) h1]
  |inl t =>
   rw [ht] at h1
   simp only at h1 ⊢
   obtain ⟨t1,t2,t3⟩:=qe ht
   have hpos:0<t.text.length:=List.length_pos_iff.2 t2
   have hle:=t3.length_le
   rw [List.length_cons,List.length_drop] at hle
   have hdt:(c :: src.drop (p+1)).drop t.text.length=src.drop (p+t.text.length):=by rw [← hd,List.drop_drop]
   rw [dZ (s':=(l++[t],((p+t.text.length:Nat):Int))) h1,ih (p+t.text.length) (l++[t]) oM oM (by simp;omega),hdt,
    wG src.length (src.length+1) _ _ (by rw [List.length_drop];omega) (by rw [List.length_drop];omega)]
   cases lm (src.length+1) (p+t.text.length) (src.drop (p+t.text.length)) with
   |inr f=>rfl
   |inl m=>simp
theorem zV(src:List UInt8)(hl:src.length≤100000):nS src=some (n7 src):=by
 unfold nS n7
 by_cases h:src.length>12000
 ·rw [iP oM,iP h];rfl
 rw [iN oM,iN h]
 have h0:=wY src hl (src.length+1) 0 [] oM oM (by simp)
 rw [List.drop_zero] at h0
 simp only [Int.natCast_zero] at h0
 rw [h0]
 cases lm (src.length+1) 0 src with
 |inr f=>rfl
 |inl m=>rfl
theorem zW{E t:Int}{F:Nat}{L:List aa}(g:dV E L)(a:Nat)(ha:a≤L.length)(h:¬ isB [[110,111,100,101]] (L.drop a)=true):Fp a (bG E 4 (L.drop a)) (ij F ⟨L,a,E,⟨0,0⟩,t⟩):=by
 have hff:=bq (E:=E) (c:=4) (l:=L.drop a) dM
 unfold ij
 rw [mB,bSq,hP _ g (by intro c r h;cases h;decide) a ha,iN h,bSq]
 simp only
 rw [rB hff,bSq,fq hff,bSq,iP rfl]
 exact nt hff a
theorem yz{src:List UInt8}{F:Nat}{L:List aa}{f:ai}(hf:430≤F)(hs1:kf src=some (L,f))(hs2:nS src=some (L,f))(g:dV src.length L){r:bI×ai}
  (h:im (F+1) src=some r):mA (F+1) src=some r:=by
 have gl:=g.1.1
 unfold im at h
 unfold mA
 rw [hs1,bSq] at h
 rw [hs2,bSq]
 simp only at h ⊢
 by_cases hc:f.code=0
 ·rw [iN (fun x=>x hc)] at h ⊢
  have hE:(0:Int)≤(src.length:Int):=by omega
  obtain ⟨z,hz,h⟩:=bd h
  have hbad:∀ (s':Int×Int×Int×Int×List bx) (f':Int×Int) (b:Nat) (t:Int) (l:List bx),f'.1≠0→(fun (x29,x30,x31,x32,l33)=>fp (F+1) src (L,f) x29 x30 x31 x32 l33) s'=some (.inl ((b:Int),f'.1,f'.2,t,l)) →
    (bJ (fun (x29,x30,x31,x32,l33)=>fp (F+1) src (L,f) x29 x30 x31 x32 l33) s').bind (fun (z43,z44,z45,z46,z47)=>fm src (L,f) z43 z44 z45 z46 z47)=some (bI.mk [],ai.mk f'.1 f'.2):=by
   intro s' f' b t l hf' hq
   rw [dZ hq,a8 (o:=((b:Int),f'.1,f'.2,t,l)) (by
    show fp (F+1) src (L,f) (b:Int) f'.1 f'.2 t l=_
    unfold fp
    rw [fq hf',bSq,iP rfl])]
   show fm src (L,f) (b:Int) f'.1 f'.2 t l=_
   unfold fm
   rw [fq hf',bSq,iP rfl]
  refine mZ (q:=fun (x29,x30,x31,x32,l33)=>fp (F+1) src (L,f) x29 x30 x31 x32 l33)
   (R:=fun (s:List aa×Int×Int×List bx) (s':Int×Int×Int×Int×List bx)=>∃ (d:Nat) (t t':Int) (l:List bx),d≤L.length∧s=(L.drop d,0,t,l)∧s'=((d:Int),0,0,t',l)∧l.length≤10) (μ:=fun s=>s.1.length)
   (Post:=fun z m=>∀ r,(Sum.elim (fun (z38,z39,z40,z41)=>gX z38 z39 z40 z41) (fun z42=>some z42)) z=some r→m.bind (fun (z43,z44,z45,z46,z47)=>fm src (L,f) z43 z44 z45 z46 z47)=some r) ?_ _ _ (0,0,0,0,[]) z rfl ⟨0,0,0,[],by omega,rfl,rfl,by decide⟩ hz r h
  rintro s1 s1' ⟨d,t2,t3,l,hd,rfl,rfl,hl⟩ w hw
  have hw:gY (F+1) src (L.drop d) 0 t2 l=some w:=hw
  have key:fN (F+1) src (L.drop d) 0 t2 l=some w→fp (F+1) src (L,f) (d:Int) 0 0 t3 l=iG (F+1) src (L,f) (d:Int) 0 0 t3 l →
    Sum.elim (fun (s1:List aa×Int×Int×List bx)=>∃ s1',fp (F+1) src (L,f) (d:Int) 0 0 t3 l=some (.inl s1')∧(∃ (d:Nat) (t t':Int) (l:List bx),d≤L.length∧s1=(L.drop d,0,t,l)∧s1'=((d:Int),0,0,t',l)∧l.length≤10)∧s1.1.length<(L.drop d).length)
     (fun z=>∀ r,(Sum.elim (fun (z38,z39,z40,z41)=>gX z38 z39 z40 z41) (fun z42=>some z42)) z=some r→(bJ (fun (x29,x30,x31,x32,l33)=>fp (F+1) src (L,f) x29 x30 x31 x32 l33) ((d:Int),0,0,t3,l)).bind (fun (z43,z44,z45,z46,z47)=>fm src (L,f) z43 z44 z45 z46 z47)=some r) w:=by
   intro hw hq
   unfold fN at hw
   rw [iH _ _ _ _ _ (by simp [lit]),bSq] at hw
   unfold iG at hq
   simp only at hq
   rw [gR _ g (by intro c r h;cases h;decide) d,bSq] at hq
   by_cases hi:isB [[110,111,100,101]] (L.drop d)=true
   ·rw [iP (show isB (lit [[110,111,100,101]]) (L.drop d)=true from hi)] at hw
    rw [iP hi] at hq
    by_cases h10:(l.length:Int)=10
    ·rw [iP h10,gG] at hw
     cases hw
     intro r hr
     cases hr
     rw [iP oM,iy,bSq] at hq
     rw [a8 hq]
     show fm src (L,f) (d:Int) _ _ t3 l=_
     unfold fm
     rw [fq (bq dM),bSq,iP rfl]
    ·rw [iN h10] at hw
     rw [iN oM] at hq
     unfold jL at hq
     obtain ⟨y,hy,hw2⟩:=bd hw
     clear hw
     have hs:=zQ (t':=t3) hf hE g d hd hi hy
     have hpr:=kQ (xC (E:=src.length) (fuel:=F+1) oM (Int.le_refl 0) dM hE (g.drop d) (tB hi (by simp))) hy
     cases y with
     |inr f' =>
      cases hw2
      intro r hr
      cases hr
      obtain ⟨hf',x,t5,b',hb',hm⟩:=hs
      simp only at hq
      rw [hm,bSq,iP (jG oM dM)] at hq
      exact hbad _ f' b' _ _ hf' hq
     |inl a =>
      obtain ⟨x,lst,o,t6⟩:=a
      obtain ⟨b',t5,hb',hm,hz2⟩:=hs
      have hz2:lst=L.drop b':=hz2
      subst hz2
      obtain ⟨⟨b,_,hcs⟩,ho,_⟩:Nd (L.drop d) 0 (x,L.drop b',o,t6):=hpr
      have ho:o=0:=ho
      subst ho
      have hcs:(b :: L.drop b').length<(L.drop d).length:=hcs.2
      simp only at hq
      rw [hm,bSq,iP (jG oM dM)] at hq
      simp only [Sum.elim_inl] at hw2
      rw [iP (jG oM dM)] at hw2
      cases hw2
      rw [List.length_cons] at hcs
      exact ⟨_,hq,⟨b',t6,t5,_,hb',rfl,rfl,by rw [List.length_append];simp only [lit,List.length_cons,List.length_nil];omega⟩,by show (L.drop b').length<_;omega⟩
   ·rw [iN (show ¬ isB (lit [[110,111,100,101]]) (L.drop d)=true from hi),gG] at hw
    cases hw
    intro r hr
    cases hr
    rw [iN hi] at hq
    unfold jL at hq
    obtain ⟨x,t5,hx⟩:=zW (t:=t3) (F:=F+1) g d hd hi
    simp only at hq
    rw [hx,bSq,iP (jG oM dM)] at hq
    exact hbad _ _ d _ _ (bq dM) hq
  have hr1:fp (F+1) src (L,f) (d:Int) 0 0 t3 l=if (d:Int)<(L.length:Int) then (iG (F+1) src (L,f) (d:Int) 0 0 t3 l) else (if (l.length:Int)=0 then (iG (F+1) src (L,f) (d:Int) 0 0 t3 l) else (some (.inr ((d:Int),0,0,t3,l)))):=by
   unfold fp
   rw [cQ,bSq,iN Bool.false_ne_true]
  unfold gY at hw
  have hdl:(L.drop d).length=L.length - d:=List.length_drop
  by_cases hlen:((L.drop d).length:Int)>0
  ·rw [iP hlen] at hw
   exact key hw (by rw [hr1,iP oM])
  ·rw [iN hlen] at hw
   by_cases h0:(l.length:Int)=0
   ·rw [iP h0] at hw
    exact key hw (by rw [hr1,iN oM,iP h0])
   ·rw [iN h0] at hw
    cases hw
    intro r hr
    cases hr
    rw [a8 (o:=((d:Int),0,0,t3,l)) (by
     show fp (F+1) src (L,f) (d:Int) 0 0 t3 l=_
     rw [hr1,iN oM,iN h0])]
    rfl
 ·rw [iP hc] at h ⊢
  exact h
def TkD(t:aa):Prop:=(t.kind=3→∃ c w,t.text=c :: w∧tDg c)∧(t.kind=1∨t.kind=2∨t.kind=3∨t.kind=4)∧(t.kind=4→∀ c w,t.text=c :: w→¬ tSm c)
theorem yA{p:Nat}{c:UInt8}{l:List UInt8}{t:aa}(h:qX p (c :: l)=.inl t):TkD t:=by
 have hw:∀ q:UInt8→Bool,q c=true→∃ w,(c :: l).takeWhile q=c :: w:=fun q hq=>⟨l.takeWhile q,by rw [List.takeWhile_cons,iP hq]⟩
 unfold qX at h
 simp only at h
 split at h
 ·split at h
  ·cases h;exact ⟨fun h=>(by simp at h),.inl rfl,fun h=>(by simp at h)⟩
  ·split at h
   ·cases h
   ·cases h;exact ⟨fun h=>(by simp at h),.inr (.inl rfl),fun h=>(by simp at h)⟩
 ·rename_i hs
  split at h
  ·rename_i hd
   split at h
   ·cases h
    obtain ⟨w,hw⟩:=hw tAn (tq (.inr hd))
    exact ⟨fun _=>⟨c,w,hw,hd⟩,.inr (.inr (.inl rfl)),fun h=>(by simp at h)⟩
   ·cases h
  ·split at h
   ·cases h
    refine ⟨fun h=>(by simp at h),.inr (.inr (.inr rfl)),fun _ d w e=>?_⟩
    have e:(c :: l).take 2=d :: w:=e
    rw [List.take_succ_cons] at e
    rw [← (List.cons.inj e).1];exact hs
   ·split at h
    ·cases h
     refine ⟨fun h=>(by simp at h),.inr (.inr (.inr rfl)),fun _ d w e=>?_⟩
     have e:[c]=d :: w:=e
     rw [← (List.cons.inj e).1];exact hs
    ·cases h
theorem uB:∀ (k p:Nat) (s:List UInt8) (L:List aa),lm k p s=.inl L→L.length≤s.length∧∀ t∈L,TkD t∧(p:Int)≤t.at_∧t.at_≤((p+s.length:Nat):Int)
 |0,p,s,L,h=>by cases h;simp
 |k+1,p,s,L,h=>by
  rw [lH] at h
  have hle:=tp false s
  cases hb:blk false s with
  |nil=>rw [hb] at h;cases h;simp
  |cons c l =>
   rw [hb] at hle h
   simp only at h
   cases ht:qX (p+(s.length - (c :: l).length)) (c :: l) with
   |inr e=>rw [ht] at h;cases h
   |inl t =>
    rw [ht] at h
    simp only at h
    obtain ⟨h1,h2,h3⟩:=qe ht
    have hl:=h3.length_le
    have hw1:1≤t.text.length:=by
     cases hx:t.text with
     |nil=>exact absurd hx h2
     |cons a b=>simp
    have hd:((c :: l).drop t.text.length).length=(c :: l).length - t.text.length:=List.length_drop
    cases hs:lm k (p+(s.length - (c :: l).length)+t.text.length) ((c :: l).drop t.text.length) with
    |inr f=>rw [hs] at h;cases h
    |inl m =>
     rw [hs] at h
     cases h
     obtain ⟨a,b⟩:=uB k _ _ m hs
     rw [hd] at a b
     refine ⟨by rw [List.length_cons];omega,fun x hx=>?_⟩
     rcases List.mem_cons.1 hx with rfl|hx
     ·exact ⟨yA ht,by omega,by omega⟩
     ·obtain ⟨b1,b2,b3⟩:=b x hx
      exact ⟨b1,by omega,by omega⟩
theorem wg(src:List UInt8)(hl:src.length≤100000):dV src.length (n7 src).1∧(n7 src).1.length≤src.length:=by
 have key:∀ L,L.length≤src.length→(∀ t∈L,TkD t∧((0:Nat):Int)≤t.at_∧t.at_≤((0+src.length:Nat):Int))→dV src.length L:=by
  intro L h1 h2
  refine ⟨⟨by omega,fun t ht=>?_⟩,fun t ht=>(h2 t ht).1⟩
  obtain ⟨⟨k1,k2,k3⟩,k4,k5⟩:=h2 t ht
  refine ⟨fun h e=>?_,by omega,by omega⟩
  obtain ⟨c,w,h4,h5⟩:=k1 h
  rw [e] at h4
  rw [← (List.cons.inj h4).1] at h5
  exact absurd h5 dM
 unfold n7
 split
 ·exact ⟨key [] (by simp) (fun _ h=>nomatch h),by simp⟩
 ·cases hs:lm (src.length+1) 0 src with
  |inr f=>exact ⟨key [] (by simp) (fun _ h=>nomatch h),by simp⟩
  |inl m =>
   obtain ⟨a,b⟩:=uB _ _ _ _ hs
   exact ⟨key m a b,a⟩
theorem lK{Z:Type}{body:Int→Option (Int ⊕ (Unit ⊕ Z))}(n:Nat)(hn:n≤9000000)
  (hb:∀ i:Nat,i<n→body (i:Int)=some (.inl (IntKind.wrap .i64 ((i:Int)+1)))) (he:body (n:Int)=some (.inr (.inl ()))):bJ body 0=some (.inl ()):=by
 rw [n6 n (fun _=>none) () (fun i hi=>by rw [hb i hi,wrs i oM]) he,qd fun _ _=>rfl]
theorem uC{p:List (List UInt8)}(h:p.length≤9000000):iK p p=some true:=by
 unfold iK
 rw [iN (fun h=>h rfl),lK p.length h (fun i hi=>?_) (by unfold jt;rw [iN (jc _)])]
 ·rfl
 ·unfold jt
  rw [iP (ltI hi),iP ⟨inI hi,inI hi⟩,iP rfl]
theorem uD{p:List aj}(h:p.length≤9000000):jW p p=some true:=by
 unfold jW
 rw [iN (fun h=>h rfl),lK p.length h (fun i hi=>?_) (by unfold jv;rw [iN (jc _)])]
 ·rfl
 ·unfold jv
  rw [iP (ltI hi),iP ⟨inI hi,inI hi⟩,iP ⟨rfl,rfl⟩]
theorem uE{p:List (List aj)}(h:SzO p):jf p p=some true:=by
 unfold jf
 rw [iN (fun h=>h rfl),lK p.length h.1 (fun i hi=>?_) (by unfold jA;rw [iN (jc _)])]
 ·rfl
 ·unfold jA
  rw [iP (ltI hi),iP ⟨inI hi,inI hi⟩,tN,uD (h.2 _ (kG hi))];rfl
theorem rU{p:List az}(h:DcO p):gI p p=some true:=by
 unfold gI
 rw [iN (fun h=>h rfl),lK p.length h.1 (fun i hi=>?_) (by unfold jy;rw [iN (jc _)])]
 ·rfl
 ·unfold jy
  rw [iP (ltI hi),iP ⟨inI hi,inI hi⟩,iP rfl,iN (fun h=>h rfl),tN,uD (h.2 _ (kG hi))];rfl
theorem uF:∀ (n:Nat) (p:List ag),p.length≤9000000→(∀ y∈p,Hd n y)→iA (n+1) p p=some true
 |n,p,h,hk=>by
  show jQ (iA n) p p=_
  unfold jQ
  rw [iN (fun h=>h rfl),lK p.length h (fun i hi=>?_) (by unfold jC;rw [iN (jc _)])]
  ·rfl
  ·unfold jC
   rw [iP (ltI hi),iP ⟨inI hi,inI hi⟩,iN (fun h=>h rfl),iN (fun h=>h rfl),iP rfl,iN (fun h=>h rfl),tN]
   have hm:=hk _ (kG hi)
   cases n with
   |zero=>exact absurd hm (fun h=>h)
   |succ n =>
    obtain ⟨h1,h2,h3⟩:=hm
    rw [uE h2,bSq,iP rfl,uF n _ h1 h3];rfl
theorem wh{p:bI}{n N:Nat}(hn:N<n)(h:p.nodes.length≤9000000)(hk:∀ x∈p.nodes,pN N x):jR n p p true=some true:=by
 unfold jR
 rw [iN (fun h=>h rfl),lK p.nodes.length h (fun i hi=>?_) (by unfold iS;rw [iN (jc _)])]
 ·rfl
 ·unfold iS
  obtain ⟨k1,k2,k3,k4,k5,k6⟩:=hk _ (kG hi)
  rw [iP (ltI hi),iP ⟨inI hi,inI hi⟩,iP rfl,iP rfl,iN (fun h=>h rfl)]
  unfold ik
  rw [tN]
  rw [uC k1,bSq,iP rfl,rU k2,bSq,iP rfl,rU k3,bSq,iP rfl,rU k4,bSq,iP rfl,iN (fun h=>h rfl)]
  rw [lK (p.nodes.getD i default).eqs.length k5 (fun j hj=>?_) (by unfold iR;rw [tN,iN (jc _)])]
  ·rfl
  ·unfold iR
   rw [tN]
   obtain ⟨q1,q2,q3,q4⟩:=k6 _ (kG hj)
   rw [iP (ltI hj),iP ⟨inI hj,inI hj⟩,iP rfl,iN (fun h=>h rfl),iP rfl,tN,uC q1,bSq,iP rfl,uE q2,bSq,iP rfl]
   unfold lM
   obtain ⟨m,rfl⟩:∃ m,n=m+1:=⟨n - 1,by omega⟩
   rw [uF m _ q3 fun y hy=>gQ oM (q4 y hy)];rfl
theorem pk(src:List UInt8)(_:okT src)(_:szS src≤1048576):∃ fuel,kv fuel src=some true:=by
 refine ⟨100000+40,?_⟩
 unfold kv
 rw [wK]
 simp only [bSq,if_true]
 by_cases hl:(src.length:Int)>13000
 ·rw [iP hl]
 ·rw [iN hl]
  obtain ⟨g,gl⟩:=wg src oM
  have h1:=xy src oM
  have h2:=zV src oM
  obtain ⟨y,hy,hp⟩:=zw (fuel:=100000+40) (src:=src) (l:=(n7 src).1) (f:=(n7 src).2) oM h1 g.1
  have hr:=yz (F:=100039) oM h1 h2 g hy
  rw [hy,bSq,show mA (100000+40) src=some y from hr,bSq,iP ⟨rfl,rfl⟩]
  have hk:y.1.nodes.length≤9000000∧∀ x∈y.1.nodes,pN (n7 src).1.length x:=by
   rcases hp with ⟨_,rfl⟩|⟨_,⟨_,h3,_,h4⟩|⟨_,h3,_⟩⟩
   ·exact ⟨Nat.zero_le _,fun _ h=>nomatch h⟩
   ·exact ⟨by rw [h3];have:=List.countP_le_length (p:=br) (l:=(n7 src).1);omega,h4⟩
   ·rw [h3];exact ⟨Nat.zero_le _,fun _ h=>nomatch h⟩
  rw [wh (N:=(n7 src).1.length) oM hk.1 hk.2]
  rfl
end Pam
