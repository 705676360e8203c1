/- render.whole: each node's text, one behind the other -/
import Derived.Test.YtmlkpniimpahoaaGreatDoorSaRng1
import Derived.Test.YtmlkpniimpahoaaGreatDoorSWide1
import Derived.Shelf.Strings.BuilderK
import Derived.Test.YtmlkpniimpahoaaGreatDoorSBase3
import Derived.Deep.RegionHeld3
import Derived.Lib.SmallJoins
import Derived.Test.YtmlkpniimpahoaaGreatDoorSTypes1
import Derived.Test.YtmlkpniimpahoaaGreatDoorSaData1
set_option linter.all false
namespace Go.Proofs
open Go Go.RowKit Go.Shelf Pam
theorem SV.of{H:Nat→Option Obj}{s:Nat}{es:List (List CV)}{v:Value}(h:br H (.tree s es) v):∃ x:SV,v=.slice x.a x.l x.c:=by
  cases h with
  |tree0 _ a cap _=>exact ⟨⟨a,0,cap⟩,rfl⟩
  |tree _ _ blk off cap _ _ _ _ _ _ _ _ _=>exact ⟨⟨some ⟨blk,off,none⟩,es.length,cap⟩,rfl⟩
theorem NV.of{H:Nat→Option Obj}(t:aK)(g:Nat→Value)(h:∀ (j:Nat) (x:CV),(aK.enc t)[j]? = some x→br H x (g j)) :
    ∃ x:NV,g 0=.string x.nm∧g 1=.int .i64 x.at_∧g 2=.slice x.s0.a x.s0.l x.s0.c∧g 3=.slice x.s1.a x.s1.l x.s1.c∧g 4=.slice x.s2.a x.s2.l x.s2.c∧g 5=.slice x.s3.a x.s3.l x.s3.c∧g 6=.slice x.s4.a x.s4.l x.s4.c ∧
      aW (br H) (aK.enc t) [.string x.nm,.int .i64 x.at_,.slice x.s0.a x.s0.l x.s0.c,.slice x.s1.a x.s1.l x.s1.c,.slice x.s2.a x.s2.l x.s2.c,.slice x.s3.a x.s3.l x.s3.c,.slice x.s4.a x.s4.l x.s4.c]:=by
  have h0:=h 0 _ rfl
  have h1:=h 1 _ rfl
  have h2:=h 2 _ rfl
  have h3:=h 3 _ rfl
  have h4:=h 4 _ rfl
  have h5:=h 5 _ rfl
  have h6:=h 6 _ rfl
  obtain ⟨s0,e2⟩:=SV.of h2
  obtain ⟨s1,e3⟩:=SV.of h3
  obtain ⟨s2,e4⟩:=SV.of h4
  obtain ⟨s3,e5⟩:=SV.of h5
  obtain ⟨s4,e6⟩:=SV.of h6
  have e0:g 0=.string ⟨t.name.toArray⟩:=by
    generalize g 0=v at h0;cases h0;rfl
  have e1:g 1=.int .i64 t.at_:=by
    generalize g 1=v at h1;cases h1;rfl
  refine ⟨⟨⟨t.name.toArray⟩,t.at_,s0,s1,s2,s3,s4⟩,e0,e1,e2,e3,e4,e5,e6,?_⟩
  rw [e0] at h0;rw [e1] at h1;rw [e2] at h2;rw [e3] at h3;rw [e4] at h4;rw [e5] at h5;rw [e6] at h6
  exact ⟨h0,h1,h2,h3,h4,h5,h6,trivial⟩
theorem NV.all{w:World}{blk off:Nat}{c:Array Value}{T:TypeId}{fz:Nat×Nat}{g:Nat→Nat→Value}(l:List aK)(hw:w.heap[blk]? = some (.cells c T fz))
    (hg:∀ (i j:Nat) (e:List CV) (x:CV),(l.map aK.enc)[i]? = some e→e[j]? = some x→c[off+i * 7+j]? = some (g i j))
    (hr:∀ (i j:Nat) (e:List CV) (x:CV),(l.map aK.enc)[i]? = some e→e[j]? = some x→br (fun b=>w.heap[b]?) x (g i j)) :
    ∃ zs:List NV,zs.length=l.length∧∀ (j:Nat) (x:NV),zs[j]? = some x→NV.lies x w blk (off+j * 7)∧∃ t,l[j]? = some t ∧
      aW (br (fun b=>w.heap[b]?)) (aK.enc t) [.string x.nm,.int .i64 x.at_,.slice x.s0.a x.s0.l x.s0.c,.slice x.s1.a x.s1.l x.s1.c,.slice x.s2.a x.s2.l x.s2.c,.slice x.s3.a x.s3.l x.s3.c,.slice x.s4.a x.s4.l x.s4.c]:=by
  have key:∀ j:Fin l.length,∃ x:NV,NV.lies x w blk (off+j.1 * 7)∧∃ t,l[j.1]? = some t ∧
      aW (br (fun b=>w.heap[b]?)) (aK.enc t) [.string x.nm,.int .i64 x.at_,.slice x.s0.a x.s0.l x.s0.c,.slice x.s1.a x.s1.l x.s1.c,.slice x.s2.a x.s2.l x.s2.c,.slice x.s3.a x.s3.l x.s3.c,.slice x.s4.a x.s4.l x.s4.c]:=by
    rintro ⟨j,hj⟩
    have ht:l[j]? = some l[j]:=List.getElem?_eq_getElem hj
    have he:(l.map aK.enc)[j]? = some (aK.enc l[j]):=by rw [List.getElem?_map,ht];rfl
    obtain ⟨x,e0,e1,e2,e3,e4,e5,e6,hx⟩:=NV.of l[j] (g j) (fun i y hy=>hr j i _ y he hy)
    have cc:∀ i y,(aK.enc l[j])[i]? = some y→w.cell? ⟨blk,off+j * 7+i,none⟩=some (g j i):=fun i y hy=>by
      unfold World.cell?
      rw [hw]
      exact hg j i _ y he hy
    refine ⟨x,⟨?_,?_,?_,?_,?_,?_,?_⟩,_,ht,hx⟩
    · rw [← e0];exact cc 0 _ rfl
    · rw [← e1];exact cc 1 _ rfl
    · rw [← e2];exact cc 2 _ rfl
    · rw [← e3];exact cc 3 _ rfl
    · rw [← e4];exact cc 4 _ rfl
    · rw [← e5];exact cc 5 _ rfl
    · rw [← e6];exact cc 6 _ rfl
  obtain ⟨f,hf⟩:=Classical.axiomOfChoice key
  refine ⟨List.ofFn f,by simp,fun j x hj=>?_⟩
  rw [List.getElem?_ofFn] at hj
  split at hj
  · rename_i h
    cases hj
    exact hf ⟨j,h⟩
  · cases hj
theorem Tryz.all_in(F:Fence)(n:Nat)(h42:F.fn 42)(hro:F.round=none)(a:Option Addr)(l c:Nat)(w:World) :
    CallsIn F n Tryz.prog 42 #[.slice a l c] w fun e w'=>e=.returned (.func (.func 67) #[] #[.pointer (some ⟨w.heap.size,0,none⟩)])∧w'=w.alloc (.cells #[.slice a l c] 22):=by
  refine callsIn_of_wp Tryz.func42 rfl h42 ?_ hro
  simp only [Tryz.ntmps42,List.size_toArray,List.length_cons,List.length_nil,Nat.reduceAdd,Nat.reduceSub,Array.replicate_succ,Array.replicate_zero,List.push_toArray,List.append_toArray,List.nil_append,List.cons_append]
  gi_wp2
  go_ret
  exact ⟨rfl,rfl⟩
theorem Tryz.WA_nil(w:World)(hT:wQ fun b=>w.heap[b]?)(x1 x2:Obj)(rc:LoopState→Option Code→Loop) :
    Tryz.WA w (w.heap.size+1) (w.heap.size+4) (w.heap.size+3) rc [] (((((w.alloc x1).alloc (.cells #[.slice none 0 0] 37)).alloc x2).alloc (.deferred (some []))).alloc (.loop (rc .ready none))):=by
  have i1:=(Hu w hT).junk x1
  have s1:(w.alloc x1).heap.size=w.heap.size+1:=by simp
  have i2:=i1.push (w':=(w.alloc x1).alloc (.cells #[.slice none 0 0] 37)) (.box [.nils]) ⟨(w.alloc x1).heap.size,0,0,0,true,0⟩ (by simp) (fun b hb=>Below.heap_alloc _ _ b hb) (fun _=>rfl) rfl rfl rfl
    ⟨_,_,37,rfl,rfl,⟨rfl,rfl⟩,World.alloc_heap_new _ _,⟨.nils,trivial⟩⟩
  have i3:=i2.nil 1 9 (by decide)
  obtain ⟨w2,hw2⟩:∃ w2,(w.alloc x1).alloc (.cells #[.slice none 0 0] 37)=w2:=⟨_,rfl⟩
  have hblk:w2.heap[w.heap.size+1]? = some (.cells #[.slice none 0 0] 37 (0,0)):=by rw [← hw2,← s1];exact World.alloc_heap_new _ _
  have s2:w2.heap.size=w.heap.size+2:=by rw [← hw2];simp
  have b2:Below w.heap.size w w2:=by rw [← hw2];exact (((Below.refl _ w).alloc (Nat.le_refl _) _).alloc (by simp) _)
  rw [hw2] at i3 ⊢
  obtain ⟨G,hi,gH,gF,g0,g1⟩:∃ G:Gh,Inv G [.box [.nils],.arr 1 0 9 []] w2∧G.H=(fun b=>w.heap[b]?)∧G.F=(fun _=>none)∧G.own[0]? = some (some ⟨w.heap.size+1,0,0,0,true,0⟩)∧G.own[1]? = some (some ⟨0,1,0,0,false,0⟩) :=
    ⟨_,i3,rfl,rfl,by rw [← s1];rfl,rfl⟩
  clear i1 i2 i3 hw2
  have j1:Inv { G with na:=2 } [.box [.osl 1 0 0 0],.arr 1 0 9 []] w2:=by
    refine ⟨hi.hH,hi.hF,hi.HF,hi.len,fun b ob h=>?_,hi.inj,hi.sep,hi.os,hi.tape,hi.output,hi.grow⟩
    match b,h with
    |0,h =>
      obtain rfl:OB.box [.osl 1 0 0 0]=ob:=by simpa using h
      exact ⟨_,_,37,g0,rfl,⟨rfl,rfl⟩,hblk,⟨⟨rfl,_,g1,fun o e=>by cases e;exact ⟨Nat.le_refl _,fun _=>⟨Nat.le_refl _,none,rfl,fun h=>by cases h⟩⟩⟩,trivial⟩⟩
    |1,h =>
      obtain rfl:OB.arr 1 0 9 []=ob:=by simpa using h
      exact (hi.own 1 _ rfl).keep (G':={ G with na:=2 }) (fun _ _ h=>h) (bG.refl _) rfl (fun _ _ _=>rfl)
    |b+2,h=>simp at h
  have j2:=j1.junk x2
  have s3:(w2.alloc x2).heap.size=w.heap.size+3:=by simp [s2]
  have j3:=j2.aside (.deferred (some []))
  have s4:((w2.alloc x2).alloc (.deferred (some []))).heap.size=w.heap.size+4:=by simp [s2]
  have j4:=j3.aside (.loop (rc .ready none))
  refine ⟨_,0,⟨w.heap.size+1,0,0,0,true,0⟩,rfl,fun b o h=>?_,j4,g0,rfl,?_,?_,?_⟩
  · show G.H b=_
    rw [gH];exact h
  · show (if w.heap.size+4=_ then _ else _)=_
    rw [if_pos s4.symm]
  · show (if w.heap.size+3=_ then _ else if w.heap.size+3=_ then _ else _)=_
    rw [if_neg (by rw [s4];omega),if_pos s3.symm]
  · exact ((b2.alloc b2.size _).alloc (by rw [s3];omega) _).alloc (by rw [s4];omega) _
set_option maxRecDepth 100000 in
set_option maxHeartbeats 4000000 in
theorem Tryz.join_own{G:Gh}{W:World}{v:Nat}{ls:List Ω}{o0:OG}(hi:Inv G [.box [.osl 1 v 0 ls.length],.arr 1 v 9 (ls.map eS)] W)(h0:G.own[0]? = some (some o0))(hn:ls.length≤1048576)(hj:(Lib.join ls []).length≤140737488355328) :
    ∃ a cap,W.cell? ⟨o0.blk,0,none⟩=some (.slice a ls.length cap)∧W.frozen? ⟨o0.blk,0,none⟩=false∧o0.blk<W.heap.size∧(∀ (b:Nat) (o:Obj),G.F b=some o→b≠o0.blk) ∧
      ∀ W':World,(∀ (b:Nat) (o:Obj),(∀ b' o',G.F b'=some o'→b'≠b)→W.heap[b]? = some o→W'.heap[b]? = some o) →
        Calls Tryz.prog 44 #[.slice a ls.length cap,.string ⟨#[]⟩] W' fun e w'=>e=.returned (.string ⟨(Lib.join ls []).toArray⟩)∧Below W'.heap.size W' w':=by
  obtain ⟨o,c,T,ho,hhas,⟨hv0,hs0⟩,hblk,hall⟩:=hi.own 0 _ rfl
  rw [h0] at ho
  obtain rfl:o0=o:=by simpa using ho
  obtain ⟨o1,ho1,hver,hsz,_,hlc,hcm,_,hnh,hh⟩:=hi.own 1 _ rfl
  obtain ⟨u,hc⟩:∃ u,c=#[u]:=by
    have hl:=hall.length
    simp only [List.length_cons,List.length_nil] at hl
    obtain ⟨u,hu⟩:=List.length_eq_one_iff.1 (by simpa using hl.symm:c.toList.length=1)
    exact ⟨u,by apply Array.ext';simpa using hu⟩
  subst hc
  obtain ⟨_,oo,hoo,hk⟩:gm G (.osl 1 v 0 ls.length) u:=hall.1
  rw [ho1] at hoo
  obtain ⟨_,hS⟩:=hk o1 (Option.some.inj hoo).symm
  obtain ⟨hle,a,rfl,ha⟩:=hS hver.symm
  have hlt:o0.blk<W.heap.size:=(Array.getElem?_eq_some_iff.1 hblk).1
  have hnF:∀ (b:Nat) (o:Obj),G.F b=some o→b≠o0.blk:=fun b o h e=>by
    have:=(hi.sep 0 o0 h0 hhas).2
    rw [e,this] at h;cases h
  refine ⟨a,o1.cap - 0,by unfold World.cell?;rw [hblk];rfl,by unfold World.frozen?;rw [hblk];rfl,hlt,hnF,fun W' hW'=>?_⟩
  by_cases hne:ls=[]
  · subst hne
    exact (Any.strings_Join_none rI qv a _ ⟨#[]⟩ W').mono fun e w' ⟨h1,h2⟩=>⟨h1,h2 ▸ Below.refl _ _⟩
  · have hhas1:o1.has=true:=by
      cases h:o1.has with
      |true=>rfl
      |false =>
        have:=hnh h
        simp only [List.length_map] at hlc
        have:ls.length=0:=by omega
        exact absurd (List.length_eq_zero_iff.1 this) hne
    obtain ⟨a',rfl,ha'⟩:=ha hhas1
    have hpos:0<ls.length:=List.length_pos_iff.2 hne
    simp only [List.length_map] at hlc
    obtain rfl:=ha' (by omega)
    obtain ⟨c1,fz,hb1,_,hcs,hcell⟩:=hh hhas1
    have hn1:∀ (b:Nat) (o:Obj),G.F b=some o→b≠o1.blk:=fun b o h e=>by
      have:=(hi.sep 1 o1 ho1 hhas1).2
      rw [e,this] at h;cases h
    have hb1':=hW' _ _ hn1 hb1
    have hback:(ls.map fun s=>(⟨s.toArray⟩:ByteArray)).map (·.data.toList)=ls:=by simp [Function.comp_def]
    have hlen:ls.length=(ls.map fun s=>(⟨s.toArray⟩:ByteArray)).length:=by simp
    simp only [Nat.zero_mul,Nat.add_zero,Nat.sub_zero]
    rw [hlen] at hlc ⊢
    have hcc:∀ (j:Nat) (x:ByteArray),(ls.map fun s=>(⟨s.toArray⟩:ByteArray))[j]? = some x→W'.cell? ⟨o1.blk,o1.off+j,none⟩=some (.string x):=by
      intro j x hx
      rw [List.getElem?_map,Option.map_eq_some_iff] at hx
      obtain ⟨s,hs1,rfl⟩:=hx
      obtain ⟨y,h3,h4⟩:=hcell j 0 [.str s] (.str s) (by rw [List.getElem?_map,hs1];rfl) rfl
      rw [Nat.mul_one,Nat.add_zero] at h3
      have cc:∀ k,W'.cell? ⟨o1.blk,k,none⟩=c1[k]? := fun k=>by unfold World.cell?;rw [hb1'];rfl
      cases h4
      exact (cc _).trans h3
    have key:=Any.strings_Join (P:=Tryz.prog) (ρ:=Tryz.lays156_ren) rI qv o1.blk o1.off o1.cap (ls.map fun s=>(⟨s.toArray⟩:ByteArray)) ⟨#[]⟩ W' hcc (Array.getElem?_eq_some_iff.1 hb1').1 (by simp;omega) hlc (by rw [hback];exact hj)
    rw [hback] at key
    exact key
theorem Tryz.mapM_len{nd:aK→Option Ω}{l:List aK}{q:List Ω}(hq:List.mapM nd l=some q):q.length=l.length:=by
  induction l generalizing q with
  |nil=>simp at hq;subst hq;rfl
  |cons a l ih =>
    rw [List.mapM_cons] at hq
    cases h1:nd a with
    |none=>rw [h1] at hq;cases hq
    |some y =>
      cases h2:List.mapM nd l with
      |none=>rw [h1,h2] at hq;cases hq
      |some q' =>
        rw [h1,h2] at hq
        cases hq
        simp [ih h2]
theorem Tryz.rounds(nd:aK→Option Ω)(hnd:∀ x r,nd x=some r→a8 Tryz.prog 43 [.a (aK.enc x)] (.c (.str r)))(l:List aK)(q:List Ω)(hq:List.mapM nd l=some q)(h0:l.length≤1048576)
    (w:World) (fn:FuncId) (t0 t1 t6 t7 t8:Value) (B3 lp D:Nat) (hDl:D≠lp) (Bs b off cap:Nat) (sa:Option Addr) (zs:List NV) (hzl:zs.length=l.length) (hb:0<l.length→b<w.heap.size) (hsa:0<l.length→sa=some ⟨b,off,none⟩)
    (hz:∀ (j:Nat) (x:NV),zs[j]? = some x→NV.lies x w b (off+j * 7)∧∃ t,l[j]? = some t ∧
      aW (br (fun b=>w.heap[b]?)) (aK.enc t) [.string x.nm,.int .i64 x.at_,.slice x.s0.a x.s0.l x.s0.c,.slice x.s1.a x.s1.l x.s1.c,.slice x.s2.a x.s2.l x.s2.c,.slice x.s3.a x.s3.l x.s3.c,.slice x.s4.a x.s4.l x.s4.c])
    (W1:World) (hb1:Below w.heap.size w W1) (hBs:W1.cell? ⟨Bs,0,none⟩=some (.slice sa l.length cap)) (hW:Tryz.WA w B3 lp D (Tryz.whRec fn t0 t1 t6 t7 t8 B3 D) [] W1) :
    CallsIn Fence.wide 2 Tryz.prog 67 #[.func (.yield lp) #[] #[],.pointer (some ⟨Bs,0,none⟩)] W1 fun e W'=>(∃ v,e=.returned v)∧Tryz.WA w B3 lp D (Tryz.whRec fn t0 t1 t6 t7 t8 B3 D) q W':=by
  have hql:=Tryz.mapM_len hq
  have hat:∀ (j:Nat) (t:aK),l[j]? = some t→∃ y,q[j]? = some y∧nd t=some y:=by
    clear h0 hb hsa hz hzl hBs hql
    induction l generalizing q with
    |nil=>intro j t h;simp at h
    |cons a l ih =>
      rw [List.mapM_cons] at hq
      cases h1:nd a with
      |none=>rw [h1] at hq;cases hq
      |some y =>
        cases h2:List.mapM nd l with
        |none=>rw [h1,h2] at hq;cases hq
        |some q' =>
          rw [h1,h2] at hq
          cases hq
          intro j t h
          cases j with
          |zero=>simp only [List.getElem?_cons_zero,Option.some.injEq] at h;subst h;exact ⟨y,rfl,h1⟩
          |succ j=>exact ih q' h2 j t (by simpa using h)
  have key:=Tryz.all1_in Fence.wide 2 trivial rfl (by decide) lp Bs w.heap.size b off l.length cap sa zs (by omega) hb hsa (fun k W=>Tryz.WA w B3 lp D (Tryz.whRec fn t0 t1 t6 t7 t8 B3 D) (q.take k) W)
    (fun k x W hx hJ=>by
      obtain ⟨_,t,ht,hxt⟩:=hz k x hx
      obtain ⟨y,hy,hnt⟩:=hat k t ht
      have hk:k<l.length:=(List.getElem?_eq_some_iff.1 ht).1
      have hr:(q.take k).length+1≤1048576:=by rw [List.length_take];omega
      have:=Tryz.whYield (2 - 1) w fn t0 t1 t6 t7 t8 B3 lp D k hDl x t hxt y (hnd t y hnt) (q.take k) hr W hJ
      rw [List.take_add_one,hy]
      exact this)
    W1 hzl hBs (fun j x hx=>by
      obtain ⟨⟨c0,c1,c2,c3,c4,c5,c6⟩,_⟩:=hz j x hx
      have hj:j<l.length:=by rw [← hzl];exact (List.getElem?_eq_some_iff.1 hx).1
      have hbw:=hb (by omega)
      exact ⟨(hb1.cell (p:=⟨b,_,none⟩) hbw).trans c0,(hb1.cell (p:=⟨b,_,none⟩) hbw).trans c1,(hb1.cell (p:=⟨b,_,none⟩) hbw).trans c2,(hb1.cell (p:=⟨b,_,none⟩) hbw).trans c3,(hb1.cell (p:=⟨b,_,none⟩) hbw).trans c4,(hb1.cell (p:=⟨b,_,none⟩) hbw).trans c5,(hb1.cell (p:=⟨b,_,none⟩) hbw).trans c6⟩)
    hb1.size (fun k W o h=>Tryz.WA_alloc h o) hW
  refine CallsIn.mono key fun e W' h=>⟨h.1,?_⟩
  have:=h.2
  rw [← hql,List.take_length] at this
  exact this
set_option maxRecDepth 100000 in
set_option maxHeartbeats 4000000 in
theorem Tryz.whole_calls(nd:aK→Option Ω)(hnd:∀ x r,nd x=some r→a8 Tryz.prog 43 [.a (aK.enc x)] (.c (.str r)))(l:List aK)(q:List Ω)(hq:List.mapM nd l=some q)(h0:l.length≤1048576)
    (hj:(Lib.join q []).length≤140737488355328) (w:World) (hT:wQ fun b=>w.heap[b]?) (b off cap:Nat) (sa:Option Addr) (zs:List NV) (hzl:zs.length=l.length) (hb:0<l.length→b<w.heap.size) (hsa:0<l.length→sa=some ⟨b,off,none⟩)
    (hz:∀ (j:Nat) (x:NV),zs[j]? = some x→NV.lies x w b (off+j * 7)∧∃ t,l[j]? = some t ∧
      aW (br (fun b=>w.heap[b]?)) (aK.enc t) [.string x.nm,.int .i64 x.at_,.slice x.s0.a x.s0.l x.s0.c,.slice x.s1.a x.s1.l x.s1.c,.slice x.s2.a x.s2.l x.s2.c,.slice x.s3.a x.s3.l x.s3.c,.slice x.s4.a x.s4.l x.s4.c]) :
    Calls Tryz.prog 19 #[.agg #[.slice sa l.length cap]] w fun e w'=>e=.returned (.string ⟨(Lib.join q []).toArray⟩)∧Below w.heap.size w w':=by
  refine (callsIn_wide (n:=3)).1 (callsIn_of_wp_marks Tryz.func19 rfl trivial ?_ rfl)
  simp only [Tryz.ntmps19,List.size_toArray,List.length_cons,List.length_nil,Nat.reduceAdd,Nat.reduceSub,Array.replicate_succ,Array.replicate_zero,List.push_toArray,List.append_toArray,List.nil_append,List.cons_append]
  gi_wp2
  refine ⟨trivial,CallsIn.mono (Tryz.all_in Fence.wide 2 trivial rfl sa l.length cap _) ?_⟩
  rintro e w' ⟨rfl,rfl⟩
  gi_wp2
  refine wpIn_rangeFunc ?_
  intro fn hfn
  rw [show Fence.wide.round=none from rfl]
  obtain ⟨t0,ht0⟩:∃ t0:Value,t0=.agg #[.slice sa l.length cap]:=⟨_,rfl⟩
  obtain ⟨t7,ht7⟩:∃ t7:Value,t7=.slice sa l.length cap:=⟨_,rfl⟩
  obtain ⟨x1,hx1⟩:∃ x1:Obj,x1=.cells #[.slice sa l.length cap] 24:=⟨_,rfl⟩
  obtain ⟨x2,hx2⟩:∃ x2:Obj,x2=.cells #[.slice sa l.length cap] 22:=⟨_,rfl⟩
  rw [← hx1,← hx2]
  have hWA:=Tryz.WA_nil w hT x1 x2 (Tryz.whRec fn t0 (.pointer (some ⟨w.heap.size,0,none⟩)) (.pointer (some ⟨w.heap.size,0,none⟩)) t7 (.func (.func 67) #[] #[.pointer (some ⟨w.heap.size+2,0,none⟩)]) (w.heap.size+1) (w.heap.size+3))
  obtain ⟨W0,hW0⟩:∃ W0,((w.alloc x1).alloc (.cells #[.slice none 0 0] 37)).alloc x2=W0:=⟨_,rfl⟩
  have hs0:W0.heap.size=w.heap.size+3:=by rw [← hW0];simp
  have hB0:W0.heap[w.heap.size+2]? = some x2:=by rw [← hW0];have:=World.alloc_heap_new ((w.alloc x1).alloc (.cells #[.slice none 0 0] 37)) x2;simpa using this
  rw [hW0] at hWA ⊢
  obtain ⟨W1,hW1⟩:∃ W1,(W0.alloc (.deferred (some []))).alloc (.loop (Tryz.whRec fn t0 (.pointer (some ⟨w.heap.size,0,none⟩)) (.pointer (some ⟨w.heap.size,0,none⟩)) t7 (.func (.func 67) #[] #[.pointer (some ⟨w.heap.size+2,0,none⟩)]) (w.heap.size+1) (w.heap.size+3) .ready none))=W1:=⟨_,rfl⟩
  rw [hW1] at hWA
  have hBs:W1.cell? ⟨w.heap.size+2,0,none⟩=some (.slice sa l.length cap):=by
    have h1:W1.heap[w.heap.size+2]? = some x2:=by
      rw [← hW1]
      exact (Below.heap_alloc _ _ _ (by simp [hs0])).trans ((Below.heap_alloc _ _ _ (by simp [hs0])).trans hB0)
    unfold World.cell?
    rw [h1,hx2]
    rfl
  have hcall:=Tryz.rounds nd hnd l q hq h0 w fn t0 (.pointer (some ⟨w.heap.size,0,none⟩)) (.pointer (some ⟨w.heap.size,0,none⟩)) t7 (.func (.func 67) #[] #[.pointer (some ⟨w.heap.size+2,0,none⟩)]) (w.heap.size+1) (w.heap.size+4) (w.heap.size+3) (by omega)
    (w.heap.size+2) b off cap sa zs hzl hb hsa hz W1 (by obtain ⟨_,_,_,_,_,_,_,_,_,_,h⟩:=hWA;exact h) hBs hWA
  have e67:∀ args w,(callFunc 67 args).run Tryz.prog w=.ok (.enter 67 args) w:=enters_of Tryz.func67 (by kernel_rfl) rfl
  refine ⟨w.heap.size+4,[{ target:=.collected (w.heap.size+3),args:=#[] }],W1,{ target:=.fn (.func 67) #[.pointer (some ⟨w.heap.size+2,0,none⟩)],args:=#[.func (.yield (w.heap.size+4)) #[] #[]] },W1,67,
    #[.func (.yield (w.heap.size+4)) #[] #[],.pointer (some ⟨w.heap.size+2,0,none⟩)],W1,?_,?_,?_,?_,fun _=>by decide,?_⟩
  · have:=run_enterLoop_outer (P:=Tryz.prog) (w:=W0) fn #[t0,.pointer (some ⟨w.heap.size,0,none⟩),.string ⟨#[]⟩,.pointer (some ⟨w.heap.size+1,0,none⟩),undef,undef,.pointer (some ⟨w.heap.size,0,none⟩),t7,.func (.func 67) #[] #[.pointer (some ⟨w.heap.size+2,0,none⟩)],undef,undef,undef,undef,undef,undef,undef,undef,undef] #[9,10] Tryz.whAssign Tryz.whBody
    rw [hs0] at this
    rw [← hW1,ht0,ht7] at *
    exact this
  · simp [resolve,go_sem]
  · intro f' hf';trivial
  · simp [invoke,go_sem,e67]
  · refine CallsIn.mono hcall ?_
    rintro e W2 ⟨⟨v0,rfl⟩,G,v,o0,gna,gold,hi,go0,hB3,gFl,gFD,gb⟩
    obtain ⟨a,cp,hcell,hfroz,hblt,hnF,hjoin⟩:=Tryz.join_own hi go0 (by have:=Tryz.mapM_len hq;omega) hj
    have hL2:=hi.hF _ _ gFl
    have hK2:=hi.hF _ _ gFD
    have hend:=run_endLoop (P:=Tryz.prog) hL2 (by simp [Tryz.whRec])
    obtain ⟨W3,hW3⟩:∃ W3,W2.putObj (w.heap.size+4) (.loop { Tryz.whRec fn t0 (.pointer (some ⟨w.heap.size,0,none⟩)) (.pointer (some ⟨w.heap.size,0,none⟩)) t7 (.func (.func 67) #[] #[.pointer (some ⟨w.heap.size+2,0,none⟩)]) (w.heap.size+1) (w.heap.size+3) .ready none with state:=.exhausted })=W3:=⟨_,rfl⟩
    rw [hW3] at hend
    have other:∀ k,k≠w.heap.size+4→W3.heap[k]? = W2.heap[k]? := fun k hk=>by rw [← hW3];exact World.putObj_heap_other hk
    have hK3:W3.heap[w.heap.size+3]? = some (.deferred (some [])):=(other _ (by omega)).trans hK2
    have hs3:W3.heap.size=W2.heap.size:=by rw [← hW3];simp [World.putObj]
    have hb3:Below w.heap.size w W3:=⟨by rw [← hW3];exact gb.os,by rw [← hW3];exact gb.tape,by rw [← hW3];exact gb.output,by rw [hs3];exact gb.size,fun k hk=>(other k (by omega)).trans (gb.block k hk)⟩
    have hne4:o0.blk≠w.heap.size+4:=fun e=>hnF _ _ gFl e.symm
    have hc3:W3.cell? ⟨w.heap.size+1,0,none⟩=some (.slice a q.length cp):=by
      rw [← hB3,← hcell]
      unfold World.cell?
      rw [show W3.heap[(⟨o0.blk,0,none⟩:Addr).block]? = W2.heap[(⟨o0.blk,0,none⟩:Addr).block]? from other _ hne4]
    have hj3:=hjoin W3 (fun k o h1 h2=>(other k (fun e=>h1 _ _ gFl e.symm)).trans h2)
    refine ⟨none,W3,hend,?_⟩
    clear hend hjoin hcell hfroz
    gi_wp2
    refine ⟨trivial,CallsIn.mono ((callsIn_wide (n:=2)).2 hj3) ?_⟩
    rintro e W4 ⟨rfl,hb4⟩
    have hK4:W4.heap[w.heap.size+3]? = some (.deferred (some [])):=(hb4.block _ (Array.getElem?_eq_some_iff.1 hK3).1).trans hK3
    have hw4:Below w.heap.size w W4:=hb3.trans (hb4.mono hb3.size)
    gi_wp2
    refine ⟨by simp,.inl ⟨_,_,rfl,run_takeDeferred hK4,?_⟩⟩
    refine ⟨_,results_tmp rfl _ _ _,rfl,?_⟩
    exact hw4.grown (grownBy_putObj' _ _ _) hw4.size (fun k e=>by cases e;omega)
end Go.Proofs
namespace Pam
open Go Go.Proofs Go.RowKit
set_option maxRecDepth 100000 in
theorem whole_spec(nd:aK→Option Ω)(hnd:∀ x r,nd x=some r→a8 Tryz.prog 43 [.a (aK.enc x)] (.c (.str r)))(l:List aK)(q:List Ω)(hq:List.mapM nd l=some q)(h0:l.length≤1048576)(h1:(Go.Lib.join q []).length≤140737488355328) :
    a8 Tryz.prog 19 [.a [.tree 7 (l.map aK.enc)]] (.c (.str (Go.Lib.join q []))):=by
  refine ⟨⟨_,Tryz.func19,rfl,by kernel_rfl⟩,fun G w vs hna _ hi ha=>?_⟩
  have hT:wQ fun b=>w.heap[b]? := G.tabs.mono hi.hH
  match vs,ha with
  |[v0],ha =>
    obtain ⟨us,rfl,hus⟩:si G (.a [.tree 7 (l.map aK.enc)]) v0:=ha.1
    match us,hus with
    |[u],hus =>
      have ha0:br (fun b=>w.heap[b]?) (.tree 7 (l.map aK.enc)) u:=br.mono hi.hH hus.1
      have fin:∀ e w',e=Ending.returned (.string ⟨(Go.Lib.join q []).toArray⟩)∧Below w.heap.size w w' →
          ∃ G' σ' p v,Gle G G'∧Inv G' σ' w'∧bg G' p v∧((e=.returned v∧(p=.c (.str (Go.Lib.join q []))∧σ'=[]))∨(e=.panicked [{ v:=v,recovered:=false }]∧False)):=by
        rintro e w' ⟨rfl,hb⟩
        exact ⟨G,[],.c (.str (Go.Lib.join q [])),_,Gle.refl G,hi.grown0 hb,.str _,.inl ⟨rfl,rfl,rfl⟩⟩
      generalize hes:l.map aK.enc=es at ha0
      cases ha0 with
      |tree0 _ a cap hc =>
        have hp:l=[]:=by simpa using hes
        subst hp
        have key:=Tryz.whole_calls nd hnd [] q hq h0 h1 w hT 0 0 cap a [] rfl (fun h=>absurd h (Nat.lt_irrefl 0)) (fun h=>absurd h (Nat.lt_irrefl 0)) (fun j x h=>by simp at h)
        exact Calls.mono key fun e w' h=>fin e w' h
      |tree _ _ blk off cap c T fz g hbk hcap hs hg hr =>
        subst hes
        obtain ⟨zs,hzl,hz⟩:=NV.all l hbk hg hr
        rw [List.length_map]
        have key:=Tryz.whole_calls nd hnd l q hq h0 h1 w hT blk off cap (some ⟨blk,off,none⟩) zs hzl (fun _=>(Array.getElem?_eq_some_iff.1 hbk).1) (fun _=>rfl) hz
        exact Calls.mono key fun e w' h=>fin e w' h
    |[],hus=>exact absurd hus (by simp [aW])
    |_ :: _ :: _,hus=>exact absurd hus (by simp [aW])
  |[],ha=>exact absurd ha (by simp [aW])
  |_ :: _ :: _,ha=>exact absurd ha (by simp [aW])
end Pam
set_option linter.unusedVariables false
namespace Go.Proofs
open Go Go.RowKit Go.Shelf Pam
theorem Tryz.bF_keep{T e:TypeId}{B b:Nat}{bs:List Value}{w w':World}(h:Lib.IsBuilderF T e B b bs w)(hk:∀ (k:Nat) (o:Obj),w.heap[k]? = some o→w'.heap[k]? = some o):Lib.IsBuilderF T e B b bs w':=by
  have key:∀ p,Lib.BuilderAtF T e B b p bs w→Lib.BuilderAtF T e B b p bs w':=fun p h=>by
    obtain ⟨hB,v,hb,hown,hne⟩:=h
    refine ⟨hB,v,hk _ _ hb,?_,hne⟩
    obtain ⟨h1,h2⟩:=hown
    refine ⟨h1,?_⟩
    rcases h2 with h2|⟨g,cap,cur,fz,q1,q2,q3,q4⟩
    · exact .inl h2
    · exact .inr ⟨g,cap,cur,fz,q1,q2,hk _ _ q3,q4⟩
  exact h.imp (key _) (key _)
def Tryz.tv(n:Int)(s:Ω):Obj:=.cells #[.int .i64 n,.string ⟨s.toArray⟩] 83 (0,0)
theorem Tryz.cell_tv{w:World}{V:Nat}{n:Int}{name:Ω}(h:w.heap[V]? = some (Tryz.tv n name)):w.cell? ⟨V,1,none⟩=some (.string ⟨name.toArray⟩):=by
  unfold World.cell?;rw [h];rfl
theorem Tryz.ws_c(b V:Nat)(l:Ω)(s:ByteArray)(n:Int)(name:Ω)(w:World)(hB:Lib.IsBuilderF 126 5 b b (Lib.byteCells l) w)(hl:l.length+s.data.toList.length≤140737488355328)
    (hV:w.heap[V]? = some (Tryz.tv n name)) (hVb:V≠b) :
    Calls Tryz.prog 72 #[.pointer (some ⟨b,0,none⟩),.string s] w fun e w'=>e=.returned (.tuple #[.int .i64 s.size,.nilIface])∧Lib.IsBuilderF 126 5 b b (Lib.byteCells (l++s.data.toList)) w'∧Below b w w'∧w'.heap[V]? = some (Tryz.tv n name)∧w'.cell? ⟨V,1,none⟩=some (.string ⟨name.toArray⟩):=by
  have hlt:b<w.heap.size:=by
    rcases hB with h|h<;>exact h.lt
  refine (Any.Builder_WriteString_k (P:=Tryz.prog) (ρ:=Tryz.lays156_ren) { rI with } qv b b (Lib.byteCells l) s w hB (by rw [Lib.byteCells_length,Lib.size_eq];exact hl) (Nat.le_of_lt hlt)).mono ?_
  rintro e w' ⟨rfl,h1,h2,h3⟩
  have hV':w'.heap[V]? = some (Tryz.tv n name):=h3 V _ hV (fun e=>hVb (Option.some.inj e)) (fun c fz e=>by injection e with _ e2 _;exact absurd e2 (by decide))
  refine ⟨rfl,?_,h2,hV',Tryz.cell_tv hV'⟩
  rw [Lib.byteCells_append]
  exact .inr h1
theorem Tryz.fi_c(b V:Nat)(l:Ω)(n m:Int)(name:Ω)(w:World)(hB:Lib.IsBuilderF 126 5 b b (Lib.byteCells l) w)(hV:w.heap[V]? = some (Tryz.tv n name))
    (hT:Lib.TabIs Tryz.prog w "internal/strconv.uint64pow10" .u64 Lib.pow10Tab) (h0:-9223372036854775808≤m) (h1:m≤9223372036854775807) :
    Calls Tryz.prog 78 #[.int .i64 m,.int .i64 10] w fun e w'=>e=.returned (.string ⟨(Lib.itoa m).toArray⟩)∧Lib.IsBuilderF 126 5 b b (Lib.byteCells l) w'∧Below b w w'∧w'.heap[V]? = some (Tryz.tv n name)∧w'.cell? ⟨V,1,none⟩=some (.string ⟨name.toArray⟩):=by
  have hlt:b<w.heap.size:=by
    rcases hB with h|h<;>exact h.lt
  refine (Any.strconv_FormatInt_10 AE m h0 h1 w hT).mono ?_
  rintro e w' ⟨rfl,k,os,rfl⟩
  have hk:∀ (k':Nat) (o:Obj),w.heap[k']? = some o→(Go.Sort.grow (w.drewN k) os).heap[k']? = some o:=fun k' o h=>by
    simp only [Go.Sort.grow,World.drewN]
    rw [Array.getElem?_append_left (Array.getElem?_eq_some_iff.1 h).1];exact h
  refine ⟨rfl,Tryz.bF_keep hB hk,⟨rfl,rfl,rfl,by simp [Go.Sort.grow,World.drewN],fun j hj=>?_⟩,hk _ _ hV,Tryz.cell_tv (hk _ _ hV)⟩
  simp only [Go.Sort.grow,World.drewN]
  exact Array.getElem?_append_left (by omega)
theorem Tryz.st_c(b:Nat)(l:Ω)(w:World)(hB:Lib.IsBuilderF 126 5 b b (Lib.byteCells l) w) :
    Calls Tryz.prog 73 #[.pointer (some ⟨b,0,none⟩)] w fun e w'=>e=.returned (.string ⟨l.toArray⟩)∧Below b w w':=by
  have hlt:b<w.heap.size:=by
    rcases hB with h|h<;>exact h.lt
  refine (Any.Builder_String_any_k (P:=Tryz.prog) (ρ:=Tryz.lays156_ren) { rI with } qv b b l w hB (Nat.le_of_lt hlt)).mono ?_
  rintro e w' ⟨rfl,_,h2,_⟩
  exact ⟨rfl,h2⟩
theorem Tryz.bd(B:Nat)(w:World):Below B w w.drew:=⟨rfl,rfl,rfl,Nat.le_refl _,fun _ _=>rfl⟩
theorem Tryz.hidS{p:Prop}(h:p):Hid p:=h
theorem termsT_snoc(l:List (Int×Ω))(x:Int×Ω):fq true (l++[x])=fq true l++ny l.isEmpty x.1 x.2:=by
  have key:∀ (l:List (Int×Ω)) (f:Bool),fq f (l++[x])=fq f l++ny (f && l.isEmpty) x.1 x.2:=by
    intro l
    induction l with
    |nil=>intro f;simp [fq]
    |cons y l ih=>intro f;simp [fq,ih]
  simpa using key l true
theorem termsT_le(l:List (Int×Ω))(k:Nat):(fq true (l.take k)).length≤(fq true l).length:=by
  have key:∀ (l:List (Int×Ω)) (k:Nat) (f:Bool),(fq f (l.take k)).length≤(fq f l).length:=by
    intro l
    induction l with
    |nil=>intro k f;simp
    |cons y l ih =>
      intro k f
      cases k with
      |zero=>simp [fq]
      |succ k=>simp only [List.take_succ_cons,fq,List.length_append];have:=ih k false;omega
  exact key l k true
set_option maxHeartbeats 400000000 in
set_option maxRecDepth 100000 in
theorem Tryz.size_calls(zs:List (Int×Ω))(h0:zs.length≤1048576)(h1:∀ t∈zs,-9223372036854775808<t.1∧t.1≤9223372036854775807)(h2:(fq true zs).length≤140737488355328)
    (sa:Option Addr) (bk off cap:Nat) (hsa:zs≠[]→sa=some ⟨bk,off,none⟩) (w:World) (hbk:zs≠[]→bk<w.heap.size)
    (hc:∀ (j:Nat) (x:Int×Ω),zs[j]? = some x→w.cell? ⟨bk,off+j * 2,none⟩=some (.int .i64 x.1)∧w.cell? ⟨bk,off+j * 2+1,none⟩=some (.string ⟨x.2.toArray⟩))
    (hT:Lib.TabIs Tryz.prog w "internal/strconv.uint64pow10" .u64 Lib.pow10Tab) :
    Calls Tryz.prog 101 #[.slice sa zs.length cap] w fun e w'=>e=.returned (.string ⟨(fq true zs).toArray⟩)∧Below w.heap.size w w':=by
  have e72:∀ args w,(callFunc 72 args).run Tryz.prog w=.ok (.enter 72 args) w:=enters_of Tryz.func72 (by kernel_rfl) rfl
  have e73:∀ args w,(callFunc 73 args).run Tryz.prog w=.ok (.enter 73 args) w:=enters_of Tryz.func73 (by kernel_rfl) rfl
  have e78:∀ args w,(callFunc 78 args).run Tryz.prog w=.ok (.enter 78 args) w:=enters_of Tryz.func78 (by kernel_rfl) rfl
  have HC:=Tryz.hidS hc
  have HT:=Tryz.hidS hT
  have HL:=Tryz.hidS h2
  have HR:=Tryz.hidS h1
  clear hc hT h2 h1
  go_enter Tryz.func101,Tryz.ntmps101
  go_wp2
  have hB0:Lib.IsBuilderF 126 5 w.heap.size w.heap.size (Lib.byteCells []) (w.alloc (.cells #[.pointer none,.slice none 0 0] 126)):=Lib.IsBuilderF.of (Lib.fresh_isBuilder 126 5 w)
  go_loopw [9] (fun i wr=>∃ k:Nat,k≤zs.length∧i=.int .i64 k∧Hid (Lib.IsBuilderF 126 5 w.heap.size w.heap.size (Lib.byteCells (fq true (zs.take k))) wr)∧Hid (Below w.heap.size w wr)) (fun i _=>zs.length - (intOf i).toNat)
  case atStart=>exact ⟨0,Nat.zero_le _,rfl,Tryz.hidS (by simpa [fq] using hB0),Tryz.hidS ((Below.refl _ w).alloc (Nat.le_refl _) _)⟩
  case round =>
    obtain ⟨k,hk,rfl,HB,HW⟩:=hrel
    by_cases hkn:k<zs.length
    · obtain ⟨x,hx⟩:∃ x,zs[k]? = some x:=⟨_,List.getElem?_eq_getElem hkn⟩
      obtain ⟨hc0,hc1⟩:=HC.out k x hx
      obtain ⟨hr0,hr1⟩:=HR.out x (List.mem_of_getElem? hx)
      have hne:zs≠[]:=by rintro rfl;simp at hkn
      obtain rfl:=hsa hne
      have hbk':=hbk hne
      have hcx0:wr.cell? ⟨bk,off+k * 2,none⟩=some (.int .i64 x.1):=(HW.out.cell (p:=⟨bk,off+k * 2,none⟩) hbk').trans hc0
      have hcx1:wr.cell? ⟨bk,off+k * 2+1,none⟩=some (.string ⟨x.2.toArray⟩):=(HW.out.cell (p:=⟨bk,off+k * 2+1,none⟩) hbk').trans hc1
      have hsn:fq true (zs.take (k+1))=fq true (zs.take k)++ny (zs.take k).isEmpty x.1 x.2:=by
        rw [List.take_add_one,hx];exact termsT_snoc _ _
      have hle:(fq true (zs.take k)).length+(ny (zs.take k).isEmpty x.1 x.2).length≤140737488355328:=by
        have q1:=termsT_le zs (k+1)
        have q2:=HL.out
        rw [hsn,List.length_append] at q1
        omega
      have hem:(zs.take k).isEmpty=decide (k=0):=by
        cases k with
        |zero=>simp
        |succ k=>cases zs with
          |nil=>simp at hne
          |cons a b=>simp
      rw [hem] at hsn hle
      have hB1:=Lib.IsBuilderF.alloc HB.out (Tryz.tv x.1 x.2)
      have hV1:(wr.alloc (Tryz.tv x.1 x.2)).heap[wr.heap.size]? = some (Tryz.tv x.1 x.2):=heap_alloc_new wr _
      have hw1:Below w.heap.size w (wr.alloc (Tryz.tv x.1 x.2)):=HW.out.alloc HW.out.size _
      obtain ⟨n,name⟩:=x
      simp only at hcx0 hcx1 hr0 hr1 hsn hle hB1 hV1 hw1
      clear hc0 hc1 hx hem
      generalize hT0:fq true (zs.take k)=T0 at hsn hle hB1 HB
      generalize hT1:fq true (zs.take (k+1))=T1 at hsn
      have HT1:=Tryz.hidS hT1
      clear hT0 hT1
      have hwr:IntKind.i64.wrap (-n) = -n:=by rw [IntKind.wrap_i64];omega
      have hVb:wr.heap.size≠w.heap.size:=by
        have:=HB.out
        rcases this with h|h<;>(have:=h.lt;omega)
      by_cases hk0:k=0
      · subst hk0
        simp only [Nat.zero_mul,Nat.add_zero] at hcx0 hcx1
        by_cases hn:n<0
        · have hs1:T1=(T0++[45])++ku (-n) name:=by rw [hsn];simp [ny,hn,hn]
          have hl1:(T0++[45]).length+(ku (-n) name).length≤140737488355328:=by have:=hle;simp [ny,hn,hn] at this ⊢;omega
          clear hsn hle
          go_wp2_with fail
          refine (Tryz.ws_c w.heap.size wr.heap.size T0 ⟨#[45]⟩ n name _ hB1 (by have:=hl1;simp at this ⊢;omega) hV1 hVb).mono ?_
          rintro e w2 ⟨rfl,B2,b2,V2,hcV⟩
          have hw2:=hw1.trans b2
          clear hw1 b2 hB1 hV1
          have hT2:Lib.TabIs Tryz.prog w2 "internal/strconv.uint64pow10" .u64 Lib.pow10Tab:=Go.Joins.tab_stays qW HT.out hw2 (Nat.le_refl _)
          by_cases hne:name=[]
          · subst hne
            go_wp2_with fail
            refine (Tryz.fi_c w.heap.size wr.heap.size (T0++[45]) n (-n) [] w2 B2 V2 hT2 (by omega) (by omega)).mono ?_
            rintro e w3 ⟨rfl,B3,b3,V3,c3⟩
            go_wp2_with fail
            refine (Tryz.ws_c w.heap.size wr.heap.size (T0++[45]) _ n [] w3 B3 (by simp [ku] at hl1 ⊢;omega) V3 hVb).mono ?_
            rintro e w4 ⟨rfl,B4,b4,V4,c4⟩
            have hwz:=(hw2.trans b3).trans b4
            go_wp2
            exact ⟨⟨0+1,by omega,by go_num,by rw [HT1.out,hs1];exact Tryz.hidS (by simpa [ku,Go.Joins.data_append,List.append_assoc] using B4),Tryz.hidS hwz⟩,by simp [intOf];omega⟩
          · have hne1:name.isEmpty=false:=by cases name;exact absurd rfl hne;rfl
            by_cases hm:(-n)=1
            · have hm1:((-n) == 1)=true:=by simpa using hm
              go_wp2_with fail
              refine (Tryz.ws_c w.heap.size wr.heap.size (T0++[45]) _ n name w2 B2 (by simp [ku,hne,hm] at hl1 ⊢;omega) V2 hVb).mono ?_
              rintro e w4 ⟨rfl,B4,b4,V4,c4⟩
              have hwz:=hw2.trans b4
              go_wp2
              exact ⟨⟨0+1,by omega,by go_num,by rw [HT1.out,hs1];exact Tryz.hidS (by simpa [ku,Go.Joins.data_append,List.append_assoc,hne,hm] using B4),Tryz.hidS hwz⟩,by simp [intOf];omega⟩
            · have hm1:((-n) == 1)=false:=by simpa using hm
              have hq:(Lib.itoa (-n)).length+1+name.length≤140737488355328:=by simp [ku,hne,hm] at hl1;omega
              have hq1:(Lib.itoa (-n)).length≤9223372036854775806:=by omega
              have hq2:¬ (9223372036854775806<(Lib.itoa (-n)).length):=by omega
              have hq3:¬ (9223372036854775807<(Lib.itoa (-n)).length+1+name.length):=by omega
              go_wp2_with fail
              go_region_with
                (first
                  |(go_at_call 78;refine (Tryz.fi_c w.heap.size wr.heap.size (T0++[45]) n (-n) name _ ?_ ?_ ?_ ?_ ?_).mono ?_;exact B2;exact V2;exact hT2;omega;omega;rintro e w3 ⟨rfl,B3,b3,V3,c3⟩)
                  |(go_at_call 72;refine (Tryz.ws_c w.heap.size wr.heap.size (T0++[45]) _ n name _ B3 ?_ V3 hVb).mono ?_;(simp [ku,Go.Joins.data_append,hne,hm] at hl1 ⊢;omega);rintro e w4 ⟨rfl,B4,b4,V4,c4⟩))
              all_goals (
                have hwz:=((hw2.trans (Tryz.bd _ _)).trans b3).trans b4
                go_wp2
                exact ⟨⟨0+1,by omega,by go_num,by rw [HT1.out,hs1];exact Tryz.hidS (by simpa [ku,Go.Joins.data_append,List.append_assoc,hne,hm] using B4),Tryz.hidS hwz⟩,by simp [intOf];omega⟩)
        · have hs1:T1=(T0++[])++ku n name:=by rw [hsn];simp [ny,hn,hn]
          have hl1:(T0++[]).length+(ku n name).length≤140737488355328:=by have:=hle;simp [ny,hn,hn] at this ⊢;omega
          clear hsn hle
          rw [List.append_nil] at hs1 hl1
          have HB1:Hid (Lib.IsBuilderF 126 5 w.heap.size w.heap.size (Lib.byteCells T0) (wr.alloc (.cells #[.int .i64 n,.string ⟨name.toArray⟩] 83))):=hB1
          have HV1:Hid ((wr.alloc (.cells #[.int .i64 n,.string ⟨name.toArray⟩] 83)).heap[wr.heap.size]? = some (Tryz.tv n name)):=hV1
          have Hw1:Hid (Below w.heap.size w (wr.alloc (.cells #[.int .i64 n,.string ⟨name.toArray⟩] 83))):=hw1
          have HT2:Hid (Lib.TabIs Tryz.prog (wr.alloc (.cells #[.int .i64 n,.string ⟨name.toArray⟩] 83)) "internal/strconv.uint64pow10" .u64 Lib.pow10Tab):=Go.Joins.tab_stays qW HT.out hw1 (Nat.le_refl _)
          clear hB1 hV1 hw1
          by_cases hne:name=[]
          · subst hne
            go_wp2_with fail
            refine (Tryz.fi_c w.heap.size wr.heap.size T0 n n [] _ HB1.out HV1.out HT2.out (by omega) (by omega)).mono ?_
            rintro e w3 ⟨rfl,B3,b3,V3,c3⟩
            go_wp2_with fail
            refine (Tryz.ws_c w.heap.size wr.heap.size T0 _ n [] w3 B3 (by simp [ku] at hl1 ⊢;omega) V3 hVb).mono ?_
            rintro e w4 ⟨rfl,B4,b4,V4,c4⟩
            have hwz:=(Hw1.out.trans b3).trans b4
            go_wp2
            exact ⟨⟨0+1,by omega,by go_num,by rw [HT1.out,hs1];exact Tryz.hidS (by simpa [ku,Go.Joins.data_append,List.append_assoc] using B4),Tryz.hidS hwz⟩,by simp [intOf];omega⟩
          · have hne1:name.isEmpty=false:=by cases name;exact absurd rfl hne;rfl
            by_cases hm:n=1
            · subst hm
              go_wp2_with fail
              refine (Tryz.ws_c w.heap.size wr.heap.size T0 _ 1 name _ HB1.out (by simp [ku,hne] at hl1 ⊢;omega) HV1.out hVb).mono ?_
              rintro e w4 ⟨rfl,B4,b4,V4,c4⟩
              have hwz:=Hw1.out.trans b4
              go_wp2
              exact ⟨⟨0+1,by omega,by go_num,by rw [HT1.out,hs1];exact Tryz.hidS (by simpa [ku,Go.Joins.data_append,List.append_assoc,hne] using B4),Tryz.hidS hwz⟩,by simp [intOf];omega⟩
            · have hm1:(n == 1)=false:=by simpa using hm
              have hq:(Lib.itoa n).length+1+name.length≤140737488355328:=by simp [ku,hne,hm] at hl1;omega
              have hq1:(Lib.itoa n).length≤9223372036854775806:=by omega
              have hq2:¬ (9223372036854775806<(Lib.itoa n).length):=by omega
              have hq3:¬ (9223372036854775807<(Lib.itoa n).length+1+name.length):=by omega
              go_wp2_with fail
              go_region_with
                (first
                  |(go_at_call 78;refine (Tryz.fi_c w.heap.size wr.heap.size T0 n n name _ ?_ ?_ ?_ ?_ ?_).mono ?_;exact HB1.out;exact HV1.out;exact HT2.out;omega;omega;rintro e w3 ⟨rfl,B3,b3,V3,c3⟩)
                  |(go_at_call 72;refine (Tryz.ws_c w.heap.size wr.heap.size T0 _ n name _ B3 ?_ V3 hVb).mono ?_;(simp [ku,Go.Joins.data_append,hne,hm] at hl1 ⊢;omega);rintro e w4 ⟨rfl,B4,b4,V4,c4⟩))
              all_goals (
                have hwz:=((Hw1.out.trans (Tryz.bd _ _)).trans b3).trans b4
                go_wp2
                exact ⟨⟨0+1,by omega,by go_num,by rw [HT1.out,hs1];exact Tryz.hidS (by simpa [ku,Go.Joins.data_append,List.append_assoc,hne,hm] using B4),Tryz.hidS hwz⟩,by simp [intOf];omega⟩)
      · by_cases hn:n<0
        · have hs1:T1=(T0++[32,45,32])++ku (-n) name:=by rw [hsn];simp [ny,hk0,hn]
          have hl1:(T0++[32,45,32]).length+(ku (-n) name).length≤140737488355328:=by have:=hle;simp [ny,hk0,hn] at this ⊢;omega
          clear hsn hle
          go_wp2_with fail
          refine (Tryz.ws_c w.heap.size wr.heap.size T0 ⟨#[32,45,32]⟩ n name _ hB1 (by have:=hl1;simp at this ⊢;omega) hV1 hVb).mono ?_
          rintro e w2 ⟨rfl,B2,b2,V2,hcV⟩
          have hw2:=hw1.trans b2
          clear hw1 b2 hB1 hV1
          have hT2:Lib.TabIs Tryz.prog w2 "internal/strconv.uint64pow10" .u64 Lib.pow10Tab:=Go.Joins.tab_stays qW HT.out hw2 (Nat.le_refl _)
          by_cases hne:name=[]
          · subst hne
            go_wp2_with fail
            refine (Tryz.fi_c w.heap.size wr.heap.size (T0++[32,45,32]) n (-n) [] w2 B2 V2 hT2 (by omega) (by omega)).mono ?_
            rintro e w3 ⟨rfl,B3,b3,V3,c3⟩
            go_wp2_with fail
            refine (Tryz.ws_c w.heap.size wr.heap.size (T0++[32,45,32]) _ n [] w3 B3 (by simp [ku] at hl1 ⊢;omega) V3 hVb).mono ?_
            rintro e w4 ⟨rfl,B4,b4,V4,c4⟩
            have hwz:=(hw2.trans b3).trans b4
            go_wp2
            exact ⟨⟨k+1,by omega,by go_num,by rw [HT1.out,hs1];exact Tryz.hidS (by simpa [ku,Go.Joins.data_append,List.append_assoc] using B4),Tryz.hidS hwz⟩,by simp [intOf];omega⟩
          · have hne1:name.isEmpty=false:=by cases name;exact absurd rfl hne;rfl
            by_cases hm:(-n)=1
            · have hm1:((-n) == 1)=true:=by simpa using hm
              go_wp2_with fail
              refine (Tryz.ws_c w.heap.size wr.heap.size (T0++[32,45,32]) _ n name w2 B2 (by simp [ku,hne,hm] at hl1 ⊢;omega) V2 hVb).mono ?_
              rintro e w4 ⟨rfl,B4,b4,V4,c4⟩
              have hwz:=hw2.trans b4
              go_wp2
              exact ⟨⟨k+1,by omega,by go_num,by rw [HT1.out,hs1];exact Tryz.hidS (by simpa [ku,Go.Joins.data_append,List.append_assoc,hne,hm] using B4),Tryz.hidS hwz⟩,by simp [intOf];omega⟩
            · have hm1:((-n) == 1)=false:=by simpa using hm
              have hq:(Lib.itoa (-n)).length+1+name.length≤140737488355328:=by simp [ku,hne,hm] at hl1;omega
              have hq1:(Lib.itoa (-n)).length≤9223372036854775806:=by omega
              have hq2:¬ (9223372036854775806<(Lib.itoa (-n)).length):=by omega
              have hq3:¬ (9223372036854775807<(Lib.itoa (-n)).length+1+name.length):=by omega
              go_wp2_with fail
              go_region_with
                (first
                  |(go_at_call 78;refine (Tryz.fi_c w.heap.size wr.heap.size (T0++[32,45,32]) n (-n) name _ ?_ ?_ ?_ ?_ ?_).mono ?_;exact B2;exact V2;exact hT2;omega;omega;rintro e w3 ⟨rfl,B3,b3,V3,c3⟩)
                  |(go_at_call 72;refine (Tryz.ws_c w.heap.size wr.heap.size (T0++[32,45,32]) _ n name _ B3 ?_ V3 hVb).mono ?_;(simp [ku,Go.Joins.data_append,hne,hm] at hl1 ⊢;omega);rintro e w4 ⟨rfl,B4,b4,V4,c4⟩))
              all_goals (
                have hwz:=((hw2.trans (Tryz.bd _ _)).trans b3).trans b4
                go_wp2
                exact ⟨⟨k+1,by omega,by go_num,by rw [HT1.out,hs1];exact Tryz.hidS (by simpa [ku,Go.Joins.data_append,List.append_assoc,hne,hm] using B4),Tryz.hidS hwz⟩,by simp [intOf];omega⟩)
        · have hs1:T1=(T0++[32,43,32])++ku n name:=by rw [hsn];simp [ny,hk0,hn]
          have hl1:(T0++[32,43,32]).length+(ku n name).length≤140737488355328:=by have:=hle;simp [ny,hk0,hn] at this ⊢;omega
          clear hsn hle
          go_wp2_with fail
          refine (Tryz.ws_c w.heap.size wr.heap.size T0 ⟨#[32,43,32]⟩ n name _ hB1 (by have:=hl1;simp at this ⊢;omega) hV1 hVb).mono ?_
          rintro e w2 ⟨rfl,B2,b2,V2,hcV⟩
          have hw2:=hw1.trans b2
          clear hw1 b2 hB1 hV1
          have hT2:Lib.TabIs Tryz.prog w2 "internal/strconv.uint64pow10" .u64 Lib.pow10Tab:=Go.Joins.tab_stays qW HT.out hw2 (Nat.le_refl _)
          by_cases hne:name=[]
          · subst hne
            go_wp2_with fail
            refine (Tryz.fi_c w.heap.size wr.heap.size (T0++[32,43,32]) n n [] w2 B2 V2 hT2 (by omega) (by omega)).mono ?_
            rintro e w3 ⟨rfl,B3,b3,V3,c3⟩
            go_wp2_with fail
            refine (Tryz.ws_c w.heap.size wr.heap.size (T0++[32,43,32]) _ n [] w3 B3 (by simp [ku] at hl1 ⊢;omega) V3 hVb).mono ?_
            rintro e w4 ⟨rfl,B4,b4,V4,c4⟩
            have hwz:=(hw2.trans b3).trans b4
            go_wp2
            exact ⟨⟨k+1,by omega,by go_num,by rw [HT1.out,hs1];exact Tryz.hidS (by simpa [ku,Go.Joins.data_append,List.append_assoc] using B4),Tryz.hidS hwz⟩,by simp [intOf];omega⟩
          · have hne1:name.isEmpty=false:=by cases name;exact absurd rfl hne;rfl
            by_cases hm:n=1
            · have hm1:(n == 1)=true:=by simpa using hm
              go_wp2_with fail
              refine (Tryz.ws_c w.heap.size wr.heap.size (T0++[32,43,32]) _ n name w2 B2 (by simp [ku,hne,hm] at hl1 ⊢;omega) V2 hVb).mono ?_
              rintro e w4 ⟨rfl,B4,b4,V4,c4⟩
              have hwz:=hw2.trans b4
              go_wp2
              exact ⟨⟨k+1,by omega,by go_num,by rw [HT1.out,hs1];exact Tryz.hidS (by simpa [ku,Go.Joins.data_append,List.append_assoc,hne,hm] using B4),Tryz.hidS hwz⟩,by simp [intOf];omega⟩
            · have hm1:(n == 1)=false:=by simpa using hm
              have hq:(Lib.itoa n).length+1+name.length≤140737488355328:=by simp [ku,hne,hm] at hl1;omega
              have hq1:(Lib.itoa n).length≤9223372036854775806:=by omega
              have hq2:¬ (9223372036854775806<(Lib.itoa n).length):=by omega
              have hq3:¬ (9223372036854775807<(Lib.itoa n).length+1+name.length):=by omega
              go_wp2_with fail
              go_region_with
                (first
                  |(go_at_call 78;refine (Tryz.fi_c w.heap.size wr.heap.size (T0++[32,43,32]) n n name _ ?_ ?_ ?_ ?_ ?_).mono ?_;exact B2;exact V2;exact hT2;omega;omega;rintro e w3 ⟨rfl,B3,b3,V3,c3⟩)
                  |(go_at_call 72;refine (Tryz.ws_c w.heap.size wr.heap.size (T0++[32,43,32]) _ n name _ B3 ?_ V3 hVb).mono ?_;(simp [ku,Go.Joins.data_append,hne,hm] at hl1 ⊢;omega);rintro e w4 ⟨rfl,B4,b4,V4,c4⟩))
              all_goals (
                have hwz:=((hw2.trans (Tryz.bd _ _)).trans b3).trans b4
                go_wp2
                exact ⟨⟨k+1,by omega,by go_num,by rw [HT1.out,hs1];exact Tryz.hidS (by simpa [ku,Go.Joins.data_append,List.append_assoc,hne,hm] using B4),Tryz.hidS hwz⟩,by simp [intOf];omega⟩)
    · have hke:k=zs.length:=by omega
      subst hke
      have hB':=HB.out
      rw [List.take_length] at hB'
      go_wp2_with fail
      refine (Tryz.st_c w.heap.size _ wr hB').mono ?_
      rintro e w5 ⟨rfl,hb5⟩
      have Hb5:=Tryz.hidS (HW.out.trans hb5)
      clear hb5 hB'
      go_wp2
      go_ret
      exact ⟨rfl,Hb5.out⟩
end Go.Proofs
namespace Pam
open Go Go.Proofs Go.RowKit
set_option maxRecDepth 100000 in
set_option maxHeartbeats 4000000 in
theorem size_spec(p1:List an)(h0:p1.length≤1048576)(h1:∀ t∈p1,-9223372036854775808<t.n∧t.n≤9223372036854775807)(h2:(fq true (p1.map fun t=>(t.n,t.name))).length≤140737488355328) :
    a8 Tryz.prog 101 [.c (.tree 2 (p1.map an.enc))] (.c (.str (fq true (p1.map fun t=>(t.n,t.name))))):=by
  refine ⟨⟨_,Tryz.func101,rfl,by kernel_rfl⟩,fun G w vs hna _ hi ha=>?_⟩
  match vs,ha with
  |[v0],ha =>
    have ha0:br G.H (.tree 2 (p1.map an.enc)) v0:=ha.1
    have hT:=AD hi qW
    have hl:(p1.map fun t=>(t.n,t.name)).length=p1.length:=by simp
    have h1':∀ t∈p1.map fun t=>(t.n,t.name),-9223372036854775808<t.1∧t.1≤9223372036854775807:=fun t ht=>by
      obtain ⟨u,hu,rfl⟩:=List.mem_map.1 ht
      exact h1 u hu
    have fin:∀ e w',e=Ending.returned (.string ⟨(fq true (p1.map fun t=>(t.n,t.name))).toArray⟩)∧Below w.heap.size w w' →
        ∃ G' σ' p v,Gle G G'∧Inv G' σ' w'∧bg G' p v∧((e=.returned v∧(p=.c (.str (fq true (p1.map fun t=>(t.n,t.name))))∧σ'=[]))∨(e=.panicked [{ v:=v,recovered:=false }]∧False)):=by
      rintro e w' ⟨rfl,hb⟩
      exact ⟨G,[],.c (.str (fq true (p1.map fun t=>(t.n,t.name)))),_,Gle.refl G,hi.grown0 hb,.str _,.inl ⟨rfl,rfl,rfl⟩⟩
    generalize hes:p1.map an.enc=es at ha0
    cases ha0 with
    |tree0 _ a cap hc =>
      have hp:p1=[]:=by simpa using hes
      subst hp
      exact (Tryz.size_calls [] (by simp) (by simp) (by simp [fq]) a 0 0 cap (fun h=>absurd rfl h) w (fun h=>absurd rfl h) (fun j x h=>by simp at h) hT).mono fun e w' h=>fin e w' h
    |tree _ _ blk off cap c T fz g hbk hcap hs hg hr =>
      subst hes
      have hw:=hi.hH _ _ hbk
      rw [List.length_map,← hl]
      have hc':∀ (j:Nat) (x:Int×Ω),(p1.map fun t=>(t.n,t.name))[j]? = some x→w.cell? ⟨blk,off+j * 2,none⟩=some (.int .i64 x.1)∧w.cell? ⟨blk,off+j * 2+1,none⟩=some (.string ⟨x.2.toArray⟩):=by
        intro j x hx
        rw [List.getElem?_map,Option.map_eq_some_iff] at hx
        obtain ⟨t,ht,rfl⟩:=hx
        have he:(p1.map an.enc)[j]? = some (an.enc t):=by rw [List.getElem?_map,ht];rfl
        have k0:=hg j 0 _ (.int .i64 t.n) he rfl
        have k1:=hg j 1 _ (.str t.name) he rfl
        have r0:=hr j 0 _ (.int .i64 t.n) he rfl
        have r1:=hr j 1 _ (.str t.name) he rfl
        generalize g j 0=y0 at k0 r0
        generalize g j 1=y1 at k1 r1
        cases r0;cases r1
        rw [Nat.add_zero] at k0
        have cc:∀ k,w.cell? ⟨blk,k,none⟩=c[k]? := fun k=>by unfold World.cell?;rw [hw];rfl
        exact ⟨(cc _).trans k0,(cc _).trans k1⟩
      have key:=Tryz.size_calls (p1.map fun t=>(t.n,t.name)) (by rw [hl];exact h0) h1' h2 (some ⟨blk,off,none⟩) blk off cap (fun _=>rfl) w (fun _=>(Array.getElem?_eq_some_iff.1 hw).1) hc' hT
      exact Calls.mono key fun e w' h=>fin e w' h
  |[],ha=>exact absurd ha (by simp [aW])
  |_ :: _ :: _,ha=>exact absurd ha (by simp [aW])
end Pam
