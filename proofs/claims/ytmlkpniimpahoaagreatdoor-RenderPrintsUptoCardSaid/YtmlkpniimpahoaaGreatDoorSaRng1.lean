/- slices.All of nodes: its closure, whatever the loop's body is -/
import Derived.RangeFuncBox
import Derived.RangeFuncLeaves
import Derived.RangeFuncGives
import Derived.Shelf.Abstract
import Derived.WalkKit
import Derived.OwnWalkIn
import Derived.TacticsInMore
import Derived.LoopNIn
import Derived.LoopIn
import Derived.Maps.AppendAt
import Derived.Test.YtmlkpniimpahoaaGreatDoorSaData1
import Derived.Test.YtmlkpniimpahoaaGreatDoorProg
import Derived.Test.YtmlkpniimpahoaaGreatDoorSBase3
import Derived.Test.YtmlkpniimpahoaaGreatDoorSBase2
import Derived.Test.YtmlkpniimpahoaaGreatDoorSTypes1
set_option linter.all false
namespace Go.Proofs
open Go Go.RowKit Go.Shelf Pam
structure SV where
  a:Option Addr
  l:Nat
  c:Nat
structure NV where
  nm:ByteArray
  at_:Int
  s0:SV
  s1:SV
  s2:SV
  s3:SV
  s4:SV
def SV.v(s:SV):Value:=.slice s.a s.l s.c
def NV.enc(x:NV):Value:=.agg #[.string x.nm,.int .i64 x.at_,.slice x.s0.a x.s0.l x.s0.c,.slice x.s1.a x.s1.l x.s1.c,.slice x.s2.a x.s2.l x.s2.c,.slice x.s3.a x.s3.l x.s3.c,.slice x.s4.a x.s4.l x.s4.c]
def NV.obj(x:NV):Obj:=.cells #[.string x.nm,.int .i64 x.at_,.slice x.s0.a x.s0.l x.s0.c,.slice x.s1.a x.s1.l x.s1.c,.slice x.s2.a x.s2.l x.s2.c,.slice x.s3.a x.s3.l x.s3.c,.slice x.s4.a x.s4.l x.s4.c] 41 (0,0)
def NV.lies(x:NV)(w:World)(b o:Nat):Prop :=
  w.cell? ⟨b,o,none⟩=some (.string x.nm)∧w.cell? ⟨b,o+1,none⟩=some (.int .i64 x.at_)∧w.cell? ⟨b,o+2,none⟩=some (.slice x.s0.a x.s0.l x.s0.c)∧w.cell? ⟨b,o+3,none⟩=some (.slice x.s1.a x.s1.l x.s1.c) ∧
  w.cell? ⟨b,o+4,none⟩=some (.slice x.s2.a x.s2.l x.s2.c)∧w.cell? ⟨b,o+5,none⟩=some (.slice x.s3.a x.s3.l x.s3.c)∧w.cell? ⟨b,o+6,none⟩=some (.slice x.s4.a x.s4.l x.s4.c)
set_option maxRecDepth 100000 in
set_option maxHeartbeats 8000000 in
theorem Tryz.all1_in(F:Fence)(n:Nat)(h67:F.fn 67)(hro:F.round=none)(hn:1≤n)(l Bs n₀ b off len cap:Nat)(sa:Option Addr)(zs:List NV)(hreach:len * 144≤140737488351232)(hb:0<len→b<n₀)(hsa:0<len→sa=some ⟨b,off,none⟩)(J:Nat→World→Prop)
    (hY:∀ k x W,zs[k]? = some x→J k W→YieldAt F (n - 1) Tryz.prog l #[.int .i64 k,NV.enc x] W fun e W'=>e=.returned (.bool true)∧J (k+1) W'∧Below n₀ W W')
    (W:World) (hlen:zs.length=len) (hBs:W.cell? ⟨Bs,0,none⟩=some (.slice sa len cap))
    (hc:∀ (j:Nat) (x:NV),zs[j]? = some x→NV.lies x W b (off+j * 7))
    (hn₀:n₀≤W.heap.size) (hJa:∀ k W o,J k W→J k (W.alloc o)) (h0:J 0 W) :
    CallsIn F n Tryz.prog 67 #[.func (.yield l) #[] #[],.pointer (some ⟨Bs,0,none⟩)] W fun e W'=>(∃ v,e=.returned v)∧J len W':=by
  refine callsIn_of_wp Tryz.func67 rfl h67 ?_ hro
  simp only [Tryz.ntmps67,List.size_toArray,List.length_cons,List.length_nil,Nat.reduceAdd,Nat.reduceSub,Array.replicate_succ,Array.replicate_zero,List.push_toArray,List.append_toArray,List.nil_append,List.cons_append]
  gi_wp2
  gi_loopw [7] (fun i wr=>∃ k:Nat,k≤len∧i=.int .i64 k∧J k wr∧Below n₀ W wr)
    (fun i _=>len - (intOf i).toNat)
  case atStart=>exact ⟨0,Nat.zero_le _,rfl,h0,Below.refl _ _⟩
  case round =>
    obtain ⟨k,hk,rfl,hJs,hnx⟩:=hrel
    by_cases hlt:k<len
    · obtain ⟨x,hx⟩:∃ x,zs[k]? = some x:=⟨_,List.getElem?_eq_getElem (by omega)⟩
      obtain ⟨q0,q1,q2,q3,q4,q5,q6⟩:=hc k x hx
      have hb:=hb (by omega)
      obtain rfl:=hsa (by omega)
      have c0:=(hnx.cell (p:=⟨b,off+k * 7,none⟩) hb).trans q0
      have c1:=(hnx.cell (p:=⟨b,off+k * 7+1,none⟩) hb).trans q1
      have c2:=(hnx.cell (p:=⟨b,off+k * 7+2,none⟩) hb).trans q2
      have c3:=(hnx.cell (p:=⟨b,off+k * 7+3,none⟩) hb).trans q3
      have c4:=(hnx.cell (p:=⟨b,off+k * 7+4,none⟩) hb).trans q4
      have c5:=(hnx.cell (p:=⟨b,off+k * 7+5,none⟩) hb).trans q5
      have c6:=(hnx.cell (p:=⟨b,off+k * 7+6,none⟩) hb).trans q6
      obtain ⟨fn,tmps,assign,body,hy,hR⟩:=hY k x (wr.alloc (NV.obj x)) hx (hJa _ _ _ hJs)
      unfold NV.enc at hy
      unfold NV.obj at hy hR
      clear q0 q1 q2 q3 q4 q5 q6 hc hY
      gi_wp2
      refine hR.mono ?_
      rintro e W3 ⟨rfl,hJ3,hk3⟩
      gi_wp2
      go_roundw
      case rel=>exact ⟨k+1,by omega,by simp,hJ3,(hnx.alloc (Nat.le_trans hn₀ hnx.size) _).trans hk3⟩
      case measure=>simp [intOf];omega
    · obtain rfl:k=len:=by omega
      gi_wp2
      go_end0
      exact ⟨⟨_,rfl⟩,hJs⟩
end Go.Proofs
namespace Go.Proofs
open Go Go.RowKit Go.Shelf Pam
def rfOf:Code→Option (Code×Code)
  |.seq a b=>(rfOf a).or (rfOf b)
  |.block _ c=>rfOf c
  |.rangeFunc _ _ a b=>some (a,b)
  |_=>none
noncomputable def Tryz.whAssign:Code:=((rfOf (Tryz.f19.body.getD .skip)).getD (.skip,.skip)).1
noncomputable def Tryz.whBody:Code:=((rfOf (Tryz.f19.body.getD .skip)).getD (.skip,.skip)).2
noncomputable def Tryz.whRec(fn:FuncId)(t0 t1 t6 t7 t8:Value)(B3 D:Nat)(st:LoopState)(pend:Option Code):Loop :=
  { state:=st,pending:=pend,fn,tmps:=#[t0,t1,.string ⟨#[]⟩,.pointer (some ⟨B3,0,none⟩),undef,undef,t6,t7,t8,undef,undef,undef,undef,undef,undef,undef,undef,undef],params:=#[9,10],assign:=Tryz.whAssign,body:=Tryz.whBody,defers:=D }
def Tryz.WA(w:World)(B3 l D:Nat)(rc:LoopState→Option Code→Loop)(ls:List Ω)(W:World):Prop :=
  ∃ (G:Gh) (v:Nat) (o0:OG),G.na=2∧(∀ b o,w.heap[b]? = some o→G.H b=some o)∧Inv G [.box [.osl 1 v 0 ls.length],.arr 1 v 9 (ls.map eS)] W∧G.own[0]? = some (some o0)∧o0.blk=B3 ∧
    G.F l=some (.loop (rc .ready none))∧G.F D=some (.deferred (some []))∧Below w.heap.size w W
theorem Tryz.WA_alloc{w:World}{B3 l D:Nat}{rc:LoopState→Option Code→Loop}{ls:List Ω}{W:World}(h:Tryz.WA w B3 l D rc ls W)(o:Obj):Tryz.WA w B3 l D rc ls (W.alloc o):=by
  obtain ⟨G,v,o0,h1,h2,h3,h4,h5,h6,h7,h8⟩:=h
  exact ⟨G,v,o0,h1,h2,h3.junk o,h4,h5,h6,h7,h8.alloc h8.size o⟩
theorem _root_.Pam.Inv.rebase{G:Gh}{σ:List OB}{w:World}(hi:Inv G σ w):Inv { G with w0:=⟨w,[]⟩ } σ w :=
  ⟨hi.hH,hi.hF,hi.HF,hi.len,fun b ob h=>(hi.own b ob h).keep (G':={ G with w0:=⟨w,[]⟩ }) (fun _ _ h=>h) (bG.refl _) rfl (fun _ _ _=>rfl),hi.inj,hi.sep,rfl,rfl,rfl,Nat.le_refl _⟩
def Tryz.K1(v:Nat)(ls:List Ω)(e:List CV)(y:Ω):Kt:=fun x _ σ=>x=.normal∧σ=[.box [.osl 1 (v+1) 0 ls.length],.arr 1 (v+1) 9 (ls.map eS),.box e,.arr 1 0 9 [[.str y]]]
set_option maxRecDepth 100000 in
set_option maxHeartbeats 8000000 in
theorem Tryz.whYield(m:Nat)(w:World)(fn:FuncId)(t0 t1 t6 t7 t8:Value)(B3 l D k:Nat)(hDl:D≠l)(x:NV)(tx:aK)
    (hx:aW (br (fun b=>w.heap[b]?)) (aK.enc tx) [.string x.nm,.int .i64 x.at_,.slice x.s0.a x.s0.l x.s0.c,.slice x.s1.a x.s1.l x.s1.c,.slice x.s2.a x.s2.l x.s2.c,.slice x.s3.a x.s3.l x.s3.c,.slice x.s4.a x.s4.l x.s4.c])
    (y:Ω) (hy:a8 Tryz.prog 43 [.a (aK.enc tx)] (.c (.str y))) (ls:List Ω) (hroom:ls.length+1≤1048576) (W:World) (h:Tryz.WA w B3 l D (Tryz.whRec fn t0 t1 t6 t7 t8 B3 D) ls W) :
    YieldAt Fence.wide m Tryz.prog l #[.int .i64 k,NV.enc x] W fun e W'=>e=.returned (.bool true)∧Tryz.WA w B3 l D (Tryz.whRec fn t0 t1 t6 t7 t8 B3 D) (ls++[y]) W'∧Below w.heap.size W W':=by
  obtain ⟨G,v,o0,hna,hold,hi,ho0,hB3,hFl,hFD,hbel⟩:=h
  have hL:=hi.hF _ _ hFl
  refine ⟨fn,#[t0,t1,.string ⟨#[]⟩,.pointer (some ⟨B3,0,none⟩),undef,undef,t6,t7,t8,.int .i64 k,NV.enc x,undef,undef,undef,undef,undef,undef,undef],Tryz.whAssign,Tryz.whBody,by simpa [Tryz.whRec] using run_yield (P:=Tryz.prog) (args:=#[.int .i64 k,NV.enc x]) hL rfl,roundIn_of_wpIn trivial ?_⟩
  simp only [Tryz.whAssign,Tryz.f19,Option.getD_some,rfOf,Option.or]
  unfold NV.enc
  gi_wp2_with (rw [Oper.semAt_eq _ _ _ (fun c h=>by cases h)];go_simp;try go_bits)
  have hrep:∀ G':Gh,G'.H=G.H→aW (Rep G') (aK.enc tx) [.string x.nm,.int .i64 x.at_,.slice x.s0.a x.s0.l x.s0.c,.slice x.s1.a x.s1.l x.s1.c,.slice x.s2.a x.s2.l x.s2.c,.slice x.s3.a x.s3.l x.s3.c,.slice x.s4.a x.s4.l x.s4.c] :=
    fun G' e=>aW.mono (fun _ _ hr=>br.rep (by rw [e];exact br.mono hold hr)) hx
  have hpush:=hi.push (w':=W.alloc (NV.obj x)) (.box (aK.enc tx)) ⟨W.heap.size,0,0,0,true,0⟩ (by simp) (fun b hb=>Below.heap_alloc _ _ b hb) (fun _=>rfl) rfl rfl rfl
    ⟨_,_,41,(by have:=hi.len;simp only [List.length_cons,List.length_nil] at this ⊢;rw [List.getElem?_append_right (by omega),this];rfl),rfl,⟨rfl,rfl⟩,World.alloc_heap_new W _,hrep _ rfl⟩
  have hFl':({ G with own:=G.own++[some ⟨W.heap.size,0,0,0,true,0⟩] }:Gh).F l=some (.loop (Tryz.whRec fn t0 t1 t6 t7 t8 B3 D .ready none)):=hFl
  have hLa:=hpush.hF _ _ hFl'
  have hbusy:=(hpush.putF (.loop { Tryz.whRec fn t0 t1 t6 t7 t8 B3 D .ready none with state:=.busy }) hFl').rebase
  have hbr:=run_beginRound (P:=Tryz.prog) hLa rfl
  have hlt:l<(W.alloc (NV.obj x)).heap.size:=(Array.getElem?_eq_some_iff.1 hLa).1
  refine ⟨_,hbr,?_⟩
  obtain ⟨W2,hW2⟩:∃ W2,(W.alloc (NV.obj x)).putObj l (.loop { Tryz.whRec fn t0 t1 t6 t7 t8 B3 D .ready none with state:=.busy })=W2:=⟨_,rfl⟩
  have hW2s:W.heap.size≤W2.heap.size:=by rw [← hW2];simp [World.putObj]
  rw [hW2] at hbusy ⊢
  obtain ⟨Gb,hbusy',gH,gna,gown,gFl,gFD,gw0⟩:∃ Gb:Gh,Inv Gb ([.box [.osl 1 v 0 ls.length],.arr 1 v 9 (ls.map eS)]++[.box (aK.enc tx)]) W2∧(∀ b o,w.heap[b]? = some o→Gb.H b=some o)∧Gb.na=2∧Gb.own=G.own++[some ⟨W.heap.size,0,0,0,true,0⟩] ∧
      Gb.F l=some (.loop { Tryz.whRec fn t0 t1 t6 t7 t8 B3 D .ready none with state:=.busy })∧Gb.F D=some (.deferred (some []))∧Gb.w0=⟨W2,[]⟩ :=
    ⟨{ G with own:=G.own++[some ⟨W.heap.size,0,0,0,true,0⟩],F:=fun b=>if b=l then some (.loop { Tryz.whRec fn t0 t1 t6 t7 t8 B3 D .ready none with state:=.busy }) else G.F b,w0:=⟨W2,[]⟩ },hbusy,hold,hna,rfl,if_pos rfl,(if_neg hDl).trans hFD,rfl⟩
  clear hbusy hpush hFl' hLa hbr
  have hol:=hi.len
  simp only [List.length_cons,List.length_nil,Nat.zero_add,Nat.reduceAdd] at hol
  have go0:Gb.own[0]? = some (some o0):=by rw [gown,List.getElem?_append_left (by omega)];exact ho0
  have go2:Gb.own[2]? = some (some ⟨W.heap.size,0,0,0,true,0⟩):=by rw [gown,List.getElem?_append_right (by omega),hol];rfl
  obtain ⟨oo,cc,TT,hoo,_,⟨hv0,hs0⟩,_,_⟩:=hi.own 0 _ rfl
  rw [ho0] at hoo
  obtain rfl:o0=oo:=by simpa using hoo
  have hga:(ls.length+1) * 16≤140737488355328:=by omega
  have hgb:ls.length+1≤maxLen:=by have:maxLen=9223372036854775807:=rfl;omega
  simp only [Tryz.whBody,Tryz.f19,Option.getD_some,rfOf,Option.or]
  have hsim:Sim Gb (Env.ofList 18 2 [(3,.c (.optr 0 0)),(5,.c (.optr 2 0))]) [.box [.osl 1 v 0 ls.length],.arr 1 v 9 (ls.map eS),.box [.str tx.name,.int .i64 tx.at_,.tree 1 (tx.sizes.map eS),.tree 3 (tx.in_.map ax.enc),.tree 3 (tx.out_.map ax.enc),.tree 3 (tx.local_.map ax.enc),.tree 5 (tx.eqs.map TEq.enc)]]
      { tmps:=#[t0,t1,.string ⟨#[]⟩,.pointer (some ⟨B3,0,none⟩),undef,.pointer (some ⟨W.heap.size,0,none⟩),t6,t7,t8,.int .i64 k,.agg #[.string x.nm,.int .i64 x.at_,.slice x.s0.a x.s0.l x.s0.c,.slice x.s1.a x.s1.l x.s1.c,.slice x.s2.a x.s2.l x.s2.c,.slice x.s3.a x.s3.l x.s3.c,.slice x.s4.a x.s4.l x.s4.c],undef,undef,undef,undef,undef,undef,undef],defers:=[] } W2:=by
    refine ⟨hbusy',by rw [gw0],by rw [(mM _ _ _).1];rfl,by rw [(mM _ _ _).2];exact gna,fun i hc=>?_⟩
    obtain ⟨p,h1,h2⟩:=qq.sim _ i hc
    rw [h2]
    simp only [List.mem_cons,Prod.mk.injEq,List.not_mem_nil,or_false] at h1
    rcases h1 with ⟨rfl,rfl⟩|⟨rfl,rfl⟩
    · exact ⟨rfl,_,go0,fun o e _=>by cases e;rw [if_pos hs0,hB3];rfl⟩
    · exact ⟨rfl,_,go2,fun o e _=>by cases e;rfl⟩
  refine wpIn_block (wpIn_mono (Gr (K:=Tryz.K1 v (ls++[y]) [.str tx.name,.int .i64 tx.at_,.tree 1 (tx.sizes.map eS),.tree 3 (tx.in_.map ax.enc),.tree 3 (tx.out_.map ax.enc),.tree 3 (tx.local_.map ax.enc),.tree 5 (tx.eqs.map TEq.enc)] y) (by kernel_rfl) [0,0,2,6,15,31] [false,false,false,false,true,true] (by kernel_rfl) ?_ (fun k hk=>?_) hsim) ?_)
  · intro i o ho c
    match i,ho with
    |0,ho|1,ho|2,ho|3,ho|4,ho|5,ho=>cases ho;exact fun e=>by cases e
    |i+6,ho=>simp at ho
  · refine Eq.mp (congrArg (fun E=>jL Tryz.prog _ _ _ E _ _) (show Env.ofList 18 2 [(3,.c (.optr 0 0)),(5,.c (.optr 2 0))]=_ by simp only [Env.ofList,List.length_nil,List.length_cons,bE,Nat.reduceDiv,Nat.reduceMod,Nat.reduceLT,Nat.reduceLeDiff,Nat.reduceAdd,Nat.reduceSub,Nat.reduceMul,Nat.reduceEqDiff,Nat.reduceBEq,Nat.reduceBNe,Nat.reduceGT,Int.reduceToNat];rfl).symm) ?_
    simp only [bA,bT,tab,bX,reduceIte,↓reduceIte,reduceCtorEq,Int.reduceToNat,Nat.reduceDiv,Nat.reduceMod,Nat.reduceLT,Nat.reduceLeDiff,Nat.reduceAdd,Nat.reduceSub,Nat.reduceMul,Nat.reduceEqDiff,Nat.reduceBEq,Nat.reduceBNe,Nat.reduceGT]
    repeat refine ⟨by first|omega|assumption|decide|exact dq fun _=>rfl|(intro _;omega)|rfl|exact fun e=>absurd (List.map_eq_nil_iff.1 e) (by assumption)|(and_intros<;>first|omega|assumption|decide|exact dq fun _=>rfl),?_⟩
    refine vy (fun _=>hy) (by first|trivial|exact oY rfl) (by first|trivial|(intro _;first|trivial|simp [aR])|simp [aR]) rfl (fun _=>rfl) ?_
    simp only [bA,bT,tab,bX,reduceIte,↓reduceIte,reduceCtorEq,Int.reduceToNat,Nat.reduceDiv,Nat.reduceMod,Nat.reduceLT,Nat.reduceLeDiff,Nat.reduceAdd,Nat.reduceSub,Nat.reduceMul,Nat.reduceEqDiff,Nat.reduceBEq,Nat.reduceBNe,Nat.reduceGT,List.replicate,List.foldr]
    repeat refine ⟨by first|omega|assumption|decide|exact dq fun _=>rfl|(intro _;omega)|rfl|exact fun e=>absurd (List.map_eq_nil_iff.1 e) (by assumption)|(and_intros<;>first|omega|assumption|decide|exact dq fun _=>rfl),?_⟩
    refine hk _ _ ?_
    refine ⟨rfl,?_⟩
    simp [eS]
  · rintro e a' W3 ⟨G',E',σ',x',hle,hs',hxr,rfl,rfl⟩
    obtain rfl:e=.normal:=hxr
    have hi':=hs'.inv
    have gw:G'.w0=⟨W2,[]⟩:=hle.le.w0.trans gw0
    have gF:G'.F=Gb.F:=hle.le.F
    have hF3:G'.F l=some (.loop { Tryz.whRec fn t0 t1 t6 t7 t8 B3 D .ready none with state:=.busy }):=by rw [gF];exact gFl
    have hL3:=hi'.hF _ _ hF3
    have hn:=hle.own
    rw [gna] at hn
    obtain ⟨oo',e1,e2⟩:=hn 0 _ (by omega) go0
    obtain ⟨o1,c1,T1,ho1,_,⟨hv1,hs1⟩,_,_⟩:=hi'.own 0 _ rfl
    rw [ho1] at e1
    obtain rfl:=Option.some.inj e1
    obtain ⟨o2,e3,e4⟩:=e2 o1 rfl
    obtain rfl:=Option.some.inj e3
    have e5:o1=o0:=by
      rcases e4 with e4|e4
      · exact e4
      · omega
    subst e5
    have hdrop:=Inv.drop (τ:=[.box [.osl 1 (v+1) 0 (ls++[y]).length],.arr 1 (v+1) 9 ((ls++[y]).map eS)]) (σ:=[.box [.str tx.name,.int .i64 tx.at_,.tree 1 (tx.sizes.map eS),.tree 3 (tx.in_.map ax.enc),.tree 3 (tx.out_.map ax.enc),.tree 3 (tx.local_.map ax.enc),.tree 5 (tx.eqs.map TEq.enc)],.arr 1 0 9 [[.str y]]]) hi' ?_
    · have hend:=run_endRound (P:=Tryz.prog) none hL3
      have hfin:=hdrop.putF (.loop (Tryz.whRec fn t0 t1 t6 t7 t8 B3 D .ready none)) hF3
      have hlt3:l<W3.heap.size:=(Array.getElem?_eq_some_iff.1 hL3).1
      have hsz3:W2.heap.size≤W3.heap.size:=by have:=hi'.grow;rw [gw] at this;exact this
      have hb3:Below w.heap.size w (W3.putObj l (.loop (Tryz.whRec fn t0 t1 t6 t7 t8 B3 D .ready none))):=by
        refine ⟨?_,?_,?_,?_,fun b hb=>?_⟩
        · have h1:W3.os=G'.w0.os:=hi'.os
          rw [gw] at h1
          exact (h1.trans (by rw [← hW2];rfl)).trans hbel.os
        · have h1:W3.tape=G'.w0.tape:=hi'.tape
          rw [gw] at h1
          exact (h1.trans (by rw [← hW2];rfl)).trans hbel.tape
        · have h1:W3.output=G'.w0.output:=hi'.output
          rw [gw] at h1
          exact (h1.trans (by rw [← hW2];rfl)).trans hbel.output
        · have:=hbel.size
          simp only [World.putObj,Array.size_setIfInBounds]
          omega
        · have:=hfin.hH b _ ((hle.le.H _ _ (gH b _ (Array.getElem?_eq_getElem hb))))
          rw [this,Array.getElem?_eq_getElem hb]
      refine ⟨_,_,hend,rfl,⟨{ G' with own:=G'.own.take 2,F:=fun k=>if k=l then some (.loop (Tryz.whRec fn t0 t1 t6 t7 t8 B3 D .ready none)) else G'.F k },v+1,o1,hle.le.na.trans gna,fun b o hb=>hle.le.H _ _ (gH b o hb),hfin,?_,hB3,if_pos rfl,?_,hb3⟩,?_⟩
      · show (G'.own.take 2)[0]? = _
        rw [List.getElem?_take_of_lt (by omega)];exact ho1
      · show (if D=l then _ else G'.F D)=_
        rw [if_neg hDl,gF];exact gFD
      · have h2:Below w.heap.size w W:=hbel
        refine ⟨hb3.os.trans h2.os.symm,hb3.tape.trans h2.tape.symm,hb3.output.trans h2.output.symm,?_,fun b hb=>(hb3.block b hb).trans (h2.block b hb).symm⟩
        simp only [World.putObj,Array.size_setIfInBounds]
        omega
    · simp [bY,OB.under,CV.under,dK]
end Go.Proofs
