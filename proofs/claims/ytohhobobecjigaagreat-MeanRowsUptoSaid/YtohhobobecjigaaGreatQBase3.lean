/- slices.Sort and slices.Compact at []int over an own array: the kit's contracts in the layer's words. -/
import Derived.Test.YtohhobobecjigaaGreatQBase1
import Derived.Shelf.Sort.Plain
import Derived.Shelf.Slices.In.SortNone
import Derived.Shelf.Slices.In.CompactI
import Derived.Shelf.Slices.Delete
import Derived.Test.YtohhobobecjigaaGreatQBase2
import Derived.Laws.CopyRow
set_option linter.all false
namespace Pam
open Go Go.Shelf Go.Proofs
def qm(l:List Int):List Int:=l.mergeSort fun x y=>decide (x≤y)
theorem nw(l:List Int):(qm l).length=l.length:=by simp [qm,List.length_mergeSort]
theorem tI(f:Nat)(cur:Array Value)(d:List Int)(k:Nat):(Go.Sort.putCells (Value.int .i64) f d.toArray cur)[f+k]? = if h:k<d.length∧f+k<cur.size then some (.int .i64 (d[k]'h.1)) else cur[f+k]? := by
 unfold Go.Sort.putCells
 by_cases hk:f+k<cur.size
 ·by_cases hd:k<d.length
  ·rw [dif_pos ⟨hd,hk⟩]
   simp [hk,hd]
  ·rw [dif_neg (fun h=>hd h.1)]
   simp [hk,hd]
 ·rw [dif_neg (fun h=>hk h.2)]
  simp [hk]
theorem yS(f:Nat)(w:World)(n g:Nat)(os:Array Obj)(d:List Int)(cur:Array Value)(e:TypeId)(fr:Nat×Nat)(hb:w.heap[g]? = some (.cells cur e fr)) :
  (Go.Sort.grow (Go.Sort.putRow (Value.int .i64) (Go.Sort.ahead w n) g f d.toArray) os).heap[g]? = some (.cells (Go.Sort.putCells (Value.int .i64) f d.toArray cur) e fr):=by
 obtain ⟨hg,hb⟩:=Array.getElem?_eq_some_iff.1 hb
 simp [Go.Sort.grow,Go.Sort.putRow,Go.Sort.mapBlock,Go.Sort.ahead,Array.getElem?_append,hg,Array.getElem_modify,hb,Go.Sort.onCells]
theorem vE(f:Nat)(w:World)(n g:Nat)(os:Array Obj)(d:Array Int)(k:Nat)(o:Obj)(hk:w.heap[k]? = some o)(hne:g≠k) :
  (Go.Sort.grow (Go.Sort.putRow (Value.int .i64) (Go.Sort.ahead w n) g f d) os).heap[k]? = some o:=by
 obtain ⟨hg,hk⟩:=Array.getElem?_eq_some_iff.1 hk
 simp [Go.Sort.grow,Go.Sort.putRow,Go.Sort.mapBlock,Go.Sort.ahead,Array.getElem?_append,hg,Array.getElem_modify,hk,hne]
theorem sg{G:Gh}{w:World}{v:Nat}{T:TypeId}{l l' d:List Int}{o:OG}{c:Array Value}{fz:Nat×Nat}{os:Array Obj}{n:Nat}
  (hi:Inv G [.arr 1 v T (l.map fun x=>[.int .i64 x])] w) (ho:G.own[0]? = some (some o)) (hhas:o.has=true) (hc:w.heap[o.blk]? = some (.cells c T fz))
  (hl:l'.length≤l.length) (hd:d.length=l.length) (hp:l' <+: d) :
  Inv G [.arr 1 v T (l'.map fun x=>[.int .i64 x])] (Go.Sort.grow (Go.Sort.putRow (Value.int .i64) (Go.Sort.ahead w n) o.blk o.off d.toArray) os):=by
 obtain ⟨o',ho',hver,hsz,_,hlc,hcm,_,hnh,hh⟩:=hi.own 0 _ rfl
 rw [ho] at ho'
 obtain rfl:o=o':=by simpa using ho'
 obtain ⟨c',fz',hc',hfz,hcs,_⟩:=hh hhas
 rw [hc] at hc'
 obtain ⟨rfl,rfl⟩:c=c'∧fz=fz':=by simpa using hc'
 rw [Nat.mul_one] at hcs
 simp only [List.length_map] at hlc
 have hsep:=hi.sep 0 o ho hhas
 refine ⟨?_,?_,hi.HF,by simpa using hi.len,?_,hi.inj,hi.sep,hi.os,hi.tape,hi.output,?_⟩
 ·intro b ob h
  exact vE _ _ _ _ _ _ _ _ (hi.hH b ob h) (fun e=>by subst e;rw [hsep.1] at h;cases h)
 ·intro b ob h
  exact vE _ _ _ _ _ _ _ _ (hi.hF b ob h) (fun e=>by subst e;rw [hsep.2] at h;cases h)
 ·intro b ob h
  match b with
  |0 =>
   obtain rfl:OB.arr 1 v T (l'.map fun x=>[.int .i64 x])=ob:=by simpa using h
   refine ⟨o,ho,hver,hsz,by omega,by simp only [List.length_map];omega,hcm,?_,hnh,fun _=>?_⟩
   ·intro e he;simp only [List.mem_map] at he;obtain ⟨x,_,rfl⟩:=he;rfl
   ·refine ⟨_,fz,yS _ _ _ _ _ _ _ _ _ hc,?_,?_,?_⟩
    ·rcases hfz with h|h
     ·exact .inl h
     ·exact .inr (by simpa [Go.Sort.putCells] using h)
    ·simpa [Go.Sort.putCells,hsz] using hcs
    ·intro i j e x hi1 hj1
     have hil:i<l'.length:=by
      rcases Nat.lt_or_ge i l'.length with h|h
      ·exact h
      ·rw [List.getElem?_eq_none (by simpa using h)] at hi1;cases hi1
     have hid:i<d.length:=Nat.lt_of_lt_of_le hil hp.length_le
     rw [List.getElem?_map,List.getElem?_eq_getElem hil] at hi1
     obtain rfl:[CV.int .i64 l'[i]]=e:=by simpa using hi1
     match j with
     |0 =>
      obtain rfl:CV.int .i64 l'[i]=x:=by simpa using hj1
      refine ⟨.int .i64 d[i],?_,?_⟩
      ·rw [show o.off+i * 1+0=o.off+i by omega]
       have:=tI o.off c d i
       rw [dif_pos ⟨hid,by omega⟩] at this
       exact this
      ·have:l'[i]=d[i]:=hp.getElem hil
       rw [this];exact .int .i64 _
     |k+1=>simp at hj1
  |k+1=>simp at h
 ·have:=hi.grow
  simp only [Go.Sort.grow,Array.size_append,Go.Sort.size_putRow,Go.Sort.heap_ahead]
  omega
theorem tJ{G:Gh}{w:World}{v:Nat}{T:TypeId}{l:List Int}{o:OG}
  (hi:Inv G [.arr 1 v T (l.map fun x=>[.int .i64 x])] w) (ho:G.own[0]? = some (some o)) (hhas:o.has=true) :
  ∃ c fz,w.heap[o.blk]? = some (.cells c T fz)∧Go.Sort.Holds (Value.int .i64) w o.blk o.off l.toArray:=by
 obtain ⟨o',ho',hver,hsz,_,hlc,hcm,_,hnh,hh⟩:=hi.own 0 _ rfl
 rw [ho] at ho'
 obtain rfl:o=o':=by simpa using ho'
 obtain ⟨c,fz,hc,hfz,hcs,hcell⟩:=hh hhas
 rw [Nat.mul_one] at hcs
 simp only [List.length_map] at hlc
 refine ⟨c,fz,hc,?_⟩
 have hcell':∀ j (h:j<l.length),c[o.off+j]? = some (.int .i64 l[j]):=by
  intro j h
  obtain ⟨x,h1,h2⟩:=hcell j 0 [.int .i64 l[j]] (.int .i64 l[j]) (by simp [h]) (by simp)
  cases h2
  simpa using h1
 intro j hj
 have hj':j<l.length:=by simpa using hj
 have hjc:o.off+j<c.size:=by omega
 constructor
 ·have:=hcell' j hj'
  simp only [World.cell?,hc]
  simp [this,hj']
 ·simp only [World.frozen?,hc]
  rcases hfz with rfl|hfz
  ·simp
  ·obtain ⟨lo,hi'⟩:=fz
   simp at hfz ⊢
   omega
theorem xS{G:Gh}{w:World}{v:Nat}{T:TypeId}{l:List Int}{vs:List Value}
  (hi:Inv G [.arr 1 v T (l.map fun x=>[.int .i64 x])] w) (ha:aS (a8 G) [.c (.osl 0 v 0 l.length)] vs) :
  ∃ o a,G.own[0]? = some (some o)∧o.ver=v∧vs=[.slice a l.length o.cap]∧l.length≤o.cap∧(l≠[]→o.has=true∧a=some ⟨o.blk,o.off,none⟩):=by
 obtain ⟨o,ho,hver,hsz,_,hlc,hcm,_,hnh,hh⟩:=hi.own 0 _ rfl
 simp only [List.length_map] at hlc
 match vs,ha with
 |[v0],ha =>
  obtain ⟨hv0,_⟩:=ha
  obtain ⟨_,oo,hoo,hsl⟩:=hv0
  rw [ho] at hoo
  obtain rfl:some o=oo:=by simpa using hoo
  obtain ⟨hcap,a,rfl,haddr⟩:=(hsl o rfl).2 hver.symm
  refine ⟨o,a,ho,hver,rfl,hlc,fun he=>?_⟩
  have hpos:0<l.length:=List.length_pos_iff.2 he
  have hhas:o.has=true:=by
   cases h:o.has with
   |true=>rfl
   |false=>have:=hnh h;omega
  obtain ⟨a',rfl,ha'⟩:=haddr hhas
  obtain rfl:=ha' (by omega)
  exact ⟨hhas,by simp⟩
theorem BF {P:Program} {ρ:Ren} (Ly:Lays.n189 P ρ) {f:FuncId} (hf:ρ.f 189=f) (hb:∃ fn,P.funcs[f]? = some fn∧fn.body.isSome=true∧(fn.name == "runtime.NumGoroutine")=false)
  (T:TypeId) (v:Nat) (l:List Int) (hl:l.length≤140737488355328) :
  cC P f [.c (.osl 0 v 0 l.length)] [.arr 1 v T (l.map fun x=>[.int .i64 x])] (fun p σ=>p=.t []∧σ=[.arr 1 v T ((qm l).map fun x=>[.int .i64 x])]) (fun _ _=>False):=by
 subst hf
 refine ⟨hb,fun G w vs hna _ hi ha=>?_⟩
 obtain ⟨o,a,ho,hver,rfl,hlc,hx⟩:=xS hi ha
 by_cases he:l=[]
 ·subst he
  refine (Any.slices_Sort_int_none Ly a _ w).mono ?_
  rintro e w' ⟨rfl,rfl⟩
  exact ⟨G,_,.t [],.tuple #[],Gle.refl G,hi,⟨[],rfl,trivial⟩,.inl ⟨rfl,rfl,by simp [qm]⟩⟩
 ·obtain ⟨hhas,rfl⟩:=hx he
  obtain ⟨c,fz,hc,hH⟩:=tJ hi ho hhas
  refine (Any.slices_Sort_int Ly o.blk o.off o.cap l w hH (Array.getElem?_eq_some_iff.1 hc).1 (by omega)).mono ?_
  rintro e w' ⟨rfl,n,os,rfl⟩
  exact ⟨G,_,.t [],.tuple #[],Gle.refl G,sg hi ho hhas hc (Nat.le_of_eq (nw l)) (nw l) (List.prefix_rfl),⟨[],rfl,trivial⟩,.inl ⟨rfl,rfl,rfl⟩⟩
theorem vF(l:List Int):(Go.Lib.compact l).length≤l.length:=by
 simp only [Go.Lib.compact,Go.Lib.compactUpTo,List.length_map]
 exact Nat.le_trans (List.length_filter_le _ _) (by simp)
theorem xT {P:Program} {ρ:Ren} (Ly:Lays2.n20 P ρ) {f:FuncId} (hf:ρ.f 20=f) (hb:∃ fn,P.funcs[f]? = some fn∧fn.body.isSome=true∧(fn.name == "runtime.NumGoroutine")=false)
  (T:TypeId) (v:Nat) (l:List Int) (hl:l.length≤140737488355328) :
  cC P f [.c (.osl 0 v 0 l.length)] [.arr 1 v T (l.map fun x=>[.int .i64 x])] (fun p σ=>p=.c (.osl 0 v 0 (Go.Lib.compact l).length)∧σ=[.arr 1 v T ((Go.Lib.compact l).map fun x=>[.int .i64 x])]) (fun _ _=>False):=by
 subst hf
 refine ⟨hb,fun G w vs hna _ hi ha=>?_⟩
 obtain ⟨o,a,ho,hver,rfl,hlc,hx⟩:=xS hi ha
 by_cases he:l=[]
 ·subst he
  refine (calls_of_every_depth fun D=>AnyS.slices_Compact_int_empty_in Ly D a _ w).mono ?_
  rintro e w' ⟨rfl,rfl⟩
  have:Go.Lib.compact ([]:List Int)=[]:=List.eq_nil_of_length_eq_zero (Nat.le_zero.1 (vF []))
  rw [this]
  exact ⟨G,_,.c (.osl 0 v 0 0),_,Gle.refl G,hi,ha.1,.inl ⟨rfl,rfl,rfl⟩⟩
 ·obtain ⟨hhas,rfl⟩:=hx he
  obtain ⟨c,fz,hc,hH⟩:=tJ hi ho hhas
  refine (calls_of_every_depth fun D=>AnyS.slices_Compact_int_in Ly D o.blk o.off o.cap l w hH (by omega) hlc).mono ?_
  rintro e w' ⟨rfl,n,rfl⟩
  have hcl:=vF l
  have hg:∀ (W:World),Go.Sort.grow W #[]=W:=fun W=>by simp [Go.Sort.grow]
  have:=sg (n:=n) (os:=#[]) hi ho hhas hc hcl (d:=Go.Lib.compact l++List.replicate (l.length - (Go.Lib.compact l).length) 0) (by simp;omega) (List.prefix_append _ _)
  rw [hg] at this
  refine ⟨G,_,.c (.osl 0 v 0 (Go.Lib.compact l).length),_,Gle.refl G,this,?_,.inl ⟨rfl,rfl,rfl⟩⟩
  obtain ⟨hv0,_⟩:=ha
  obtain ⟨_,oo,hoo,hsl⟩:=hv0
  rw [ho] at hoo
  obtain rfl:some o=oo:=by simpa using hoo
  obtain ⟨hcap,a,hae,haddr⟩:=(hsl o rfl).2 hver.symm
  refine ⟨rfl,some o,ho,fun o' ho'=>?_⟩
  obtain rfl:o=o':=by simpa using ho'
  refine ⟨by omega,fun _=>⟨by omega,some ⟨o.blk,o.off,none⟩,by simp,fun h=>⟨_,rfl,fun _=>by simp⟩⟩⟩
end Pam
namespace Pam
open Go Go.Shelf Go.Proofs
def xU(l:List Int)(i j:Nat):List Int:=l.take i++l.drop j
theorem CD(l:List Int)(i j:Nat)(hij:i≤j)(hj:j≤l.length):(xU l i j).length=l.length - (j - i):=by
 unfold xU
 simp only [List.length_append,List.length_take,List.length_drop]
 omega
theorem yT {P:Program} {ρ:Ren} (Ly:Lays2.n23 P ρ) {f:FuncId} (hf:ρ.f 23=f) (hb:∃ fn,P.funcs[f]? = some fn∧fn.body.isSome=true∧(fn.name == "runtime.NumGoroutine")=false)
  (T:TypeId) (v:Nat) (l:List Int) (i j:Nat) (hij:i≤j) (hj:j≤l.length) (hl:l≠[]) :
  cC P f [.c (.osl 0 v 0 l.length),.c (.int .i64 (i:Int)),.c (.int .i64 (j:Int))] [.arr 1 v T (l.map fun x=>[.int .i64 x])]
   (fun p σ=>p=.c (.osl 0 v 0 (xU l i j).length)∧σ=[.arr 1 v T ((xU l i j).map fun x=>[.int .i64 x])]) (fun _ _=>False):=by
 subst hf
 refine ⟨hb,fun G w vs hna _ hi ha=>?_⟩
 match vs,ha with
 |[v0,v1,v2],ha =>
  obtain ⟨ha0,hi1,hj1,_⟩:=ha
  obtain ⟨o,a,ho,hver,hvs,hlc,hx⟩:=xS (vs:=[v0]) hi ⟨ha0,trivial⟩
  obtain rfl:v0=.slice a l.length o.cap:=by simpa using hvs
  have e1:v1=.int .i64 (i:Int):=dC hi1
  have e2:v2=.int .i64 (j:Int):=dC hj1
  subst e1;subst e2
  obtain ⟨hhas,rfl⟩:=hx hl
  obtain ⟨c,fz,hc,hH⟩:=tJ hi ho hhas
  obtain ⟨o',ho',_,_,_,_,hcm,_⟩:=hi.own 0 _ rfl
  rw [ho] at ho'
  obtain rfl:o=o':=by simpa using ho'
  refine (Any.slices_Delete_int Ly o.blk o.off o.cap i j l w hH hlc (by have:maxLen=9223372036854775807:=rfl;omega) hij hj).mono ?_
  rintro e w' ⟨rfl,n,rfl⟩
  have hcl:=CD l i j hij hj
  have hg:∀ (W:World),Go.Sort.grow W #[]=W:=fun W=>by simp [Go.Sort.grow]
  have:=sg (n:=n) (os:=#[]) hi ho hhas hc (l':=xU l i j) (d:=l.take i++l.drop j++List.replicate (j - i) 0) (by omega) (by simp;omega) (List.prefix_append _ _)
  rw [hg] at this
  refine ⟨G,_,.c (.osl 0 v 0 (xU l i j).length),_,Gle.refl G,this,?_,.inl ⟨rfl,rfl,rfl⟩⟩
  obtain ⟨_,oo,hoo,hsl⟩:=ha0
  rw [ho] at hoo
  obtain rfl:some o=oo:=by simpa using hoo
  obtain ⟨hcap,a,hae,haddr⟩:=(hsl o rfl).2 hver.symm
  refine ⟨rfl,some o,ho,fun o' ho'=>?_⟩
  obtain rfl:o=o':=by simpa using ho'
  refine ⟨by omega,fun _=>⟨by omega,some ⟨o.blk,o.off,none⟩,by simp [hcl],fun h=>⟨_,rfl,fun _=>by simp⟩⟩⟩
end Pam
namespace Pam
open Go
section
variable {P:Program} {E:Env} {σ:List OB}
theorem xW(k:IntKind)(L:List Int)(n:Nat)(h:n<L.length):(L.map (CV.int k)).getD n .junk=.int k (L.getD n 0):=by
 simp [List.getD,h]
theorem D0{o:Oper}{T:TypeId}{x i:Operand}{ys:List CV}{k k':IntKind}{n:Int}(L:List Int)(m:Nat)(ho:o.op=.index T x i)(hx:ev E x=⟨true,.a ys⟩)(hi:ev E i=⟨true,.c (.int k' n)⟩)
  (hy:ys=L.map (CV.int k)) (hC:nR P T=true∧bJ P (P.elem T)=true∧P.arrayLen T * P.cellsOf (P.elem T)≤L.length∧lG P (P.elem T)=false∧P.cellsOf (P.elem T)=1) (hl:P.arrayLen T=m) (hm:L.length=m)
  (h0:0≤n) (h1:n<(m:Int)):nh P E σ o (.c (.int k (L.getD n.toNat 0))) σ:=.quiet fun G a w hs=>by
 subst hy
 have h:∃ C,m7 P true T (ev E x) (ev E i)=.ok C (.c ((L.map (CV.int k)).getD n.toNat .junk))∧C:=by
  rw [hx,hi]
  refine ⟨_,by unfold m7;rfl,?_⟩
  exact ⟨fun _=>rfl,fun _=>rfl,hC.1,hC.2.1,by simpa using hC.2.2.1,hC.2.2.2.1,hC.2.2.2.2,fun _=>⟨h0,by rw [hl];exact h1⟩⟩
 obtain ⟨C,h,hc⟩:=h
 obtain ⟨r,e1,e2⟩:=w7 (P:=P) (G:=G) (w:=w) h hc rfl (dy hs x) (dy hs i)
 have:n.toNat<L.length:=by omega
 rw [xW k L n.toNat this] at e2
 exact ⟨r,by simp only [execOp,ho];exact lO e1,e2⟩
theorem uy{s:Nat}{x:CV}:∀ {es:List (List CV)} {i j:Nat} {e:List CV},(∀ e∈es,e.length=s)→es[i]? = some e→e[j]? = some x→es.flatten[i * s+j]? = some x
 |[],i,j,e,_,h,_=>by simp at h
 |a :: es,0,j,e,hl,h,hx=>by
  obtain rfl:a=e:=by simpa using h
  have hj:j<a.length:=by
   rcases Nat.lt_or_ge j a.length with h'|h'
   ·exact h'
   ·rw [List.getElem?_eq_none h'] at hx;cases hx
  rw [List.flatten_cons,Nat.zero_mul,Nat.zero_add,List.getElem?_append_left hj];exact hx
 |a :: es,i+1,j,e,hl,h,hx=>by
  have ha:a.length=s:=hl a (by simp)
  rw [List.flatten_cons,List.getElem?_append_right (by rw [ha,Nat.add_mul];omega)]
  have:=uy (es:=es) (i:=i) (fun e he=>hl e (by simp [he])) (by simpa using h) hx
  rw [ha,show (i+1) * s+j - s=i * s+j by rw [Nat.add_mul];omega]
  exact this
theorem Ag{o:Oper}{T:TypeId}(s:Nat)(es:List (List CV))(ho:o.op=.alloc T)(hz:lK P T=some es.flatten)(hs:0<s)(hl:∀ e∈es,e.length=s)(hn:0<es.length)(hm:es.length≤1000000) :
  nh P E σ o (.c (.oel σ.length 0 0 0)) (σ++[.arr s 0 T es]):=fun G a w hs'=>by
 have hi:=hs'.inv
 obtain ⟨i,u,h1,h2,h3,h4,_,h5⟩:=ks G hz
 have hlen:es.flatten.length=es.length * s:=by
  rw [List.length_flatten,List.map_congr_left (g:=fun _=>s) hl,List.map_const',List.sum_replicate_nat]
 have hcs:u.cells.size=es.length * s:=by
  have:=h5.length;simp only [Array.length_toList] at this;omega
 obtain ⟨G',k1,k2,k3,k4⟩:=qu (s:=s) (T:=T) (es:=es) (c:=u.cells) (cap:=es.length) (w':=w.alloc (.cells u.cells T)) hi (.inr rfl) hs (Nat.le_refl _) (by have h9:maxLen=9223372036854775807:=rfl;omega) hl hcs
  (by
   intro i j e x hi1 hj1
   have hf:=uy hl hi1 hj1
   obtain ⟨v,hv,hr⟩:=h5.get _ _ hf
   exact ⟨v,by show u.cells[i * s+j]? = some v;rw [← Array.getElem?_toList];exact hv,hr⟩) es.length (Nat.le_refl _)
 refine ⟨_,_,_,G',?_,.inl rfl,k1,k2,k3,(?_:a8 G' (.c (.oel σ.length 0 0 0)) (.pointer (some ⟨w.heap.size,0,none⟩)))⟩
 ·simp [execOp,ho,Instr.alloc,iz h1 h2,newVar,newRow]
 ·obtain ⟨_,oo,hoo,hsl⟩:=k4
  refine ⟨rfl,oo,hoo,fun o e=>?_⟩
  subst e
  obtain ⟨g1,g2⟩:=hsl o rfl
  refine ⟨g1,fun hv=>?_⟩
  obtain ⟨hcap,ad,hval,hha⟩:=g2 hv
  obtain ⟨o',q1,q2,q3,q4,q5,q6,q7,q8,q9⟩:=k3.own σ.length (.arr s 0 T es) (by simp)
  rw [hoo] at q1
  obtain rfl:o=o':=by simpa using q1
  have hh:o.has=true:=by
   cases hh:o.has with
   |true=>rfl
   |false=>have:=q8 hh;omega
  obtain ⟨a',rfl,ha'⟩:=hha hh
  have:=ha' (by omega)
  subst this
  simp only [Value.slice.injEq,sJ] at hval
  have h0:=hval.1
  simp only [Addr.mk.injEq] at h0
  rw [← h0.1]
  simp
end
end Pam
namespace Pam
open Go
def ins:List Int→Int→List Int
 |[],n=>[n]
 |x :: xs,n=>if x≥n then (if x>n then n :: x :: xs else x :: xs) else x :: ins xs n
theorem yi(l:List Int)(n y:Int):y∈ins l n↔y=n∨y∈l:=by
 induction l with
 |nil=>simp [ins]
 |cons x xs ih =>
  unfold ins
  split
  ·split
   ·simp
   ·have:x=n:=by omega
    subst this;simp
  ·simp only [List.mem_cons,ih]
   constructor
   ·rintro (h|h|h)<;>simp [h]
   ·rintro (h|h|h)<;>simp [h]
theorem Am{l:List Int}(h:l.Pairwise (·<·))(n:Int):(ins l n).Pairwise (·<·):=by
 induction l with
 |nil=>simp [ins]
 |cons x xs ih =>
  obtain ⟨h1,h2⟩:=List.pairwise_cons.1 h
  unfold ins
  split
  ·split
   ·refine List.pairwise_cons.2 ⟨?_,h⟩
    intro a ha
    rcases List.mem_cons.1 ha with rfl|ha
    ·omega
    ·have:=h1 a ha;omega
   ·exact h
  ·refine List.pairwise_cons.2 ⟨?_,ih h2⟩
   intro a ha
   rcases (yi xs n a).1 ha with rfl|ha
   ·omega
   ·exact h1 a ha
theorem uC:∀ {l l':List Int},l.Pairwise (·<·)→l'.Pairwise (·<·)→(∀ x,x∈l↔x∈l')→l=l'
 |[],[],_,_,_=>rfl
 |[],b :: l',_,_,h=>by have:=(h b).2 (by simp);simp at this
 |a :: l,[],_,_,h=>by have:=(h a).1 (by simp);simp at this
 |a :: l,b :: l',hl,hl',h=>by
  obtain ⟨h1,h2⟩:=List.pairwise_cons.1 hl
  obtain ⟨k1,k2⟩:=List.pairwise_cons.1 hl'
  have e:a=b:=by
   have ha:=(h a).1 (by simp)
   have hb:=(h b).2 (by simp)
   rcases List.mem_cons.1 ha with e|ha
   ·exact e
   ·rcases List.mem_cons.1 hb with e|hb
    ·exact e.symm
    ·have:=h1 b hb;have:=k1 a ha;omega
  subst e
  rw [uC h2 k2 fun x=>?_]
  constructor
  ·intro hx
   rcases List.mem_cons.1 ((h x).1 (by simp [hx])) with rfl|h'
   ·have:=h1 x hx;omega
   ·exact h'
  ·intro hx
   rcases List.mem_cons.1 ((h x).2 (by simp [hx])) with rfl|h'
   ·have:=k1 x hx;omega
   ·exact h'
theorem BM(l:List Int)(x:Int):x∈qm l↔x∈l:=by simp [qm,List.mem_mergeSort]
theorem yj(l:List Int):(qm l).Pairwise (·≤·):=by
 have:=List.pairwise_mergeSort (le:=fun x y:Int=>decide (x≤y)) (by intro a b c;simp;omega) (by intro a b;simp;omega) l
 exact this.imp (by simp)
theorem zb(l:List Int)(x:Int):x∈Go.Lib.compact l↔x∈l:=by
 simp only [Go.Lib.compact,Go.Lib.compactUpTo,List.mem_map,List.mem_filter,List.mem_range]
 constructor
 ·rintro ⟨i,⟨h1,_⟩,rfl⟩
  simp [h1]
 ·intro hx
  obtain ⟨i,hi,rfl⟩:=List.mem_iff_getElem.1 hx
  have key:∀ n i (hi:i<l.length),i=n→∃ j,(j<l.length∧Go.Lib.keeps l.toArray j=true)∧l.toArray[j]! = l[i]:=by
   intro n
   induction n with
   |zero=>intro i hi e;subst e;exact ⟨0,⟨hi,by simp [Go.Lib.keeps]⟩,by simp [hi]⟩
   |succ n ih =>
    intro i hi e
    subst e
    by_cases hk:Go.Lib.keeps l.toArray (n+1)=true
    ·exact ⟨n+1,⟨hi,hk⟩,by simp [hi]⟩
    ·obtain ⟨j,h1,h2⟩:=ih n (by omega) rfl
     refine ⟨j,h1,h2.trans ?_⟩
     have hn:n<l.length:=by omega
     simp [Go.Lib.keeps,hi,hn] at hk
     exact hk.symm
  exact key i i hi rfl
theorem vR{l:List Int}(h:l.Pairwise (·≤·)):(Go.Lib.compact l).Pairwise (·<·):=by
 simp only [Go.Lib.compact,Go.Lib.compactUpTo,List.pairwise_map]
 have hm:∀ i j,i≤j→(hj:j<l.length)→l.toArray[i]! ≤ l.toArray[j]! := by
  intro i j hij hj
  have hi:i<l.length:=by omega
  simp only [List.getElem!_toArray,getElem!_pos l i hi,getElem!_pos l j hj]
  rcases Nat.lt_or_ge i j with h'|h'
  ·exact List.pairwise_iff_getElem.1 h i j hi hj h'
  ·have:i=j:=by omega
   subst this;exact Int.le_refl _
 refine List.Pairwise.imp_of_mem ?_ ((List.pairwise_lt_range (n:=l.length)).filter _)
 intro i j hi hj hij
 simp only [List.mem_filter,List.mem_range,Go.Lib.keeps,decide_eq_true_eq] at hi hj
 have h1:=hm i (j - 1) (by omega) (by omega)
 have h2:=hm (j - 1) j (by omega) hj.1
 have h3:l.toArray[j]! ≠ l.toArray[j - 1]! := by
  rcases hj.2 with h'|h'
  ·omega
  ·exact h'
 omega
theorem uU(l:List Int):Go.Lib.compact (qm l)=l.foldl ins []:=by
 have key:∀ (l a:List Int),a.Pairwise (·<·)→(l.foldl ins a).Pairwise (·<·)∧∀ x,x∈l.foldl ins a↔x∈a∨x∈l:=by
  intro l
  induction l with
  |nil=>intro a ha;simpa using ha
  |cons y l ih =>
   intro a ha
   obtain ⟨h1,h2⟩:=ih (ins a y) (Am ha y)
   refine ⟨h1,fun x=>?_⟩
   rw [List.foldl_cons,h2 x,yi]
   simp only [List.mem_cons]
   constructor
   ·rintro ((h|h)|h)<;>simp [h]
   ·rintro (h|h|h)<;>simp [h]
 obtain ⟨h1,h2⟩:=key l [] List.Pairwise.nil
 refine uC (vR (yj l)) h1 fun x=>?_
 rw [zb,BM,h2]
 simp
end Pam
namespace Pam
open Go
def Ct(ops:Array Oper)(l:List Oper)(masks:List Nat)(bar prv:List Bool)(rd:List (List Nat)):Bool :=
  chk ops l masks bar &&
  (l.zipIdx.all fun (x,i)=>iO x || (x.looksAt ops).all (fun t=>(rd.getD i []).contains t) || l.zipIdx.all fun (_,j)=>!(prv.getD j false) || nt masks i j)
def Cu(P:Program)(ops:Array Oper)(pv:List Nat)(E:Env)(σ:List OB)(o:Oper)(bar prv:Bool)(rd:List Nat)(ts:TS):Prop :=
  eZ ops E o.guard=some ts.γ∧dX E o.dst ∧
  ((∃ C v, b9 P ts.γ E σ o.op = .ok C v ∧ C ∧ (rd.all fun t => AO pv (E.get t).v) = true ∧ ts.e = ⟨ts.γ, v⟩ ∧ ts.σ = σ) ∨
   (ts.γ=true∧∃ C v,b9 P ts.γ E σ o.op=.upd C v ts.σ∧C∧ts.e=⟨true,v⟩∧(bar=true∨Ext σ ts.σ∨(prv=true∧kE pv σ ts.σ))) ∨
   (∃ C f args r,b9 P ts.γ E σ o.op=.call C f args∧(ts.γ=true→C∧ce P f args r)∧args.all PV.noOwn=true∧(∀ n,r.ren (d2 n [])=r)∧ts.e=⟨ts.γ,r⟩∧ts.σ=σ) ∨
   (ts.γ=false∧ts.e=⟨true,.t []⟩∧ts.σ=σ) ∨
   (ts.γ=true∧∃ C f args p,b9 P ts.γ E σ o.op=.call C f args∧C∧m9 P σ f args p ts.σ∧ts.e=⟨true,p⟩∧(bar=true∨Ext σ ts.σ∨(prv=true∧kE pv σ ts.σ))) ∨
   (ts.γ=true∧iO o=true∧∃ v,(∀ E',(∀ x∈o.op.operands,ev E' x=ev E x)→∀ G a w,Sim G E' σ a w→xI P G (execOp a.eval o) w v ts.σ)∧ts.e=⟨true,v⟩∧(bar=true∨Ext σ ts.σ∨(prv=true∧kE pv σ ts.σ))))
def z8(P:Program)(ops:Array Oper)(pv:List Nat):List Oper→List Bool→List Bool→List (List Nat)→Env→List OB→List TS→Prop
  |[],_,_,_,_,_,tr=>tr=[]
  |o :: l,bs,ps,rd,E,σ,tr=>∃ ts r,tr=ts :: r∧Cu P ops pv E σ o (bs.headD false) (ps.headD false) (rd.headD []) ts∧z8 P ops pv l bs.tail ps.tail rd.tail (E.putD o.dst ts.e) ts.σ r
section
variable {P:Program} {ops:Array Oper} {pv:List Nat}
theorem iA.ofP:∀ {l:List Oper} {bs ps:List Bool} {rd:List (List Nat)} {E:Env} {σ:List OB} {tr:List TS},z8 P ops pv l bs ps rd E σ tr→iA P ops pv l bs ps rd [] E σ tr
  |[],_,_,_,_,_,_,h=>h
  |o :: l,_,_,_,_,_,_,⟨ts,r,h1,⟨h2,h3,h4⟩,h5⟩=>⟨ts,r,h1,⟨h2,h3,.inl ⟨rfl,h4⟩⟩,iA.ofP h5⟩
theorem Cv{ops:Array Oper}{l:List Oper}{masks:List Nat}{bs ps:List Bool}{rd:List (List Nat)}(h:Ct ops l masks bs ps rd=true):zS ops l masks bs ps rd []=true:=by
  unfold Ct chk at h
  unfold zS
  rw [show ld ([]:List Bool)=fun _ o=>iO o from by funext i o;exact vt i o]
  exact h
def TRP(P:Program)(ops:Array Oper)(pv:List Nat)(l:List Oper)(bs ps:List Bool)(rd:List (List Nat))(E:Env)(σ:List OB)(k:Env→List OB→Prop):Prop :=
  ∃ tr,z8 P ops pv l bs ps rd E σ tr∧k (dQ E l tr l.length) (be σ tr l.length)
def uw(pv:List Nat):Nat→List OB→List OB→Prop
  |_,[],_=>True
  |i,a :: as_,b :: bs=>(pv.contains i=true∨a=b)∧uw pv (i+1) as_ bs
  |_,_ :: _,[]=>False
theorem vB:∀ {i:Nat} {σ σ':List OB},uw pv i σ σ'→σ.length≤σ'.length∧∀ b,b+i ∉ pv→b<σ.length→σ'[b]? = σ[b]?
  |_,[],_,_=>⟨by simp,fun b _ h=>by simp at h⟩
  |i,a :: as_,b :: bs,⟨h1,h2⟩=>by
    obtain ⟨k1,k2⟩:=vB h2
    refine ⟨by simpa using k1,fun c hc hl=>?_⟩
    cases c with
    |zero =>
      rcases h1 with h|h
      · simp at hc;simp at h;exact (hc h).elim
      · simp [h]
    |succ c=>simpa using k2 c (by simpa [Nat.add_assoc,Nat.add_comm 1] using hc) (by simpa using hl)
def pg(P:Program)(ops:Array Oper)(pv:List Nat)(γ:Bool)(C:Prop)(f:FuncId)(args:List PV)(o:Oper)(r:List Oper)(bs ps:List Bool)(rd:List (List Nat))(E:Env)(σ:List OB)(k:Env→List OB→Prop):Prop :=
  b9 P γ E σ o.op=.call C f args→eZ ops E o.guard=some γ→TRP P ops pv (o :: r) bs ps rd E σ k
def tG(P:Program)(ops:Array Oper)(pv:List Nat)(γ:Bool)(o:Oper)(r:List Oper)(bs ps:List Bool)(rd:List (List Nat))(E:Env)(σ:List OB)(k run:Env→List OB→Prop):R→Prop
  |.ok C v=>dX E o.dst∧C∧((rd.headD []).all fun t=>AO pv (E.get t).v)=true∧run (E.putD o.dst ⟨γ,v⟩) σ
  |.upd C v σ'=>dX E o.dst∧γ=true∧C∧(bs.headD false=true∨o9 σ σ'∨(ps.headD false=true∧uw pv 0 σ σ'))∧run (E.putD o.dst ⟨true,v⟩) σ'
  |.call C f args=>pg P ops pv γ C f args o r bs ps rd E σ k
  |.bad=>False
def jL(P:Program)(ops:Array Oper)(pv:List Nat):List Oper→List Bool→List Bool→List (List Nat)→Env→List OB→(Env→List OB→Prop)→Prop
  |[],_,_,_,E,σ,k=>k E σ
  |o :: r,bs,ps,rd,E,σ,k =>
    match eZ ops E o.guard with
    |none=>False
    |some false=>dX E o.dst∧jL P ops pv r bs.tail ps.tail rd.tail (E.putD o.dst ⟨true,.t []⟩) σ k
    |some true=>tG P ops pv true o r bs ps rd E σ k (fun E' σ'=>jL P ops pv r bs.tail ps.tail rd.tail E' σ' k) (b9 P true E σ o.op)
theorem TRP.cons{o:Oper}{r:List Oper}{bs ps:List Bool}{rd:List (List Nat)}{E:Env}{σ:List OB}{k:Env→List OB→Prop}{ts:TS}(h:Cu P ops pv E σ o (bs.headD false) (ps.headD false) (rd.headD []) ts)(ht:TRP P ops pv r bs.tail ps.tail rd.tail (E.putD o.dst ts.e) ts.σ k):TRP P ops pv (o :: r) bs ps rd E σ k:=by
  obtain ⟨tr,h1,h2⟩:=ht
  refine ⟨ts :: tr,⟨ts,tr,rfl,h,h1⟩,?_⟩
  simpa [dQ,be] using h2
theorem jW:∀ (l:List Oper) (bs ps:List Bool) (rd:List (List Nat)) (E:Env) (σ:List OB) (k:Env→List OB→Prop),jL P ops pv l bs ps rd E σ k→TRP P ops pv l bs ps rd E σ k
  |[],bs,ps,rd,E,σ,k,h=>⟨[],rfl,by unfold jL at h;simpa [dQ,be] using h⟩
  |o :: r,bs,ps,rd,E,σ,k,h=>by
    unfold jL at h
    split at h
    · exact h.elim
    · rename_i hγ
      exact TRP.cons (ts:=⟨false,⟨true,.t []⟩,σ⟩) ⟨hγ,h.1,.inr (.inr (.inr (.inl ⟨rfl,rfl,rfl⟩)))⟩ (jW r _ _ _ _ _ _ h.2)
    · rename_i hγ
      unfold tG at h
      split at h
      · rename_i C v hrun
        obtain ⟨hd,hC,hrd,hr⟩:=h
        exact TRP.cons (ts:=⟨true,⟨true,v⟩,σ⟩) ⟨hγ,hd,.inl ⟨C,v,hrun,hC,hrd,rfl,rfl⟩⟩ (jW r _ _ _ _ _ _ hr)
      · rename_i C v σ' hrun
        obtain ⟨hd,hg,hC,hb,hr⟩:=h
        refine TRP.cons (ts:=⟨true,⟨true,v⟩,σ'⟩) ⟨hγ,hd,.inr (.inl ⟨rfl,C,v,hrun,hC,rfl,?_⟩)⟩ (jW r _ _ _ _ _ _ hr)
        rcases hb with h|h|⟨h,h'⟩
        · exact .inl h
        · exact .inr (.inl (pQ h))
        · exact .inr (.inr ⟨h,by have:=vB h';exact ⟨this.1,fun b hb hl=>this.2 b hb hl⟩⟩)
      · rename_i C f args hrun
        exact h hrun hγ
      · exact h.elim
theorem wH{γ:Bool}{C:Prop}{f:FuncId}{args:List PV}{o:Oper}{r:List Oper}{bs ps:List Bool}{rd:List (List Nat)}{E:Env}{σ:List OB}{k:Env→List OB→Prop}{res:PV}
    (hs:γ=true→ce P f args res) (hd:dX E o.dst) (hC:γ=true→C) (hargs:args.all PV.noOwn=true) (hres:∀ n,res.ren (d2 n [])=res)
    (next:jL P ops pv r bs.tail ps.tail rd.tail (E.putD o.dst ⟨γ,res⟩) σ k):pg P ops pv γ C f args o r bs ps rd E σ k:=fun hrun hγ =>
  TRP.cons (ts:=⟨γ,⟨γ,res⟩,σ⟩) ⟨hγ,hd,.inr (.inr (.inl ⟨C,f,args,res,hrun,fun h=>⟨hC h,hs h⟩,hargs,hres,rfl,rfl⟩))⟩ (jW r _ _ _ _ _ _ next)
theorem yQ{C:Prop}{f:FuncId}{args:List PV}{o:Oper}{r:List Oper}{bs ps:List Bool}{rd:List (List Nat)}{E:Env}{σ σ2:List OB}{k:Env→List OB→Prop}{res:PV}
    (hs:m9 P σ f args res σ2) (hd:dX E o.dst) (hC:C) (hb:bs.headD false=true∨o9 σ σ2)
    (next:jL P ops pv r bs.tail ps.tail rd.tail (E.putD o.dst ⟨true,res⟩) σ2 k):pg P ops pv true C f args o r bs ps rd E σ k:=fun hrun hγ =>
  TRP.cons (ts:=⟨true,⟨true,res⟩,σ2⟩) ⟨hγ,hd,.inr (.inr (.inr (.inr (.inl ⟨rfl,C,f,args,res,hrun,hC,hs,rfl,hb.imp id fun h=>.inl (pQ h)⟩))))⟩ (jW r _ _ _ _ _ _ next)
theorem sV{C:Prop}{f:FuncId}{args:List PV}{o:Oper}{r:List Oper}{bs ps:List Bool}{rd:List (List Nat)}{E:Env}{σ σ2:List OB}{k:Env→List OB→Prop}{res:PV}
    (hs:m9 P σ f args res σ2) (hd:dX E o.dst) (hC:C) (hb:ps.headD false=true∧uw pv 0 σ σ2)
    (next:jL P ops pv r bs.tail ps.tail rd.tail (E.putD o.dst ⟨true,res⟩) σ2 k):pg P ops pv true C f args o r bs ps rd E σ k:=fun hrun hγ =>
  TRP.cons (ts:=⟨true,⟨true,res⟩,σ2⟩) ⟨hγ,hd,.inr (.inr (.inr (.inr (.inl ⟨rfl,C,f,args,res,hrun,hC,hs,rfl,.inr (.inr ⟨hb.1,by have:=vB hb.2;exact ⟨this.1,fun b h hl=>this.2 b h hl⟩⟩)⟩))))⟩ (jW r _ _ _ _ _ _ next)
theorem A4{id:Nat}{l:List Oper}{K:Kt}{E:Env}{σ:List OB}(hm:P.follows .mixedOrders=true)(pv masks:List Nat)(bs ps:List Bool)(rd:List (List Nat))(hc:Ct l.toArray l masks bs ps rd=true)
    (h:TRP P l.toArray pv l bs ps rd E σ (K .normal)):W P (.region id l.toArray true) K E σ:=by
  obtain ⟨tr,ht,hk⟩:=h
  exact AQ hm pv masks bs ps rd [] (Cv hc) ⟨tr,iA.ofP ht,hk⟩
theorem Fd{id:Nat}{l:List Oper}{K:Kt}{E:Env}{σ:List OB}(hm:P.follows .mixedOrders=true)(pv masks:List Nat)(bs ps:List Bool)(rd:List (List Nat))(hc:Ct l.toArray l masks bs ps rd=true)
    (h:∀ (k:Env→List OB→Prop),(∀ E σ,K .normal E σ→k E σ)→jL P l.toArray pv l bs ps rd E σ k):W P (.region id l.toArray true) K E σ :=
  A4 hm pv masks bs ps rd hc (jW l bs ps rd E σ _ (h (K .normal) fun _ _ h=>h))
theorem re{id:Nat}{l:List Oper}{y:Code}{K:Kt}{E:Env}{σ:List OB}(ms:List Nat)(hm:P.follows .mixedOrders=true)(pv masks:List Nat)(bs ps:List Bool)(rd:List (List Nat))(hc:Ct l.toArray l masks bs ps rd=true)
    (h:∀ (k:Env→List OB→Prop),(∀ E σ,W P y K E σ→k E σ)→jL P l.toArray pv l bs ps rd E σ (fun E σ=>k (E.forget ms) σ)):W P (.seq (.region id l.toArray true) y) K E σ :=
  ut (A4 hm pv masks bs ps rd hc (by
    obtain ⟨tr,h1,h2⟩:=jW l bs ps rd E σ _ (h (W P y K) fun _ _ h=>h)
    exact ⟨tr,h1,pd ms h2⟩))
end
def bAP:=And.intro (And.intro (And.intro @jL.eq_1 @jL.eq_2) bL) (And.intro bM (And.intro (And.intro @tG.eq_1 @tG.eq_2) (And.intro @tG.eq_3 @tG.eq_4)))
end Pam
namespace Pam
open Go
section
variable {P:Program} {ops:Array Oper}
theorem aR{l:List Oper}{bs:List Bool}{E:Env}{σ:List OB}{k:Env→List OB→Prop}(h:gP P ops l bs E σ k):TR P ops l bs E σ k:=jE l bs E σ k h
theorem A3:∀ {l l':List Oper} {bs bs':List Bool} {E:Env} {σ:List OB} {k:Env→List OB→Prop},bs.length=l.length→TR P ops l bs E σ (fun E' σ'=>TR P ops l' bs' E' σ' k)→TR P ops (l++l') (bs++bs') E σ k
 |[],l',bs,bs',E,σ,k,hl,⟨tr,h1,h2⟩=>by
  have:bs=[]:=List.eq_nil_of_length_eq_zero (by simpa using hl)
  subst this
  simp only [qA] at h1
  subst h1
  simpa [dQ,be] using h2
 |o :: l,l',bs,bs',E,σ,k,hl,⟨tr,h1,h2⟩=>by
  obtain ⟨ts,r,rfl,h3,h4⟩:=h1
  match bs,hl with
  |b :: bs,hl =>
   refine TR.cons (bs:=b :: bs++bs') (ts:=ts) ?_ ?_
   ·simpa using h3
   ·exact A3 (by simpa using hl) ⟨r,h4,by simpa [dQ,be] using h2⟩
theorem fU(n:Nat){l:List Oper}{bs:List Bool}{E:Env}{σ:List OB}{k:Env→List OB→Prop}(hn:bs.length=l.length)(h:gP P ops (l.take n) (bs.take n) E σ (fun E' σ'=>TR P ops (l.drop n) (bs.drop n) E' σ' k)):TR P ops l bs E σ k:=by
 have:=A3 (by simp [hn]) (jE _ _ _ _ _ h)
 rwa [List.take_append_drop,List.take_append_drop] at this
theorem wG{γ:Bool}{C:Prop}{f:FuncId}{args:List PV}{o:Oper}{r:List Oper}{bs:List Bool}{E:Env}{σ:List OB}{k:Env→List OB→Prop}{res:PV}
  (hs:γ=true→ce P f args res) (hd:dX E o.dst) (hC:γ=true→C) (hargs:args.all PV.noOwn=true) (hres:∀ n,res.ren (d2 n [])=res)
  (next:TR P ops r bs.tail (E.putD o.dst ⟨γ,res⟩) σ k):nu P ops γ C f args o r bs E σ k:=fun hrun hγ =>
 TR.cons (ts:=⟨γ,⟨γ,res⟩,σ⟩) ⟨hγ,hd,.inr (.inr (.inl ⟨C,f,args,res,hrun,fun h=>⟨hC h,hs h⟩,hargs,hres,rfl,rfl⟩))⟩ next
theorem yP{C:Prop}{f:FuncId}{args:List PV}{o:Oper}{r:List Oper}{bs:List Bool}{E:Env}{σ σ2:List OB}{k:Env→List OB→Prop}{res:PV}
  (hs:m9 P σ f args res σ2) (hd:dX E o.dst) (hC:C) (hb:bs.headD false=true∨o9 σ σ2)
  (next:TR P ops r bs.tail (E.putD o.dst ⟨true,res⟩) σ2 k):nu P ops true C f args o r bs E σ k:=fun hrun hγ =>
 TR.cons (ts:=⟨true,⟨true,res⟩,σ2⟩) ⟨hγ,hd,.inr (.inr (.inr (.inr (.inl ⟨rfl,C,f,args,res,hrun,hC,hs,rfl,hb.imp id pQ⟩))))⟩ next
theorem DT{id:Nat}{l:List Oper}{K:Kt}{E:Env}{σ:List OB}(hm:P.follows .mixedOrders=true)(masks:List Nat)(bs:List Bool)(hc:chk l.toArray l masks bs=true)
  (h:∀ (k:Env→List OB→Prop),(∀ E σ,K .normal E σ→k E σ)→TR P l.toArray l bs E σ k):W P (.region id l.toArray true) K E σ :=
 xM hm masks bs hc (h (K .normal) fun _ _ h=>h)
theorem DU{id:Nat}{l:List Oper}{y:Code}{K:Kt}{E:Env}{σ:List OB}(ms:List Nat)(hm:P.follows .mixedOrders=true)(masks:List Nat)(bs:List Bool)(hc:chk l.toArray l masks bs=true)
  (h:∀ (k:Env→List OB→Prop),(∀ E σ,W P y K E σ→k E σ)→TR P l.toArray l bs E σ (fun E σ=>k (E.forget ms) σ)):W P (.seq (.region id l.toArray true) y) K E σ :=
 ut (xM hm masks bs hc (by
  obtain ⟨tr,h1,h2⟩:=h (W P y K) fun _ _ h=>h
  exact ⟨tr,h1,pd ms h2⟩))
end
end Pam
namespace Pam
open Go
section
variable {P:Program} {ops:Array Oper}
theorem Fe{o:Oper}{l:List Oper}{bs:List Bool}{E:Env}{σ σ':List OB}{k:Env→List OB→Prop}{v:PV}(hl:iO o=true)
  (hx:∀ E',(∀ x∈o.op.operands,ev E' x=ev E x)→nh P E' σ o v σ') (hg:eZ ops E o.guard=some true) (hd:dX E o.dst) (hb:bs.headD false=true∨o9 σ σ')
  (next:TR P ops l bs.tail (E.putD o.dst ⟨true,v⟩) σ' k):TR P ops (o :: l) bs E σ k :=
 TR.cons (ts:=⟨true,⟨true,v⟩,σ'⟩) ⟨hg,hd,.inr (.inr (.inr (.inr (.inr ⟨rfl,hl,v,hx,rfl,hb.imp id pQ⟩))))⟩ next
variable {pv:List Nat}
end
end Pam
namespace Pam
open Go
section
variable {P:Program} {ops:Array Oper} {pv:List Nat}
theorem TRQ.cons{o:Oper}{r:List Oper}{bs ps:List Bool}{rd:List (List Nat)}{lt:List Bool}{E:Env}{σ:List OB}{k:Env→List OB→Prop}{ts:TS}(h:zT P ops pv E σ o (bs.headD false) (ps.headD false) (rd.headD []) (lt.headD false) ts)(ht:TRQ P ops pv r bs.tail ps.tail rd.tail lt.tail (E.putD o.dst ts.e) ts.σ k):TRQ P ops pv (o :: r) bs ps rd lt E σ k:=by
 obtain ⟨tr,h1,h2⟩:=ht
 refine ⟨ts :: tr,⟨ts,tr,rfl,h,h1⟩,?_⟩
 simpa [dQ,be] using h2
theorem kE.set{pv:List Nat}{σ:List OB}{b:Nat}{ob:OB}(h:pv.contains b=true):kE pv σ (σ.set b ob) :=
 ⟨by simp, fun c hc _ => by
  have:b≠c:=fun e=>by subst e;exact hc (by simpa using h)
  rw [List.getElem?_set_ne this]⟩
end
end Pam
namespace Pam
open Go
section
variable {P:Program} {ops:Array Oper}
end
end Pam
namespace Pam
open Go
section
variable {P:Program} {ops:Array Oper} {pv:List Nat} {E E':Env} {σ σ' σ2:List OB} {k:Env→List OB→Prop} {kp:PV→Env→List OB→Prop}
theorem kr{rs:List ResultVar}{n:Nat}{post pp:PV→List OB→Prop}(N:Nat)
  (h : match jP P E σ rs with | some (C, ps) => C ∧ ps.all PV.isV = true ∧ (pe (σ.take N) σ ∧ n ≤ (σ.take N).length ∧ bt (σ.take N).length (σ.take N) ∧ (jJ ps).underP (σ.take N).length ∧ post (jJ ps) (σ.take N)) | none => False := by
   simp only [List.take_succ_cons,List.take_zero,List.take_nil,bF,bT,tab,bX,Sum.elim_inl,Sum.elim_inr,reduceIte,↓reduceIte,reduceCtorEq,Int.reduceToNat,Nat.reduceDiv,Nat.reduceMod,Nat.reduceLT,Nat.reduceLeDiff,Nat.reduceAdd,Nat.reduceSub,Nat.reduceMul,Nat.reduceEqDiff,Nat.reduceBEq,Nat.reduceBNe,Nat.reduceGT]<;>first|done|rfl|(and_intros<;>first|rfl|omega|(simp;done)|(simp [eK,eB,eS,eL];done)|(simp [lit,bX,eK,eB,eS,eL];done)|(simp [CV.under,bN,CV.frO];done))):qi P rs (zY n post) pp .ret E σ:=tD (σ.take N) h
theorem kn{rs:List ResultVar}{n:Nat}{post pp:PV→List OB→Prop}(N:Nat)
  (h : match jP P E σ rs with | some (C, ps) => C ∧ ps.all PV.isV = true ∧ (pe (σ.take N) σ ∧ n ≤ (σ.take N).length ∧ bt (σ.take N).length (σ.take N) ∧ (jJ ps).underP (σ.take N).length ∧ post (jJ ps) (σ.take N)) | none => False := by
   simp only [List.take_succ_cons,List.take_zero,List.take_nil,bF,bT,tab,bX,Sum.elim_inl,Sum.elim_inr,reduceIte,↓reduceIte,reduceCtorEq,Int.reduceToNat,Nat.reduceDiv,Nat.reduceMod,Nat.reduceLT,Nat.reduceLeDiff,Nat.reduceAdd,Nat.reduceSub,Nat.reduceMul,Nat.reduceEqDiff,Nat.reduceBEq,Nat.reduceBNe,Nat.reduceGT]<;>first|done|rfl|(and_intros<;>first|rfl|omega|(simp;done)|(simp [eK,eB,eS,eL];done)|(simp [lit,bX,eK,eB,eS,eL];done)|(simp [CV.under,bN,CV.frO];done))):qi P rs (zY n post) pp .normal E σ:=By (σ.take N) h
theorem sp{p q:Prop}(hq:q)(hp:p:=by first|omega|assumption|decide|exact cU fun _=>rfl|(intro _;omega)|rfl|exact fun e=>absurd (List.map_eq_nil_iff.1 e) (by assumption)|(and_intros<;>first|omega|assumption|decide|exact cU fun _=>rfl)|(refine .inl ?_;simp only [o9];and_intros<;>first|rfl|trivial)|(refine .inr (.inl ?_);simp only [o9];and_intros<;>first|rfl|trivial)|(refine .inr ?_;simp only [uw];and_intros<;>first|exact .inl rfl|exact .inr rfl|trivial)|(refine .inr (.inr ⟨rfl,?_⟩);simp only [uw];and_intros<;>first|exact .inl rfl|exact .inr rfl|trivial)|exact .inl rfl):p∧q:=⟨hp,hq⟩
theorem gp{p q:Prop} (hq:q) (h:Bx q→p:=by
  intro hq
  simp only [bAP,bT,tab,bX,reduceIte,↓reduceIte,reduceCtorEq,Int.reduceToNat,Nat.reduceDiv,Nat.reduceMod,Nat.reduceLT,Nat.reduceLeDiff,Nat.reduceAdd,Nat.reduceSub,Nat.reduceMul,Nat.reduceEqDiff,Nat.reduceBEq,Nat.reduceBNe,Nat.reduceGT,List.replicate,List.foldr]
  repeat refine sp ?_
  exact hq.1):p:=h ⟨hq⟩
theorem gpx{p q F:Prop} (fx:F) (hq:q) (h:F→Bx q→p:=by
  intro fx hq
  simp only [bAP,bT,tab,bX,reduceIte,↓reduceIte,reduceCtorEq,Int.reduceToNat,Nat.reduceDiv,Nat.reduceMod,Nat.reduceLT,Nat.reduceLeDiff,Nat.reduceAdd,Nat.reduceSub,Nat.reduceMul,Nat.reduceEqDiff,Nat.reduceBEq,Nat.reduceBNe,Nat.reduceGT,List.replicate,List.foldr,fx]
  repeat refine sp ?_
  exact hq.1):p:=h fx ⟨hq⟩
theorem gt{p q:Prop} (hq:q) (h:Bx q→p:=by
  intro hq
  simp only [bR,bT,tab,bX,reduceIte,↓reduceIte,reduceCtorEq,Int.reduceToNat,Nat.reduceDiv,Nat.reduceMod,Nat.reduceLT,Nat.reduceLeDiff,Nat.reduceAdd,Nat.reduceSub,Nat.reduceMul,Nat.reduceEqDiff,Nat.reduceBEq,Nat.reduceBNe,Nat.reduceGT,bZ]
  repeat refine sd ?_
  exact hq.1):p:=h ⟨hq⟩
theorem gtx{p q F:Prop} (fx:F) (hq:q) (h:F→Bx q→p:=by
  intro fx hq
  simp only [bR,bT,tab,bX,reduceIte,↓reduceIte,reduceCtorEq,Int.reduceToNat,Nat.reduceDiv,Nat.reduceMod,Nat.reduceLT,Nat.reduceLeDiff,Nat.reduceAdd,Nat.reduceSub,Nat.reduceMul,Nat.reduceEqDiff,Nat.reduceBEq,Nat.reduceBNe,Nat.reduceGT,bZ,fx]
  repeat refine sd ?_
  exact hq.1):p:=h fx ⟨hq⟩
theorem la{p:Prop}(h:p:=by first|(simp only [bS,bX,reduceIte,↓reduceIte,reduceCtorEq,Int.reduceToNat,Nat.reduceDiv,Nat.reduceMod,Nat.reduceLT,Nat.reduceLeDiff,Nat.reduceAdd,Nat.reduceSub,Nat.reduceMul,Nat.reduceEqDiff,Nat.reduceBEq,Nat.reduceBNe,Nat.reduceGT]<;>first|done|(and_intros<;>first|rfl|(simp;done)|omega|(simp [lit,bX,eK,eB,eS,eL];done)|(simp only [oC,List.length_cons,List.length_nil,List.length_append,List.length_set,List.length_replicate,List.length_map,List.length_take,List.length_drop];omega)))|(simp only [bS,bX,reduceIte,↓reduceIte,reduceCtorEq,Int.reduceToNat,Nat.reduceDiv,Nat.reduceMod,Nat.reduceLT,Nat.reduceLeDiff,Nat.reduceAdd,Nat.reduceSub,Nat.reduceMul,Nat.reduceEqDiff,Nat.reduceBEq,Nat.reduceBNe,Nat.reduceGT, *]<;>first|done|(and_intros<;>first|rfl|(simp;done)|omega|(simp [lit,bX,eK,eB,eS,eL];done)|(simp only [oC,List.length_cons,List.length_nil,List.length_append,List.length_set,List.length_replicate,List.length_map,List.length_take,List.length_drop];omega)))):p:=h
theorem ct{f:FuncId}{args:List PV}{p:PV}(ρ:List Nat){args':List PV}{σc:List OB}{post pp:PV→List OB→Prop}(hs:cC P f args' σc post pp)
  (h1:ρ.Nodup:=by simp) (h2:∀ b∈ρ,b<σ.length:=by simp) (h3:args=args'.map (PV.ren (d2 σ.length ρ)):=by exact rfl) (h4:ρ.map (fun b=>σ[b]?)=σc.map (fun ob=>some (ob.ren (d2 σ.length ρ))):=by exact rfl)
  (h5:da ρ.length args':=by first|trivial|(simp [bX,eK,eB,eS,eL,jT,da,PV.under,CV.under,bt,OB.under,bN];done)) (h6:bt ρ.length σc:=by first|trivial|(simp [bX,eK,eB,eS,eL,jT,da,PV.under,CV.under,bt,OB.under,bN];done))
  (h7:∀ q τ,post q τ→ρ.length≤τ.length→q.ren (d2 σ.length ρ)=p∧dP σ ρ (τ.map (OB.ren (d2 σ.length ρ)))=σ2:=by intro q τ hq _;obtain ⟨rfl,rfl⟩:=hq;exact ⟨rfl,rfl⟩) (h8:∀ q τ,pp q τ→False:=by exact fun _ _ h=>h.elim):m9 P σ f args p σ2:=⟨args',σc,post,pp,ρ,hs,h1,h2,h3,h4,h5,h6,h7,h8⟩
theorem ca{C:Prop}{f:FuncId}{args:List PV}{o:Oper}{r:List Oper}{bs:List Bool}{res:PV}{ops:Array Oper}(hs:m9 P σ f args res σ2)(next:gP P ops r bs.tail (E.putD o.dst ⟨true,res⟩) σ2 k)
  (hd:dX E o.dst:=by first|trivial|exact iR rfl) (hC:C:=by first|trivial|(intro _;first|trivial|simp [need])|simp [need]) (hb:bs.headD false=true∨o9 σ σ2:=by first|exact .inl rfl|exact .inr (by simp only [o9];and_intros<;>first|rfl|trivial)):nu P ops true C f args o r bs E σ k:=zW hs hd hC hb next
theorem cat{C:Prop}{f:FuncId}{args:List PV}{o:Oper}{r:List Oper}{bs:List Bool}{res:PV}{ops:Array Oper}(hs:m9 P σ f args res σ2)(next:TR P ops r bs.tail (E.putD o.dst ⟨true,res⟩) σ2 k)
  (hd:dX E o.dst:=by first|trivial|exact iR rfl) (hC:C:=by first|trivial|(intro _;first|trivial|simp [need])|simp [need]) (hb:bs.headD false=true∨o9 σ σ2:=by first|exact .inl rfl|exact .inr (by simp only [o9];and_intros<;>first|rfl|trivial)):nu P ops true C f args o r bs E σ k:=yP hs hd hC hb next
theorem cap{C:Prop}{f:FuncId}{args:List PV}{o:Oper}{r:List Oper}{bs ps:List Bool}{rd:List (List Nat)}{res:PV}{ops:Array Oper}(hs:m9 P σ f args res σ2)(next:jL P ops pv r bs.tail ps.tail rd.tail (E.putD o.dst ⟨true,res⟩) σ2 k)
  (hd:dX E o.dst:=by first|trivial|exact iR rfl) (hC:C:=by first|trivial|(intro _;first|trivial|simp [need])|simp [need]) (hb:bs.headD false=true∨o9 σ σ2:=by first|exact .inl rfl|exact .inr (by simp only [o9];and_intros<;>first|rfl|trivial)):pg P ops pv true C f args o r bs ps rd E σ k:=yQ hs hd hC hb next
theorem pat{γ:Bool}{C:Prop}{f:FuncId}{args:List PV}{o:Oper}{r:List Oper}{bs:List Bool}{res:PV}(hs:γ=true→ce P f args res)(next:TR P ops r bs.tail (E.putD o.dst ⟨γ,res⟩) σ k)
  (hd:dX E o.dst:=by first|trivial|exact iR rfl) (hC:γ=true→C:=by first|trivial|(intro _;first|trivial|simp [need])|simp [need]) (hargs:args.all PV.noOwn=true:=by exact rfl) (hres:∀ n,res.ren (d2 n [])=res:=by exact fun _=>rfl):nu P ops γ C f args o r bs E σ k:=wG hs hd hC hargs hres next
theorem pap{γ:Bool}{C:Prop}{f:FuncId}{args:List PV}{o:Oper}{r:List Oper}{bs ps:List Bool}{rd:List (List Nat)}{res:PV}(hs:γ=true→ce P f args res)(next:jL P ops pv r bs.tail ps.tail rd.tail (E.putD o.dst ⟨γ,res⟩) σ k)
  (hd:dX E o.dst:=by first|trivial|exact iR rfl) (hC:γ=true→C:=by first|trivial|(intro _;first|trivial|simp [need])|simp [need]) (hargs:args.all PV.noOwn=true:=by exact rfl) (hres:∀ n,res.ren (d2 n [])=res:=by exact fun _=>rfl):pg P ops pv γ C f args o r bs ps rd E σ k:=wH hs hd hC hargs hres next
end
end Pam
namespace Pam
open Go
class RB (p:Prop) (b:outParam Bool):Prop where
 t:p→b=true
 f:¬ p→b=false
instance (priority:=low) rbD {p:Prop} [Decidable p]:RB p (decide p):=⟨dT,dF⟩
instance rbE {α:Type} [BEq α] [LawfulBEq α] {a b:α}:RB (a=b) (a == b):=⟨eQ,nB⟩
instance (priority:=high) rbV {b:Bool}:RB (b=true) b:=⟨id,fB⟩
theorem RB.e{p:Prop}{b:Bool}(h:RB p b):p↔b=true:=⟨h.t,fun x=>Classical.byContradiction fun n=>by rw [h.f n] at x;cases x⟩
instance rbN {p:Prop} {b:Bool} [h:RB p b]:RB (¬ p) (!b):=⟨fun x=>by rw [h.f x];rfl,fun x=>by rw [h.t (Classical.not_not.1 x)];rfl⟩
instance (priority:=high) rbM {α:Type} [BEq α] [LawfulBEq α] {a b:α}:RB (¬ a=b) (a != b):=⟨bne_iff_ne.2,fun h=>bne_eq_false_iff_eq.2 (Classical.not_not.1 h)⟩
instance rbA {p q:Prop} {a b:Bool} [h:RB p a] [i:RB q b]:RB (p∧q) (a && b):=⟨fun x=>by rw [h.t x.1,i.t x.2];rfl,fun x=>fB fun y=>x ⟨h.e.2 (Bool.and_eq_true_iff.1 y).1,i.e.2 (Bool.and_eq_true_iff.1 y).2⟩⟩
section
variable {P:Program} {E:Env} {σ:List OB} {K:Kt} {p:Prop} {α:Type} {a b:Option α} {r:α} {X:Bool} {G:Prop}
theorem ci{d:Decidable p}(hm:ite p a b=some r)(h1:p→a=some r→G)(h2:¬ p→b=some r→G):G:=by
 by_cases h:p
 ·rw [iP h] at hm;exact h1 h hm
 ·rw [iN h] at hm;exact h2 h hm
theorem cb{d:Decidable p}[RB p X](hm:ite p a b=some r)(h1:p→X=true→a=some r→G)(h2:¬ p→X=false→b=some r→G):G:=ci hm (fun h=>h1 h (RB.t h)) fun h=>h2 h (RB.f h)
theorem cd{d:Decidable p}[RB p X]{c:Operand}{x y:Code}(hm:ite p a b=some r)(hc:ev E c=⟨true,.c (.bool X)⟩)(h1:p→a=some r→W P x K E σ)(h2:¬ p→b=some r→W P y K E σ):W P (.cond c x y) K E σ :=
 cb hm (fun h hx hm=>bj hc hx (h1 h hm)) fun h hx hm=>cJ hc hx (h2 h hm)
theorem cn{d:Decidable p}[RB p X]{c:Operand}{x y:Code}(hm:ite p a b=some r)(hc:ev E c=⟨true,.c (.bool (!X))⟩)(h1:p→a=some r→W P y K E σ)(h2:¬ p→b=some r→W P x K E σ):W P (.cond c x y) K E σ :=
 cb hm (fun h hx hm=>cJ hc (by rw [hx];rfl) (h1 h hm)) fun h hx hm=>bj hc (by rw [hx];rfl) (h2 h hm)
end
def mkM(l:List Oper):List Nat:=l.foldl (fun ms o=>ms++[orM ms (fL o)]) []
def bl:Nat→Nat→List Bool
 |0,_=>[]
 |n+1,b=>(b % 2 == 1) :: bl n (b / 2)
theorem bl0(b:Nat):bl 0 b=[]:=rfl
theorem blS(n b:Nat):bl (n+1) b=(b % 2 == 1) :: bl n (b / 2):=rfl
section
variable {P:Program} {E E':Env} {σ σ':List OB} {K:Kt} {y:Code} {id:Nat} {l:List Oper} {bs:List Bool}
theorem kM(ms:List Nat)(n b:Nat)(h:∀ (k:Env→List OB→Prop),(∀ E σ,W P y K E σ→k E σ)→TR P l.toArray l bs E σ (fun E σ=>k (E.forget ms) σ))(hb:bl n b=bs:=by simp only [blS,bl0,Nat.reduceMod,Nat.reduceDiv,Nat.reduceBEq,Nat.reduceEqDiff];exact rfl)(hm:P.follows .mixedOrders=true:=by kernel_rfl)(hc:chk l.toArray l (mkM l) bs=true:=by kernel_rfl):W P (.seq (.region id l.toArray true) y) K E σ:=DU ms hm (mkM l) bs hc h
theorem A6(n b:Nat)(h:∀ (k:Env→List OB→Prop),(∀ E σ,K .normal E σ→k E σ)→TR P l.toArray l bs E σ k)(hb:bl n b=bs:=by simp only [blS,bl0,Nat.reduceMod,Nat.reduceDiv,Nat.reduceBEq,Nat.reduceEqDiff];exact rfl)(hm:P.follows .mixedOrders=true:=by kernel_rfl)(hc:chk l.toArray l (mkM l) bs=true:=by kernel_rfl):W P (.region id l.toArray true) K E σ:=DT hm (mkM l) bs hc h
theorem ou(ms:List Nat)(n b:Nat)(h:∀ (k:Env→List OB→Prop),(∀ E σ,W P y K E σ→k E σ)→gP P l.toArray l bs E σ (fun E σ=>k (E.forget ms) σ))(hb:bl n b=bs:=by simp only [blS,bl0,Nat.reduceMod,Nat.reduceDiv,Nat.reduceBEq,Nat.reduceEqDiff];exact rfl)(hm:P.follows .mixedOrders=true:=by kernel_rfl)(hc:chk l.toArray l (mkM l) bs=true:=by kernel_rfl):W P (.seq (.region id l.toArray true) y) K E σ:=zX ms hm (mkM l) bs hc h
theorem rr(n b:Nat)(h:∀ (k:Env→List OB→Prop),(∀ E σ,K .normal E σ→k E σ)→gP P l.toArray l bs E σ k)(hb:bl n b=bs:=by simp only [blS,bl0,Nat.reduceMod,Nat.reduceDiv,Nat.reduceBEq,Nat.reduceEqDiff];exact rfl)(hm:P.follows .mixedOrders=true:=by kernel_rfl)(hc:chk l.toArray l (mkM l) bs=true:=by kernel_rfl):W P (.region id l.toArray true) K E σ:=Ch hm (mkM l) bs hc h
theorem Ae(ms:List Nat)(n b:Nat)(next:W P y K E' σ')(hb:bl n b=bs:=by simp only [blS,bl0,Nat.reduceMod,Nat.reduceDiv,Nat.reduceBEq,Nat.reduceEqDiff];exact rfl)(hm:P.follows .mixedOrders=true:=by kernel_rfl)(hc:chk l.toArray l (mkM l) bs=true:=by kernel_rfl)
  (h : ∀ (k : Env → List OB → Prop), k E' σ' → gP P l.toArray l bs E σ (fun E σ => k (E.forget ms) σ) := by
   intro k hk
   refine ga ?_
   exact hk):W P (.seq (.region id l.toArray true) y) K E σ:=zX ms hm (mkM l) bs hc fun k hk=>h k (hk _ _ next)
theorem GH(n b:Nat)(next:K .normal E' σ')(hb:bl n b=bs:=by simp only [blS,bl0,Nat.reduceMod,Nat.reduceDiv,Nat.reduceBEq,Nat.reduceEqDiff];exact rfl)(hm:P.follows .mixedOrders=true:=by kernel_rfl)(hc:chk l.toArray l (mkM l) bs=true:=by kernel_rfl)
  (h : ∀ (k : Env → List OB → Prop), k E' σ' → gP P l.toArray l bs E σ k := by
   intro k hk
   refine ga ?_
   exact hk):W P (.region id l.toArray true) K E σ:=Ch hm (mkM l) bs hc fun k hk=>h k (hk _ _ next)
theorem mq{F:Prop}(fx:F)(ms:List Nat)(n b:Nat)(next:W P y K E' σ')(hb:bl n b=bs:=by simp only [blS,bl0,Nat.reduceMod,Nat.reduceDiv,Nat.reduceBEq,Nat.reduceEqDiff];exact rfl)(hm:P.follows .mixedOrders=true:=by kernel_rfl)(hc:chk l.toArray l (mkM l) bs=true:=by kernel_rfl)
  (h : F → ∀ (k : Env → List OB → Prop), k E' σ' → gP P l.toArray l bs E σ (fun E σ => k (E.forget ms) σ) := by
   intro fx k hk
   refine gax fx ?_
   exact hk):W P (.seq (.region id l.toArray true) y) K E σ:=zX ms hm (mkM l) bs hc fun k hk=>h fx k (hk _ _ next)
theorem xh{F:Prop}(fx:F)(n b:Nat)(next:K .normal E' σ')(hb:bl n b=bs:=by simp only [blS,bl0,Nat.reduceMod,Nat.reduceDiv,Nat.reduceBEq,Nat.reduceEqDiff];exact rfl)(hm:P.follows .mixedOrders=true:=by kernel_rfl)(hc:chk l.toArray l (mkM l) bs=true:=by kernel_rfl)
  (h : F → ∀ (k : Env → List OB → Prop), k E' σ' → gP P l.toArray l bs E σ k := by
   intro fx k hk
   refine gax fx ?_
   exact hk):W P (.region id l.toArray true) K E σ:=Ch hm (mkM l) bs hc fun k hk=>h fx k (hk _ _ next)
end
theorem sf{P:Program}{σ:List OB}{f:FuncId}{fn:Func}{c:Code}{args:List PV}{post pp:PV→List OB→Prop}{E':Env}(n:Nat)(rs:List ResultVar)(hf:P.funcs[f]? = some fn)(h:W P c (qi P rs (zY σ.length post) pp) E' σ)
  (hb:fn.body=some c:=by exact rfl) (hn:fn.ntmps=n:=by exact rfl) (hr:fn.results.toList=rs:=by exact rfl) (hname:(fn.name == "runtime.NumGoroutine")=false:=by kernel_rfl) (hlen:args.length≤n:=by simp)
  (he:Env.ofList n σ.length (jQ 0 args)=E':=by simp only [jQ,Env.ofList,List.length_nil,List.length_cons,bE,Nat.reduceDiv,Nat.reduceMod,Nat.reduceLT,Nat.reduceLeDiff,Nat.reduceAdd,Nat.reduceSub,Nat.reduceMul,Nat.reduceEqDiff,Nat.reduceBEq,Nat.reduceBNe,Nat.reduceGT,Int.reduceToNat];rfl):cC P f args σ post pp :=
 vx n rs hf hb hn hr hname hlen (by rw [he];exact h)
theorem goK{p q:Prop} (h:Bx q→p:=by
  intro hq
  refine go ?_
  exact hq.1) (hq:q):p:=h ⟨hq⟩
theorem gaK{p q:Prop} (h:Bx q→p:=by
  intro hq
  refine ga ?_
  exact hq.1) (hq:q):p:=h ⟨hq⟩
theorem gzK{p q:Prop} (h:Bx q→p:=by
  intro hq
  refine gz ?_
  exact hq.1) (hq:q):p:=h ⟨hq⟩
theorem gpK{p q:Prop} (h:Bx q→p:=by
  intro hq
  refine gp ?_
  exact hq.1) (hq:q):p:=h ⟨hq⟩
theorem gtK{p q:Prop} (h:Bx q→p:=by
  intro hq
  refine gt ?_
  exact hq.1) (hq:q):p:=h ⟨hq⟩
theorem aw{p q F:Prop} (fx:F) (h:F→Bx q→p:=by
  intro fx hq
  refine gox fx ?_
  exact hq.1) (hq:q):p:=h fx ⟨hq⟩
theorem bD{p q F:Prop} (fx:F) (h:F→Bx q→p:=by
  intro fx hq
  refine gax fx ?_
  exact hq.1) (hq:q):p:=h fx ⟨hq⟩
theorem DX{p q F:Prop} (fx:F) (h:F→Bx q→p:=by
  intro fx hq
  refine gpx fx ?_
  exact hq.1) (hq:q):p:=h fx ⟨hq⟩
theorem Fj{p q F:Prop} (fx:F) (h:F→Bx q→p:=by
  intro fx hq
  refine gtx fx ?_
  exact hq.1) (hq:q):p:=h fx ⟨hq⟩
end Pam
namespace Pam
open Go
theorem Lw1{p:Prop} (h:p:=by
  refine (hk _ _∘aC∘aE∘aJ) ?_
  cases hm
  exact kr 0):p:=h
theorem Lw2{p:Prop} (h:p:=by
  refine (aE∘aJ∘cQ∘aE∘bY) ?_
  cases hm
  exact kr 0):p:=h
theorem Lw3{p:Prop} (h:p:=by
  refine (aC∘aE∘aJ) ?_
  cases hm
  exact kr 1):p:=h
theorem Lw4{p:Prop} (h:p:=by
  refine (bo∘aU∘aD∘aq () () hm) ?_
  exact ls):p:=h
theorem Lw5{p:Prop} (h:p:=by
  refine aC ?_
  cases hm
  exact kr 0):p:=h
theorem Lw6{p:Prop} (h:p:=by
  refine (aC∘aJ) ?_
  cases hm
  exact kr 0):p:=h
theorem Lw7{p:Prop} (h:p:=by
  refine (aC∘aE∘aJ) ?_
  cases hm
  exact kr 0):p:=h
theorem Lw8{p:Prop} (h:p:=by
  refine (aE∘bY) ?_
  cases hm
  exact kr 0):p:=h
theorem Lw9{p:Prop} (h:p:=by
  simp only [bZ,bL,reduceIte,↓reduceIte,reduceCtorEq,Int.reduceToNat,Nat.reduceDiv,Nat.reduceMod,Nat.reduceLT,Nat.reduceLeDiff,Nat.reduceAdd,Nat.reduceSub,Nat.reduceMul,Nat.reduceEqDiff,Nat.reduceBEq,Nat.reduceBNe,Nat.reduceGT,List.length_cons,List.length_nil,List.length_append,List.cons_append,List.nil_append]
  refine dk (mK 1 0 (by decide) rfl rfl) ?_
  refine dk (kJ 0 1 (by decide) (Nat.le_of_ble_eq_true rfl) (Nat.le_of_ble_eq_true rfl) rfl rfl) ?_
  refine (aC∘aJ) ?_
  cases hm
  exact kr 1):p:=h
theorem qD{p:Prop} (h:p:=by
  refine (aC∘aE∘aJ) ?_
  cases hm
  exact kr 2):p:=h
theorem wK{p:Prop} (h:p:=by
  refine (aE∘aJ∘cQ∘aE∘bY) ?_
  cases hm
  exact kr 1):p:=h
theorem se{p:Prop} (h:p:=by
  refine (aC∘aE∘aJ) ?_
  cases hm
  exact kr 4):p:=h
theorem Gg{p:Prop} (h:p:=by
  refine bQ (lu 1 2 (by decide)) ?_
  simp only [bZ,bL,reduceIte,↓reduceIte,reduceCtorEq,Int.reduceToNat,Nat.reduceDiv,Nat.reduceMod,Nat.reduceLT,Nat.reduceLeDiff,Nat.reduceAdd,Nat.reduceSub,Nat.reduceMul,Nat.reduceEqDiff,Nat.reduceBEq,Nat.reduceBNe,Nat.reduceGT,List.length_cons,List.length_nil,List.length_append,List.cons_append,List.nil_append]
  refine dk (mK 1 0 (by decide) rfl rfl) ?_
  refine dk (kJ 0 1 (by decide) (Nat.le_of_ble_eq_true rfl) (Nat.le_of_ble_eq_true rfl) rfl rfl) ?_
  refine aC ?_
  cases hm
  exact kr 1):p:=h
theorem tH{p:Prop} (h:p:=by
  refine (ak∘aq () () hm) ?_
  exact ls):p:=h
theorem DY{p:Prop} (h:p:=by
  refine (hk _ _∘bj rfl rfl∘af [0,5,10,48]∘aC∘aJ∘aE∘bY) ?_
  cases hm
  exact kr 1):p:=h
theorem vD{p:Prop} (h:p:=by
  refine (aE∘bY) ?_
  cases hm
  exact kr 3):p:=h
theorem pV{p:Prop} (h:p:=by
  refine aC ?_
  cases hm
  exact kr 1):p:=h
theorem Af{p:Prop} (h:p:=by
  refine (aC∘aE∘aJ) ?_
  cases hm
  exact kr 3):p:=h
theorem Fk{p:Prop} (h:p:=by
  refine (hk _ _∘bj rfl rfl∘af [0,42,43]∘aC∘aJ) ?_
  cases hm
  exact kr 1):p:=h
theorem wL{p:Prop} (h:p:=by
  refine aC ?_
  cases hm
  exact kr 3):p:=h
theorem xR{p:Prop} (h:p:=by
  refine aC ?_
  cases hm
  exact kr 7):p:=h
theorem CA{p:Prop} (h:p:=by
  refine (af [1,17]∘aC) ?_
  cases hm
  exact kr 9):p:=h
theorem CB{p:Prop} (h:p:=by
  refine (aE∘bY) ?_
  cases hm
  exact kr 1):p:=h
theorem Fm{p:Prop} (h:p:=by
  refine (aa∘goK∘hk _ _∘aC) ?_
  cases hm
  exact kr 6):p:=h
theorem yR{p:Prop} (h:p:=by
  refine aC ?_
  cases hm
  exact kr 2):p:=h
theorem DZ{p:Prop} (h:p:=by
  refine (aj∘aq () () hm) ?_
  exact ls):p:=h
theorem CC{p:Prop} (h:p:=by
  refine aJ ?_
  cases hm
  exact kr 2):p:=h
end Pam
namespace Pam
open Go
section
variable {P:Program} {E:Env} {σ:List OB}
def cpy(l:List Int)(lo n:Nat)(m:List Int):List Int:=if lo+n≤l.length then l.take lo++m.take n++l.drop (lo+min m.length n) else l
theorem D3(l:List Int)(lo n:Nat)(m:List Int):(cpy l lo n m).length=l.length:=by
 unfold cpy
 split
 ·simp only [List.length_append,List.length_take,List.length_drop];omega
 ·rfl
end
end Pam
namespace Pam
open Go
def clr{α:Type}(z:α)(l:List α)(lo n:Nat):List α:=if lo+n≤l.length then l.take lo++List.replicate n z++l.drop (lo+n) else l
theorem D4{α:Type}(z:α)(l:List α)(lo n:Nat):(clr z l lo n).length=l.length:=by
 unfold clr
 split
 ·simp only [List.length_append,List.length_take,List.length_drop,List.length_replicate];omega
 ·rfl
theorem enC{p:Prop}(h:p:=by simp only [bF,bT,tab,bX,Sum.elim_inl,Sum.elim_inr,reduceIte,↓reduceIte,reduceCtorEq,Int.reduceToNat,Nat.reduceDiv,Nat.reduceMod,Nat.reduceLT,Nat.reduceLeDiff,Nat.reduceAdd,Nat.reduceSub,Nat.reduceMul,Nat.reduceEqDiff,Nat.reduceBEq,Nat.reduceBNe,Nat.reduceGT]<;>first|done|rfl|(and_intros<;>first|rfl|omega|(simp;done)|(simp [eK,eB,eS,eL];done)|(simp only [List.length_take,D4,D3];omega))):p:=h
section
variable {P:Program} {E:Env} {σ:List OB}
end
end Pam
namespace Pam
open Go
section
variable {P:Program} {E:Env} {σ:List OB}
def mII(p:Int×Int):Lit×CV:=(.int .i64 p.1,.int .i64 p.2)
def pS(P:Program)(t k e:TypeId):Bool:=(match P.underlying t with|some (.map k' e')=>k' == k && e' == e|_=>false) && (match P.underlying k with|some (.int .i64)=>true|_=>false)
theorem vA{t k e:TypeId}(h:pS P t k e=true):P.underlying t=some (.map k e)∧P.underlying k=some (.int .i64):=by
 unfold pS at h
 rw [Bool.and_eq_true] at h
 obtain ⟨h1,h2⟩:=h
 constructor
 ·split at h1
  ·rename_i k' e' hu
   simp only [Bool.and_eq_true,beq_iff_eq] at h1
   rw [hu,h1.1,h1.2]
  ·cases h1
 ·split at h2
  ·assumption
  ·cases h2
theorem Gf{n:Int}(h:-9223372036854775808≤n∧n≤9223372036854775807):(Lit.int .i64 n).wf=true:=by
 have e1:IntKind.i64.min = -9223372036854775808:=by decide
 have e2:IntKind.i64.max=9223372036854775807:=by decide
 simp [Lit.wf,e1,e2,h.1,h.2]
theorem Bz{o:Oper}{t k e:TypeId}(ho:o.op=.makeMap t none)(ht:pS P t k e=true):nh P E σ o (.c (.optr σ.length 0)) (σ++[.mp P k (([]:List (Int×Int)).map mII)]):=fun G a w hs=>by
 have hi:=hs.inv
 have hle:bV G.own (G.own++[some ⟨w.heap.size,1,0,0,true,0⟩]):=bV.append _ _
 have hlast:(G.own++[some (⟨w.heap.size,1,0,0,true,0⟩:OG)])[σ.length]? = some (some ⟨w.heap.size,1,0,0,true,0⟩):=by rw [← hi.len];simp
 refine ⟨_,.map (some w.heap.size),w.alloc (.map #[] 0),{ G with own:=G.own++[some ⟨w.heap.size,1,0,0,true,0⟩] },?_,.inl rfl,⟨fun _ _ h=>h,rfl,rfl,rfl⟩,hle,?_,?_⟩
 ·simp only [execOp,ho]
  rfl
 ·refine hi.push (.mp P k []) _ (by simp) (fun b hb=>heap_alloc_old w _ hb) (fun _=>rfl) rfl rfl rfl ?_
  exact ⟨_,hlast,rfl,rfl,rfl,.map [],World.ownsMap_made w P k _,fun kl=>by simp [lk,DataW.atKey]⟩
 ·exact ⟨rfl,_,hlast,fun o e _=>by simp only [sJ] at e;subst e;rfl⟩
theorem AZ{G:Gh}{w:World}{b:Nat}{k:TypeId}{m:List (Lit×CV)}{v:Value}(hi:Inv G σ w)(hσ:σ[b]? = some (.mp P k m))(hr:a8 G (.c (.optr b 0)) v):∃ o,G.own[b]? = some (some o)∧o.has=true∧o.ver=0∧o.sz=1∧B4 G.H w P k m o.blk∧v=.map (some o.blk):=by
 obtain ⟨o,h1,h2,h3,h4,h5⟩:=hi.own b _ hσ
 obtain ⟨_,oo,q1,q2⟩:=hr
 rw [h1] at q1
 simp only [sJ] at q1
 exact ⟨o,h1,h2,h3,h4,h5,(q2 o q1.symm h3).trans (iN (by omega))⟩
end
end Pam
namespace Pam
open Go
def nN{α:Type}(s:Nat)(e:α→List CV):List α→CV
 |[]=>.nils
 |a :: l=>.tree s ((a :: l).map e)
def eN{α:Type}(s:Nat)(e:α→List CV)(o:List α):List CV:=[nN s e o]
theorem wI{α:Type}{l:List α}[Decidable (l=[])](h:decide (l=[])=true)(s:Nat)(e:α→List CV):nN s e l=.nils:=by rw [of_decide_eq_true h];rfl
theorem uK{α:Type}{l:List α}(h:l≠[])(s:Nat)(e:α→List CV):nN s e l=.tree s (l.map e):=by cases l with|nil=>exact absurd rfl h|cons a l=>rfl
theorem wJ{α:Type}{l:List α}[Decidable (l=[])](h:decide (l=[])=false)(s:Nat)(e:α→List CV):nN s e l=.tree s (l.map e):=uK (of_decide_eq_false h) s e
section
variable {P:Program} {E:Env} {σ σ':List OB}
theorem Ff{α:Type}{H:Nat→Option Obj}{s:Nat}{e:α→List CV}{x:List α}{v:Value}(h:bm H (nN s e x) v):bm H (.tree s (x.map e)) v:=by
 cases x with
 |nil=>exact vy _ h
 |cons a l=>exact h
theorem BA{α:Type}(b:Nat){s ver k:Nat}{T:TypeId}{e:α→List CV}{l:List (List α)}(hσ:σ[b]? = some (.arr s ver T (l.map (eN k e)))):iJ E σ E (σ.set b (.arr s ver T (l.map (eL k e)))):=by
 intro G a w hs'
 refine ⟨G,Gle.refl G,?_,hs'.defers,hs'.size,hs'.na,hs'.slot⟩
 have hi:=hs'.inv
 have hlt:b<σ.length:=(List.getElem?_eq_some_iff.1 hσ).1
 refine ⟨hi.hH,hi.hF,hi.HF,by simpa using hi.len,fun q ob hk=>?_,hi.inj,hi.sep,hi.os,hi.tape,hi.output,hi.grow⟩
 by_cases hkb:q=b
 ·subst hkb
  rw [List.getElem?_set_self hlt] at hk
  simp only [sJ] at hk;subst hk
  obtain ⟨o,g1,g2,g3,g4,g5,g6,g7,g8,g9⟩:=hi.own q _ hσ
  refine ⟨o,g1,g2,g3,g4,by simpa using g5,by simpa using g6,fun y hy=>?_,fun h=>?_,fun hh=>?_⟩
  ·obtain ⟨x,hx,rfl⟩:=List.mem_map.1 hy
   have:=g7 (eN k e x) (List.mem_map.2 ⟨x,hx,rfl⟩)
   simpa [eN,eL] using this
  ·simpa using g8 h
  ·obtain ⟨c,fz,r1,r2,r3,r4⟩:=g9 hh
   refine ⟨c,fz,r1,r2,by simpa using r3,fun i j y x hy hx=>?_⟩
   rw [List.getElem?_map] at hy
   cases hz:l[i]? with
   |none=>rw [hz] at hy;cases hy
   |some z =>
    rw [hz] at hy
    simp only [Option.map_some,sJ] at hy
    subst hy
    cases j with
    |zero =>
     simp only [eL,List.getElem?_cons_zero,sJ] at hx
     subst hx
     obtain ⟨v,q1,q2⟩:=r4 i 0 [nN k e z] (nN k e z) (by rw [List.getElem?_map,hz];rfl) rfl
     exact ⟨v,q1,Ff q2⟩
    |succ j=>simp [eL] at hx
 ·rw [List.getElem?_set_ne (Ne.symm hkb)] at hk
  exact hi.own q ob hk
theorem A5{K:Kt}{x:PX}(h:σ=σ')(hk:K x E σ'):K x E σ:=h ▸ hk
def mgL:List (Int×List Int)→Int→Option (List Int)
 |[],_=>none
 |(a,c) :: r,n=>if a=n then some c else mgL r n
def mIL(p:Int×List Int):Lit×CV:=(.int .i64 p.1,nN 1 (eK .i64) p.2)
theorem Cw:∀ (M:List (Int×List Int)) (n:Int),lk (M.map mIL) (.int .i64 n)=(mgL M n).map (nN 1 (eK .i64))
 |[],n=>rfl
 |(a,c) :: r,n=>by
  rw [List.map_cons]
  unfold lk mgL mIL
  simp only [Lit.int.injEq,true_and]
  by_cases e:a=n
  ·rw [iP e,iP e];rfl
  ·rw [iN e,iN e,← Cw r n];rfl
theorem Aa{o:Oper}{t k e:TypeId}(ho:o.op=.makeMap t none)(ht:pS P t k e=true):nh P E σ o (.c (.optr σ.length 0)) (σ++[.mp P k (([]:List (Int×List Int)).map mIL)]):=Bz ho ht
theorem BB{o:Oper}{t k e:TypeId}{m x:Operand}{M:List (Int×List Int)}{b:Nat}{n:Int}(ho:o.op=.lookup t m x false)(hm:ev E m=⟨true,.c (.optr b 0)⟩)(hx:ev E x=⟨true,.c (.int .i64 n)⟩)
  (hσ:σ[b]? = some (.mp P k (M.map mIL))) (ht:pS P t k e=true) (hz:(P.info? e).map (·.zero)=some (some (.slice none 0 0))) (hn:-9223372036854775808≤n∧n≤9223372036854775807) :
  nh P E σ o (.c (nN 1 (eK .i64) ((mgL M n).getD []))) σ:=.quiet fun G a w hs=>by
 obtain ⟨ht1,hk⟩:=vA ht
 obtain ⟨og,g1,g2,g3,g4,⟨D,⟨es,clock,hb,F,hsz,hD⟩,hlk⟩,hv⟩:=AZ hs.inv hσ (rI hs hm)
 have ex:=dC (rI hs hx)
 have hz':(zeroValue e).run P w=.ok (.slice none 0 0) w:=by
  cases hi:P.info? e with
  |none=>rw [hi] at hz;cases hz
  |some q =>
   rw [hi] at hz
   simp only [Option.map_some,sJ] at hz
   exact iz hi hz
 have hkey:=Maps.keyOf_int_mk hk (Gf hn)
 have hl:=hlk (.int .i64 n)
 rw [Cw] at hl
 have fin:∀ (val:Value),(Instr.lookup t (.map (some og.blk)) (.int .i64 n) false).run P w=.ok val w→a8 G (.c (nN 1 (eK .i64) ((mgL M n).getD []))) val →
   ∃ vv,(execOp a.eval o).run P w=.ok (.value vv) w∧a8 G (.c (nN 1 (eK .i64) ((mgL M n).getD []))) vv:=by
  intro val hrun hr
  refine ⟨val,?_,hr⟩
  simp only [execOp,ho,hv,ex]
  exact lO hrun
 rcases Maps.fit_look false (Maps.int_keyed hk) ht1 hz' hb F hkey with ⟨hrun,_,hat⟩|⟨e0,y,_,_,hrun,hRv,hat,_⟩
 ·cases hg:mgL M n with
  |none=>rw [← hg];exact fin _ hrun (by rw [hg];exact bm.nils)
  |some c =>
   rw [hg] at hl
   obtain ⟨v,h1,_⟩:=hl
   have e1:=h1 (.held (.bool true))
   have e2:=h1 (.held (.bool false))
   rw [hD,hat] at e1 e2
   rw [← e1] at e2
   simp at e2
 ·simp only [sJ] at hRv
  cases hg:mgL M n with
  |none =>
   rw [hg] at hl
   have e1:=hl (.lit (.bool true))
   rw [hD,hat,← hRv] at e1
   cases e1
  |some c =>
   rw [hg] at hl
   obtain ⟨v,h1,h2⟩:=hl
   have e1:=h1 (.lit (.bool true))
   rw [hD,hat,← hRv] at e1
   simp only [DataW.held.injEq] at e1
   rw [← hg]
   refine fin _ hrun ?_
   rw [hg]
   simp only [Bool.false_eq_true,if_false]
   rw [e1]
   exact bm.rep h2
theorem Cx{o:Oper}{t k e:TypeId}{m x y:Operand}{M:List (Int×List Int)}{b:Nat}{n:Int}{c:List Int}(ho:o.op=.mapUpdate t m x y)(hm:ev E m=⟨true,.c (.optr b 0)⟩)(hx:ev E x=⟨true,.c (.int .i64 n)⟩)(hy:ev E y=⟨true,.c (.tree 1 (c.map (eK .i64)))⟩)
  (hσ:σ[b]? = some (.mp P k (M.map mIL))) (ht:pS P t k e=true) (hn:-9223372036854775808≤n∧n≤9223372036854775807) (hl:M.length<1000000) (hc:c≠[]) :
  nh P E σ o .x (σ.set b (.mp P k (((n,c) :: M).map mIL))):=fun G a w hs=>by
 obtain ⟨ht1,hk⟩:=vA ht
 have hi:=hs.inv
 obtain ⟨og,g1,g2,g3,g4,⟨D,hown,hlk⟩,hv⟩:=AZ hi hσ (rI hs hm)
 have ex:=dC (rI hs hx)
 have ey:=rI hs hy
 have hkey:=Maps.keyOf_int_mk hk (Gf hn)
 have K:=Maps.int_keyed hk
 have hDm:Maps.IsMap D:=by obtain ⟨es,clock,_,_,_,hD⟩:=hown;exact ⟨_,hD⟩
 obtain ⟨w',hrun,hown',hg⟩:=hown.update (val:=a.eval y) (d:=.held (a.eval y)) (ps:=[]) K ht1 (by simp [maxLen];omega) hkey rfl
 have hG:({ G with own:=G.own.set b (some og) }:Gh)=G:=by
  have:G.own.set b (some og)=G.own:=by
   apply List.ext_getElem?
   intro k
   by_cases e:b=k
   ·subst e;rw [g1];simp [(List.getElem?_eq_some_iff.1 g1).1]
   ·rw [List.getElem?_set_ne e]
  cases G;simp_all
 refine ⟨.skip,undef,w',G,?_,.inr ⟨rfl,rfl⟩,oR.refl G,bV.refl _,?_,trivial⟩
 ·simp only [execOp,ho,hv,ex,Sem.run_bind,hrun,Result.andThen_ok,Sem.run_pure]
 ·have key:=hi.change (w':=w') b (.mp P k (((n,c) :: M).map mIL)) og og g1 (.inl rfl) hg.size (fun q hq hne=>hg.block q hq (fun e=>hne g2 (by simpa using e))) (fun hh'=>.inl ⟨rfl,hh'⟩) hg.os hg.tape hg.output (by
   rw [hG]
   refine ⟨og,g1,g2,g3,g4,D.put (.int .i64 n) (.held (a.eval y)),by simpa using hown',fun kl=>?_⟩
   rw [List.map_cons]
   unfold lk mIL
   simp only
   by_cases ek:Lit.int .i64 n=kl
   ·rw [iP ek,← ek]
    exact ⟨a.eval y,fun z=>Maps.atKey_put_same hDm (K.key hkey) _ z,by rw [uK hc];exact ey⟩
   ·rw [iN ek]
    have:=hlk kl
    simp only [Maps.atKey_put_other (fun e=>ek e.symm)]
    exact this)
  rw [hG] at key
  exact key
theorem BC{o:Oper}{t k e:TypeId}{m x y:Operand}{M:List (Int×List Int)}{b:Nat}{n:Int}{c:List Int}(ho:o.op=.mapUpdate t m x y)(hm:ev E m=⟨true,.c (.optr b 0)⟩)(hx:ev E x=⟨true,.c (.int .i64 n)⟩)(hy:ev E y=⟨true,.c (.tree 1 (c.map (eK .i64)))⟩)
  (hσ:σ[b]? = some (.mp P k (M.map mIL))) (ht:pS P t k e=true) (hn:-9223372036854775808≤n∧n≤9223372036854775807) (hl:M.length<1000000) (hc:c≠[]) :
  ∀ E',(∀ z∈o.op.operands,ev E' z=ev E z)→nh P E' σ o .x (σ.set b (.mp P k (((n,c) :: M).map mIL))):=fun E' h =>
 Cx ho (by rw [h m (by rw [ho];simp [Op.operands])];exact hm) (by rw [h x (by rw [ho];simp [Op.operands])];exact hx) (by rw [h y (by rw [ho];simp [Op.operands])];exact hy) hσ ht hn hl hc
end
end Pam
