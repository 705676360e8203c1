/- the plain data of the program, as trees of cells; printed by a program of ours -/
import Derived.Test.YtmlmnddnklhfpaaGreatDoorBTypes1
import Derived.Test.YtmlmnddnklhfpaaGreatDoorBBase2
set_option linter.all false
namespace Pam
open Go
structure ag where
  n:Int
  name:List UInt8
deriving Inhabited,DecidableEq
def ag.enc(x:ag):List CV:=[.int .i64 x.n,.str x.name]
structure gu where
  elem:Int
  n:List ag
deriving Inhabited,DecidableEq
def gu.enc(x:gu):List CV:=[.int .u8 x.elem,.tree 2 (x.n.map ag.enc)]
structure aw where
  name:List UInt8
  t:gu
deriving Inhabited,DecidableEq
def aw.enc(x:aw):List CV:=[.str x.name,.int .u8 x.t.elem,.tree 2 (x.t.n.map ag.enc)]
structure ae where
  op:Int
  k:Int
  n:Int
  name:List UInt8
  s:List (List ag)
  l:List ae
deriving Inhabited
mutual
def ae.enc:ae→List CV
  |⟨x_op,x_k,x_n,x_name,x_s,x_l⟩=>[.int .i64 x_op,.int .i64 x_k,.int .i64 x_n,.str x_name,.tree 1 (x_s.map (eL 2 ag.enc)),.tree 6 (ae.encs x_l)]
def ae.encs:List ae→List (List CV)
  |[]=>[]
  |x :: l=>ae.enc x :: ae.encs l
end
theorem ae.encs_eq:∀ l:List ae,ae.encs l=l.map ae.enc
  |[]=>rfl
  |x :: l=>by rw [ae.encs,ae.encs_eq l];rfl
theorem ae.enc_eq(x:ae):ae.enc x=[.int .i64 x.op,.int .i64 x.k,.int .i64 x.n,.str x.name,.tree 1 (x.s.map (eL 2 ag.enc)),.tree 6 (x.l.map ae.enc)]:=by
  cases x;rw [ae.enc,ae.encs_eq]
structure TEq where
  at_:Int
  names:List (List UInt8)
  node:List UInt8
  s:List (List ag)
  e:List ae
deriving Inhabited
def TEq.enc(x:TEq):List CV:=[.int .i64 x.at_,.tree 1 (x.names.map eS),.str x.node,.tree 1 (x.s.map (eL 2 ag.enc)),.tree 6 (x.e.map ae.enc)]
structure aE where
  name:List UInt8
  at_:Int
  sizes:List (List UInt8)
  in_:List aw
  out_:List aw
  local_:List aw
  eqs:List TEq
deriving Inhabited
def aE.enc(x:aE):List CV:=[.str x.name,.int .i64 x.at_,.tree 1 (x.sizes.map eS),.tree 3 (x.in_.map aw.enc),.tree 3 (x.out_.map aw.enc),.tree 3 (x.local_.map aw.enc),.tree 5 (x.eqs.map TEq.enc)]
structure az where
  nodes:List aE
deriving Inhabited
def az.enc(x:az):List CV:=[.tree 7 (x.nodes.map aE.enc)]
structure aq where
  code:Int
  at_:Int
deriving Inhabited,DecidableEq
def aq.enc(x:aq):List CV:=[.int .i64 x.code,.int .i64 x.at_]
structure tt where
  code:Int
  at_:Int
deriving Inhabited,DecidableEq
def tt.enc(x:tt):List CV:=[.int .i64 x.code,.int .i64 x.at_]
structure aa where
  kind:Int
  at_:Int
  text:List UInt8
  n:Int
deriving Inhabited,DecidableEq
def aa.enc(x:aa):List CV:=[.int .i64 x.kind,.int .i64 x.at_,.str x.text,.int .i64 x.n]
structure af where
  l:List aa
  end_:Int
  open_:Int
  terms:Int
deriving Inhabited,DecidableEq
def af.enc(x:af):List CV:=[.tree 4 (x.l.map aa.enc),.int .i64 x.end_,.int .i64 x.open_,.int .i64 x.terms]
structure mi where
  src:List UInt8
  at_:Int
  out_:List aa
deriving Inhabited,DecidableEq
def mi.enc(x:mi):List CV:=[.str x.src,.int .i64 x.at_,.tree 4 (x.out_.map aa.enc)]
structure am where
  f:aq
  at_:Int
deriving Inhabited,DecidableEq
def am.enc(x:am):List CV:=[.int .i64 x.f.code,.int .i64 x.f.at_,.int .i64 x.at_]
structure hO where
  parts:Int
  sizes:Int
  from_:Int
  to:Int
deriving Inhabited,DecidableEq
def hO.enc(x:hO):List CV:=[.int .i64 x.parts,.int .i64 x.sizes,.int .i64 x.from_,.int .i64 x.to]
def bX:=(And.intro (And.intro (And.intro @ag.enc.eq_1 (And.intro @gu.enc.eq_1 @aw.enc.eq_1)) (And.intro (And.intro @ae.enc_eq @TEq.enc.eq_1) (And.intro @aE.enc.eq_1 @az.enc.eq_1))) (And.intro (And.intro @aq.enc.eq_1 (And.intro @tt.enc.eq_1 @aa.enc.eq_1)) (And.intro (And.intro @af.enc.eq_1 @mi.enc.eq_1) (And.intro @am.enc.eq_1 @hO.enc.eq_1))))
def ag.ok(x:ag):Prop:=(okI .i64) x.n∧okT x.name
def ag.sz(x:ag):Nat:=szI x.n+szS x.name+1
theorem ag.sz_pos(x:ag):1≤x.sz:=by unfold ag.sz;omega
def gu.ok(x:gu):Prop:=(okI .u8) x.elem∧(okL ag.ok) x.n
def gu.sz(x:gu):Nat:=szI x.elem+(szL ag.sz) x.n+1
theorem gu.sz_pos(x:gu):1≤x.sz:=by unfold gu.sz;omega
def aw.ok(x:aw):Prop:=okT x.name∧gu.ok x.t
def aw.sz(x:aw):Nat:=szS x.name+gu.sz x.t+1
theorem aw.sz_pos(x:aw):1≤x.sz:=by unfold aw.sz;omega
mutual
def ae.ok:ae→Prop
  |⟨x_op,x_k,x_n,x_name,x_s,x_l⟩=>(okI .i64) x_op∧(okI .i64) x_k∧(okI .i64) x_n∧okT x_name∧(okL (okL ag.ok)) x_s∧ae.oks x_l
def ae.oks:List ae→Prop
  |[]=>True
  |x :: l=>ae.ok x∧ae.oks l
end
mutual
def ae.sz:ae→Nat
  |⟨x_op,x_k,x_n,x_name,x_s,x_l⟩=>szI x_op+szI x_k+szI x_n+szS x_name+(szL (szL ag.sz)) x_s+(ae.szs x_l+1)+1
def ae.szs:List ae→Nat
  |[]=>0
  |x :: l=>ae.sz x+ae.szs l
end
theorem ae.oks_eq:∀ l:List ae,ae.oks l=okL ae.ok l
  |[]=>by simp [ae.oks,okL]
  |x :: l=>by rw [ae.oks,ae.oks_eq l];simp [okL]
theorem ae.szs_eq:∀ l:List ae,ae.szs l+1=szL ae.sz l
  |[]=>by simp [ae.szs,szL]
  |x :: l=>by have:=ae.szs_eq l;simp only [szL,ae.szs,List.map_cons,List.sum_cons] at *;omega
theorem ae.ok_eq(x:ae):ae.ok x=((okI .i64) x.op∧(okI .i64) x.k∧(okI .i64) x.n∧okT x.name∧(okL (okL ag.ok)) x.s∧okL ae.ok x.l):=by
  cases x;rw [ae.ok,ae.oks_eq]
theorem ae.sz_eq(x:ae):ae.sz x=szI x.op+szI x.k+szI x.n+szS x.name+(szL (szL ag.sz)) x.s+szL ae.sz x.l+1:=by
  cases x;rw [ae.sz,ae.szs_eq]
theorem ae.sz_pos(x:ae):1≤x.sz:=by rw [ae.sz_eq];omega
def TEq.ok(x:TEq):Prop:=(okI .i64) x.at_∧(okL okT) x.names∧okT x.node∧(okL (okL ag.ok)) x.s∧(okL ae.ok) x.e
def TEq.sz(x:TEq):Nat:=szI x.at_+(szL szS) x.names+szS x.node+(szL (szL ag.sz)) x.s+(szL ae.sz) x.e+1
theorem TEq.sz_pos(x:TEq):1≤x.sz:=by unfold TEq.sz;omega
def aE.ok(x:aE):Prop:=okT x.name∧(okI .i64) x.at_∧(okL okT) x.sizes∧(okL aw.ok) x.in_∧(okL aw.ok) x.out_∧(okL aw.ok) x.local_∧(okL TEq.ok) x.eqs
def aE.sz(x:aE):Nat:=szS x.name+szI x.at_+(szL szS) x.sizes+(szL aw.sz) x.in_+(szL aw.sz) x.out_+(szL aw.sz) x.local_+(szL TEq.sz) x.eqs+1
theorem aE.sz_pos(x:aE):1≤x.sz:=by unfold aE.sz;omega
def az.ok(x:az):Prop:=(okL aE.ok) x.nodes
def az.sz(x:az):Nat:=(szL aE.sz) x.nodes+1
theorem az.sz_pos(x:az):1≤x.sz:=by unfold az.sz;omega
def aq.ok(x:aq):Prop:=(okI .i64) x.code∧(okI .i64) x.at_
def aq.sz(x:aq):Nat:=szI x.code+szI x.at_+1
theorem aq.sz_pos(x:aq):1≤x.sz:=by unfold aq.sz;omega
def tt.ok(x:tt):Prop:=(okI .i64) x.code∧(okI .i64) x.at_
def tt.sz(x:tt):Nat:=szI x.code+szI x.at_+1
theorem tt.sz_pos(x:tt):1≤x.sz:=by unfold tt.sz;omega
def aa.ok(x:aa):Prop:=(okI .i64) x.kind∧(okI .i64) x.at_∧okT x.text∧(okI .i64) x.n
def aa.sz(x:aa):Nat:=szI x.kind+szI x.at_+szS x.text+szI x.n+1
theorem aa.sz_pos(x:aa):1≤x.sz:=by unfold aa.sz;omega
def af.ok(x:af):Prop:=(okL aa.ok) x.l∧(okI .i64) x.end_∧(okI .i64) x.open_∧(okI .i64) x.terms
def af.sz(x:af):Nat:=(szL aa.sz) x.l+szI x.end_+szI x.open_+szI x.terms+1
theorem af.sz_pos(x:af):1≤x.sz:=by unfold af.sz;omega
def mi.ok(x:mi):Prop:=okT x.src∧(okI .i64) x.at_∧(okL aa.ok) x.out_
def mi.sz(x:mi):Nat:=szS x.src+szI x.at_+(szL aa.sz) x.out_+1
theorem mi.sz_pos(x:mi):1≤x.sz:=by unfold mi.sz;omega
def am.ok(x:am):Prop:=aq.ok x.f∧(okI .i64) x.at_
def am.sz(x:am):Nat:=aq.sz x.f+szI x.at_+1
theorem am.sz_pos(x:am):1≤x.sz:=by unfold am.sz;omega
def hO.ok(x:hO):Prop:=(okI .i64) x.parts∧(okI .i64) x.sizes∧(okI .i64) x.from_∧(okI .i64) x.to
def hO.sz(x:hO):Nat:=szI x.parts+szI x.sizes+szI x.from_+szI x.to+1
theorem hO.sz_pos(x:hO):1≤x.sz:=by unfold hO.sz;omega
abbrev ct0(l:List aa):CV:=.tree 4 (l.map aa.enc)
abbrev ct1(l:List ae):CV:=.tree 6 (l.map ae.enc)
abbrev ct2(l:List aw):CV:=.tree 3 (l.map aw.enc)
abbrev ct3(l:List (List UInt8)):CV:=.tree 1 (l.map eS)
abbrev ct4(l:List aE):CV:=.tree 7 (l.map aE.enc)
abbrev ct5(l:List ag):CV:=.tree 2 (l.map ag.enc)
abbrev ct6(l:List TEq):CV:=.tree 5 (l.map TEq.enc)
abbrev lt0:=lit ([(lit ([([111,114]:List UInt8),([120,111,114]:List UInt8)]:List (List UInt8))),(lit ([([97,110,100]:List UInt8)]:List (List UInt8))),(lit ([([60]:List UInt8),([61,61]:List UInt8)]:List (List UInt8))),(lit ([([43]:List UInt8),([45]:List UInt8)]:List (List UInt8))),(lit ([([42]:List UInt8),([47]:List UInt8),([37]:List UInt8)]:List (List UInt8)))]:List (List (List UInt8)))
abbrev lt1:=lit ([([61,61]:List UInt8),([45,62]:List UInt8)]:List (List UInt8))
abbrev lt2:=lit ([([116,114,117,101]:List UInt8),([102,97,108,115,101]:List UInt8)]:List (List UInt8))
abbrev lt3:=lit ([([]:List UInt8),([97,100,100]:List UInt8),([115,117,98]:List UInt8),([109,117,108]:List UInt8),([100,105,118]:List UInt8),([109,111,100]:List UInt8),([109,105,110]:List UInt8),([109,97,120]:List UInt8),([108,101,115,115]:List UInt8),([101,113]:List UInt8),([97,110,100]:List UInt8),([111,114]:List UInt8),([120,111,114]:List UInt8),([110,101,103]:List UInt8),([110,111,116]:List UInt8)]:List (List UInt8))
end Pam
