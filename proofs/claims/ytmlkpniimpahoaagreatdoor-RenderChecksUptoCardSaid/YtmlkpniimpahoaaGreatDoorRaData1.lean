/- the plain data of the program, as trees of cells; printed by a program of ours -/
import Derived.Test.YtmlkpniimpahoaaGreatDoorRTypes1
import Derived.Test.YtmlkpniimpahoaaGreatDoorRBase2
set_option linter.all false
namespace Pam
open Go
structure ah where
  n:Int
  name:List UInt8
deriving Inhabited,DecidableEq
def ah.enc(x:ah):List CV:=[.int .i64 x.n,.str x.name]
structure gK where
  elem:Int
  n:List ah
deriving Inhabited,DecidableEq
def gK.enc(x:gK):List CV:=[.int .u8 x.elem,.tree 2 (x.n.map ah.enc)]
structure ax where
  name:List UInt8
  t:gK
deriving Inhabited,DecidableEq
def ax.enc(x:ax):List CV:=[.str x.name,.int .u8 x.t.elem,.tree 2 (x.t.n.map ah.enc)]
structure ae where
  op:Int
  k:Int
  n:Int
  name:List UInt8
  s:List (List ah)
  l:List ae
deriving Inhabited
mutual
def ae.enc:ae→List CV
  |⟨x_op,x_k,x_n,x_name,x_s,x_l⟩=>[.int .i64 x_op,.int .i64 x_k,.int .i64 x_n,.str x_name,.tree 1 (x_s.map (eL 2 ah.enc)),.tree 6 (ae.encs x_l)]
def ae.encs:List ae→List (List CV)
  |[]=>[]
  |x :: l=>ae.enc x :: ae.encs l
end
theorem ae.encs_eq:∀ l:List ae,ae.encs l=l.map ae.enc
  |[]=>rfl
  |x :: l=>by rw [ae.encs,ae.encs_eq l];rfl
theorem ae.enc_eq(x:ae):ae.enc x=[.int .i64 x.op,.int .i64 x.k,.int .i64 x.n,.str x.name,.tree 1 (x.s.map (eL 2 ah.enc)),.tree 6 (x.l.map ae.enc)]:=by
  cases x;rw [ae.enc,ae.encs_eq]
structure TEq where
  at_:Int
  names:List (List UInt8)
  node:List UInt8
  s:List (List ah)
  e:List ae
deriving Inhabited
def TEq.enc(x:TEq):List CV:=[.int .i64 x.at_,.tree 1 (x.names.map eS),.str x.node,.tree 1 (x.s.map (eL 2 ah.enc)),.tree 6 (x.e.map ae.enc)]
structure aJ where
  name:List UInt8
  at_:Int
  sizes:List (List UInt8)
  in_:List ax
  out_:List ax
  local_:List ax
  eqs:List TEq
deriving Inhabited
def aJ.enc(x:aJ):List CV:=[.str x.name,.int .i64 x.at_,.tree 1 (x.sizes.map eS),.tree 3 (x.in_.map ax.enc),.tree 3 (x.out_.map ax.enc),.tree 3 (x.local_.map ax.enc),.tree 5 (x.eqs.map TEq.enc)]
structure aD where
  nodes:List aJ
deriving Inhabited
def aD.enc(x:aD):List CV:=[.tree 7 (x.nodes.map aJ.enc)]
structure ap where
  code:Int
  at_:Int
deriving Inhabited,DecidableEq
def ap.enc(x:ap):List CV:=[.int .i64 x.code,.int .i64 x.at_]
structure tp where
  code:Int
  at_:Int
deriving Inhabited,DecidableEq
def tp.enc(x:tp):List CV:=[.int .i64 x.code,.int .i64 x.at_]
structure ab where
  kind:Int
  at_:Int
  text:List UInt8
  n:Int
deriving Inhabited,DecidableEq
def ab.enc(x:ab):List CV:=[.int .i64 x.kind,.int .i64 x.at_,.str x.text,.int .i64 x.n]
structure af where
  l:List ab
  end_:Int
  open_:Int
  terms:Int
deriving Inhabited,DecidableEq
def af.enc(x:af):List CV:=[.tree 4 (x.l.map ab.enc),.int .i64 x.end_,.int .i64 x.open_,.int .i64 x.terms]
structure ao where
  f:ap
  at_:Int
deriving Inhabited,DecidableEq
def ao.enc(x:ao):List CV:=[.int .i64 x.f.code,.int .i64 x.f.at_,.int .i64 x.at_]
structure mK where
  src:List UInt8
  at_:Int
  out_:List ab
deriving Inhabited,DecidableEq
def mK.enc(x:mK):List CV:=[.str x.src,.int .i64 x.at_,.tree 4 (x.out_.map ab.enc)]
structure fJ where
  parts:Int
  sizes:Int
  from_:Int
  to:Int
deriving Inhabited,DecidableEq
def fJ.enc(x:fJ):List CV:=[.int .i64 x.parts,.int .i64 x.sizes,.int .i64 x.from_,.int .i64 x.to]
def bX:=(And.intro (And.intro (And.intro @ah.enc.eq_1 (And.intro @gK.enc.eq_1 @ax.enc.eq_1)) (And.intro (And.intro @ae.enc_eq @TEq.enc.eq_1) (And.intro @aJ.enc.eq_1 @aD.enc.eq_1))) (And.intro (And.intro @ap.enc.eq_1 (And.intro @tp.enc.eq_1 @ab.enc.eq_1)) (And.intro (And.intro @af.enc.eq_1 @ao.enc.eq_1) (And.intro @mK.enc.eq_1 @fJ.enc.eq_1))))
def ah.ok(x:ah):Prop:=(okI .i64) x.n∧okT x.name
def ah.sz(x:ah):Nat:=szI x.n+szS x.name+1
theorem ah.sz_pos(x:ah):1≤x.sz:=by unfold ah.sz;omega
def gK.ok(x:gK):Prop:=(okI .u8) x.elem∧(okL ah.ok) x.n
def gK.sz(x:gK):Nat:=szI x.elem+(szL ah.sz) x.n+1
theorem gK.sz_pos(x:gK):1≤x.sz:=by unfold gK.sz;omega
def ax.ok(x:ax):Prop:=okT x.name∧gK.ok x.t
def ax.sz(x:ax):Nat:=szS x.name+gK.sz x.t+1
theorem ax.sz_pos(x:ax):1≤x.sz:=by unfold ax.sz;omega
mutual
def ae.ok:ae→Prop
  |⟨x_op,x_k,x_n,x_name,x_s,x_l⟩=>(okI .i64) x_op∧(okI .i64) x_k∧(okI .i64) x_n∧okT x_name∧(okL (okL ah.ok)) x_s∧ae.oks x_l
def ae.oks:List ae→Prop
  |[]=>True
  |x :: l=>ae.ok x∧ae.oks l
end
mutual
def ae.sz:ae→Nat
  |⟨x_op,x_k,x_n,x_name,x_s,x_l⟩=>szI x_op+szI x_k+szI x_n+szS x_name+(szL (szL ah.sz)) x_s+(ae.szs x_l+1)+1
def ae.szs:List ae→Nat
  |[]=>0
  |x :: l=>ae.sz x+ae.szs l
end
theorem ae.oks_eq:∀ l:List ae,ae.oks l=okL ae.ok l
  |[]=>by simp [ae.oks,okL]
  |x :: l=>by rw [ae.oks,ae.oks_eq l];simp [okL]
theorem ae.szs_eq:∀ l:List ae,ae.szs l+1=szL ae.sz l
  |[]=>by simp [ae.szs,szL]
  |x :: l=>by have:=ae.szs_eq l;simp only [szL,ae.szs,List.map_cons,List.sum_cons] at *;omega
theorem ae.ok_eq(x:ae):ae.ok x=((okI .i64) x.op∧(okI .i64) x.k∧(okI .i64) x.n∧okT x.name∧(okL (okL ah.ok)) x.s∧okL ae.ok x.l):=by
  cases x;rw [ae.ok,ae.oks_eq]
theorem ae.sz_eq(x:ae):ae.sz x=szI x.op+szI x.k+szI x.n+szS x.name+(szL (szL ah.sz)) x.s+szL ae.sz x.l+1:=by
  cases x;rw [ae.sz,ae.szs_eq]
theorem ae.sz_pos(x:ae):1≤x.sz:=by rw [ae.sz_eq];omega
def TEq.ok(x:TEq):Prop:=(okI .i64) x.at_∧(okL okT) x.names∧okT x.node∧(okL (okL ah.ok)) x.s∧(okL ae.ok) x.e
def TEq.sz(x:TEq):Nat:=szI x.at_+(szL szS) x.names+szS x.node+(szL (szL ah.sz)) x.s+(szL ae.sz) x.e+1
theorem TEq.sz_pos(x:TEq):1≤x.sz:=by unfold TEq.sz;omega
def aJ.ok(x:aJ):Prop:=okT x.name∧(okI .i64) x.at_∧(okL okT) x.sizes∧(okL ax.ok) x.in_∧(okL ax.ok) x.out_∧(okL ax.ok) x.local_∧(okL TEq.ok) x.eqs
def aJ.sz(x:aJ):Nat:=szS x.name+szI x.at_+(szL szS) x.sizes+(szL ax.sz) x.in_+(szL ax.sz) x.out_+(szL ax.sz) x.local_+(szL TEq.sz) x.eqs+1
theorem aJ.sz_pos(x:aJ):1≤x.sz:=by unfold aJ.sz;omega
def aD.ok(x:aD):Prop:=(okL aJ.ok) x.nodes
def aD.sz(x:aD):Nat:=(szL aJ.sz) x.nodes+1
theorem aD.sz_pos(x:aD):1≤x.sz:=by unfold aD.sz;omega
def ap.ok(x:ap):Prop:=(okI .i64) x.code∧(okI .i64) x.at_
def ap.sz(x:ap):Nat:=szI x.code+szI x.at_+1
theorem ap.sz_pos(x:ap):1≤x.sz:=by unfold ap.sz;omega
def tp.ok(x:tp):Prop:=(okI .i64) x.code∧(okI .i64) x.at_
def tp.sz(x:tp):Nat:=szI x.code+szI x.at_+1
theorem tp.sz_pos(x:tp):1≤x.sz:=by unfold tp.sz;omega
def ab.ok(x:ab):Prop:=(okI .i64) x.kind∧(okI .i64) x.at_∧okT x.text∧(okI .i64) x.n
def ab.sz(x:ab):Nat:=szI x.kind+szI x.at_+szS x.text+szI x.n+1
theorem ab.sz_pos(x:ab):1≤x.sz:=by unfold ab.sz;omega
def af.ok(x:af):Prop:=(okL ab.ok) x.l∧(okI .i64) x.end_∧(okI .i64) x.open_∧(okI .i64) x.terms
def af.sz(x:af):Nat:=(szL ab.sz) x.l+szI x.end_+szI x.open_+szI x.terms+1
theorem af.sz_pos(x:af):1≤x.sz:=by unfold af.sz;omega
def ao.ok(x:ao):Prop:=ap.ok x.f∧(okI .i64) x.at_
def ao.sz(x:ao):Nat:=ap.sz x.f+szI x.at_+1
theorem ao.sz_pos(x:ao):1≤x.sz:=by unfold ao.sz;omega
def mK.ok(x:mK):Prop:=okT x.src∧(okI .i64) x.at_∧(okL ab.ok) x.out_
def mK.sz(x:mK):Nat:=szS x.src+szI x.at_+(szL ab.sz) x.out_+1
theorem mK.sz_pos(x:mK):1≤x.sz:=by unfold mK.sz;omega
def fJ.ok(x:fJ):Prop:=(okI .i64) x.parts∧(okI .i64) x.sizes∧(okI .i64) x.from_∧(okI .i64) x.to
def fJ.sz(x:fJ):Nat:=szI x.parts+szI x.sizes+szI x.from_+szI x.to+1
theorem fJ.sz_pos(x:fJ):1≤x.sz:=by unfold fJ.sz;omega
abbrev ct0(l:List ae):CV:=.tree 6 (l.map ae.enc)
abbrev ct1(l:List ab):CV:=.tree 4 (l.map ab.enc)
abbrev ct2(l:List ax):CV:=.tree 3 (l.map ax.enc)
abbrev ct3(l:List (List UInt8)):CV:=.tree 1 (l.map eS)
abbrev ct4(l:List aJ):CV:=.tree 7 (l.map aJ.enc)
abbrev ct5(l:List TEq):CV:=.tree 5 (l.map TEq.enc)
abbrev ct6(l:List ah):CV:=.tree 2 (l.map ah.enc)
abbrev lt0:=lit ([(lit ([([111,114]:List UInt8),([120,111,114]:List UInt8)]:List (List UInt8))),(lit ([([97,110,100]:List UInt8)]:List (List UInt8))),(lit ([([60]:List UInt8),([61,61]:List UInt8)]:List (List UInt8))),(lit ([([43]:List UInt8),([45]:List UInt8)]:List (List UInt8))),(lit ([([42]:List UInt8),([47]:List UInt8),([37]:List UInt8)]:List (List UInt8)))]:List (List (List UInt8)))
abbrev lt1:=lit ([([61,61]:List UInt8),([45,62]:List UInt8)]:List (List UInt8))
abbrev lt2:=lit ([([116,114,117,101]:List UInt8),([102,97,108,115,101]:List UInt8)]:List (List UInt8))
abbrev lt3:=lit ([([]:List UInt8),([97,100,100]:List UInt8),([115,117,98]:List UInt8),([109,117,108]:List UInt8),([100,105,118]:List UInt8),([109,111,100]:List UInt8),([109,105,110]:List UInt8),([109,97,120]:List UInt8),([108,101,115,115]:List UInt8),([101,113]:List UInt8),([97,110,100]:List UInt8),([111,114]:List UInt8),([120,111,114]:List UInt8),([110,101,103]:List UInt8),([110,111,116]:List UInt8)]:List (List UInt8))
end Pam
