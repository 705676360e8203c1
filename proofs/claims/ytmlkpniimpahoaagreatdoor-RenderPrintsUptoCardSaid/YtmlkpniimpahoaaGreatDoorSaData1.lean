/- the plain data of the program, as trees of cells; printed by a program of ours -/
import Derived.Test.YtmlkpniimpahoaaGreatDoorSTypes1
import Derived.Test.YtmlkpniimpahoaaGreatDoorSBase2
set_option linter.all false
namespace Pam
open Go
structure an where
  n:Int
  name:List UInt8
deriving Inhabited,DecidableEq
def an.enc(x:an):List CV:=[.int .i64 x.n,.str x.name]
structure gR where
  elem:Int
  n:List an
deriving Inhabited,DecidableEq
def gR.enc(x:gR):List CV:=[.int .u8 x.elem,.tree 2 (x.n.map an.enc)]
structure ax where
  name:List UInt8
  t:gR
deriving Inhabited,DecidableEq
def ax.enc(x:ax):List CV:=[.str x.name,.int .u8 x.t.elem,.tree 2 (x.t.n.map an.enc)]
structure ab where
  op:Int
  k:Int
  n:Int
  name:List UInt8
  s:List (List an)
  l:List ab
deriving Inhabited
mutual
def ab.enc:ab→List CV
  |⟨x_op,x_k,x_n,x_name,x_s,x_l⟩=>[.int .i64 x_op,.int .i64 x_k,.int .i64 x_n,.str x_name,.tree 1 (x_s.map (eL 2 an.enc)),.tree 6 (ab.encs x_l)]
def ab.encs:List ab→List (List CV)
  |[]=>[]
  |x :: l=>ab.enc x :: ab.encs l
end
theorem ab.encs_eq:∀ l:List ab,ab.encs l=l.map ab.enc
  |[]=>rfl
  |x :: l=>by rw [ab.encs,ab.encs_eq l];rfl
theorem ab.enc_eq(x:ab):ab.enc x=[.int .i64 x.op,.int .i64 x.k,.int .i64 x.n,.str x.name,.tree 1 (x.s.map (eL 2 an.enc)),.tree 6 (x.l.map ab.enc)]:=by
  cases x;rw [ab.enc,ab.encs_eq]
structure TEq where
  at_:Int
  names:List (List UInt8)
  node:List UInt8
  s:List (List an)
  e:List ab
deriving Inhabited
def TEq.enc(x:TEq):List CV:=[.int .i64 x.at_,.tree 1 (x.names.map eS),.str x.node,.tree 1 (x.s.map (eL 2 an.enc)),.tree 6 (x.e.map ab.enc)]
structure aK where
  name:List UInt8
  at_:Int
  sizes:List (List UInt8)
  in_:List ax
  out_:List ax
  local_:List ax
  eqs:List TEq
deriving Inhabited
def aK.enc(x:aK):List CV:=[.str x.name,.int .i64 x.at_,.tree 1 (x.sizes.map eS),.tree 3 (x.in_.map ax.enc),.tree 3 (x.out_.map ax.enc),.tree 3 (x.local_.map ax.enc),.tree 5 (x.eqs.map TEq.enc)]
structure aB where
  nodes:List aK
deriving Inhabited
def aB.enc(x:aB):List CV:=[.tree 7 (x.nodes.map aK.enc)]
structure ap where
  code:Int
  at_:Int
deriving Inhabited,DecidableEq
def ap.enc(x:ap):List CV:=[.int .i64 x.code,.int .i64 x.at_]
structure uE where
  code:Int
  at_:Int
deriving Inhabited,DecidableEq
def uE.enc(x:uE):List CV:=[.int .i64 x.code,.int .i64 x.at_]
structure af where
  kind:Int
  at_:Int
  text:List UInt8
  n:Int
deriving Inhabited,DecidableEq
def af.enc(x:af):List CV:=[.int .i64 x.kind,.int .i64 x.at_,.str x.text,.int .i64 x.n]
structure ae where
  l:List af
  end_:Int
  open_:Int
  terms:Int
deriving Inhabited,DecidableEq
def ae.enc(x:ae):List CV:=[.tree 4 (x.l.map af.enc),.int .i64 x.end_,.int .i64 x.open_,.int .i64 x.terms]
structure ao where
  f:ap
  at_:Int
deriving Inhabited,DecidableEq
def ao.enc(x:ao):List CV:=[.int .i64 x.f.code,.int .i64 x.f.at_,.int .i64 x.at_]
structure nw where
  src:List UInt8
  at_:Int
  out_:List af
deriving Inhabited,DecidableEq
def nw.enc(x:nw):List CV:=[.str x.src,.int .i64 x.at_,.tree 4 (x.out_.map af.enc)]
structure fM where
  parts:Int
  sizes:Int
  from_:Int
  to:Int
deriving Inhabited,DecidableEq
def fM.enc(x:fM):List CV:=[.int .i64 x.parts,.int .i64 x.sizes,.int .i64 x.from_,.int .i64 x.to]
def bX:=(And.intro (And.intro (And.intro @an.enc.eq_1 (And.intro @gR.enc.eq_1 @ax.enc.eq_1)) (And.intro (And.intro @ab.enc_eq @TEq.enc.eq_1) (And.intro @aK.enc.eq_1 @aB.enc.eq_1))) (And.intro (And.intro @ap.enc.eq_1 (And.intro @uE.enc.eq_1 @af.enc.eq_1)) (And.intro (And.intro @ae.enc.eq_1 @ao.enc.eq_1) (And.intro @nw.enc.eq_1 @fM.enc.eq_1))))
def an.ok(x:an):Prop:=(okI .i64) x.n∧okT x.name
def an.sz(x:an):Nat:=szI x.n+szS x.name+1
theorem an.sz_pos(x:an):1≤x.sz:=by unfold an.sz;omega
def gR.ok(x:gR):Prop:=(okI .u8) x.elem∧(okL an.ok) x.n
def gR.sz(x:gR):Nat:=szI x.elem+(szL an.sz) x.n+1
theorem gR.sz_pos(x:gR):1≤x.sz:=by unfold gR.sz;omega
def ax.ok(x:ax):Prop:=okT x.name∧gR.ok x.t
def ax.sz(x:ax):Nat:=szS x.name+gR.sz x.t+1
theorem ax.sz_pos(x:ax):1≤x.sz:=by unfold ax.sz;omega
mutual
def ab.ok:ab→Prop
  |⟨x_op,x_k,x_n,x_name,x_s,x_l⟩=>(okI .i64) x_op∧(okI .i64) x_k∧(okI .i64) x_n∧okT x_name∧(okL (okL an.ok)) x_s∧ab.oks x_l
def ab.oks:List ab→Prop
  |[]=>True
  |x :: l=>ab.ok x∧ab.oks l
end
mutual
def ab.sz:ab→Nat
  |⟨x_op,x_k,x_n,x_name,x_s,x_l⟩=>szI x_op+szI x_k+szI x_n+szS x_name+(szL (szL an.sz)) x_s+(ab.szs x_l+1)+1
def ab.szs:List ab→Nat
  |[]=>0
  |x :: l=>ab.sz x+ab.szs l
end
theorem ab.oks_eq:∀ l:List ab,ab.oks l=okL ab.ok l
  |[]=>by simp [ab.oks,okL]
  |x :: l=>by rw [ab.oks,ab.oks_eq l];simp [okL]
theorem ab.szs_eq:∀ l:List ab,ab.szs l+1=szL ab.sz l
  |[]=>by simp [ab.szs,szL]
  |x :: l=>by have:=ab.szs_eq l;simp only [szL,ab.szs,List.map_cons,List.sum_cons] at *;omega
theorem ab.ok_eq(x:ab):ab.ok x=((okI .i64) x.op∧(okI .i64) x.k∧(okI .i64) x.n∧okT x.name∧(okL (okL an.ok)) x.s∧okL ab.ok x.l):=by
  cases x;rw [ab.ok,ab.oks_eq]
theorem ab.sz_eq(x:ab):ab.sz x=szI x.op+szI x.k+szI x.n+szS x.name+(szL (szL an.sz)) x.s+szL ab.sz x.l+1:=by
  cases x;rw [ab.sz,ab.szs_eq]
theorem ab.sz_pos(x:ab):1≤x.sz:=by rw [ab.sz_eq];omega
def TEq.ok(x:TEq):Prop:=(okI .i64) x.at_∧(okL okT) x.names∧okT x.node∧(okL (okL an.ok)) x.s∧(okL ab.ok) x.e
def TEq.sz(x:TEq):Nat:=szI x.at_+(szL szS) x.names+szS x.node+(szL (szL an.sz)) x.s+(szL ab.sz) x.e+1
theorem TEq.sz_pos(x:TEq):1≤x.sz:=by unfold TEq.sz;omega
def aK.ok(x:aK):Prop:=okT x.name∧(okI .i64) x.at_∧(okL okT) x.sizes∧(okL ax.ok) x.in_∧(okL ax.ok) x.out_∧(okL ax.ok) x.local_∧(okL TEq.ok) x.eqs
def aK.sz(x:aK):Nat:=szS x.name+szI x.at_+(szL szS) x.sizes+(szL ax.sz) x.in_+(szL ax.sz) x.out_+(szL ax.sz) x.local_+(szL TEq.sz) x.eqs+1
theorem aK.sz_pos(x:aK):1≤x.sz:=by unfold aK.sz;omega
def aB.ok(x:aB):Prop:=(okL aK.ok) x.nodes
def aB.sz(x:aB):Nat:=(szL aK.sz) x.nodes+1
theorem aB.sz_pos(x:aB):1≤x.sz:=by unfold aB.sz;omega
def ap.ok(x:ap):Prop:=(okI .i64) x.code∧(okI .i64) x.at_
def ap.sz(x:ap):Nat:=szI x.code+szI x.at_+1
theorem ap.sz_pos(x:ap):1≤x.sz:=by unfold ap.sz;omega
def uE.ok(x:uE):Prop:=(okI .i64) x.code∧(okI .i64) x.at_
def uE.sz(x:uE):Nat:=szI x.code+szI x.at_+1
theorem uE.sz_pos(x:uE):1≤x.sz:=by unfold uE.sz;omega
def af.ok(x:af):Prop:=(okI .i64) x.kind∧(okI .i64) x.at_∧okT x.text∧(okI .i64) x.n
def af.sz(x:af):Nat:=szI x.kind+szI x.at_+szS x.text+szI x.n+1
theorem af.sz_pos(x:af):1≤x.sz:=by unfold af.sz;omega
def ae.ok(x:ae):Prop:=(okL af.ok) x.l∧(okI .i64) x.end_∧(okI .i64) x.open_∧(okI .i64) x.terms
def ae.sz(x:ae):Nat:=(szL af.sz) x.l+szI x.end_+szI x.open_+szI x.terms+1
theorem ae.sz_pos(x:ae):1≤x.sz:=by unfold ae.sz;omega
def ao.ok(x:ao):Prop:=ap.ok x.f∧(okI .i64) x.at_
def ao.sz(x:ao):Nat:=ap.sz x.f+szI x.at_+1
theorem ao.sz_pos(x:ao):1≤x.sz:=by unfold ao.sz;omega
def nw.ok(x:nw):Prop:=okT x.src∧(okI .i64) x.at_∧(okL af.ok) x.out_
def nw.sz(x:nw):Nat:=szS x.src+szI x.at_+(szL af.sz) x.out_+1
theorem nw.sz_pos(x:nw):1≤x.sz:=by unfold nw.sz;omega
def fM.ok(x:fM):Prop:=(okI .i64) x.parts∧(okI .i64) x.sizes∧(okI .i64) x.from_∧(okI .i64) x.to
def fM.sz(x:fM):Nat:=szI x.parts+szI x.sizes+szI x.from_+szI x.to+1
theorem fM.sz_pos(x:fM):1≤x.sz:=by unfold fM.sz;omega
abbrev ct0(l:List ab):CV:=.tree 6 (l.map ab.enc)
abbrev ct1(l:List af):CV:=.tree 4 (l.map af.enc)
abbrev ct2(l:List (List an)):CV:=.tree 1 (l.map (eL 2 an.enc))
abbrev ct3(l:List ax):CV:=.tree 3 (l.map ax.enc)
abbrev ct4(l:List (List UInt8)):CV:=.tree 1 (l.map eS)
abbrev ct5(l:List aK):CV:=.tree 7 (l.map aK.enc)
abbrev ct6(l:List TEq):CV:=.tree 5 (l.map TEq.enc)
abbrev ct7(l:List an):CV:=.tree 2 (l.map an.enc)
abbrev bx0(x:ab):OB:=.box [.int .i64 x.op,.int .i64 x.k,.int .i64 x.n,.str x.name,(ct2 x.s),(ct0 x.l)]
abbrev bx1(x:aK):OB:=.box [.str x.name,.int .i64 x.at_,(ct4 x.sizes),(ct3 x.in_),(ct3 x.out_),(ct3 x.local_),(ct6 x.eqs)]
abbrev bx2(x:ae):OB:=.box [(ct1 x.l),.int .i64 x.end_,.int .i64 x.open_,.int .i64 x.terms]
abbrev bx3(a0:List af)(a1 a2 a3:Int):OB:=.box [(ct1 a0),.int .i64 a1,.int .i64 a2,.int .i64 a3]
abbrev bx4:OB:=.box [.int .i64 0,.int .i64 0,.int .i64 0,.str [],.nils,.nils]
abbrev bx5(x:TEq):OB:=.box [.int .i64 x.at_,(ct4 x.names),.str x.node,(ct2 x.s),(ct0 x.e)]
abbrev bx6(a0 a1 a2:Int):OB:=.box [.int .i64 a0,.int .i64 a1,.int .i64 a2]
abbrev bx7(x:fM):OB:=.box [.int .i64 x.parts,.int .i64 x.sizes,.int .i64 x.from_,.int .i64 x.to]
abbrev bx8(x:ao):OB:=.box [.int .i64 x.f.code,.int .i64 x.f.at_,.int .i64 x.at_]
abbrev bx9:OB:=.box [.str [],.int .i64 0,.nils,.nils,.nils,.nils,.nils]
abbrev CX(a0 a1 a2:Int)(a3:List UInt8)(a4:List (List an))(a5:List ab):OB:=.box [.int .i64 a0,.int .i64 a1,.int .i64 a2,.str a3,(ct2 a4),(ct0 a5)]
abbrev BC(x:ap):OB:=.box [.int .i64 x.code,.int .i64 x.at_]
abbrev DP(a0 a1 a2:Int)(a3:List UInt8):OB:=.box [.int .i64 a0,.int .i64 a1,.int .i64 a2,.str a3,.nils,.nils]
abbrev lt0:=lit ([(lit ([([111,114]:List UInt8),([120,111,114]:List UInt8)]:List (List UInt8))),(lit ([([97,110,100]:List UInt8)]:List (List UInt8))),(lit ([([60]:List UInt8),([61,61]:List UInt8)]:List (List UInt8))),(lit ([([43]:List UInt8),([45]:List UInt8)]:List (List UInt8))),(lit ([([42]:List UInt8),([47]:List UInt8),([37]:List UInt8)]:List (List UInt8)))]:List (List (List UInt8)))
abbrev lt1:=lit ([([61,61]:List UInt8),([45,62]:List UInt8)]:List (List UInt8))
abbrev lt2:=lit ([([116,114,117,101]:List UInt8),([102,97,108,115,101]:List UInt8)]:List (List UInt8))
abbrev lt3:=lit ([([]:List UInt8),([97,100,100]:List UInt8),([115,117,98]:List UInt8),([109,117,108]:List UInt8),([100,105,118]:List UInt8),([109,111,100]:List UInt8),([109,105,110]:List UInt8),([109,97,120]:List UInt8),([108,101,115,115]:List UInt8),([101,113]:List UInt8),([97,110,100]:List UInt8),([111,114]:List UInt8),([120,111,114]:List UInt8),([110,101,103]:List UInt8),([110,111,116]:List UInt8)]:List (List UInt8))
end Pam
