/- the plain data of the program, as trees of cells; printed by a program of ours -/
import Derived.Test.YtohhobobecjigaaGreatQTypes1
import Derived.Test.YtohhobobecjigaaGreatQBase2
import Derived.Test.YtohhobobecjigaaGreatQBase3
set_option linter.all false
namespace Pam
open Go
structure ap where
  elem:Int
  n:Int
deriving Inhabited,DecidableEq
def ap.enc(x:ap):List CV:=[.int .u8 x.elem,.int .i64 x.n]
structure aL where
  op:Int
  k:Int
  v:Int
  n:Int
deriving Inhabited,DecidableEq
def aL.enc(x:aL):List CV:=[.int .i64 x.op,.int .i64 x.k,.int .i64 x.v,.int .i64 x.n]
structure ae where
  op:Int
  k:Int
  out_:Int
  n:Int
  a:List Int
  e:List aL
deriving Inhabited,DecidableEq
def ae.enc(x:ae):List CV:=[.int .i64 x.op,.int .i64 x.k,.int .i64 x.out_,.int .i64 x.n,.tree 1 (x.a.map (eK .i64)),.tree 4 (x.e.map aL.enc)]
structure ab where
  vars:List ap
  in_:List Int
  out_:List Int
  rules:List ae
deriving Inhabited,DecidableEq
def ab.enc(x:ab):List CV:=[.tree 2 (x.vars.map ap.enc),.tree 1 (x.in_.map (eK .i64)),.tree 1 (x.out_.map (eK .i64)),.tree 6 (x.rules.map ae.enc)]
structure an where
  code:Int
  at_:Int
deriving Inhabited,DecidableEq
def an.enc(x:an):List CV:=[.int .i64 x.code,.int .i64 x.at_]
structure n4 where
  s:ab
  keep:List (List Int)
  v:List (List Int)
  rows:Int
deriving Inhabited,DecidableEq
def n4.enc(x:n4):List CV:=[.tree 2 (x.s.vars.map ap.enc),.tree 1 (x.s.in_.map (eK .i64)),.tree 1 (x.s.out_.map (eK .i64)),.tree 6 (x.s.rules.map ae.enc),.tree 1 (x.keep.map (eL 1 (eK .i64))),.tree 1 (x.v.map (eL 1 (eK .i64))),.int .i64 x.rows]
structure pT where
  system:ab
  there:List Bool
deriving Inhabited,DecidableEq
def pT.enc(x:pT):List CV:=[.tree 2 (x.system.vars.map ap.enc),.tree 1 (x.system.in_.map (eK .i64)),.tree 1 (x.system.out_.map (eK .i64)),.tree 6 (x.system.rules.map ae.enc),.tree 1 (x.there.map eB)]
structure az where
  system:ab
  code:Int
deriving Inhabited,DecidableEq
def az.enc(x:az):List CV:=[.tree 2 (x.system.vars.map ap.enc),.tree 1 (x.system.in_.map (eK .i64)),.tree 1 (x.system.out_.map (eK .i64)),.tree 6 (x.system.rules.map ae.enc),.int .i64 x.code]
def bX:=(And.intro (And.intro (And.intro @ap.enc.eq_1 @aL.enc.eq_1) (And.intro @ae.enc.eq_1 @ab.enc.eq_1)) (And.intro (And.intro @an.enc.eq_1 @n4.enc.eq_1) (And.intro @pT.enc.eq_1 (And.intro @az.enc.eq_1 @eN.eq_1))))
def ap.ok(x:ap):Prop:=(okI .u8) x.elem∧(okI .i64) x.n
def ap.sz(x:ap):Nat:=szI x.elem+szI x.n+1
def aL.ok(x:aL):Prop:=(okI .i64) x.op∧(okI .i64) x.k∧(okI .i64) x.v∧(okI .i64) x.n
def aL.sz(x:aL):Nat:=szI x.op+szI x.k+szI x.v+szI x.n+1
def ae.ok(x:ae):Prop:=(okI .i64) x.op∧(okI .i64) x.k∧(okI .i64) x.out_∧(okI .i64) x.n∧(okL (okI .i64)) x.a∧(okL aL.ok) x.e
def ae.sz(x:ae):Nat:=szI x.op+szI x.k+szI x.out_+szI x.n+(szL szI) x.a+(szL aL.sz) x.e+1
def ab.ok(x:ab):Prop:=(okL ap.ok) x.vars∧(okL (okI .i64)) x.in_∧(okL (okI .i64)) x.out_∧(okL ae.ok) x.rules
def ab.sz(x:ab):Nat:=(szL ap.sz) x.vars+(szL szI) x.in_+(szL szI) x.out_+(szL ae.sz) x.rules+1
def an.ok(x:an):Prop:=(okI .i64) x.code∧(okI .i64) x.at_
def an.sz(x:an):Nat:=szI x.code+szI x.at_+1
def n4.ok(x:n4):Prop:=ab.ok x.s∧(okL (okL (okI .i64))) x.keep∧(okL (okL (okI .i64))) x.v∧(okI .i64) x.rows
def n4.sz(x:n4):Nat:=ab.sz x.s+(szL (szL szI)) x.keep+(szL (szL szI)) x.v+szI x.rows+1
def pT.ok(x:pT):Prop:=ab.ok x.system∧(okL okT) x.there
def pT.sz(x:pT):Nat:=ab.sz x.system+(szL szI) x.there+1
def az.ok(x:az):Prop:=ab.ok x.system∧(okI .i64) x.code
def az.sz(x:az):Nat:=ab.sz x.system+szI x.code+1
abbrev ct0(l:List Int):CV:=.tree 1 (l.map (eK .i64))
abbrev ct1(l:List ap):CV:=.tree 2 (l.map ap.enc)
abbrev ct2(l:List ae):CV:=.tree 6 (l.map ae.enc)
abbrev ct3(l:List aL):CV:=.tree 4 (l.map aL.enc)
end Pam
