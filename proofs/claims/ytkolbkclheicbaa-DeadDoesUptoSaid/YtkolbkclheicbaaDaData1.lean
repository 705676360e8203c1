/- the plain data of the program, as trees of cells; printed by a program of ours -/
import Derived.Test.YtkolbkclheicbaaDTypes1
import Derived.Test.YtkolbkclheicbaaDBase2
set_option linter.all false
namespace Pam
open Go
structure ao where
  elem : Int
  n : Int
deriving Inhabited, DecidableEq
def ao.enc (x : ao) : List CV := [.int .u8 x.elem, .int .i64 x.n]
structure aB where
  op : Int
  k : Int
  v : Int
  n : Int
deriving Inhabited, DecidableEq
def aB.enc (x : aB) : List CV := [.int .i64 x.op, .int .i64 x.k, .int .i64 x.v, .int .i64 x.n]
structure ah where
  op : Int
  k : Int
  out_ : Int
  n : Int
  a : List Int
  e : List aB
deriving Inhabited, DecidableEq
def ah.enc (x : ah) : List CV := [.int .i64 x.op, .int .i64 x.k, .int .i64 x.out_, .int .i64 x.n, .tree 1 (x.a.map (eK .i64)), .tree 4 (x.e.map aB.enc)]
structure af where
  vars : List ao
  in_ : List Int
  out_ : List Int
  rules : List ah
deriving Inhabited, DecidableEq
def af.enc (x : af) : List CV := [.tree 2 (x.vars.map ao.enc), .tree 1 (x.in_.map (eK .i64)), .tree 1 (x.out_.map (eK .i64)), .tree 6 (x.rules.map ah.enc)]
structure ar where
  code : Int
  at_ : Int
deriving Inhabited, DecidableEq
def ar.enc (x : ar) : List CV := [.int .i64 x.code, .int .i64 x.at_]
structure av where
  system : af
  code : Int
deriving Inhabited, DecidableEq
def av.enc (x : av) : List CV := [.tree 2 (x.system.vars.map ao.enc), .tree 1 (x.system.in_.map (eK .i64)), .tree 1 (x.system.out_.map (eK .i64)), .tree 6 (x.system.rules.map ah.enc), .int .i64 x.code]
def bX := (And.intro (And.intro @ao.enc.eq_1 (And.intro @aB.enc.eq_1 @ah.enc.eq_1)) (And.intro @af.enc.eq_1 (And.intro @ar.enc.eq_1 @av.enc.eq_1)))
def ao.ok (x : ao) : Prop := (okI .u8) x.elem ∧ (okI .i64) x.n
def ao.sz (x : ao) : Nat := szI x.elem + szI x.n + 1
def aB.ok (x : aB) : Prop := (okI .i64) x.op ∧ (okI .i64) x.k ∧ (okI .i64) x.v ∧ (okI .i64) x.n
def aB.sz (x : aB) : Nat := szI x.op + szI x.k + szI x.v + szI x.n + 1
def ah.ok (x : ah) : Prop := (okI .i64) x.op ∧ (okI .i64) x.k ∧ (okI .i64) x.out_ ∧ (okI .i64) x.n ∧ (okL (okI .i64)) x.a ∧ (okL aB.ok) x.e
def ah.sz (x : ah) : Nat := szI x.op + szI x.k + szI x.out_ + szI x.n + (szL szI) x.a + (szL aB.sz) x.e + 1
def af.ok (x : af) : Prop := (okL ao.ok) x.vars ∧ (okL (okI .i64)) x.in_ ∧ (okL (okI .i64)) x.out_ ∧ (okL ah.ok) x.rules
def af.sz (x : af) : Nat := (szL ao.sz) x.vars + (szL szI) x.in_ + (szL szI) x.out_ + (szL ah.sz) x.rules + 1
def ar.ok (x : ar) : Prop := (okI .i64) x.code ∧ (okI .i64) x.at_
def ar.sz (x : ar) : Nat := szI x.code + szI x.at_ + 1
def av.ok (x : av) : Prop := af.ok x.system ∧ (okI .i64) x.code
def av.sz (x : av) : Nat := af.sz x.system + szI x.code + 1
end Pam
