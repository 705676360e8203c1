/- the plain data of the program, as trees of cells; printed by a program of ours -/
import Derived.Test.YtjmjabdmmlgenaaDoesTypes1
import Derived.Test.YtjmjabdmmlgenaaDoesBase2
set_option linter.all false
namespace Pam
open Go
structure ax where
  op : Int
  k : Int
  r_ : Int
  a : Int
  b : Int
  n : Int
deriving Inhabited, DecidableEq
def ax.enc (x : ax) : List CV := [.int .i64 x.op, .int .i64 x.k, .int .i64 x.r_, .int .i64 x.a, .int .i64 x.b, .int .i64 x.n]
structure aj where
  cells : Int
  regs : Int
  cost : Int
  put : List Int
  bools : List Int
  get : List Int
  code : List ax
deriving Inhabited, DecidableEq
def aj.enc (x : aj) : List CV := [.int .i64 x.cells, .int .i64 x.regs, .int .i64 x.cost, .tree 1 (x.put.map (eK .i64)), .tree 1 (x.bools.map (eK .i64)), .tree 1 (x.get.map (eK .i64)), .tree 6 (x.code.map ax.enc)]
structure af where
  code : Int
  at_ : Int
deriving Inhabited, DecidableEq
def af.enc (x : af) : List CV := [.int .i64 x.code, .int .i64 x.at_]
structure jq where
  b : List Int
deriving Inhabited, DecidableEq
def jq.enc (x : jq) : List CV := [.tree 1 (x.b.map (eK .u8))]
structure mw where
  code : Int
  at_ : Int
deriving Inhabited, DecidableEq
def mw.enc (x : mw) : List CV := [.int .i64 x.code, .int .i64 x.at_]
structure aD where
  b : List Int
  at_ : Int
deriving Inhabited, DecidableEq
def aD.enc (x : aD) : List CV := [.tree 1 (x.b.map (eK .u8)), .int .i64 x.at_]
structure ao where
  b : List Int
  at_ : Int
  f : af
deriving Inhabited, DecidableEq
def ao.enc (x : ao) : List CV := [.tree 1 (x.b.map (eK .u8)), .int .i64 x.at_, .int .i64 x.f.code, .int .i64 x.f.at_]
structure ck where
  m_ : aj
deriving Inhabited, DecidableEq
def ck.enc (x : ck) : List CV := [.int .i64 x.m_.cells, .int .i64 x.m_.regs, .int .i64 x.m_.cost, .tree 1 (x.m_.put.map (eK .i64)), .tree 1 (x.m_.bools.map (eK .i64)), .tree 1 (x.m_.get.map (eK .i64)), .tree 6 (x.m_.code.map ax.enc)]
def bX := (And.intro (And.intro (And.intro @ax.enc.eq_1 @aj.enc.eq_1) (And.intro @af.enc.eq_1 @jq.enc.eq_1)) (And.intro (And.intro @mw.enc.eq_1 @aD.enc.eq_1) (And.intro @ao.enc.eq_1 @ck.enc.eq_1)))
def ax.ok (x : ax) : Prop := (okI .i64) x.op ∧ (okI .i64) x.k ∧ (okI .i64) x.r_ ∧ (okI .i64) x.a ∧ (okI .i64) x.b ∧ (okI .i64) x.n
def ax.sz (x : ax) : Nat := szI x.op + szI x.k + szI x.r_ + szI x.a + szI x.b + szI x.n + 1
def aj.ok (x : aj) : Prop := (okI .i64) x.cells ∧ (okI .i64) x.regs ∧ (okI .i64) x.cost ∧ (okL (okI .i64)) x.put ∧ (okL (okI .i64)) x.bools ∧ (okL (okI .i64)) x.get ∧ (okL ax.ok) x.code
def aj.sz (x : aj) : Nat := szI x.cells + szI x.regs + szI x.cost + (szL szI) x.put + (szL szI) x.bools + (szL szI) x.get + (szL ax.sz) x.code + 1
def af.ok (x : af) : Prop := (okI .i64) x.code ∧ (okI .i64) x.at_
def af.sz (x : af) : Nat := szI x.code + szI x.at_ + 1
def jq.ok (x : jq) : Prop := (okL (okI .u8)) x.b
def jq.sz (x : jq) : Nat := (szL szI) x.b + 1
def mw.ok (x : mw) : Prop := (okI .i64) x.code ∧ (okI .i64) x.at_
def mw.sz (x : mw) : Nat := szI x.code + szI x.at_ + 1
def aD.ok (x : aD) : Prop := (okL (okI .u8)) x.b ∧ (okI .i64) x.at_
def aD.sz (x : aD) : Nat := (szL szI) x.b + szI x.at_ + 1
def ao.ok (x : ao) : Prop := (okL (okI .u8)) x.b ∧ (okI .i64) x.at_ ∧ af.ok x.f
def ao.sz (x : ao) : Nat := (szL szI) x.b + szI x.at_ + af.sz x.f + 1
def ck.ok (x : ck) : Prop := aj.ok x.m_
def ck.sz (x : ck) : Nat := aj.sz x.m_ + 1
end Pam
