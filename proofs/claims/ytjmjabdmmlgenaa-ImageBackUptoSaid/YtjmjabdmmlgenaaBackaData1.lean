/- the plain data of the program, as trees of cells; printed by a program of ours -/
import Derived.Test.YtjmjabdmmlgenaaBackTypes1
import Derived.Test.YtjmjabdmmlgenaaBackBase2
set_option linter.all false
namespace Pam
open Go
structure aF where
  op : Int
  k : Int
  r_ : Int
  a : Int
  b : Int
  n : Int
deriving Inhabited, DecidableEq
def aF.enc (x : aF) : List CV := [.int .i64 x.op, .int .i64 x.k, .int .i64 x.r_, .int .i64 x.a, .int .i64 x.b, .int .i64 x.n]
structure ag where
  cells : Int
  regs : Int
  cost : Int
  put : List Int
  bools : List Int
  get : List Int
  code : List aF
deriving Inhabited, DecidableEq
def ag.enc (x : ag) : List CV := [.int .i64 x.cells, .int .i64 x.regs, .int .i64 x.cost, .tree 1 (x.put.map (eK .i64)), .tree 1 (x.bools.map (eK .i64)), .tree 1 (x.get.map (eK .i64)), .tree 6 (x.code.map aF.enc)]
structure aq where
  code : Int
  at_ : Int
deriving Inhabited, DecidableEq
def aq.enc (x : aq) : List CV := [.int .i64 x.code, .int .i64 x.at_]
structure gX where
  b : List Int
deriving Inhabited, DecidableEq
def gX.enc (x : gX) : List CV := [.tree 1 (x.b.map (eK .u8))]
structure ky where
  code : Int
  at_ : Int
deriving Inhabited, DecidableEq
def ky.enc (x : ky) : List CV := [.int .i64 x.code, .int .i64 x.at_]
structure ae where
  b : List Int
  at_ : Int
deriving Inhabited, DecidableEq
def ae.enc (x : ae) : List CV := [.tree 1 (x.b.map (eK .u8)), .int .i64 x.at_]
structure fZ where
  b : List Int
  at_ : Int
  f : aq
deriving Inhabited, DecidableEq
def fZ.enc (x : fZ) : List CV := [.tree 1 (x.b.map (eK .u8)), .int .i64 x.at_, .int .i64 x.f.code, .int .i64 x.f.at_]
structure bI where
  m_ : ag
deriving Inhabited, DecidableEq
def bI.enc (x : bI) : List CV := [.int .i64 x.m_.cells, .int .i64 x.m_.regs, .int .i64 x.m_.cost, .tree 1 (x.m_.put.map (eK .i64)), .tree 1 (x.m_.bools.map (eK .i64)), .tree 1 (x.m_.get.map (eK .i64)), .tree 6 (x.m_.code.map aF.enc)]
def bX := (And.intro (And.intro (And.intro @aF.enc.eq_1 @ag.enc.eq_1) (And.intro @aq.enc.eq_1 @gX.enc.eq_1)) (And.intro (And.intro @ky.enc.eq_1 @ae.enc.eq_1) (And.intro @fZ.enc.eq_1 @bI.enc.eq_1)))
def aF.ok (x : aF) : Prop := (okI .i64) x.op ∧ (okI .i64) x.k ∧ (okI .i64) x.r_ ∧ (okI .i64) x.a ∧ (okI .i64) x.b ∧ (okI .i64) x.n
def aF.sz (x : aF) : Nat := szI x.op + szI x.k + szI x.r_ + szI x.a + szI x.b + szI x.n + 1
def ag.ok (x : ag) : Prop := (okI .i64) x.cells ∧ (okI .i64) x.regs ∧ (okI .i64) x.cost ∧ (okL (okI .i64)) x.put ∧ (okL (okI .i64)) x.bools ∧ (okL (okI .i64)) x.get ∧ (okL aF.ok) x.code
def ag.sz (x : ag) : Nat := szI x.cells + szI x.regs + szI x.cost + (szL szI) x.put + (szL szI) x.bools + (szL szI) x.get + (szL aF.sz) x.code + 1
def aq.ok (x : aq) : Prop := (okI .i64) x.code ∧ (okI .i64) x.at_
def aq.sz (x : aq) : Nat := szI x.code + szI x.at_ + 1
def gX.ok (x : gX) : Prop := (okL (okI .u8)) x.b
def gX.sz (x : gX) : Nat := (szL szI) x.b + 1
def ky.ok (x : ky) : Prop := (okI .i64) x.code ∧ (okI .i64) x.at_
def ky.sz (x : ky) : Nat := szI x.code + szI x.at_ + 1
def ae.ok (x : ae) : Prop := (okL (okI .u8)) x.b ∧ (okI .i64) x.at_
def ae.sz (x : ae) : Nat := (szL szI) x.b + szI x.at_ + 1
def fZ.ok (x : fZ) : Prop := (okL (okI .u8)) x.b ∧ (okI .i64) x.at_ ∧ aq.ok x.f
def fZ.sz (x : fZ) : Nat := (szL szI) x.b + szI x.at_ + aq.sz x.f + 1
def bI.ok (x : bI) : Prop := ag.ok x.m_
def bI.sz (x : bI) : Nat := ag.sz x.m_ + 1
end Pam
