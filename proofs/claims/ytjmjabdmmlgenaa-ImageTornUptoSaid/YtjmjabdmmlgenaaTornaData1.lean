/- the plain data of the program, as trees of cells; printed by a program of ours -/
import Derived.Test.YtjmjabdmmlgenaaTornTypes1
import Derived.Test.YtjmjabdmmlgenaaTornBase2
set_option linter.all false
namespace Pam
open Go
structure aD where
  op : Int
  k : Int
  r_ : Int
  a : Int
  b : Int
  n : Int
deriving Inhabited, DecidableEq
def aD.enc (x : aD) : List CV := [.int .i64 x.op, .int .i64 x.k, .int .i64 x.r_, .int .i64 x.a, .int .i64 x.b, .int .i64 x.n]
structure ag where
  cells : Int
  regs : Int
  cost : Int
  put : List Int
  bools : List Int
  get : List Int
  code : List aD
deriving Inhabited, DecidableEq
def ag.enc (x : ag) : List CV := [.int .i64 x.cells, .int .i64 x.regs, .int .i64 x.cost, .tree 1 (x.put.map (eK .i64)), .tree 1 (x.bools.map (eK .i64)), .tree 1 (x.get.map (eK .i64)), .tree 6 (x.code.map aD.enc)]
structure ao where
  code : Int
  at_ : Int
deriving Inhabited, DecidableEq
def ao.enc (x : ao) : List CV := [.int .i64 x.code, .int .i64 x.at_]
structure gC where
  b : List Int
deriving Inhabited, DecidableEq
def gC.enc (x : gC) : List CV := [.tree 1 (x.b.map (eK .u8))]
structure jZ where
  code : Int
  at_ : Int
deriving Inhabited, DecidableEq
def jZ.enc (x : jZ) : List CV := [.int .i64 x.code, .int .i64 x.at_]
structure ah where
  b : List Int
  at_ : Int
deriving Inhabited, DecidableEq
def ah.enc (x : ah) : List CV := [.tree 1 (x.b.map (eK .u8)), .int .i64 x.at_]
structure fE where
  b : List Int
  at_ : Int
  f : ao
deriving Inhabited, DecidableEq
def fE.enc (x : fE) : List CV := [.tree 1 (x.b.map (eK .u8)), .int .i64 x.at_, .int .i64 x.f.code, .int .i64 x.f.at_]
structure br where
  m_ : ag
deriving Inhabited, DecidableEq
def br.enc (x : br) : List CV := [.int .i64 x.m_.cells, .int .i64 x.m_.regs, .int .i64 x.m_.cost, .tree 1 (x.m_.put.map (eK .i64)), .tree 1 (x.m_.bools.map (eK .i64)), .tree 1 (x.m_.get.map (eK .i64)), .tree 6 (x.m_.code.map aD.enc)]
def bX := (And.intro (And.intro (And.intro @aD.enc.eq_1 @ag.enc.eq_1) (And.intro @ao.enc.eq_1 @gC.enc.eq_1)) (And.intro (And.intro @jZ.enc.eq_1 @ah.enc.eq_1) (And.intro @fE.enc.eq_1 @br.enc.eq_1)))
def aD.ok (x : aD) : Prop := (okI .i64) x.op ∧ (okI .i64) x.k ∧ (okI .i64) x.r_ ∧ (okI .i64) x.a ∧ (okI .i64) x.b ∧ (okI .i64) x.n
def aD.sz (x : aD) : Nat := szI x.op + szI x.k + szI x.r_ + szI x.a + szI x.b + szI x.n + 1
def ag.ok (x : ag) : Prop := (okI .i64) x.cells ∧ (okI .i64) x.regs ∧ (okI .i64) x.cost ∧ (okL (okI .i64)) x.put ∧ (okL (okI .i64)) x.bools ∧ (okL (okI .i64)) x.get ∧ (okL aD.ok) x.code
def ag.sz (x : ag) : Nat := szI x.cells + szI x.regs + szI x.cost + (szL szI) x.put + (szL szI) x.bools + (szL szI) x.get + (szL aD.sz) x.code + 1
def ao.ok (x : ao) : Prop := (okI .i64) x.code ∧ (okI .i64) x.at_
def ao.sz (x : ao) : Nat := szI x.code + szI x.at_ + 1
def gC.ok (x : gC) : Prop := (okL (okI .u8)) x.b
def gC.sz (x : gC) : Nat := (szL szI) x.b + 1
def jZ.ok (x : jZ) : Prop := (okI .i64) x.code ∧ (okI .i64) x.at_
def jZ.sz (x : jZ) : Nat := szI x.code + szI x.at_ + 1
def ah.ok (x : ah) : Prop := (okL (okI .u8)) x.b ∧ (okI .i64) x.at_
def ah.sz (x : ah) : Nat := (szL szI) x.b + szI x.at_ + 1
def fE.ok (x : fE) : Prop := (okL (okI .u8)) x.b ∧ (okI .i64) x.at_ ∧ ao.ok x.f
def fE.sz (x : fE) : Nat := (szL szI) x.b + szI x.at_ + ao.sz x.f + 1
def br.ok (x : br) : Prop := ag.ok x.m_
def br.sz (x : br) : Nat := ag.sz x.m_ + 1
end Pam
