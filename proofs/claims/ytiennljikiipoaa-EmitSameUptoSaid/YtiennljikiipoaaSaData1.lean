/- the plain data of the program, as trees of cells; printed by a program of ours -/
import Derived.Test.YtiennljikiipoaaSTypes1
import Derived.Test.YtiennljikiipoaaSBase2
set_option linter.all false
namespace Pam
open Go
structure au where
  op : Int
  k : Int
  v : Int
  n : Int
deriving Inhabited, DecidableEq
def au.enc (x : au) : List CV := [.int .i64 x.op, .int .i64 x.k, .int .i64 x.v, .int .i64 x.n]
structure ap where
  op : Int
  k : Int
  n : Int
  to : Int
  f : List au
  e : List au
deriving Inhabited, DecidableEq
def ap.enc (x : ap) : List CV := [.int .i64 x.op, .int .i64 x.k, .int .i64 x.n, .int .i64 x.to, .tree 4 (x.f.map au.enc), .tree 4 (x.e.map au.enc)]
structure aE where
  cells : Int
  put : List Int
  get : List Int
  steps : List ap
deriving Inhabited, DecidableEq
def aE.enc (x : aE) : List CV := [.int .i64 x.cells, .tree 1 (x.put.map (eK .i64)), .tree 1 (x.get.map (eK .i64)), .tree 6 (x.steps.map ap.enc)]
structure ah where
  op : Int
  k : Int
  r_ : Int
  a : Int
  b : Int
  n : Int
deriving Inhabited, DecidableEq
def ah.enc (x : ah) : List CV := [.int .i64 x.op, .int .i64 x.k, .int .i64 x.r_, .int .i64 x.a, .int .i64 x.b, .int .i64 x.n]
structure aB where
  cells : Int
  regs : Int
  cost : Int
  put : List Int
  bools : List Int
  get : List Int
  code : List ah
deriving Inhabited, DecidableEq
def aB.enc (x : aB) : List CV := [.int .i64 x.cells, .int .i64 x.regs, .int .i64 x.cost, .tree 1 (x.put.map (eK .i64)), .tree 1 (x.bools.map (eK .i64)), .tree 1 (x.get.map (eK .i64)), .tree 6 (x.code.map ah.enc)]
structure aq where
  code : Int
  at_ : Int
deriving Inhabited, DecidableEq
def aq.enc (x : aq) : List CV := [.int .i64 x.code, .int .i64 x.at_]
structure gr where
  l : aE
  cells : List Int
deriving Inhabited, DecidableEq
def gr.enc (x : gr) : List CV := [.int .i64 x.l.cells, .tree 1 (x.l.put.map (eK .i64)), .tree 1 (x.l.get.map (eK .i64)), .tree 6 (x.l.steps.map ap.enc), .tree 1 (x.cells.map (eK .i64))]
structure jh where
  m_ : aB
  cells : List Int
  steps : Int
deriving Inhabited, DecidableEq
def jh.enc (x : jh) : List CV := [.int .i64 x.m_.cells, .int .i64 x.m_.regs, .int .i64 x.m_.cost, .tree 1 (x.m_.put.map (eK .i64)), .tree 1 (x.m_.bools.map (eK .i64)), .tree 1 (x.m_.get.map (eK .i64)), .tree 6 (x.m_.code.map ah.enc), .tree 1 (x.cells.map (eK .i64)), .int .i64 x.steps]
structure gu where
  code : List ah
  regs : Int
deriving Inhabited, DecidableEq
def gu.enc (x : gu) : List CV := [.tree 6 (x.code.map ah.enc), .int .i64 x.regs]
structure bN where
  m_ : aB
deriving Inhabited, DecidableEq
def bN.enc (x : bN) : List CV := [.int .i64 x.m_.cells, .int .i64 x.m_.regs, .int .i64 x.m_.cost, .tree 1 (x.m_.put.map (eK .i64)), .tree 1 (x.m_.bools.map (eK .i64)), .tree 1 (x.m_.get.map (eK .i64)), .tree 6 (x.m_.code.map ah.enc)]
def bX := (And.intro (And.intro (And.intro @au.enc.eq_1 @ap.enc.eq_1) (And.intro @aE.enc.eq_1 (And.intro @ah.enc.eq_1 @aB.enc.eq_1))) (And.intro (And.intro @aq.enc.eq_1 @gr.enc.eq_1) (And.intro @jh.enc.eq_1 (And.intro @gu.enc.eq_1 @bN.enc.eq_1))))
def au.ok (x : au) : Prop := (okI .i64) x.op ∧ (okI .i64) x.k ∧ (okI .i64) x.v ∧ (okI .i64) x.n
def au.sz (x : au) : Nat := szI x.op + szI x.k + szI x.v + szI x.n + 1
theorem au.sz_pos (x : au) : 1 ≤ x.sz := by unfold au.sz; omega
def ap.ok (x : ap) : Prop := (okI .i64) x.op ∧ (okI .i64) x.k ∧ (okI .i64) x.n ∧ (okI .i64) x.to ∧ (okL au.ok) x.f ∧ (okL au.ok) x.e
def ap.sz (x : ap) : Nat := szI x.op + szI x.k + szI x.n + szI x.to + (szL au.sz) x.f + (szL au.sz) x.e + 1
theorem ap.sz_pos (x : ap) : 1 ≤ x.sz := by unfold ap.sz; omega
def aE.ok (x : aE) : Prop := (okI .i64) x.cells ∧ (okL (okI .i64)) x.put ∧ (okL (okI .i64)) x.get ∧ (okL ap.ok) x.steps
def aE.sz (x : aE) : Nat := szI x.cells + (szL szI) x.put + (szL szI) x.get + (szL ap.sz) x.steps + 1
theorem aE.sz_pos (x : aE) : 1 ≤ x.sz := by unfold aE.sz; omega
def ah.ok (x : ah) : Prop := (okI .i64) x.op ∧ (okI .i64) x.k ∧ (okI .i64) x.r_ ∧ (okI .i64) x.a ∧ (okI .i64) x.b ∧ (okI .i64) x.n
def ah.sz (x : ah) : Nat := szI x.op + szI x.k + szI x.r_ + szI x.a + szI x.b + szI x.n + 1
theorem ah.sz_pos (x : ah) : 1 ≤ x.sz := by unfold ah.sz; omega
def aB.ok (x : aB) : Prop := (okI .i64) x.cells ∧ (okI .i64) x.regs ∧ (okI .i64) x.cost ∧ (okL (okI .i64)) x.put ∧ (okL (okI .i64)) x.bools ∧ (okL (okI .i64)) x.get ∧ (okL ah.ok) x.code
def aB.sz (x : aB) : Nat := szI x.cells + szI x.regs + szI x.cost + (szL szI) x.put + (szL szI) x.bools + (szL szI) x.get + (szL ah.sz) x.code + 1
theorem aB.sz_pos (x : aB) : 1 ≤ x.sz := by unfold aB.sz; omega
def aq.ok (x : aq) : Prop := (okI .i64) x.code ∧ (okI .i64) x.at_
def aq.sz (x : aq) : Nat := szI x.code + szI x.at_ + 1
theorem aq.sz_pos (x : aq) : 1 ≤ x.sz := by unfold aq.sz; omega
def gr.ok (x : gr) : Prop := aE.ok x.l ∧ (okL (okI .i64)) x.cells
def gr.sz (x : gr) : Nat := aE.sz x.l + (szL szI) x.cells + 1
theorem gr.sz_pos (x : gr) : 1 ≤ x.sz := by unfold gr.sz; omega
def jh.ok (x : jh) : Prop := aB.ok x.m_ ∧ (okL (okI .i64)) x.cells ∧ (okI .i64) x.steps
def jh.sz (x : jh) : Nat := aB.sz x.m_ + (szL szI) x.cells + szI x.steps + 1
theorem jh.sz_pos (x : jh) : 1 ≤ x.sz := by unfold jh.sz; omega
def gu.ok (x : gu) : Prop := (okL ah.ok) x.code ∧ (okI .i64) x.regs
def gu.sz (x : gu) : Nat := (szL ah.sz) x.code + szI x.regs + 1
theorem gu.sz_pos (x : gu) : 1 ≤ x.sz := by unfold gu.sz; omega
def bN.ok (x : bN) : Prop := aB.ok x.m_
def bN.sz (x : bN) : Nat := aB.sz x.m_ + 1
theorem bN.sz_pos (x : bN) : 1 ≤ x.sz := by unfold bN.sz; omega
end Pam
