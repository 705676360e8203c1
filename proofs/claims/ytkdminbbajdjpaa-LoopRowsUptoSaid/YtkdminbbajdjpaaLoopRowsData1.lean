/- the plain data of the program, as trees of cells; printed by a program of ours -/
import Derived.Test.YtkdminbbajdjpaaTypes1
import Derived.Test.YtkdminbbajdjpaaBase3
set_option linter.all false
namespace Pam
open Go
structure TIns where
  op : Int
  k : Int
  r_ : Int
  a : Int
  b : Int
  n : Int
deriving Inhabited, DecidableEq
def TIns.enc (x : TIns) : List CV := [.int .i64 x.op, .int .i64 x.k, .int .i64 x.r_, .int .i64 x.a, .int .i64 x.b, .int .i64 x.n]
structure TImage where
  cells : Int
  regs : Int
  cost : Int
  put : List Int
  bools : List Int
  get : List Int
  code : List TIns
deriving Inhabited, DecidableEq
def TImage.enc (x : TImage) : List CV := [.int .i64 x.cells, .int .i64 x.regs, .int .i64 x.cost, .tree 1 (x.put.map (eK .i64)), .tree 1 (x.bools.map (eK .i64)), .tree 1 (x.get.map (eK .i64)), .tree 6 (x.code.map TIns.enc)]
structure TFault where
  code : Int
  at_ : Int
deriving Inhabited, DecidableEq
def TFault.enc (x : TFault) : List CV := [.int .i64 x.code, .int .i64 x.at_]
structure TPush where
  op : Int
  k : Int
  v : Int
  n : Int
deriving Inhabited, DecidableEq
def TPush.enc (x : TPush) : List CV := [.int .i64 x.op, .int .i64 x.k, .int .i64 x.v, .int .i64 x.n]
structure TLoop where
  op : Int
  k : Int
  n : Int
  to : Int
  f : List TPush
  e : List TPush
deriving Inhabited, DecidableEq
def TLoop.enc (x : TLoop) : List CV := [.int .i64 x.op, .int .i64 x.k, .int .i64 x.n, .int .i64 x.to, .tree 4 (x.f.map TPush.enc), .tree 4 (x.e.map TPush.enc)]
structure TLoops where
  cells : Int
  put : List Int
  get : List Int
  steps : List TLoop
deriving Inhabited, DecidableEq
def TLoops.enc (x : TLoops) : List CV := [.int .i64 x.cells, .tree 1 (x.put.map (eK .i64)), .tree 1 (x.get.map (eK .i64)), .tree 6 (x.steps.map TLoop.enc)]
structure TLooping where
  l : TLoops
  cells : List Int
deriving Inhabited, DecidableEq
def TLooping.enc (x : TLooping) : List CV := [.int .i64 x.l.cells, .tree 1 (x.l.put.map (eK .i64)), .tree 1 (x.l.get.map (eK .i64)), .tree 6 (x.l.steps.map TLoop.enc), .tree 1 (x.cells.map (eK .i64))]
structure TGoing where
  m_ : TImage
  cells : List Int
  steps : Int
deriving Inhabited, DecidableEq
def TGoing.enc (x : TGoing) : List CV := [.int .i64 x.m_.cells, .int .i64 x.m_.regs, .int .i64 x.m_.cost, .tree 1 (x.m_.put.map (eK .i64)), .tree 1 (x.m_.bools.map (eK .i64)), .tree 1 (x.m_.get.map (eK .i64)), .tree 6 (x.m_.code.map TIns.enc), .tree 1 (x.cells.map (eK .i64)), .int .i64 x.steps]
structure TTerm where
  n : Int
  name : List UInt8
deriving Inhabited, DecidableEq
def TTerm.enc (x : TTerm) : List CV := [.int .i64 x.n, .str x.name]
structure Tjudge where
  m_ : TImage
deriving Inhabited, DecidableEq
def Tjudge.enc (x : Tjudge) : List CV := [.int .i64 x.m_.cells, .int .i64 x.m_.regs, .int .i64 x.m_.cost, .tree 1 (x.m_.put.map (eK .i64)), .tree 1 (x.m_.bools.map (eK .i64)), .tree 1 (x.m_.get.map (eK .i64)), .tree 6 (x.m_.code.map TIns.enc)]
structure Twriter where
  b : List Int
deriving Inhabited, DecidableEq
def Twriter.enc (x : Twriter) : List CV := [.tree 1 (x.b.map (eK .u8))]
structure Tgone where
  code : Int
  at_ : Int
deriving Inhabited, DecidableEq
def Tgone.enc (x : Tgone) : List CV := [.int .i64 x.code, .int .i64 x.at_]
structure Treader where
  b : List Int
  at_ : Int
deriving Inhabited, DecidableEq
def Treader.enc (x : Treader) : List CV := [.tree 1 (x.b.map (eK .u8)), .int .i64 x.at_]
structure TbytesAt where
  b : List Int
  at_ : Int
  f : TFault
deriving Inhabited, DecidableEq
def TbytesAt.enc (x : TbytesAt) : List CV := [.tree 1 (x.b.map (eK .u8)), .int .i64 x.at_, .int .i64 x.f.code, .int .i64 x.f.at_]
structure TMachine where
  l : TLoops
  cells : List Int
deriving Inhabited, DecidableEq
def TMachine.enc (x : TMachine) : List CV := [.int .i64 x.l.cells, .tree 1 (x.l.put.map (eK .i64)), .tree 1 (x.l.get.map (eK .i64)), .tree 6 (x.l.steps.map TLoop.enc), .tree 1 (x.cells.map (eK .i64))]
structure TVM where
  m_ : TImage
  cells : List Int
  regs : List Int
  steps : Int
deriving Inhabited, DecidableEq
def TVM.enc (x : TVM) : List CV := [.int .i64 x.m_.cells, .int .i64 x.m_.regs, .int .i64 x.m_.cost, .tree 1 (x.m_.put.map (eK .i64)), .tree 1 (x.m_.bools.map (eK .i64)), .tree 1 (x.m_.get.map (eK .i64)), .tree 6 (x.m_.code.map TIns.enc), .tree 1 (x.cells.map (eK .i64)), .tree 1 (x.regs.map (eK .i64)), .int .i64 x.steps]
def bX := (And.intro (And.intro (And.intro (And.intro @TIns.enc.eq_1 @TImage.enc.eq_1) (And.intro @TFault.enc.eq_1 @TPush.enc.eq_1)) (And.intro (And.intro @TLoop.enc.eq_1 @TLoops.enc.eq_1) (And.intro @TLooping.enc.eq_1 @TGoing.enc.eq_1))) (And.intro (And.intro (And.intro @TTerm.enc.eq_1 @Tjudge.enc.eq_1) (And.intro @Twriter.enc.eq_1 @Tgone.enc.eq_1)) (And.intro (And.intro @Treader.enc.eq_1 @TbytesAt.enc.eq_1) (And.intro @TMachine.enc.eq_1 @TVM.enc.eq_1))))
def TIns.ok (x : TIns) : Prop := (okI .i64) x.op ∧ (okI .i64) x.k ∧ (okI .i64) x.r_ ∧ (okI .i64) x.a ∧ (okI .i64) x.b ∧ (okI .i64) x.n
def TIns.sz (x : TIns) : Nat := szI x.op + szI x.k + szI x.r_ + szI x.a + szI x.b + szI x.n + 1
theorem TIns.sz_pos (x : TIns) : 1 ≤ x.sz := by unfold TIns.sz; omega
def TImage.ok (x : TImage) : Prop := (okI .i64) x.cells ∧ (okI .i64) x.regs ∧ (okI .i64) x.cost ∧ (okL (okI .i64)) x.put ∧ (okL (okI .i64)) x.bools ∧ (okL (okI .i64)) x.get ∧ (okL TIns.ok) x.code
def TImage.sz (x : TImage) : Nat := szI x.cells + szI x.regs + szI x.cost + (szL szI) x.put + (szL szI) x.bools + (szL szI) x.get + (szL TIns.sz) x.code + 1
theorem TImage.sz_pos (x : TImage) : 1 ≤ x.sz := by unfold TImage.sz; omega
def TFault.ok (x : TFault) : Prop := (okI .i64) x.code ∧ (okI .i64) x.at_
def TFault.sz (x : TFault) : Nat := szI x.code + szI x.at_ + 1
theorem TFault.sz_pos (x : TFault) : 1 ≤ x.sz := by unfold TFault.sz; omega
def TPush.ok (x : TPush) : Prop := (okI .i64) x.op ∧ (okI .i64) x.k ∧ (okI .i64) x.v ∧ (okI .i64) x.n
def TPush.sz (x : TPush) : Nat := szI x.op + szI x.k + szI x.v + szI x.n + 1
theorem TPush.sz_pos (x : TPush) : 1 ≤ x.sz := by unfold TPush.sz; omega
def TLoop.ok (x : TLoop) : Prop := (okI .i64) x.op ∧ (okI .i64) x.k ∧ (okI .i64) x.n ∧ (okI .i64) x.to ∧ (okL TPush.ok) x.f ∧ (okL TPush.ok) x.e
def TLoop.sz (x : TLoop) : Nat := szI x.op + szI x.k + szI x.n + szI x.to + (szL TPush.sz) x.f + (szL TPush.sz) x.e + 1
theorem TLoop.sz_pos (x : TLoop) : 1 ≤ x.sz := by unfold TLoop.sz; omega
def TLoops.ok (x : TLoops) : Prop := (okI .i64) x.cells ∧ (okL (okI .i64)) x.put ∧ (okL (okI .i64)) x.get ∧ (okL TLoop.ok) x.steps
def TLoops.sz (x : TLoops) : Nat := szI x.cells + (szL szI) x.put + (szL szI) x.get + (szL TLoop.sz) x.steps + 1
theorem TLoops.sz_pos (x : TLoops) : 1 ≤ x.sz := by unfold TLoops.sz; omega
def TLooping.ok (x : TLooping) : Prop := TLoops.ok x.l ∧ (okL (okI .i64)) x.cells
def TLooping.sz (x : TLooping) : Nat := TLoops.sz x.l + (szL szI) x.cells + 1
theorem TLooping.sz_pos (x : TLooping) : 1 ≤ x.sz := by unfold TLooping.sz; omega
def TGoing.ok (x : TGoing) : Prop := TImage.ok x.m_ ∧ (okL (okI .i64)) x.cells ∧ (okI .i64) x.steps
def TGoing.sz (x : TGoing) : Nat := TImage.sz x.m_ + (szL szI) x.cells + szI x.steps + 1
theorem TGoing.sz_pos (x : TGoing) : 1 ≤ x.sz := by unfold TGoing.sz; omega
def TTerm.ok (x : TTerm) : Prop := (okI .i64) x.n ∧ okT x.name
def TTerm.sz (x : TTerm) : Nat := szI x.n + szS x.name + 1
theorem TTerm.sz_pos (x : TTerm) : 1 ≤ x.sz := by unfold TTerm.sz; omega
def Tjudge.ok (x : Tjudge) : Prop := TImage.ok x.m_
def Tjudge.sz (x : Tjudge) : Nat := TImage.sz x.m_ + 1
theorem Tjudge.sz_pos (x : Tjudge) : 1 ≤ x.sz := by unfold Tjudge.sz; omega
def Twriter.ok (x : Twriter) : Prop := (okL (okI .u8)) x.b
def Twriter.sz (x : Twriter) : Nat := (szL szI) x.b + 1
theorem Twriter.sz_pos (x : Twriter) : 1 ≤ x.sz := by unfold Twriter.sz; omega
def Tgone.ok (x : Tgone) : Prop := (okI .i64) x.code ∧ (okI .i64) x.at_
def Tgone.sz (x : Tgone) : Nat := szI x.code + szI x.at_ + 1
theorem Tgone.sz_pos (x : Tgone) : 1 ≤ x.sz := by unfold Tgone.sz; omega
def Treader.ok (x : Treader) : Prop := (okL (okI .u8)) x.b ∧ (okI .i64) x.at_
def Treader.sz (x : Treader) : Nat := (szL szI) x.b + szI x.at_ + 1
theorem Treader.sz_pos (x : Treader) : 1 ≤ x.sz := by unfold Treader.sz; omega
def TbytesAt.ok (x : TbytesAt) : Prop := (okL (okI .u8)) x.b ∧ (okI .i64) x.at_ ∧ TFault.ok x.f
def TbytesAt.sz (x : TbytesAt) : Nat := (szL szI) x.b + szI x.at_ + TFault.sz x.f + 1
theorem TbytesAt.sz_pos (x : TbytesAt) : 1 ≤ x.sz := by unfold TbytesAt.sz; omega
def TMachine.ok (x : TMachine) : Prop := TLoops.ok x.l ∧ (okL (okI .i64)) x.cells
def TMachine.sz (x : TMachine) : Nat := TLoops.sz x.l + (szL szI) x.cells + 1
theorem TMachine.sz_pos (x : TMachine) : 1 ≤ x.sz := by unfold TMachine.sz; omega
def TVM.ok (x : TVM) : Prop := TImage.ok x.m_ ∧ (okL (okI .i64)) x.cells ∧ (okL (okI .i64)) x.regs ∧ (okI .i64) x.steps
def TVM.sz (x : TVM) : Nat := TImage.sz x.m_ + (szL szI) x.cells + (szL szI) x.regs + szI x.steps + 1
theorem TVM.sz_pos (x : TVM) : 1 ≤ x.sz := by unfold TVM.sz; omega
end Pam
