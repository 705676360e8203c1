/- the plain data of the program, as trees of cells; printed by a program of ours -/
import Derived.Test.YtphpneddmkickaaHTypes1
import Derived.Test.YtphpneddmkickaaHBase2
set_option linter.all false
namespace Pam
open Go
structure ag where
  code : Int
  at_ : Int
deriving Inhabited, DecidableEq
def ag.enc (x : ag) : List CV := [.int .i64 x.code, .int .i64 x.at_]
structure aa where
  n : Int
  name : List UInt8
deriving Inhabited, DecidableEq
def aa.enc (x : aa) : List CV := [.int .i64 x.n, .str x.name]
def bX := (And.intro @ag.enc.eq_1 @aa.enc.eq_1)
def ag.ok (x : ag) : Prop := (okI .i64) x.code ∧ (okI .i64) x.at_
def ag.sz (x : ag) : Nat := szI x.code + szI x.at_ + 1
def aa.ok (x : aa) : Prop := (okI .i64) x.n ∧ okT x.name
def aa.sz (x : aa) : Nat := szI x.n + szS x.name + 1
end Pam
