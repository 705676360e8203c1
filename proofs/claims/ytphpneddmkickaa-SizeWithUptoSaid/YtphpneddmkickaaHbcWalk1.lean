/- the walk of law_sizeTerm, printed by a program of ours -/
import Derived.Test.YtphpneddmkickaaHBase3
import Derived.Test.YtphpneddmkickaaHBase2
import Derived.Test.YtphpneddmkickaaHbcFun1
set_option linter.all false
set_option maxRecDepth 100000
set_option maxHeartbeats 8000000
namespace Pam
open Go Go.Proofs
theorem fd (p1 : Int) (r : aa) (hm : dk p1 = some r) : cZ Try.prog 17 [.c (.int .i64 p1)] (.a [.int .i64 ((r).n), .str ((r).name)]) := by
 refine bq 19 [.cell 2 39] Try.func17 rfl rfl rfl (by kernel_rfl) (by simp) ?_;refine cU ?_;unfold dk at hm;refine am [] ?_;refine am [4, 5, 6, 7] ?_;obtain ⟨hg1a, hm⟩ := gd hm;refine cJ (emL eS (lit ([([] : List UInt8), ([107] : List UInt8), ([109] : List UInt8), ([110] : List UInt8)] : List (List UInt8))) ((IntKind.wrap .i64 ((IntKind.wrap .u64 p1).tmod 4)).toNat) [[.str ([] : List UInt8)], [.str ([107] : List UInt8)], [.str ([109] : List UInt8)], [.str ([110] : List UInt8)]] rfl) [0, 3, 8, 9, 10, 11, 12, 13, 14, 15, 16, 17, 18] ?_;refine gV [.box [.int .i64 (IntKind.wrap .i64 ((IntKind.wrap .i64 ((IntKind.wrap .u64 ((IntKind.wrap .u64 p1).tdiv 4)).tmod 7)) - 3)), .str ((lit ([([] : List UInt8), ([107] : List UInt8), ([109] : List UInt8), ([110] : List UInt8)] : List (List UInt8))).getD ((IntKind.wrap .i64 ((IntKind.wrap .u64 p1).tmod 4)).toNat) default)], .arr 1 0 9 ((lit ([([] : List UInt8), ([107] : List UInt8), ([109] : List UInt8), ([110] : List UInt8)] : List (List UInt8))).map eS)] ?_;refine az ?_
 cases hm
 exact kr 0
end Pam
