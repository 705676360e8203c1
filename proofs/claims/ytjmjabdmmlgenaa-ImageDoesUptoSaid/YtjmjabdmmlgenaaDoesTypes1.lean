/- Facts of the types that the proofs of this seat speak of, read off the program by the kernel. Printed by a program of ours. -/
import Derived.Test.YtjmjabdmmlgenaaProg
import Derived.Test.YtjmjabdmmlgenaaDoesBase1
set_option linter.all false
namespace Pam
open Go Go.Proofs
def tab : Nat → TD
  | 2 => { ok := true, size := 1, bytes := 8, int := true, kind := .i64, zero := some [.int .i64 0] }
  | 3 => { ok := true, size := 1, bytes := 8, int := true, kind := .i64, zero := some [.int .i64 0] }
  | 4 => { ok := true, size := 1, bytes := 1, bool := true, zero := some [.bool false] }
  | 5 => { ok := true, size := 1, bytes := 1, int := true, kind := .u8, zero := some [.int .u8 0] }
  | 9 => { ok := true, size := 1, bytes := 16, str := true, zero := some [.str []] }
  | 22 => { ok := true, size := 1, bytes := 24, sl := true, elem := 3, zero := some [.nils] }
  | 23 => { ok := true, size := 1, bytes := 24, sl := true, elem := 50, zero := some [.nils] }
  | 25 => { ok := true, size := 7, bytes := 120, agg := true, fs := [(0, 3), (1, 3), (2, 3), (3, 22), (4, 22), (5, 22), (6, 23)], fk := true, zero := some [.int .i64 0, .int .i64 0, .int .i64 0, .nils, .nils, .nils, .nils] }
  | 26 => { ok := true, size := 1, bytes := 24, sl := true, elem := 5, zero := some [.nils] }
  | 31 => { ok := true, size := 2, bytes := 16, agg := true, fs := [(0, 3), (1, 3)], fk := true, flat := some [1, 1], zero := some [.int .i64 0, .int .i64 0] }
  | 38 => { ok := true, size := 1, bytes := 4, int := true, kind := .u32, zero := some [.int .u32 0] }
  | 42 => { ok := true, size := 1, bytes := 8, int := true, kind := .u64, zero := some [.int .u64 0] }
  | 44 => { ok := true, size := 1, bytes := 8, ptr := true, zero := some [.nilp] }
  | 46 => { ok := true, size := 1, bytes := 24, agg := true, fs := [(0, 26)], fk := true, zero := some [.nils] }
  | 50 => { ok := true, size := 6, bytes := 48, agg := true, fs := [(0, 3), (1, 3), (2, 3), (3, 3), (4, 3), (5, 2)], fk := true, flat := some [1, 1, 1, 1, 1, 1], zero := some [.int .i64 0, .int .i64 0, .int .i64 0, .int .i64 0, .int .i64 0, .int .i64 0] }
  | 51 => { ok := true, size := 2, bytes := 16, agg := true, fs := [(0, 3), (1, 3)], fk := true, flat := some [1, 1], zero := some [.int .i64 0, .int .i64 0] }
  | 53 => { ok := true, size := 1, bytes := 8, ptr := true, zero := some [.nilp] }
  | 55 => { ok := true, size := 2, bytes := 32, agg := true, fs := [(0, 26), (1, 3)], fk := true, zero := some [.nils, .int .i64 0] }
  | 58 => { ok := true, size := 1, bytes := 24, sl := true, elem := 22, zero := some [.nils] }
  | 61 => { ok := true, size := 1, bytes := 8, ptr := true, zero := some [.nilp] }
  | 63 => { ok := true, size := 4, bytes := 48, agg := true, fs := [(0, 26), (1, 3), (2, 31)], fk := true, zero := some [.nils, .int .i64 0, .int .i64 0, .int .i64 0] }
  | 70 => { ok := true, size := 1, bytes := 24, sl := true, elem := 2, zero := some [.nils] }
  | 72 => { ok := true, size := 7, bytes := 120, agg := true, fs := [(0, 25)], fk := true, zero := some [.int .i64 0, .int .i64 0, .int .i64 0, .nils, .nils, .nils, .nils] }
  | 74 => { ok := true, size := 1, bytes := 8, int := true, kind := .u64, zero := some [.int .u64 0] }
  | 83 => { ok := true, size := 1, bytes := 8, zero := some [.nilf] }
  | _ => {}
theorem uo : eJ Try.prog 2 (tab 2) :=
  by constructor <;> first | kernel_rfl | exact fun i hi => by simp [tab] at hi
theorem up : eJ Try.prog 3 (tab 3) :=
  by constructor <;> first | kernel_rfl | exact fun i hi => by simp [tab] at hi
theorem uq : eJ Try.prog 4 (tab 4) :=
  by constructor <;> first | kernel_rfl | exact fun i hi => by simp [tab] at hi
theorem ur : eJ Try.prog 5 (tab 5) :=
  by constructor <;> first | kernel_rfl | exact fun i hi => by simp [tab] at hi
theorem ut : eJ Try.prog 9 (tab 9) :=
  by constructor <;> first | kernel_rfl | exact fun i hi => by simp [tab] at hi
theorem tD : eJ Try.prog 22 (tab 22) :=
  by constructor <;> first | kernel_rfl | exact fun i hi => by simp [tab] at hi
theorem tE : eJ Try.prog 23 (tab 23) :=
  by constructor <;> first | kernel_rfl | exact fun i hi => by simp [tab] at hi
theorem tF : eJ Try.prog 25 (tab 25) :=
  ⟨by kernel_rfl, by kernel_rfl, by kernel_rfl, by kernel_rfl, by kernel_rfl, by kernel_rfl, by kernel_rfl, by kernel_rfl, by kernel_rfl, by kernel_rfl, by kernel_rfl, by kernel_rfl, by kernel_rfl, by kernel_rfl, by kernel_rfl, by kernel_rfl, by kernel_rfl,
    fun i hi => by
      have hi : i < 7 := hi
      match i, hi with
      | 0, _ => exact ⟨by kernel_rfl, by kernel_rfl, by kernel_rfl⟩
      | 1, _ => exact ⟨by kernel_rfl, by kernel_rfl, by kernel_rfl⟩
      | 2, _ => exact ⟨by kernel_rfl, by kernel_rfl, by kernel_rfl⟩
      | 3, _ => exact ⟨by kernel_rfl, by kernel_rfl, by kernel_rfl⟩
      | 4, _ => exact ⟨by kernel_rfl, by kernel_rfl, by kernel_rfl⟩
      | 5, _ => exact ⟨by kernel_rfl, by kernel_rfl, by kernel_rfl⟩
      | 6, _ => exact ⟨by kernel_rfl, by kernel_rfl, by kernel_rfl⟩⟩
theorem tG : eJ Try.prog 26 (tab 26) :=
  by constructor <;> first | kernel_rfl | exact fun i hi => by simp [tab] at hi
theorem tH : eJ Try.prog 31 (tab 31) :=
  ⟨by kernel_rfl, by kernel_rfl, by kernel_rfl, by kernel_rfl, by kernel_rfl, by kernel_rfl, by kernel_rfl, by kernel_rfl, by kernel_rfl, by kernel_rfl, by kernel_rfl, by kernel_rfl, by kernel_rfl, by kernel_rfl, by kernel_rfl, by kernel_rfl, by kernel_rfl,
    fun i hi => by
      have hi : i < 2 := hi
      match i, hi with
      | 0, _ => exact ⟨by kernel_rfl, by kernel_rfl, by kernel_rfl⟩
      | 1, _ => exact ⟨by kernel_rfl, by kernel_rfl, by kernel_rfl⟩⟩
theorem tI : eJ Try.prog 38 (tab 38) :=
  by constructor <;> first | kernel_rfl | exact fun i hi => by simp [tab] at hi
theorem tJ : eJ Try.prog 42 (tab 42) :=
  by constructor <;> first | kernel_rfl | exact fun i hi => by simp [tab] at hi
theorem tK : eJ Try.prog 44 (tab 44) :=
  by constructor <;> first | kernel_rfl | exact fun i hi => by simp [tab] at hi
theorem tL : eJ Try.prog 46 (tab 46) :=
  ⟨by kernel_rfl, by kernel_rfl, by kernel_rfl, by kernel_rfl, by kernel_rfl, by kernel_rfl, by kernel_rfl, by kernel_rfl, by kernel_rfl, by kernel_rfl, by kernel_rfl, by kernel_rfl, by kernel_rfl, by kernel_rfl, by kernel_rfl, by kernel_rfl, by kernel_rfl,
    fun i hi => by
      have hi : i < 1 := hi
      match i, hi with
      | 0, _ => exact ⟨by kernel_rfl, by kernel_rfl, by kernel_rfl⟩⟩
theorem tM : eJ Try.prog 50 (tab 50) :=
  ⟨by kernel_rfl, by kernel_rfl, by kernel_rfl, by kernel_rfl, by kernel_rfl, by kernel_rfl, by kernel_rfl, by kernel_rfl, by kernel_rfl, by kernel_rfl, by kernel_rfl, by kernel_rfl, by kernel_rfl, by kernel_rfl, by kernel_rfl, by kernel_rfl, by kernel_rfl,
    fun i hi => by
      have hi : i < 6 := hi
      match i, hi with
      | 0, _ => exact ⟨by kernel_rfl, by kernel_rfl, by kernel_rfl⟩
      | 1, _ => exact ⟨by kernel_rfl, by kernel_rfl, by kernel_rfl⟩
      | 2, _ => exact ⟨by kernel_rfl, by kernel_rfl, by kernel_rfl⟩
      | 3, _ => exact ⟨by kernel_rfl, by kernel_rfl, by kernel_rfl⟩
      | 4, _ => exact ⟨by kernel_rfl, by kernel_rfl, by kernel_rfl⟩
      | 5, _ => exact ⟨by kernel_rfl, by kernel_rfl, by kernel_rfl⟩⟩
theorem tO : eJ Try.prog 51 (tab 51) :=
  ⟨by kernel_rfl, by kernel_rfl, by kernel_rfl, by kernel_rfl, by kernel_rfl, by kernel_rfl, by kernel_rfl, by kernel_rfl, by kernel_rfl, by kernel_rfl, by kernel_rfl, by kernel_rfl, by kernel_rfl, by kernel_rfl, by kernel_rfl, by kernel_rfl, by kernel_rfl,
    fun i hi => by
      have hi : i < 2 := hi
      match i, hi with
      | 0, _ => exact ⟨by kernel_rfl, by kernel_rfl, by kernel_rfl⟩
      | 1, _ => exact ⟨by kernel_rfl, by kernel_rfl, by kernel_rfl⟩⟩
theorem tP : eJ Try.prog 53 (tab 53) :=
  by constructor <;> first | kernel_rfl | exact fun i hi => by simp [tab] at hi
theorem tQ : eJ Try.prog 55 (tab 55) :=
  ⟨by kernel_rfl, by kernel_rfl, by kernel_rfl, by kernel_rfl, by kernel_rfl, by kernel_rfl, by kernel_rfl, by kernel_rfl, by kernel_rfl, by kernel_rfl, by kernel_rfl, by kernel_rfl, by kernel_rfl, by kernel_rfl, by kernel_rfl, by kernel_rfl, by kernel_rfl,
    fun i hi => by
      have hi : i < 2 := hi
      match i, hi with
      | 0, _ => exact ⟨by kernel_rfl, by kernel_rfl, by kernel_rfl⟩
      | 1, _ => exact ⟨by kernel_rfl, by kernel_rfl, by kernel_rfl⟩⟩
theorem tR : eJ Try.prog 58 (tab 58) :=
  by constructor <;> first | kernel_rfl | exact fun i hi => by simp [tab] at hi
theorem tS : eJ Try.prog 61 (tab 61) :=
  by constructor <;> first | kernel_rfl | exact fun i hi => by simp [tab] at hi
theorem tT : eJ Try.prog 63 (tab 63) :=
  ⟨by kernel_rfl, by kernel_rfl, by kernel_rfl, by kernel_rfl, by kernel_rfl, by kernel_rfl, by kernel_rfl, by kernel_rfl, by kernel_rfl, by kernel_rfl, by kernel_rfl, by kernel_rfl, by kernel_rfl, by kernel_rfl, by kernel_rfl, by kernel_rfl, by kernel_rfl,
    fun i hi => by
      have hi : i < 3 := hi
      match i, hi with
      | 0, _ => exact ⟨by kernel_rfl, by kernel_rfl, by kernel_rfl⟩
      | 1, _ => exact ⟨by kernel_rfl, by kernel_rfl, by kernel_rfl⟩
      | 2, _ => exact ⟨by kernel_rfl, by kernel_rfl, by kernel_rfl⟩⟩
theorem tU : eJ Try.prog 70 (tab 70) :=
  by constructor <;> first | kernel_rfl | exact fun i hi => by simp [tab] at hi
theorem tV : eJ Try.prog 72 (tab 72) :=
  ⟨by kernel_rfl, by kernel_rfl, by kernel_rfl, by kernel_rfl, by kernel_rfl, by kernel_rfl, by kernel_rfl, by kernel_rfl, by kernel_rfl, by kernel_rfl, by kernel_rfl, by kernel_rfl, by kernel_rfl, by kernel_rfl, by kernel_rfl, by kernel_rfl, by kernel_rfl,
    fun i hi => by
      have hi : i < 1 := hi
      match i, hi with
      | 0, _ => exact ⟨by kernel_rfl, by kernel_rfl, by kernel_rfl⟩⟩
theorem tW : eJ Try.prog 74 (tab 74) :=
  by constructor <;> first | kernel_rfl | exact fun i hi => by simp [tab] at hi
theorem tX : eJ Try.prog 83 (tab 83) :=
  by constructor <;> first | kernel_rfl | exact fun i hi => by simp [tab] at hi
theorem eq (T : TypeId) (h : (tab T).ok = true) : eJ Try.prog T (tab T) := by
  unfold tab at h
  split at h
  · exact uo
  · exact up
  · exact uq
  · exact ur
  · exact ut
  · exact tD
  · exact tE
  · exact tF
  · exact tG
  · exact tH
  · exact tI
  · exact tJ
  · exact tK
  · exact tL
  · exact tM
  · exact tO
  · exact tP
  · exact tQ
  · exact tR
  · exact tS
  · exact tT
  · exact tU
  · exact tV
  · exact tW
  · exact tX
  · cases h
theorem sg {T : TypeId} (h : (tab T).ok = true) : bh Try.prog T = true := (eq T h).known
theorem tY {T : TypeId} (h : (tab T).ok = true) : (Try.prog.underlying T).isSome = true := (eq T h).und
theorem tc {T : TypeId} (h : (tab T).ok = true) : Try.prog.cellsOf T = (tab T).size := (eq T h).size
theorem sh {T : TypeId} (h : (tab T).ok = true) : Try.prog.bytesOf T = (tab T).bytes := (eq T h).bytes
theorem tZ {T : TypeId} (h : (tab T).ok = true) : gw Try.prog T = (tab T).agg := (eq T h).agg
theorem uu {T : TypeId} (h : (tab T).ok = true) : ei Try.prog T = (tab T).sl := (eq T h).sl
theorem t0 {T : TypeId} (h : (tab T).ok = true) : jG Try.prog T = (tab T).arr := (eq T h).arr
theorem t8 {T : TypeId} (h : (tab T).ok = true) : gY Try.prog T = (tab T).str := (eq T h).str
theorem td {T : TypeId} (h : (tab T).ok = true) : lW Try.prog T = (tab T).bool := (eq T h).bool
theorem t9 {T : TypeId} (h : (tab T).ok = true) : nb Try.prog T = (tab T).int := (eq T h).int
theorem ua {T : TypeId} (h : (tab T).ok = true) : pK Try.prog T = (tab T).ptr := (eq T h).ptr
theorem te {T : TypeId} (h : (tab T).ok = true) : Try.prog.elem T = (tab T).elem := (eq T h).elem
theorem tf {T : TypeId} (h : (tab T).ok = true) : Try.prog.arrayLen T = (tab T).alen := (eq T h).alen
theorem tg {T : TypeId} (h : (tab T).ok = true) : Try.prog.intKind T = (tab T).kind := (eq T h).kind
theorem uv {T : TypeId} (h : (tab T).ok = true) : hB Try.prog T = (tab T).fk := (eq T h).fk
theorem th {T : TypeId} (h : (tab T).ok = true) : iI Try.prog T = (tab T).zero := (eq T h).zero
theorem ti {T : TypeId} (h : (tab T).ok = true) : oq Try.prog T = (tab T).flat := (eq T h).flat
theorem ub {T : TypeId} {i : Nat} (h : (tab T).ok = true) (hi : i < (tab T).fs.length) : iH Try.prog T i = true := ((eq T h).fld i hi).1
theorem tj {T : TypeId} {i : Nat} (h : (tab T).ok = true) (hi : i < (tab T).fs.length) : fZ Try.prog T i = ((tab T).fs.getD i (0, 0)).1 := ((eq T h).fld i hi).2.1
theorem uc {T : TypeId} {i : Nat} (h : (tab T).ok = true) (hi : i < (tab T).fs.length) : jF Try.prog T i = ((tab T).fs.getD i (0, 0)).2 := ((eq T h).fld i hi).2.2
def bT := And.intro (And.intro (And.intro (And.intro @sg @tY) (And.intro @tc @sh)) (And.intro (And.intro @tZ @uu) (And.intro @t0 @t8))) (And.intro (And.intro (And.intro @td @t9) (And.intro @ua @te)) (And.intro (And.intro (And.intro @tf @tg) (And.intro @uv @th)) (And.intro (And.intro @ti @ub) (And.intro @tj @uc))))
end Pam
