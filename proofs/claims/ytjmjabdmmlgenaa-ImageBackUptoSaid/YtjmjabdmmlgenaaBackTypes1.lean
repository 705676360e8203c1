/- Facts of the types that the proofs of this seat speak of, read off the program by the kernel. Printed by a program of ours. -/
import Derived.Test.YtjmjabdmmlgenaaProg
import Derived.Test.YtjmjabdmmlgenaaBackBase1
set_option linter.all false
namespace Pam
open Go Go.Proofs
def tab : Nat → TD
  | 2 => { ok := true, size := 1, bytes := 8, int := true, kind := .i64, zero := some [.int .i64 0] }
  | 3 => { ok := true, size := 1, bytes := 8, int := true, kind := .i64, zero := some [.int .i64 0] }
  | 4 => { ok := true, size := 1, bytes := 1, bool := true, zero := some [.bool false] }
  | 5 => { ok := true, size := 1, bytes := 1, int := true, kind := .u8, zero := some [.int .u8 0] }
  | 9 => { ok := true, size := 1, bytes := 16, str := true, zero := some [.str []] }
  | 22 => { ok := true, size := 1, bytes := 24, sl := true, elem := 3, zero := some [.nils] }
  | 23 => { ok := true, size := 1, bytes := 24, sl := true, elem := 50, zero := some [.nils] }
  | 25 => { ok := true, size := 7, bytes := 120, agg := true, fs := [(0, 3), (1, 3), (2, 3), (3, 22), (4, 22), (5, 22), (6, 23)], fk := true, zero := some [.int .i64 0, .int .i64 0, .int .i64 0, .nils, .nils, .nils, .nils] }
  | 26 => { ok := true, size := 1, bytes := 24, sl := true, elem := 5, zero := some [.nils] }
  | 31 => { ok := true, size := 2, bytes := 16, agg := true, fs := [(0, 3), (1, 3)], fk := true, flat := some [1, 1], zero := some [.int .i64 0, .int .i64 0] }
  | 38 => { ok := true, size := 1, bytes := 4, int := true, kind := .u32, zero := some [.int .u32 0] }
  | 42 => { ok := true, size := 1, bytes := 8, int := true, kind := .u64, zero := some [.int .u64 0] }
  | 44 => { ok := true, size := 1, bytes := 8, ptr := true, zero := some [.nilp] }
  | 46 => { ok := true, size := 1, bytes := 24, agg := true, fs := [(0, 26)], fk := true, zero := some [.nils] }
  | 50 => { ok := true, size := 6, bytes := 48, agg := true, fs := [(0, 3), (1, 3), (2, 3), (3, 3), (4, 3), (5, 2)], fk := true, flat := some [1, 1, 1, 1, 1, 1], zero := some [.int .i64 0, .int .i64 0, .int .i64 0, .int .i64 0, .int .i64 0, .int .i64 0] }
  | 51 => { ok := true, size := 2, bytes := 16, agg := true, fs := [(0, 3), (1, 3)], fk := true, flat := some [1, 1], zero := some [.int .i64 0, .int .i64 0] }
  | 53 => { ok := true, size := 1, bytes := 8, ptr := true, zero := some [.nilp] }
  | 55 => { ok := true, size := 2, bytes := 32, agg := true, fs := [(0, 26), (1, 3)], fk := true, zero := some [.nils, .int .i64 0] }
  | 58 => { ok := true, size := 1, bytes := 24, sl := true, elem := 22, zero := some [.nils] }
  | 61 => { ok := true, size := 1, bytes := 8, ptr := true, zero := some [.nilp] }
  | 63 => { ok := true, size := 4, bytes := 48, agg := true, fs := [(0, 26), (1, 3), (2, 31)], fk := true, zero := some [.nils, .int .i64 0, .int .i64 0, .int .i64 0] }
  | 70 => { ok := true, size := 1, bytes := 24, sl := true, elem := 2, zero := some [.nils] }
  | 72 => { ok := true, size := 7, bytes := 120, agg := true, fs := [(0, 25)], fk := true, zero := some [.int .i64 0, .int .i64 0, .int .i64 0, .nils, .nils, .nils, .nils] }
  | 74 => { ok := true, size := 1, bytes := 8, int := true, kind := .u64, zero := some [.int .u64 0] }
  | 83 => { ok := true, size := 1, bytes := 8, zero := some [.nilf] }
  | _ => {}
theorem rX : dt Try.prog 2 (tab 2) :=
  by constructor <;> first | kernel_rfl | exact fun i hi => by simp [tab] at hi
theorem rY : dt Try.prog 3 (tab 3) :=
  by constructor <;> first | kernel_rfl | exact fun i hi => by simp [tab] at hi
theorem rZ : dt Try.prog 4 (tab 4) :=
  by constructor <;> first | kernel_rfl | exact fun i hi => by simp [tab] at hi
theorem r7 : dt Try.prog 5 (tab 5) :=
  by constructor <;> first | kernel_rfl | exact fun i hi => by simp [tab] at hi
theorem r8 : dt Try.prog 9 (tab 9) :=
  by constructor <;> first | kernel_rfl | exact fun i hi => by simp [tab] at hi
theorem qY : dt Try.prog 22 (tab 22) :=
  by constructor <;> first | kernel_rfl | exact fun i hi => by simp [tab] at hi
theorem qZ : dt Try.prog 23 (tab 23) :=
  by constructor <;> first | kernel_rfl | exact fun i hi => by simp [tab] at hi
theorem q9 : dt Try.prog 25 (tab 25) :=
  ⟨by kernel_rfl, by kernel_rfl, by kernel_rfl, by kernel_rfl, by kernel_rfl, by kernel_rfl, by kernel_rfl, by kernel_rfl, by kernel_rfl, by kernel_rfl, by kernel_rfl, by kernel_rfl, by kernel_rfl, by kernel_rfl, by kernel_rfl, by kernel_rfl, by kernel_rfl,
    fun i hi => by
      have hi : i < 7 := hi
      match i, hi with
      | 0, _ => exact ⟨by kernel_rfl, by kernel_rfl, by kernel_rfl⟩
      | 1, _ => exact ⟨by kernel_rfl, by kernel_rfl, by kernel_rfl⟩
      | 2, _ => exact ⟨by kernel_rfl, by kernel_rfl, by kernel_rfl⟩
      | 3, _ => exact ⟨by kernel_rfl, by kernel_rfl, by kernel_rfl⟩
      | 4, _ => exact ⟨by kernel_rfl, by kernel_rfl, by kernel_rfl⟩
      | 5, _ => exact ⟨by kernel_rfl, by kernel_rfl, by kernel_rfl⟩
      | 6, _ => exact ⟨by kernel_rfl, by kernel_rfl, by kernel_rfl⟩⟩
theorem re : dt Try.prog 26 (tab 26) :=
  by constructor <;> first | kernel_rfl | exact fun i hi => by simp [tab] at hi
theorem rf : dt Try.prog 31 (tab 31) :=
  ⟨by kernel_rfl, by kernel_rfl, by kernel_rfl, by kernel_rfl, by kernel_rfl, by kernel_rfl, by kernel_rfl, by kernel_rfl, by kernel_rfl, by kernel_rfl, by kernel_rfl, by kernel_rfl, by kernel_rfl, by kernel_rfl, by kernel_rfl, by kernel_rfl, by kernel_rfl,
    fun i hi => by
      have hi : i < 2 := hi
      match i, hi with
      | 0, _ => exact ⟨by kernel_rfl, by kernel_rfl, by kernel_rfl⟩
      | 1, _ => exact ⟨by kernel_rfl, by kernel_rfl, by kernel_rfl⟩⟩
theorem rg : dt Try.prog 38 (tab 38) :=
  by constructor <;> first | kernel_rfl | exact fun i hi => by simp [tab] at hi
theorem rh : dt Try.prog 42 (tab 42) :=
  by constructor <;> first | kernel_rfl | exact fun i hi => by simp [tab] at hi
theorem ri : dt Try.prog 44 (tab 44) :=
  by constructor <;> first | kernel_rfl | exact fun i hi => by simp [tab] at hi
theorem rj : dt Try.prog 46 (tab 46) :=
  ⟨by kernel_rfl, by kernel_rfl, by kernel_rfl, by kernel_rfl, by kernel_rfl, by kernel_rfl, by kernel_rfl, by kernel_rfl, by kernel_rfl, by kernel_rfl, by kernel_rfl, by kernel_rfl, by kernel_rfl, by kernel_rfl, by kernel_rfl, by kernel_rfl, by kernel_rfl,
    fun i hi => by
      have hi : i < 1 := hi
      match i, hi with
      | 0, _ => exact ⟨by kernel_rfl, by kernel_rfl, by kernel_rfl⟩⟩
theorem rk : dt Try.prog 50 (tab 50) :=
  ⟨by kernel_rfl, by kernel_rfl, by kernel_rfl, by kernel_rfl, by kernel_rfl, by kernel_rfl, by kernel_rfl, by kernel_rfl, by kernel_rfl, by kernel_rfl, by kernel_rfl, by kernel_rfl, by kernel_rfl, by kernel_rfl, by kernel_rfl, by kernel_rfl, by kernel_rfl,
    fun i hi => by
      have hi : i < 6 := hi
      match i, hi with
      | 0, _ => exact ⟨by kernel_rfl, by kernel_rfl, by kernel_rfl⟩
      | 1, _ => exact ⟨by kernel_rfl, by kernel_rfl, by kernel_rfl⟩
      | 2, _ => exact ⟨by kernel_rfl, by kernel_rfl, by kernel_rfl⟩
      | 3, _ => exact ⟨by kernel_rfl, by kernel_rfl, by kernel_rfl⟩
      | 4, _ => exact ⟨by kernel_rfl, by kernel_rfl, by kernel_rfl⟩
      | 5, _ => exact ⟨by kernel_rfl, by kernel_rfl, by kernel_rfl⟩⟩
theorem rl : dt Try.prog 51 (tab 51) :=
  ⟨by kernel_rfl, by kernel_rfl, by kernel_rfl, by kernel_rfl, by kernel_rfl, by kernel_rfl, by kernel_rfl, by kernel_rfl, by kernel_rfl, by kernel_rfl, by kernel_rfl, by kernel_rfl, by kernel_rfl, by kernel_rfl, by kernel_rfl, by kernel_rfl, by kernel_rfl,
    fun i hi => by
      have hi : i < 2 := hi
      match i, hi with
      | 0, _ => exact ⟨by kernel_rfl, by kernel_rfl, by kernel_rfl⟩
      | 1, _ => exact ⟨by kernel_rfl, by kernel_rfl, by kernel_rfl⟩⟩
theorem rm : dt Try.prog 53 (tab 53) :=
  by constructor <;> first | kernel_rfl | exact fun i hi => by simp [tab] at hi
theorem rn : dt Try.prog 55 (tab 55) :=
  ⟨by kernel_rfl, by kernel_rfl, by kernel_rfl, by kernel_rfl, by kernel_rfl, by kernel_rfl, by kernel_rfl, by kernel_rfl, by kernel_rfl, by kernel_rfl, by kernel_rfl, by kernel_rfl, by kernel_rfl, by kernel_rfl, by kernel_rfl, by kernel_rfl, by kernel_rfl,
    fun i hi => by
      have hi : i < 2 := hi
      match i, hi with
      | 0, _ => exact ⟨by kernel_rfl, by kernel_rfl, by kernel_rfl⟩
      | 1, _ => exact ⟨by kernel_rfl, by kernel_rfl, by kernel_rfl⟩⟩
theorem ro : dt Try.prog 58 (tab 58) :=
  by constructor <;> first | kernel_rfl | exact fun i hi => by simp [tab] at hi
theorem rq : dt Try.prog 61 (tab 61) :=
  by constructor <;> first | kernel_rfl | exact fun i hi => by simp [tab] at hi
theorem rr : dt Try.prog 63 (tab 63) :=
  ⟨by kernel_rfl, by kernel_rfl, by kernel_rfl, by kernel_rfl, by kernel_rfl, by kernel_rfl, by kernel_rfl, by kernel_rfl, by kernel_rfl, by kernel_rfl, by kernel_rfl, by kernel_rfl, by kernel_rfl, by kernel_rfl, by kernel_rfl, by kernel_rfl, by kernel_rfl,
    fun i hi => by
      have hi : i < 3 := hi
      match i, hi with
      | 0, _ => exact ⟨by kernel_rfl, by kernel_rfl, by kernel_rfl⟩
      | 1, _ => exact ⟨by kernel_rfl, by kernel_rfl, by kernel_rfl⟩
      | 2, _ => exact ⟨by kernel_rfl, by kernel_rfl, by kernel_rfl⟩⟩
theorem rt : dt Try.prog 70 (tab 70) :=
  by constructor <;> first | kernel_rfl | exact fun i hi => by simp [tab] at hi
theorem ru : dt Try.prog 72 (tab 72) :=
  ⟨by kernel_rfl, by kernel_rfl, by kernel_rfl, by kernel_rfl, by kernel_rfl, by kernel_rfl, by kernel_rfl, by kernel_rfl, by kernel_rfl, by kernel_rfl, by kernel_rfl, by kernel_rfl, by kernel_rfl, by kernel_rfl, by kernel_rfl, by kernel_rfl, by kernel_rfl,
    fun i hi => by
      have hi : i < 1 := hi
      match i, hi with
      | 0, _ => exact ⟨by kernel_rfl, by kernel_rfl, by kernel_rfl⟩⟩
theorem rx : dt Try.prog 74 (tab 74) :=
  by constructor <;> first | kernel_rfl | exact fun i hi => by simp [tab] at hi
theorem ry : dt Try.prog 83 (tab 83) :=
  by constructor <;> first | kernel_rfl | exact fun i hi => by simp [tab] at hi
theorem dd (T : TypeId) (h : (tab T).ok = true) : dt Try.prog T (tab T) := by
  unfold tab at h
  split at h
  · exact rX
  · exact rY
  · exact rZ
  · exact r7
  · exact r8
  · exact qY
  · exact qZ
  · exact q9
  · exact re
  · exact rf
  · exact rg
  · exact rh
  · exact ri
  · exact rj
  · exact rk
  · exact rl
  · exact rm
  · exact rn
  · exact ro
  · exact rq
  · exact rr
  · exact rt
  · exact ru
  · exact rx
  · exact ry
  · cases h
theorem pI {T : TypeId} (h : (tab T).ok = true) : aM Try.prog T = true := (dd T h).known
theorem rz {T : TypeId} (h : (tab T).ok = true) : (Try.prog.underlying T).isSome = true := (dd T h).und
theorem qC {T : TypeId} (h : (tab T).ok = true) : Try.prog.cellsOf T = (tab T).size := (dd T h).size
theorem pJ {T : TypeId} (h : (tab T).ok = true) : Try.prog.bytesOf T = (tab T).bytes := (dd T h).bytes
theorem rA {T : TypeId} (h : (tab T).ok = true) : eJ Try.prog T = (tab T).agg := (dd T h).agg
theorem r9 {T : TypeId} (h : (tab T).ok = true) : c9 Try.prog T = (tab T).sl := (dd T h).sl
theorem rB {T : TypeId} (h : (tab T).ok = true) : ia Try.prog T = (tab T).arr := (dd T h).arr
theorem rC {T : TypeId} (h : (tab T).ok = true) : fF Try.prog T = (tab T).str := (dd T h).str
theorem qD {T : TypeId} (h : (tab T).ok = true) : j8 Try.prog T = (tab T).bool := (dd T h).bool
theorem rD {T : TypeId} (h : (tab T).ok = true) : kZ Try.prog T = (tab T).int := (dd T h).int
theorem rE {T : TypeId} (h : (tab T).ok = true) : ng Try.prog T = (tab T).ptr := (dd T h).ptr
theorem qE {T : TypeId} (h : (tab T).ok = true) : Try.prog.elem T = (tab T).elem := (dd T h).elem
theorem qF {T : TypeId} (h : (tab T).ok = true) : Try.prog.arrayLen T = (tab T).alen := (dd T h).alen
theorem qG {T : TypeId} (h : (tab T).ok = true) : Try.prog.intKind T = (tab T).kind := (dd T h).kind
theorem sc {T : TypeId} (h : (tab T).ok = true) : fv Try.prog T = (tab T).fk := (dd T h).fk
theorem qH {T : TypeId} (h : (tab T).ok = true) : f8 Try.prog T = (tab T).zero := (dd T h).zero
theorem qI {T : TypeId} (h : (tab T).ok = true) : l8 Try.prog T = (tab T).flat := (dd T h).flat
theorem rF {T : TypeId} {i : Nat} (h : (tab T).ok = true) (hi : i < (tab T).fs.length) : f7 Try.prog T i = true := ((dd T h).fld i hi).1
theorem qJ {T : TypeId} {i : Nat} (h : (tab T).ok = true) (hi : i < (tab T).fs.length) : ez Try.prog T i = ((tab T).fs.getD i (0, 0)).1 := ((dd T h).fld i hi).2.1
theorem rG {T : TypeId} {i : Nat} (h : (tab T).ok = true) (hi : i < (tab T).fs.length) : hZ Try.prog T i = ((tab T).fs.getD i (0, 0)).2 := ((dd T h).fld i hi).2.2
def bT := And.intro (And.intro (And.intro (And.intro @pI @rz) (And.intro @qC @pJ)) (And.intro (And.intro @rA @r9) (And.intro @rB @rC))) (And.intro (And.intro (And.intro @qD @rD) (And.intro @rE @qE)) (And.intro (And.intro (And.intro @qF @qG) (And.intro @sc @qH)) (And.intro (And.intro @qI @rF) (And.intro @qJ @rG))))
end Pam
