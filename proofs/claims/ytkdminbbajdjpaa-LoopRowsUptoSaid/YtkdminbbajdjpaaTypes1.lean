/- Facts of the types that the proofs of this seat speak of, read off the program by the kernel. Printed by a program of ours. -/
import Derived.Test.YtkdminbbajdjpaaProg
import Derived.Test.YtkdminbbajdjpaaBase2
set_option linter.all false
namespace Pam
open Go Go.Proofs
def tab : Nat → TD
  | 2 => { ok := true, size := 1, bytes := 8, int := true, kind := .i64, zero := some [.int .i64 0] }
  | 3 => { ok := true, size := 1, bytes := 8, int := true, kind := .i64, zero := some [.int .i64 0] }
  | 4 => { ok := true, size := 1, bytes := 1, bool := true, zero := some [.bool false] }
  | 5 => { ok := true, size := 1, bytes := 1, int := true, kind := .u8, zero := some [.int .u8 0] }
  | 9 => { ok := true, size := 1, bytes := 16, str := true, zero := some [.str []] }
  | 22 => { ok := true, size := 1, bytes := 24, sl := true, elem := 3, zero := some [.nils] }
  | 23 => { ok := true, size := 1, bytes := 24, sl := true, elem := 35, zero := some [.nils] }
  | 25 => { ok := true, size := 7, bytes := 120, agg := true, fs := [(0, 3), (1, 3), (2, 3), (3, 22), (4, 22), (5, 22), (6, 23)], fk := true, zero := some [.int .i64 0, .int .i64 0, .int .i64 0, .nils, .nils, .nils, .nils] }
  | 30 => { ok := true, size := 2, bytes := 16, agg := true, fs := [(0, 3), (1, 3)], fk := true, flat := some [1, 1], zero := some [.int .i64 0, .int .i64 0] }
  | 35 => { ok := true, size := 6, bytes := 48, agg := true, fs := [(0, 3), (1, 3), (2, 3), (3, 3), (4, 3), (5, 2)], fk := true, flat := some [1, 1, 1, 1, 1, 1], zero := some [.int .i64 0, .int .i64 0, .int .i64 0, .int .i64 0, .int .i64 0, .int .i64 0] }
  | 36 => { ok := true, size := 1, bytes := 8, int := true, kind := .u64, zero := some [.int .u64 0] }
  | 38 => { ok := true, size := 1, bytes := 24, sl := true, elem := 5, zero := some [.nils] }
  | 43 => { ok := true, size := 1, bytes := 4, int := true, kind := .u32, zero := some [.int .u32 0] }
  | 48 => { ok := true, size := 1, bytes := 24, sl := true, elem := 129, zero := some [.nils] }
  | 50 => { ok := true, size := 4, bytes := 80, agg := true, fs := [(0, 3), (1, 22), (2, 22), (3, 48)], fk := true, zero := some [.int .i64 0, .nils, .nils, .nils] }
  | 54 => { ok := true, size := 1, bytes := 24, sl := true, elem := 62, zero := some [.nils] }
  | 57 => { ok := true, size := 1, bytes := 8, ptr := true, zero := some [.nilp] }
  | 60 => { ok := true, size := 1, bytes := 8, ptr := true, zero := some [.nilp] }
  | 62 => { ok := true, size := 1, bytes := 24, sl := true, elem := 2, zero := some [.nils] }
  | 69 => { ok := true, size := 5, bytes := 104, agg := true, fs := [(0, 50), (4, 62)], fk := true, zero := some [.int .i64 0, .nils, .nils, .nils, .nils] }
  | 73 => { ok := true, size := 1, bytes := 8, ptr := true, zero := some [.nilp] }
  | 76 => { ok := true, size := 1, bytes := 8, ptr := true, zero := some [.nilp] }
  | 80 => { ok := true, size := 9, bytes := 152, agg := true, fs := [(0, 25), (7, 62), (8, 3)], fk := true, zero := some [.int .i64 0, .int .i64 0, .int .i64 0, .nils, .nils, .nils, .nils, .nils, .int .i64 0] }
  | 82 => { ok := true, size := 1, bytes := 24, sl := true, elem := 9, zero := some [.nils] }
  | 83 => { ok := true, size := 1, bytes := 24, sl := true, elem := 86, zero := some [.nils] }
  | 84 => { ok := true, size := 1, bytes := 24, sl := true, elem := 86, zero := some [.nils] }
  | 86 => { ok := true, size := 2, bytes := 24, agg := true, fs := [(0, 2), (1, 9)], fk := true, flat := some [1, 2], zero := some [.int .i64 0, .str []] }
  | 92 => { ok := true, size := 3, bytes := 72, agg := true, arr := true, elem := 84, alen := 3, zero := some [.nils, .nils, .nils] }
  | 95 => { ok := true, size := 1, bytes := 24, sl := true, elem := 84, zero := some [.nils] }
  | 100 => { ok := true, size := 1, bytes := 24, sl := true, elem := 22, zero := some [.nils] }
  | 102 => { ok := true, size := 7, bytes := 120, agg := true, fs := [(0, 25)], fk := true, zero := some [.int .i64 0, .int .i64 0, .int .i64 0, .nils, .nils, .nils, .nils] }
  | 107 => { ok := true, size := 1, bytes := 8, ptr := true, zero := some [.nilp] }
  | 109 => { ok := true, size := 1, bytes := 24, agg := true, fs := [(0, 38)], fk := true, zero := some [.nils] }
  | 112 => { ok := true, size := 2, bytes := 16, agg := true, fs := [(0, 3), (1, 3)], fk := true, flat := some [1, 1], zero := some [.int .i64 0, .int .i64 0] }
  | 114 => { ok := true, size := 1, bytes := 8, ptr := true, zero := some [.nilp] }
  | 116 => { ok := true, size := 2, bytes := 32, agg := true, fs := [(0, 38), (1, 3)], fk := true, zero := some [.nils, .int .i64 0] }
  | 118 => { ok := true, size := 1, bytes := 8, ptr := true, zero := some [.nilp] }
  | 120 => { ok := true, size := 4, bytes := 48, agg := true, fs := [(0, 38), (1, 3), (2, 30)], fk := true, zero := some [.nils, .int .i64 0, .int .i64 0, .int .i64 0] }
  | 127 => { ok := true, size := 1, bytes := 24, sl := true, elem := 137, zero := some [.nils] }
  | 129 => { ok := true, size := 6, bytes := 80, agg := true, fs := [(0, 3), (1, 3), (2, 3), (3, 3), (4, 127), (5, 127)], fk := true, zero := some [.int .i64 0, .int .i64 0, .int .i64 0, .int .i64 0, .nils, .nils] }
  | 137 => { ok := true, size := 4, bytes := 32, agg := true, fs := [(0, 3), (1, 3), (2, 3), (3, 2)], fk := true, flat := some [1, 1, 1, 1], zero := some [.int .i64 0, .int .i64 0, .int .i64 0, .int .i64 0] }
  | 139 => { ok := true, size := 5, bytes := 104, agg := true, fs := [(0, 50), (4, 62)], fk := true, zero := some [.int .i64 0, .nils, .nils, .nils, .nils] }
  | 146 => { ok := true, size := 10, bytes := 176, agg := true, fs := [(0, 25), (7, 62), (8, 62), (9, 3)], fk := true, zero := some [.int .i64 0, .int .i64 0, .int .i64 0, .nils, .nils, .nils, .nils, .nils, .nils, .int .i64 0] }
  | 163 => { ok := true, size := 1, bytes := 8, int := true, kind := .u64, zero := some [.int .u64 0] }
  | _ => {}
theorem tab2 : Facts Try.prog 2 (tab 2) :=
  ⟨by kernel_rfl, by kernel_rfl, by kernel_rfl, by kernel_rfl, by kernel_rfl, by kernel_rfl, by kernel_rfl, by kernel_rfl, by kernel_rfl, by kernel_rfl, by kernel_rfl, by kernel_rfl, by kernel_rfl, by kernel_rfl, by kernel_rfl, by kernel_rfl, by kernel_rfl,
    fun i hi => by simp [tab] at hi⟩
theorem tab3 : Facts Try.prog 3 (tab 3) :=
  ⟨by kernel_rfl, by kernel_rfl, by kernel_rfl, by kernel_rfl, by kernel_rfl, by kernel_rfl, by kernel_rfl, by kernel_rfl, by kernel_rfl, by kernel_rfl, by kernel_rfl, by kernel_rfl, by kernel_rfl, by kernel_rfl, by kernel_rfl, by kernel_rfl, by kernel_rfl,
    fun i hi => by simp [tab] at hi⟩
theorem tab4 : Facts Try.prog 4 (tab 4) :=
  ⟨by kernel_rfl, by kernel_rfl, by kernel_rfl, by kernel_rfl, by kernel_rfl, by kernel_rfl, by kernel_rfl, by kernel_rfl, by kernel_rfl, by kernel_rfl, by kernel_rfl, by kernel_rfl, by kernel_rfl, by kernel_rfl, by kernel_rfl, by kernel_rfl, by kernel_rfl,
    fun i hi => by simp [tab] at hi⟩
theorem tab5 : Facts Try.prog 5 (tab 5) :=
  ⟨by kernel_rfl, by kernel_rfl, by kernel_rfl, by kernel_rfl, by kernel_rfl, by kernel_rfl, by kernel_rfl, by kernel_rfl, by kernel_rfl, by kernel_rfl, by kernel_rfl, by kernel_rfl, by kernel_rfl, by kernel_rfl, by kernel_rfl, by kernel_rfl, by kernel_rfl,
    fun i hi => by simp [tab] at hi⟩
theorem tab9 : Facts Try.prog 9 (tab 9) :=
  ⟨by kernel_rfl, by kernel_rfl, by kernel_rfl, by kernel_rfl, by kernel_rfl, by kernel_rfl, by kernel_rfl, by kernel_rfl, by kernel_rfl, by kernel_rfl, by kernel_rfl, by kernel_rfl, by kernel_rfl, by kernel_rfl, by kernel_rfl, by kernel_rfl, by kernel_rfl,
    fun i hi => by simp [tab] at hi⟩
theorem tab22 : Facts Try.prog 22 (tab 22) :=
  ⟨by kernel_rfl, by kernel_rfl, by kernel_rfl, by kernel_rfl, by kernel_rfl, by kernel_rfl, by kernel_rfl, by kernel_rfl, by kernel_rfl, by kernel_rfl, by kernel_rfl, by kernel_rfl, by kernel_rfl, by kernel_rfl, by kernel_rfl, by kernel_rfl, by kernel_rfl,
    fun i hi => by simp [tab] at hi⟩
theorem tab23 : Facts Try.prog 23 (tab 23) :=
  ⟨by kernel_rfl, by kernel_rfl, by kernel_rfl, by kernel_rfl, by kernel_rfl, by kernel_rfl, by kernel_rfl, by kernel_rfl, by kernel_rfl, by kernel_rfl, by kernel_rfl, by kernel_rfl, by kernel_rfl, by kernel_rfl, by kernel_rfl, by kernel_rfl, by kernel_rfl,
    fun i hi => by simp [tab] at hi⟩
theorem tab25 : Facts Try.prog 25 (tab 25) :=
  ⟨by kernel_rfl, by kernel_rfl, by kernel_rfl, by kernel_rfl, by kernel_rfl, by kernel_rfl, by kernel_rfl, by kernel_rfl, by kernel_rfl, by kernel_rfl, by kernel_rfl, by kernel_rfl, by kernel_rfl, by kernel_rfl, by kernel_rfl, by kernel_rfl, by kernel_rfl,
    fun i hi => by
      have hi : i < 7 := hi
      match i, hi with
      | 0, _ => exact ⟨by kernel_rfl, by kernel_rfl, by kernel_rfl⟩
      | 1, _ => exact ⟨by kernel_rfl, by kernel_rfl, by kernel_rfl⟩
      | 2, _ => exact ⟨by kernel_rfl, by kernel_rfl, by kernel_rfl⟩
      | 3, _ => exact ⟨by kernel_rfl, by kernel_rfl, by kernel_rfl⟩
      | 4, _ => exact ⟨by kernel_rfl, by kernel_rfl, by kernel_rfl⟩
      | 5, _ => exact ⟨by kernel_rfl, by kernel_rfl, by kernel_rfl⟩
      | 6, _ => exact ⟨by kernel_rfl, by kernel_rfl, by kernel_rfl⟩⟩
theorem tab30 : Facts Try.prog 30 (tab 30) :=
  ⟨by kernel_rfl, by kernel_rfl, by kernel_rfl, by kernel_rfl, by kernel_rfl, by kernel_rfl, by kernel_rfl, by kernel_rfl, by kernel_rfl, by kernel_rfl, by kernel_rfl, by kernel_rfl, by kernel_rfl, by kernel_rfl, by kernel_rfl, by kernel_rfl, by kernel_rfl,
    fun i hi => by
      have hi : i < 2 := hi
      match i, hi with
      | 0, _ => exact ⟨by kernel_rfl, by kernel_rfl, by kernel_rfl⟩
      | 1, _ => exact ⟨by kernel_rfl, by kernel_rfl, by kernel_rfl⟩⟩
theorem tab35 : Facts Try.prog 35 (tab 35) :=
  ⟨by kernel_rfl, by kernel_rfl, by kernel_rfl, by kernel_rfl, by kernel_rfl, by kernel_rfl, by kernel_rfl, by kernel_rfl, by kernel_rfl, by kernel_rfl, by kernel_rfl, by kernel_rfl, by kernel_rfl, by kernel_rfl, by kernel_rfl, by kernel_rfl, by kernel_rfl,
    fun i hi => by
      have hi : i < 6 := hi
      match i, hi with
      | 0, _ => exact ⟨by kernel_rfl, by kernel_rfl, by kernel_rfl⟩
      | 1, _ => exact ⟨by kernel_rfl, by kernel_rfl, by kernel_rfl⟩
      | 2, _ => exact ⟨by kernel_rfl, by kernel_rfl, by kernel_rfl⟩
      | 3, _ => exact ⟨by kernel_rfl, by kernel_rfl, by kernel_rfl⟩
      | 4, _ => exact ⟨by kernel_rfl, by kernel_rfl, by kernel_rfl⟩
      | 5, _ => exact ⟨by kernel_rfl, by kernel_rfl, by kernel_rfl⟩⟩
theorem tab36 : Facts Try.prog 36 (tab 36) :=
  ⟨by kernel_rfl, by kernel_rfl, by kernel_rfl, by kernel_rfl, by kernel_rfl, by kernel_rfl, by kernel_rfl, by kernel_rfl, by kernel_rfl, by kernel_rfl, by kernel_rfl, by kernel_rfl, by kernel_rfl, by kernel_rfl, by kernel_rfl, by kernel_rfl, by kernel_rfl,
    fun i hi => by simp [tab] at hi⟩
theorem tab38 : Facts Try.prog 38 (tab 38) :=
  ⟨by kernel_rfl, by kernel_rfl, by kernel_rfl, by kernel_rfl, by kernel_rfl, by kernel_rfl, by kernel_rfl, by kernel_rfl, by kernel_rfl, by kernel_rfl, by kernel_rfl, by kernel_rfl, by kernel_rfl, by kernel_rfl, by kernel_rfl, by kernel_rfl, by kernel_rfl,
    fun i hi => by simp [tab] at hi⟩
theorem tab43 : Facts Try.prog 43 (tab 43) :=
  ⟨by kernel_rfl, by kernel_rfl, by kernel_rfl, by kernel_rfl, by kernel_rfl, by kernel_rfl, by kernel_rfl, by kernel_rfl, by kernel_rfl, by kernel_rfl, by kernel_rfl, by kernel_rfl, by kernel_rfl, by kernel_rfl, by kernel_rfl, by kernel_rfl, by kernel_rfl,
    fun i hi => by simp [tab] at hi⟩
theorem tab48 : Facts Try.prog 48 (tab 48) :=
  ⟨by kernel_rfl, by kernel_rfl, by kernel_rfl, by kernel_rfl, by kernel_rfl, by kernel_rfl, by kernel_rfl, by kernel_rfl, by kernel_rfl, by kernel_rfl, by kernel_rfl, by kernel_rfl, by kernel_rfl, by kernel_rfl, by kernel_rfl, by kernel_rfl, by kernel_rfl,
    fun i hi => by simp [tab] at hi⟩
theorem tab50 : Facts Try.prog 50 (tab 50) :=
  ⟨by kernel_rfl, by kernel_rfl, by kernel_rfl, by kernel_rfl, by kernel_rfl, by kernel_rfl, by kernel_rfl, by kernel_rfl, by kernel_rfl, by kernel_rfl, by kernel_rfl, by kernel_rfl, by kernel_rfl, by kernel_rfl, by kernel_rfl, by kernel_rfl, by kernel_rfl,
    fun i hi => by
      have hi : i < 4 := hi
      match i, hi with
      | 0, _ => exact ⟨by kernel_rfl, by kernel_rfl, by kernel_rfl⟩
      | 1, _ => exact ⟨by kernel_rfl, by kernel_rfl, by kernel_rfl⟩
      | 2, _ => exact ⟨by kernel_rfl, by kernel_rfl, by kernel_rfl⟩
      | 3, _ => exact ⟨by kernel_rfl, by kernel_rfl, by kernel_rfl⟩⟩
theorem tab54 : Facts Try.prog 54 (tab 54) :=
  ⟨by kernel_rfl, by kernel_rfl, by kernel_rfl, by kernel_rfl, by kernel_rfl, by kernel_rfl, by kernel_rfl, by kernel_rfl, by kernel_rfl, by kernel_rfl, by kernel_rfl, by kernel_rfl, by kernel_rfl, by kernel_rfl, by kernel_rfl, by kernel_rfl, by kernel_rfl,
    fun i hi => by simp [tab] at hi⟩
theorem tab57 : Facts Try.prog 57 (tab 57) :=
  ⟨by kernel_rfl, by kernel_rfl, by kernel_rfl, by kernel_rfl, by kernel_rfl, by kernel_rfl, by kernel_rfl, by kernel_rfl, by kernel_rfl, by kernel_rfl, by kernel_rfl, by kernel_rfl, by kernel_rfl, by kernel_rfl, by kernel_rfl, by kernel_rfl, by kernel_rfl,
    fun i hi => by simp [tab] at hi⟩
theorem tab60 : Facts Try.prog 60 (tab 60) :=
  ⟨by kernel_rfl, by kernel_rfl, by kernel_rfl, by kernel_rfl, by kernel_rfl, by kernel_rfl, by kernel_rfl, by kernel_rfl, by kernel_rfl, by kernel_rfl, by kernel_rfl, by kernel_rfl, by kernel_rfl, by kernel_rfl, by kernel_rfl, by kernel_rfl, by kernel_rfl,
    fun i hi => by simp [tab] at hi⟩
theorem tab62 : Facts Try.prog 62 (tab 62) :=
  ⟨by kernel_rfl, by kernel_rfl, by kernel_rfl, by kernel_rfl, by kernel_rfl, by kernel_rfl, by kernel_rfl, by kernel_rfl, by kernel_rfl, by kernel_rfl, by kernel_rfl, by kernel_rfl, by kernel_rfl, by kernel_rfl, by kernel_rfl, by kernel_rfl, by kernel_rfl,
    fun i hi => by simp [tab] at hi⟩
theorem tab69 : Facts Try.prog 69 (tab 69) :=
  ⟨by kernel_rfl, by kernel_rfl, by kernel_rfl, by kernel_rfl, by kernel_rfl, by kernel_rfl, by kernel_rfl, by kernel_rfl, by kernel_rfl, by kernel_rfl, by kernel_rfl, by kernel_rfl, by kernel_rfl, by kernel_rfl, by kernel_rfl, by kernel_rfl, by kernel_rfl,
    fun i hi => by
      have hi : i < 2 := hi
      match i, hi with
      | 0, _ => exact ⟨by kernel_rfl, by kernel_rfl, by kernel_rfl⟩
      | 1, _ => exact ⟨by kernel_rfl, by kernel_rfl, by kernel_rfl⟩⟩
theorem tab73 : Facts Try.prog 73 (tab 73) :=
  ⟨by kernel_rfl, by kernel_rfl, by kernel_rfl, by kernel_rfl, by kernel_rfl, by kernel_rfl, by kernel_rfl, by kernel_rfl, by kernel_rfl, by kernel_rfl, by kernel_rfl, by kernel_rfl, by kernel_rfl, by kernel_rfl, by kernel_rfl, by kernel_rfl, by kernel_rfl,
    fun i hi => by simp [tab] at hi⟩
theorem tab76 : Facts Try.prog 76 (tab 76) :=
  ⟨by kernel_rfl, by kernel_rfl, by kernel_rfl, by kernel_rfl, by kernel_rfl, by kernel_rfl, by kernel_rfl, by kernel_rfl, by kernel_rfl, by kernel_rfl, by kernel_rfl, by kernel_rfl, by kernel_rfl, by kernel_rfl, by kernel_rfl, by kernel_rfl, by kernel_rfl,
    fun i hi => by simp [tab] at hi⟩
theorem tab80 : Facts Try.prog 80 (tab 80) :=
  ⟨by kernel_rfl, by kernel_rfl, by kernel_rfl, by kernel_rfl, by kernel_rfl, by kernel_rfl, by kernel_rfl, by kernel_rfl, by kernel_rfl, by kernel_rfl, by kernel_rfl, by kernel_rfl, by kernel_rfl, by kernel_rfl, by kernel_rfl, by kernel_rfl, by kernel_rfl,
    fun i hi => by
      have hi : i < 3 := hi
      match i, hi with
      | 0, _ => exact ⟨by kernel_rfl, by kernel_rfl, by kernel_rfl⟩
      | 1, _ => exact ⟨by kernel_rfl, by kernel_rfl, by kernel_rfl⟩
      | 2, _ => exact ⟨by kernel_rfl, by kernel_rfl, by kernel_rfl⟩⟩
theorem tab82 : Facts Try.prog 82 (tab 82) :=
  ⟨by kernel_rfl, by kernel_rfl, by kernel_rfl, by kernel_rfl, by kernel_rfl, by kernel_rfl, by kernel_rfl, by kernel_rfl, by kernel_rfl, by kernel_rfl, by kernel_rfl, by kernel_rfl, by kernel_rfl, by kernel_rfl, by kernel_rfl, by kernel_rfl, by kernel_rfl,
    fun i hi => by simp [tab] at hi⟩
theorem tab83 : Facts Try.prog 83 (tab 83) :=
  ⟨by kernel_rfl, by kernel_rfl, by kernel_rfl, by kernel_rfl, by kernel_rfl, by kernel_rfl, by kernel_rfl, by kernel_rfl, by kernel_rfl, by kernel_rfl, by kernel_rfl, by kernel_rfl, by kernel_rfl, by kernel_rfl, by kernel_rfl, by kernel_rfl, by kernel_rfl,
    fun i hi => by simp [tab] at hi⟩
theorem tab84 : Facts Try.prog 84 (tab 84) :=
  ⟨by kernel_rfl, by kernel_rfl, by kernel_rfl, by kernel_rfl, by kernel_rfl, by kernel_rfl, by kernel_rfl, by kernel_rfl, by kernel_rfl, by kernel_rfl, by kernel_rfl, by kernel_rfl, by kernel_rfl, by kernel_rfl, by kernel_rfl, by kernel_rfl, by kernel_rfl,
    fun i hi => by simp [tab] at hi⟩
theorem tab86 : Facts Try.prog 86 (tab 86) :=
  ⟨by kernel_rfl, by kernel_rfl, by kernel_rfl, by kernel_rfl, by kernel_rfl, by kernel_rfl, by kernel_rfl, by kernel_rfl, by kernel_rfl, by kernel_rfl, by kernel_rfl, by kernel_rfl, by kernel_rfl, by kernel_rfl, by kernel_rfl, by kernel_rfl, by kernel_rfl,
    fun i hi => by
      have hi : i < 2 := hi
      match i, hi with
      | 0, _ => exact ⟨by kernel_rfl, by kernel_rfl, by kernel_rfl⟩
      | 1, _ => exact ⟨by kernel_rfl, by kernel_rfl, by kernel_rfl⟩⟩
theorem tab92 : Facts Try.prog 92 (tab 92) :=
  ⟨by kernel_rfl, by kernel_rfl, by kernel_rfl, by kernel_rfl, by kernel_rfl, by kernel_rfl, by kernel_rfl, by kernel_rfl, by kernel_rfl, by kernel_rfl, by kernel_rfl, by kernel_rfl, by kernel_rfl, by kernel_rfl, by kernel_rfl, by kernel_rfl, by kernel_rfl,
    fun i hi => by simp [tab] at hi⟩
theorem tab95 : Facts Try.prog 95 (tab 95) :=
  ⟨by kernel_rfl, by kernel_rfl, by kernel_rfl, by kernel_rfl, by kernel_rfl, by kernel_rfl, by kernel_rfl, by kernel_rfl, by kernel_rfl, by kernel_rfl, by kernel_rfl, by kernel_rfl, by kernel_rfl, by kernel_rfl, by kernel_rfl, by kernel_rfl, by kernel_rfl,
    fun i hi => by simp [tab] at hi⟩
theorem tab100 : Facts Try.prog 100 (tab 100) :=
  ⟨by kernel_rfl, by kernel_rfl, by kernel_rfl, by kernel_rfl, by kernel_rfl, by kernel_rfl, by kernel_rfl, by kernel_rfl, by kernel_rfl, by kernel_rfl, by kernel_rfl, by kernel_rfl, by kernel_rfl, by kernel_rfl, by kernel_rfl, by kernel_rfl, by kernel_rfl,
    fun i hi => by simp [tab] at hi⟩
theorem tab102 : Facts Try.prog 102 (tab 102) :=
  ⟨by kernel_rfl, by kernel_rfl, by kernel_rfl, by kernel_rfl, by kernel_rfl, by kernel_rfl, by kernel_rfl, by kernel_rfl, by kernel_rfl, by kernel_rfl, by kernel_rfl, by kernel_rfl, by kernel_rfl, by kernel_rfl, by kernel_rfl, by kernel_rfl, by kernel_rfl,
    fun i hi => by
      have hi : i < 1 := hi
      match i, hi with
      | 0, _ => exact ⟨by kernel_rfl, by kernel_rfl, by kernel_rfl⟩⟩
theorem tab107 : Facts Try.prog 107 (tab 107) :=
  ⟨by kernel_rfl, by kernel_rfl, by kernel_rfl, by kernel_rfl, by kernel_rfl, by kernel_rfl, by kernel_rfl, by kernel_rfl, by kernel_rfl, by kernel_rfl, by kernel_rfl, by kernel_rfl, by kernel_rfl, by kernel_rfl, by kernel_rfl, by kernel_rfl, by kernel_rfl,
    fun i hi => by simp [tab] at hi⟩
theorem tab109 : Facts Try.prog 109 (tab 109) :=
  ⟨by kernel_rfl, by kernel_rfl, by kernel_rfl, by kernel_rfl, by kernel_rfl, by kernel_rfl, by kernel_rfl, by kernel_rfl, by kernel_rfl, by kernel_rfl, by kernel_rfl, by kernel_rfl, by kernel_rfl, by kernel_rfl, by kernel_rfl, by kernel_rfl, by kernel_rfl,
    fun i hi => by
      have hi : i < 1 := hi
      match i, hi with
      | 0, _ => exact ⟨by kernel_rfl, by kernel_rfl, by kernel_rfl⟩⟩
theorem tab112 : Facts Try.prog 112 (tab 112) :=
  ⟨by kernel_rfl, by kernel_rfl, by kernel_rfl, by kernel_rfl, by kernel_rfl, by kernel_rfl, by kernel_rfl, by kernel_rfl, by kernel_rfl, by kernel_rfl, by kernel_rfl, by kernel_rfl, by kernel_rfl, by kernel_rfl, by kernel_rfl, by kernel_rfl, by kernel_rfl,
    fun i hi => by
      have hi : i < 2 := hi
      match i, hi with
      | 0, _ => exact ⟨by kernel_rfl, by kernel_rfl, by kernel_rfl⟩
      | 1, _ => exact ⟨by kernel_rfl, by kernel_rfl, by kernel_rfl⟩⟩
theorem tab114 : Facts Try.prog 114 (tab 114) :=
  ⟨by kernel_rfl, by kernel_rfl, by kernel_rfl, by kernel_rfl, by kernel_rfl, by kernel_rfl, by kernel_rfl, by kernel_rfl, by kernel_rfl, by kernel_rfl, by kernel_rfl, by kernel_rfl, by kernel_rfl, by kernel_rfl, by kernel_rfl, by kernel_rfl, by kernel_rfl,
    fun i hi => by simp [tab] at hi⟩
theorem tab116 : Facts Try.prog 116 (tab 116) :=
  ⟨by kernel_rfl, by kernel_rfl, by kernel_rfl, by kernel_rfl, by kernel_rfl, by kernel_rfl, by kernel_rfl, by kernel_rfl, by kernel_rfl, by kernel_rfl, by kernel_rfl, by kernel_rfl, by kernel_rfl, by kernel_rfl, by kernel_rfl, by kernel_rfl, by kernel_rfl,
    fun i hi => by
      have hi : i < 2 := hi
      match i, hi with
      | 0, _ => exact ⟨by kernel_rfl, by kernel_rfl, by kernel_rfl⟩
      | 1, _ => exact ⟨by kernel_rfl, by kernel_rfl, by kernel_rfl⟩⟩
theorem tab118 : Facts Try.prog 118 (tab 118) :=
  ⟨by kernel_rfl, by kernel_rfl, by kernel_rfl, by kernel_rfl, by kernel_rfl, by kernel_rfl, by kernel_rfl, by kernel_rfl, by kernel_rfl, by kernel_rfl, by kernel_rfl, by kernel_rfl, by kernel_rfl, by kernel_rfl, by kernel_rfl, by kernel_rfl, by kernel_rfl,
    fun i hi => by simp [tab] at hi⟩
theorem tab120 : Facts Try.prog 120 (tab 120) :=
  ⟨by kernel_rfl, by kernel_rfl, by kernel_rfl, by kernel_rfl, by kernel_rfl, by kernel_rfl, by kernel_rfl, by kernel_rfl, by kernel_rfl, by kernel_rfl, by kernel_rfl, by kernel_rfl, by kernel_rfl, by kernel_rfl, by kernel_rfl, by kernel_rfl, by kernel_rfl,
    fun i hi => by
      have hi : i < 3 := hi
      match i, hi with
      | 0, _ => exact ⟨by kernel_rfl, by kernel_rfl, by kernel_rfl⟩
      | 1, _ => exact ⟨by kernel_rfl, by kernel_rfl, by kernel_rfl⟩
      | 2, _ => exact ⟨by kernel_rfl, by kernel_rfl, by kernel_rfl⟩⟩
theorem tab127 : Facts Try.prog 127 (tab 127) :=
  ⟨by kernel_rfl, by kernel_rfl, by kernel_rfl, by kernel_rfl, by kernel_rfl, by kernel_rfl, by kernel_rfl, by kernel_rfl, by kernel_rfl, by kernel_rfl, by kernel_rfl, by kernel_rfl, by kernel_rfl, by kernel_rfl, by kernel_rfl, by kernel_rfl, by kernel_rfl,
    fun i hi => by simp [tab] at hi⟩
theorem tab129 : Facts Try.prog 129 (tab 129) :=
  ⟨by kernel_rfl, by kernel_rfl, by kernel_rfl, by kernel_rfl, by kernel_rfl, by kernel_rfl, by kernel_rfl, by kernel_rfl, by kernel_rfl, by kernel_rfl, by kernel_rfl, by kernel_rfl, by kernel_rfl, by kernel_rfl, by kernel_rfl, by kernel_rfl, by kernel_rfl,
    fun i hi => by
      have hi : i < 6 := hi
      match i, hi with
      | 0, _ => exact ⟨by kernel_rfl, by kernel_rfl, by kernel_rfl⟩
      | 1, _ => exact ⟨by kernel_rfl, by kernel_rfl, by kernel_rfl⟩
      | 2, _ => exact ⟨by kernel_rfl, by kernel_rfl, by kernel_rfl⟩
      | 3, _ => exact ⟨by kernel_rfl, by kernel_rfl, by kernel_rfl⟩
      | 4, _ => exact ⟨by kernel_rfl, by kernel_rfl, by kernel_rfl⟩
      | 5, _ => exact ⟨by kernel_rfl, by kernel_rfl, by kernel_rfl⟩⟩
theorem tab137 : Facts Try.prog 137 (tab 137) :=
  ⟨by kernel_rfl, by kernel_rfl, by kernel_rfl, by kernel_rfl, by kernel_rfl, by kernel_rfl, by kernel_rfl, by kernel_rfl, by kernel_rfl, by kernel_rfl, by kernel_rfl, by kernel_rfl, by kernel_rfl, by kernel_rfl, by kernel_rfl, by kernel_rfl, by kernel_rfl,
    fun i hi => by
      have hi : i < 4 := hi
      match i, hi with
      | 0, _ => exact ⟨by kernel_rfl, by kernel_rfl, by kernel_rfl⟩
      | 1, _ => exact ⟨by kernel_rfl, by kernel_rfl, by kernel_rfl⟩
      | 2, _ => exact ⟨by kernel_rfl, by kernel_rfl, by kernel_rfl⟩
      | 3, _ => exact ⟨by kernel_rfl, by kernel_rfl, by kernel_rfl⟩⟩
theorem tab139 : Facts Try.prog 139 (tab 139) :=
  ⟨by kernel_rfl, by kernel_rfl, by kernel_rfl, by kernel_rfl, by kernel_rfl, by kernel_rfl, by kernel_rfl, by kernel_rfl, by kernel_rfl, by kernel_rfl, by kernel_rfl, by kernel_rfl, by kernel_rfl, by kernel_rfl, by kernel_rfl, by kernel_rfl, by kernel_rfl,
    fun i hi => by
      have hi : i < 2 := hi
      match i, hi with
      | 0, _ => exact ⟨by kernel_rfl, by kernel_rfl, by kernel_rfl⟩
      | 1, _ => exact ⟨by kernel_rfl, by kernel_rfl, by kernel_rfl⟩⟩
theorem tab146 : Facts Try.prog 146 (tab 146) :=
  ⟨by kernel_rfl, by kernel_rfl, by kernel_rfl, by kernel_rfl, by kernel_rfl, by kernel_rfl, by kernel_rfl, by kernel_rfl, by kernel_rfl, by kernel_rfl, by kernel_rfl, by kernel_rfl, by kernel_rfl, by kernel_rfl, by kernel_rfl, by kernel_rfl, by kernel_rfl,
    fun i hi => by
      have hi : i < 4 := hi
      match i, hi with
      | 0, _ => exact ⟨by kernel_rfl, by kernel_rfl, by kernel_rfl⟩
      | 1, _ => exact ⟨by kernel_rfl, by kernel_rfl, by kernel_rfl⟩
      | 2, _ => exact ⟨by kernel_rfl, by kernel_rfl, by kernel_rfl⟩
      | 3, _ => exact ⟨by kernel_rfl, by kernel_rfl, by kernel_rfl⟩⟩
theorem tab163 : Facts Try.prog 163 (tab 163) :=
  ⟨by kernel_rfl, by kernel_rfl, by kernel_rfl, by kernel_rfl, by kernel_rfl, by kernel_rfl, by kernel_rfl, by kernel_rfl, by kernel_rfl, by kernel_rfl, by kernel_rfl, by kernel_rfl, by kernel_rfl, by kernel_rfl, by kernel_rfl, by kernel_rfl, by kernel_rfl,
    fun i hi => by simp [tab] at hi⟩
theorem tab_ok (T : TypeId) (h : (tab T).ok = true) : Facts Try.prog T (tab T) := by
  unfold tab at h
  split at h
  · exact tab2
  · exact tab3
  · exact tab4
  · exact tab5
  · exact tab9
  · exact tab22
  · exact tab23
  · exact tab25
  · exact tab30
  · exact tab35
  · exact tab36
  · exact tab38
  · exact tab43
  · exact tab48
  · exact tab50
  · exact tab54
  · exact tab57
  · exact tab60
  · exact tab62
  · exact tab69
  · exact tab73
  · exact tab76
  · exact tab80
  · exact tab82
  · exact tab83
  · exact tab84
  · exact tab86
  · exact tab92
  · exact tab95
  · exact tab100
  · exact tab102
  · exact tab107
  · exact tab109
  · exact tab112
  · exact tab114
  · exact tab116
  · exact tab118
  · exact tab120
  · exact tab127
  · exact tab129
  · exact tab137
  · exact tab139
  · exact tab146
  · exact tab163
  · cases h
theorem t_known {T : TypeId} (h : (tab T).ok = true) : knownT Try.prog T = true := (tab_ok T h).known
theorem t_und {T : TypeId} (h : (tab T).ok = true) : (Try.prog.underlying T).isSome = true := (tab_ok T h).und
theorem t_size {T : TypeId} (h : (tab T).ok = true) : Try.prog.cellsOf T = (tab T).size := (tab_ok T h).size
theorem t_bytes {T : TypeId} (h : (tab T).ok = true) : Try.prog.bytesOf T = (tab T).bytes := (tab_ok T h).bytes
theorem t_agg {T : TypeId} (h : (tab T).ok = true) : aggT Try.prog T = (tab T).agg := (tab_ok T h).agg
theorem t_sl {T : TypeId} (h : (tab T).ok = true) : isSl Try.prog T = (tab T).sl := (tab_ok T h).sl
theorem t_arr {T : TypeId} (h : (tab T).ok = true) : isArr Try.prog T = (tab T).arr := (tab_ok T h).arr
theorem t_str {T : TypeId} (h : (tab T).ok = true) : isStr Try.prog T = (tab T).str := (tab_ok T h).str
theorem t_bool {T : TypeId} (h : (tab T).ok = true) : isBool Try.prog T = (tab T).bool := (tab_ok T h).bool
theorem t_int {T : TypeId} (h : (tab T).ok = true) : isInt Try.prog T = (tab T).int := (tab_ok T h).int
theorem t_ptr {T : TypeId} (h : (tab T).ok = true) : isPtr Try.prog T = (tab T).ptr := (tab_ok T h).ptr
theorem t_elem {T : TypeId} (h : (tab T).ok = true) : Try.prog.elem T = (tab T).elem := (tab_ok T h).elem
theorem t_alen {T : TypeId} (h : (tab T).ok = true) : Try.prog.arrayLen T = (tab T).alen := (tab_ok T h).alen
theorem t_kind {T : TypeId} (h : (tab T).ok = true) : Try.prog.intKind T = (tab T).kind := (tab_ok T h).kind
theorem t_fk {T : TypeId} (h : (tab T).ok = true) : fieldsKnown Try.prog T = (tab T).fk := (tab_ok T h).fk
theorem t_zero {T : TypeId} (h : (tab T).ok = true) : zeroC Try.prog T = (tab T).zero := (tab_ok T h).zero
theorem t_flat {T : TypeId} (h : (tab T).ok = true) : flatK Try.prog T = (tab T).flat := (tab_ok T h).flat
theorem t_fok {T : TypeId} {i : Nat} (h : (tab T).ok = true) (hi : i < (tab T).fs.length) : fldOk Try.prog T i = true := ((tab_ok T h).fld i hi).1
theorem t_foff {T : TypeId} {i : Nat} (h : (tab T).ok = true) (hi : i < (tab T).fs.length) : fldOff Try.prog T i = ((tab T).fs.getD i (0, 0)).1 := ((tab_ok T h).fld i hi).2.1
theorem t_fty {T : TypeId} {i : Nat} (h : (tab T).ok = true) (hi : i < (tab T).fs.length) : fldT Try.prog T i = ((tab T).fs.getD i (0, 0)).2 := ((tab_ok T h).fld i hi).2.2
def bT := And.intro (And.intro (And.intro (And.intro @t_known @t_und) (And.intro @t_size @t_bytes)) (And.intro (And.intro @t_agg @t_sl) (And.intro @t_arr @t_str))) (And.intro (And.intro (And.intro @t_bool @t_int) (And.intro @t_ptr @t_elem)) (And.intro (And.intro (And.intro @t_alen @t_kind) (And.intro @t_fk @t_zero)) (And.intro (And.intro @t_flat @t_fok) (And.intro @t_foff @t_fty))))
end Pam
