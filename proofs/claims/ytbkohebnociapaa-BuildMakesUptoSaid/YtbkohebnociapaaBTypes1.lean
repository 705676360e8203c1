/- Facts of the types that the proofs of this seat speak of, read off the program by the kernel. Printed by a program of ours. -/
import Derived.Test.YtbkohebnociapaaProg
import Derived.Test.YtbkohebnociapaaBBase1
import Derived.Shelf.Lays
import Derived.Shelf.Lays2
import Derived.Test.YtbkohebnociapaaBBase3
set_option linter.all false
namespace Pam
open Go Go.Proofs
def tab : Nat → TD
  | 2 => { ok := true, size := 1, bytes := 8, int := true, kind := .i64, zero := some [.int .i64 0] }
  | 3 => { ok := true, size := 1, bytes := 8, int := true, kind := .i64, zero := some [.int .i64 0] }
  | 4 => { ok := true, size := 1, bytes := 1, bool := true, zero := some [.bool false] }
  | 5 => { ok := true, size := 1, bytes := 1, int := true, kind := .u8, zero := some [.int .u8 0] }
  | 9 => { ok := true, size := 1, bytes := 16, str := true, zero := some [.str []] }
  | 22 => { ok := true, size := 1, bytes := 24, sl := true, elem := 63, zero := some [.nils] }
  | 23 => { ok := true, size := 1, bytes := 24, sl := true, elem := 3, zero := some [.nils] }
  | 24 => { ok := true, size := 1, bytes := 24, sl := true, elem := 39, zero := some [.nils] }
  | 26 => { ok := true, size := 4, bytes := 96, agg := true, fs := [(0, 22), (1, 23), (2, 23), (3, 24)], fk := true, zero := some [.nils, .nils, .nils, .nils] }
  | 30 => { ok := true, size := 2, bytes := 16, agg := true, fs := [(0, 3), (1, 3)], fk := true, flat := some [1, 1], zero := some [.int .i64 0, .int .i64 0] }
  | 33 => { ok := true, size := 1, bytes := 8, int := true, kind := .u64, zero := some [.int .u64 0] }
  | 36 => { ok := true, size := 1, bytes := 24, sl := true, elem := 26, zero := some [.nils] }
  | 37 => { ok := true, size := 1, bytes := 24, sl := true, elem := 96, zero := some [.nils] }
  | 39 => { ok := true, size := 6, bytes := 80, agg := true, fs := [(0, 3), (1, 3), (2, 3), (3, 2), (4, 23), (5, 37)], fk := true, zero := some [.int .i64 0, .int .i64 0, .int .i64 0, .int .i64 0, .nils, .nils] }
  | 43 => { ok := true, size := 3, bytes := 56, agg := true, fs := [(0, 23), (1, 23), (2, 3)], fk := true, zero := some [.nils, .nils, .int .i64 0] }
  | 44 => { ok := true, size := 1, bytes := 24, sl := true, elem := 98, zero := some [.nils] }
  | 46 => { ok := true, size := 4, bytes := 80, agg := true, fs := [(0, 3), (1, 23), (2, 23), (3, 44)], fk := true, zero := some [.int .i64 0, .nils, .nils, .nils] }
  | 59 => { ok := true, size := 1, bytes := 24, sl := true, elem := 65, zero := some [.nils] }
  | 63 => { ok := true, size := 2, bytes := 16, agg := true, fs := [(0, 5), (1, 3)], fk := true, flat := some [1, 1], zero := some [.int .u8 0, .int .i64 0] }
  | 65 => { ok := true, size := 2, bytes := 16, agg := true, fs := [(0, 3), (1, 3)], fk := true, flat := some [1, 1], zero := some [.int .i64 0, .int .i64 0] }
  | 67 => { ok := true, size := 1, bytes := 24, sl := true, elem := 72, zero := some [.nils] }
  | 69 => { ok := true, size := 1, bytes := 8, ptr := true, zero := some [.nilp] }
  | 72 => { ok := true, size := 1, bytes := 24, sl := true, elem := 2, zero := some [.nils] }
  | 84 => { ok := true, size := 1, bytes := 8, ptr := true, zero := some [.nilp] }
  | 88 => { ok := true, size := 1, bytes := 8, zero := some [.nilf] }
  | 89 => { ok := true, size := 1, bytes := 24, sl := true, elem := 4, zero := some [.nils] }
  | 91 => { ok := true, size := 5, bytes := 120, agg := true, fs := [(0, 26), (4, 89)], fk := true, zero := some [.nils, .nils, .nils, .nils, .nils] }
  | 96 => { ok := true, size := 4, bytes := 32, agg := true, fs := [(0, 3), (1, 3), (2, 3), (3, 2)], fk := true, flat := some [1, 1, 1, 1], zero := some [.int .i64 0, .int .i64 0, .int .i64 0, .int .i64 0] }
  | 98 => { ok := true, size := 6, bytes := 80, agg := true, fs := [(0, 3), (1, 3), (2, 3), (3, 3), (4, 37), (5, 37)], fk := true, zero := some [.int .i64 0, .int .i64 0, .int .i64 0, .int .i64 0, .nils, .nils] }
  | 99 => { ok := true, size := 1, bytes := 8, ptr := true, zero := some [.nilp] }
  | 101 => { ok := true, size := 9, bytes := 200, agg := true, fs := [(0, 26), (4, 43), (7, 44), (8, 23)], fk := true, zero := some [.nils, .nils, .nils, .nils, .nils, .nils, .int .i64 0, .nils, .nils] }
  | 112 => { ok := true, size := 1, bytes := 8, ptr := true, zero := some [.nilp] }
  | 115 => { ok := true, size := 10, bytes := 224, agg := true, fs := [(0, 26), (4, 59), (5, 23), (6, 43), (9, 23)], fk := true, zero := some [.nils, .nils, .nils, .nils, .nils, .nils, .nils, .nils, .int .i64 0, .nils] }
  | 116 => { ok := true, size := 1, bytes := 8, zero := some [.nilf] }
  | 118 => { ok := true, size := 1, bytes := 24, sl := true, elem := 23, zero := some [.nils] }
  | 121 => { ok := true, size := 1, bytes := 8, zero := some [.nilf] }
  | 125 => { ok := true, size := 5, bytes := 104, agg := true, fs := [(0, 26), (4, 123)], fk := true }
  | 126 => { ok := true, size := 1, bytes := 8, ptr := true, zero := some [.nilp] }
  | 128 => { ok := true, size := 2, bytes := 32, agg := true, fs := [(0, 69), (1, 67)], fk := true, zero := some [.nilp, .nils] }
  | 135 => { ok := true, size := 1, bytes := 8, ptr := true, zero := some [.nilp] }
  | 137 => { ok := true, size := 4, bytes := 96, agg := true, fs := [(0, 26)], fk := true, zero := some [.nils, .nils, .nils, .nils] }
  | 139 => { ok := true, size := 2, bytes := 16, agg := true, fs := [(0, 3), (1, 3)], fk := true, flat := some [1, 1], zero := some [.int .i64 0, .int .i64 0] }
  | 148 => { ok := true, size := 6, bytes := 48, agg := true, arr := true, elem := 63, alen := 3, zero := some [.int .u8 0, .int .i64 0, .int .u8 0, .int .i64 0, .int .u8 0, .int .i64 0] }
  | 152 => { ok := true, size := 1, bytes := 8, ptr := true, zero := some [.nilp] }
  | 154 => { ok := true, size := 5, bytes := 104, agg := true, fs := [(0, 26), (4, 3)], fk := true, zero := some [.nils, .nils, .nils, .nils, .int .i64 0] }
  | 166 => { ok := true, size := 1, bytes := 8, zero := some [.nilf] }
  | 167 => { ok := true, size := 1, bytes := 8, zero := some [.nilf] }
  | 179 => { ok := true, size := 1, bytes := 24, sl := true, elem := 5, zero := some [.nils] }
  | 184 => { ok := true, size := 1, bytes := 4, int := true, kind := .u32, zero := some [.int .u32 0] }
  | 187 => { ok := true, size := 1, bytes := 8, int := true, kind := .u64, zero := some [.int .u64 0] }
  | 192 => { ok := true, size := 1, bytes := 8, ptr := true, zero := some [.nilp] }
  | 193 => { ok := true, size := 17, bytes := 136, agg := true, arr := true, elem := 3, alen := 17, zero := some [.int .i64 0, .int .i64 0, .int .i64 0, .int .i64 0, .int .i64 0, .int .i64 0, .int .i64 0, .int .i64 0, .int .i64 0, .int .i64 0, .int .i64 0, .int .i64 0, .int .i64 0, .int .i64 0, .int .i64 0, .int .i64 0, .int .i64 0] }
  | 200 => { ok := true, size := 1, bytes := 8, int := true, kind := .i64, zero := some [.int .i64 0] }
  | 212 => { ok := true, size := 1, bytes := 8, int := true, kind := .u64, zero := some [.int .u64 0] }
  | 216 => { ok := true, size := 1, bytes := 8, ptr := true, zero := some [.nilp] }
  | _ => {}
theorem AE : bI Try.prog 2 (tab 2) :=
  by constructor <;> first | kernel_rfl | exact fun i hi => by simp [tab] at hi
theorem AF : bI Try.prog 3 (tab 3) :=
  by constructor <;> first | kernel_rfl | exact fun i hi => by simp [tab] at hi
theorem AG : bI Try.prog 4 (tab 4) :=
  by constructor <;> first | kernel_rfl | exact fun i hi => by simp [tab] at hi
theorem AH : bI Try.prog 5 (tab 5) :=
  by constructor <;> first | kernel_rfl | exact fun i hi => by simp [tab] at hi
theorem AI : bI Try.prog 9 (tab 9) :=
  by constructor <;> first | kernel_rfl | exact fun i hi => by simp [tab] at hi
theorem zG : bI Try.prog 22 (tab 22) :=
  by constructor <;> first | kernel_rfl | exact fun i hi => by simp [tab] at hi
theorem zH : bI Try.prog 23 (tab 23) :=
  by constructor <;> first | kernel_rfl | exact fun i hi => by simp [tab] at hi
theorem zI : bI Try.prog 24 (tab 24) :=
  by constructor <;> first | kernel_rfl | exact fun i hi => by simp [tab] at hi
theorem zJ : bI Try.prog 26 (tab 26) :=
  ⟨by kernel_rfl, by kernel_rfl, by kernel_rfl, by kernel_rfl, by kernel_rfl, by kernel_rfl, by kernel_rfl, by kernel_rfl, by kernel_rfl, by kernel_rfl, by kernel_rfl, by kernel_rfl, by kernel_rfl, by kernel_rfl, by kernel_rfl, by kernel_rfl, by kernel_rfl,
    fun i hi => by
      have hi : i < 4 := hi
      match i, hi with
      | 0, _ => exact ⟨by kernel_rfl, by kernel_rfl, by kernel_rfl⟩
      | 1, _ => exact ⟨by kernel_rfl, by kernel_rfl, by kernel_rfl⟩
      | 2, _ => exact ⟨by kernel_rfl, by kernel_rfl, by kernel_rfl⟩
      | 3, _ => exact ⟨by kernel_rfl, by kernel_rfl, by kernel_rfl⟩⟩
theorem zK : bI Try.prog 30 (tab 30) :=
  ⟨by kernel_rfl, by kernel_rfl, by kernel_rfl, by kernel_rfl, by kernel_rfl, by kernel_rfl, by kernel_rfl, by kernel_rfl, by kernel_rfl, by kernel_rfl, by kernel_rfl, by kernel_rfl, by kernel_rfl, by kernel_rfl, by kernel_rfl, by kernel_rfl, by kernel_rfl,
    fun i hi => by
      have hi : i < 2 := hi
      match i, hi with
      | 0, _ => exact ⟨by kernel_rfl, by kernel_rfl, by kernel_rfl⟩
      | 1, _ => exact ⟨by kernel_rfl, by kernel_rfl, by kernel_rfl⟩⟩
theorem zL : bI Try.prog 33 (tab 33) :=
  by constructor <;> first | kernel_rfl | exact fun i hi => by simp [tab] at hi
theorem zM : bI Try.prog 36 (tab 36) :=
  by constructor <;> first | kernel_rfl | exact fun i hi => by simp [tab] at hi
theorem zN : bI Try.prog 37 (tab 37) :=
  by constructor <;> first | kernel_rfl | exact fun i hi => by simp [tab] at hi
theorem zO : bI Try.prog 39 (tab 39) :=
  ⟨by kernel_rfl, by kernel_rfl, by kernel_rfl, by kernel_rfl, by kernel_rfl, by kernel_rfl, by kernel_rfl, by kernel_rfl, by kernel_rfl, by kernel_rfl, by kernel_rfl, by kernel_rfl, by kernel_rfl, by kernel_rfl, by kernel_rfl, by kernel_rfl, by kernel_rfl,
    fun i hi => by
      have hi : i < 6 := hi
      match i, hi with
      | 0, _ => exact ⟨by kernel_rfl, by kernel_rfl, by kernel_rfl⟩
      | 1, _ => exact ⟨by kernel_rfl, by kernel_rfl, by kernel_rfl⟩
      | 2, _ => exact ⟨by kernel_rfl, by kernel_rfl, by kernel_rfl⟩
      | 3, _ => exact ⟨by kernel_rfl, by kernel_rfl, by kernel_rfl⟩
      | 4, _ => exact ⟨by kernel_rfl, by kernel_rfl, by kernel_rfl⟩
      | 5, _ => exact ⟨by kernel_rfl, by kernel_rfl, by kernel_rfl⟩⟩
theorem zP : bI Try.prog 43 (tab 43) :=
  ⟨by kernel_rfl, by kernel_rfl, by kernel_rfl, by kernel_rfl, by kernel_rfl, by kernel_rfl, by kernel_rfl, by kernel_rfl, by kernel_rfl, by kernel_rfl, by kernel_rfl, by kernel_rfl, by kernel_rfl, by kernel_rfl, by kernel_rfl, by kernel_rfl, by kernel_rfl,
    fun i hi => by
      have hi : i < 3 := hi
      match i, hi with
      | 0, _ => exact ⟨by kernel_rfl, by kernel_rfl, by kernel_rfl⟩
      | 1, _ => exact ⟨by kernel_rfl, by kernel_rfl, by kernel_rfl⟩
      | 2, _ => exact ⟨by kernel_rfl, by kernel_rfl, by kernel_rfl⟩⟩
theorem zQ : bI Try.prog 44 (tab 44) :=
  by constructor <;> first | kernel_rfl | exact fun i hi => by simp [tab] at hi
theorem zR : bI Try.prog 46 (tab 46) :=
  ⟨by kernel_rfl, by kernel_rfl, by kernel_rfl, by kernel_rfl, by kernel_rfl, by kernel_rfl, by kernel_rfl, by kernel_rfl, by kernel_rfl, by kernel_rfl, by kernel_rfl, by kernel_rfl, by kernel_rfl, by kernel_rfl, by kernel_rfl, by kernel_rfl, by kernel_rfl,
    fun i hi => by
      have hi : i < 4 := hi
      match i, hi with
      | 0, _ => exact ⟨by kernel_rfl, by kernel_rfl, by kernel_rfl⟩
      | 1, _ => exact ⟨by kernel_rfl, by kernel_rfl, by kernel_rfl⟩
      | 2, _ => exact ⟨by kernel_rfl, by kernel_rfl, by kernel_rfl⟩
      | 3, _ => exact ⟨by kernel_rfl, by kernel_rfl, by kernel_rfl⟩⟩
theorem zS : bI Try.prog 59 (tab 59) :=
  by constructor <;> first | kernel_rfl | exact fun i hi => by simp [tab] at hi
theorem zT : bI Try.prog 63 (tab 63) :=
  ⟨by kernel_rfl, by kernel_rfl, by kernel_rfl, by kernel_rfl, by kernel_rfl, by kernel_rfl, by kernel_rfl, by kernel_rfl, by kernel_rfl, by kernel_rfl, by kernel_rfl, by kernel_rfl, by kernel_rfl, by kernel_rfl, by kernel_rfl, by kernel_rfl, by kernel_rfl,
    fun i hi => by
      have hi : i < 2 := hi
      match i, hi with
      | 0, _ => exact ⟨by kernel_rfl, by kernel_rfl, by kernel_rfl⟩
      | 1, _ => exact ⟨by kernel_rfl, by kernel_rfl, by kernel_rfl⟩⟩
theorem zU : bI Try.prog 65 (tab 65) :=
  ⟨by kernel_rfl, by kernel_rfl, by kernel_rfl, by kernel_rfl, by kernel_rfl, by kernel_rfl, by kernel_rfl, by kernel_rfl, by kernel_rfl, by kernel_rfl, by kernel_rfl, by kernel_rfl, by kernel_rfl, by kernel_rfl, by kernel_rfl, by kernel_rfl, by kernel_rfl,
    fun i hi => by
      have hi : i < 2 := hi
      match i, hi with
      | 0, _ => exact ⟨by kernel_rfl, by kernel_rfl, by kernel_rfl⟩
      | 1, _ => exact ⟨by kernel_rfl, by kernel_rfl, by kernel_rfl⟩⟩
theorem zV : bI Try.prog 67 (tab 67) :=
  by constructor <;> first | kernel_rfl | exact fun i hi => by simp [tab] at hi
theorem zW : bI Try.prog 69 (tab 69) :=
  by constructor <;> first | kernel_rfl | exact fun i hi => by simp [tab] at hi
theorem zX : bI Try.prog 72 (tab 72) :=
  by constructor <;> first | kernel_rfl | exact fun i hi => by simp [tab] at hi
theorem zY : bI Try.prog 84 (tab 84) :=
  by constructor <;> first | kernel_rfl | exact fun i hi => by simp [tab] at hi
theorem zZ : bI Try.prog 88 (tab 88) :=
  by constructor <;> first | kernel_rfl | exact fun i hi => by simp [tab] at hi
theorem z6 : bI Try.prog 89 (tab 89) :=
  by constructor <;> first | kernel_rfl | exact fun i hi => by simp [tab] at hi
theorem Aa : bI Try.prog 91 (tab 91) :=
  ⟨by kernel_rfl, by kernel_rfl, by kernel_rfl, by kernel_rfl, by kernel_rfl, by kernel_rfl, by kernel_rfl, by kernel_rfl, by kernel_rfl, by kernel_rfl, by kernel_rfl, by kernel_rfl, by kernel_rfl, by kernel_rfl, by kernel_rfl, by kernel_rfl, by kernel_rfl,
    fun i hi => by
      have hi : i < 2 := hi
      match i, hi with
      | 0, _ => exact ⟨by kernel_rfl, by kernel_rfl, by kernel_rfl⟩
      | 1, _ => exact ⟨by kernel_rfl, by kernel_rfl, by kernel_rfl⟩⟩
theorem Ab : bI Try.prog 96 (tab 96) :=
  ⟨by kernel_rfl, by kernel_rfl, by kernel_rfl, by kernel_rfl, by kernel_rfl, by kernel_rfl, by kernel_rfl, by kernel_rfl, by kernel_rfl, by kernel_rfl, by kernel_rfl, by kernel_rfl, by kernel_rfl, by kernel_rfl, by kernel_rfl, by kernel_rfl, by kernel_rfl,
    fun i hi => by
      have hi : i < 4 := hi
      match i, hi with
      | 0, _ => exact ⟨by kernel_rfl, by kernel_rfl, by kernel_rfl⟩
      | 1, _ => exact ⟨by kernel_rfl, by kernel_rfl, by kernel_rfl⟩
      | 2, _ => exact ⟨by kernel_rfl, by kernel_rfl, by kernel_rfl⟩
      | 3, _ => exact ⟨by kernel_rfl, by kernel_rfl, by kernel_rfl⟩⟩
theorem Ac : bI Try.prog 98 (tab 98) :=
  ⟨by kernel_rfl, by kernel_rfl, by kernel_rfl, by kernel_rfl, by kernel_rfl, by kernel_rfl, by kernel_rfl, by kernel_rfl, by kernel_rfl, by kernel_rfl, by kernel_rfl, by kernel_rfl, by kernel_rfl, by kernel_rfl, by kernel_rfl, by kernel_rfl, by kernel_rfl,
    fun i hi => by
      have hi : i < 6 := hi
      match i, hi with
      | 0, _ => exact ⟨by kernel_rfl, by kernel_rfl, by kernel_rfl⟩
      | 1, _ => exact ⟨by kernel_rfl, by kernel_rfl, by kernel_rfl⟩
      | 2, _ => exact ⟨by kernel_rfl, by kernel_rfl, by kernel_rfl⟩
      | 3, _ => exact ⟨by kernel_rfl, by kernel_rfl, by kernel_rfl⟩
      | 4, _ => exact ⟨by kernel_rfl, by kernel_rfl, by kernel_rfl⟩
      | 5, _ => exact ⟨by kernel_rfl, by kernel_rfl, by kernel_rfl⟩⟩
theorem Ad : bI Try.prog 99 (tab 99) :=
  by constructor <;> first | kernel_rfl | exact fun i hi => by simp [tab] at hi
theorem yE : bI Try.prog 101 (tab 101) :=
  ⟨by kernel_rfl, by kernel_rfl, by kernel_rfl, by kernel_rfl, by kernel_rfl, by kernel_rfl, by kernel_rfl, by kernel_rfl, by kernel_rfl, by kernel_rfl, by kernel_rfl, by kernel_rfl, by kernel_rfl, by kernel_rfl, by kernel_rfl, by kernel_rfl, by kernel_rfl,
    fun i hi => by
      have hi : i < 4 := hi
      match i, hi with
      | 0, _ => exact ⟨by kernel_rfl, by kernel_rfl, by kernel_rfl⟩
      | 1, _ => exact ⟨by kernel_rfl, by kernel_rfl, by kernel_rfl⟩
      | 2, _ => exact ⟨by kernel_rfl, by kernel_rfl, by kernel_rfl⟩
      | 3, _ => exact ⟨by kernel_rfl, by kernel_rfl, by kernel_rfl⟩⟩
theorem yF : bI Try.prog 112 (tab 112) :=
  by constructor <;> first | kernel_rfl | exact fun i hi => by simp [tab] at hi
theorem yG : bI Try.prog 115 (tab 115) :=
  ⟨by kernel_rfl, by kernel_rfl, by kernel_rfl, by kernel_rfl, by kernel_rfl, by kernel_rfl, by kernel_rfl, by kernel_rfl, by kernel_rfl, by kernel_rfl, by kernel_rfl, by kernel_rfl, by kernel_rfl, by kernel_rfl, by kernel_rfl, by kernel_rfl, by kernel_rfl,
    fun i hi => by
      have hi : i < 5 := hi
      match i, hi with
      | 0, _ => exact ⟨by kernel_rfl, by kernel_rfl, by kernel_rfl⟩
      | 1, _ => exact ⟨by kernel_rfl, by kernel_rfl, by kernel_rfl⟩
      | 2, _ => exact ⟨by kernel_rfl, by kernel_rfl, by kernel_rfl⟩
      | 3, _ => exact ⟨by kernel_rfl, by kernel_rfl, by kernel_rfl⟩
      | 4, _ => exact ⟨by kernel_rfl, by kernel_rfl, by kernel_rfl⟩⟩
theorem yH : bI Try.prog 116 (tab 116) :=
  by constructor <;> first | kernel_rfl | exact fun i hi => by simp [tab] at hi
theorem yI : bI Try.prog 118 (tab 118) :=
  by constructor <;> first | kernel_rfl | exact fun i hi => by simp [tab] at hi
theorem yJ : bI Try.prog 121 (tab 121) :=
  by constructor <;> first | kernel_rfl | exact fun i hi => by simp [tab] at hi
theorem yK : bI Try.prog 125 (tab 125) :=
  ⟨by kernel_rfl, by kernel_rfl, by kernel_rfl, by kernel_rfl, by kernel_rfl, by kernel_rfl, by kernel_rfl, by kernel_rfl, by kernel_rfl, by kernel_rfl, by kernel_rfl, by kernel_rfl, by kernel_rfl, by kernel_rfl, by kernel_rfl, by kernel_rfl, by kernel_rfl,
    fun i hi => by
      have hi : i < 2 := hi
      match i, hi with
      | 0, _ => exact ⟨by kernel_rfl, by kernel_rfl, by kernel_rfl⟩
      | 1, _ => exact ⟨by kernel_rfl, by kernel_rfl, by kernel_rfl⟩⟩
theorem yL : bI Try.prog 126 (tab 126) :=
  by constructor <;> first | kernel_rfl | exact fun i hi => by simp [tab] at hi
theorem yM : bI Try.prog 128 (tab 128) :=
  ⟨by kernel_rfl, by kernel_rfl, by kernel_rfl, by kernel_rfl, by kernel_rfl, by kernel_rfl, by kernel_rfl, by kernel_rfl, by kernel_rfl, by kernel_rfl, by kernel_rfl, by kernel_rfl, by kernel_rfl, by kernel_rfl, by kernel_rfl, by kernel_rfl, by kernel_rfl,
    fun i hi => by
      have hi : i < 2 := hi
      match i, hi with
      | 0, _ => exact ⟨by kernel_rfl, by kernel_rfl, by kernel_rfl⟩
      | 1, _ => exact ⟨by kernel_rfl, by kernel_rfl, by kernel_rfl⟩⟩
theorem yN : bI Try.prog 135 (tab 135) :=
  by constructor <;> first | kernel_rfl | exact fun i hi => by simp [tab] at hi
theorem yO : bI Try.prog 137 (tab 137) :=
  ⟨by kernel_rfl, by kernel_rfl, by kernel_rfl, by kernel_rfl, by kernel_rfl, by kernel_rfl, by kernel_rfl, by kernel_rfl, by kernel_rfl, by kernel_rfl, by kernel_rfl, by kernel_rfl, by kernel_rfl, by kernel_rfl, by kernel_rfl, by kernel_rfl, by kernel_rfl,
    fun i hi => by
      have hi : i < 1 := hi
      match i, hi with
      | 0, _ => exact ⟨by kernel_rfl, by kernel_rfl, by kernel_rfl⟩⟩
theorem yP : bI Try.prog 139 (tab 139) :=
  ⟨by kernel_rfl, by kernel_rfl, by kernel_rfl, by kernel_rfl, by kernel_rfl, by kernel_rfl, by kernel_rfl, by kernel_rfl, by kernel_rfl, by kernel_rfl, by kernel_rfl, by kernel_rfl, by kernel_rfl, by kernel_rfl, by kernel_rfl, by kernel_rfl, by kernel_rfl,
    fun i hi => by
      have hi : i < 2 := hi
      match i, hi with
      | 0, _ => exact ⟨by kernel_rfl, by kernel_rfl, by kernel_rfl⟩
      | 1, _ => exact ⟨by kernel_rfl, by kernel_rfl, by kernel_rfl⟩⟩
theorem yQ : bI Try.prog 148 (tab 148) :=
  by constructor <;> first | kernel_rfl | exact fun i hi => by simp [tab] at hi
theorem yR : bI Try.prog 152 (tab 152) :=
  by constructor <;> first | kernel_rfl | exact fun i hi => by simp [tab] at hi
theorem yS : bI Try.prog 154 (tab 154) :=
  ⟨by kernel_rfl, by kernel_rfl, by kernel_rfl, by kernel_rfl, by kernel_rfl, by kernel_rfl, by kernel_rfl, by kernel_rfl, by kernel_rfl, by kernel_rfl, by kernel_rfl, by kernel_rfl, by kernel_rfl, by kernel_rfl, by kernel_rfl, by kernel_rfl, by kernel_rfl,
    fun i hi => by
      have hi : i < 2 := hi
      match i, hi with
      | 0, _ => exact ⟨by kernel_rfl, by kernel_rfl, by kernel_rfl⟩
      | 1, _ => exact ⟨by kernel_rfl, by kernel_rfl, by kernel_rfl⟩⟩
theorem yT : bI Try.prog 166 (tab 166) :=
  by constructor <;> first | kernel_rfl | exact fun i hi => by simp [tab] at hi
theorem yU : bI Try.prog 167 (tab 167) :=
  by constructor <;> first | kernel_rfl | exact fun i hi => by simp [tab] at hi
theorem yV : bI Try.prog 179 (tab 179) :=
  by constructor <;> first | kernel_rfl | exact fun i hi => by simp [tab] at hi
theorem yW : bI Try.prog 184 (tab 184) :=
  by constructor <;> first | kernel_rfl | exact fun i hi => by simp [tab] at hi
theorem yX : bI Try.prog 187 (tab 187) :=
  by constructor <;> first | kernel_rfl | exact fun i hi => by simp [tab] at hi
theorem yY : bI Try.prog 192 (tab 192) :=
  by constructor <;> first | kernel_rfl | exact fun i hi => by simp [tab] at hi
theorem yZ : bI Try.prog 193 (tab 193) :=
  by constructor <;> first | kernel_rfl | exact fun i hi => by simp [tab] at hi
theorem za : bI Try.prog 200 (tab 200) :=
  by constructor <;> first | kernel_rfl | exact fun i hi => by simp [tab] at hi
theorem zb : bI Try.prog 212 (tab 212) :=
  by constructor <;> first | kernel_rfl | exact fun i hi => by simp [tab] at hi
theorem zc : bI Try.prog 216 (tab 216) :=
  by constructor <;> first | kernel_rfl | exact fun i hi => by simp [tab] at hi
theorem fR (T : TypeId) (h : (tab T).ok = true) : bI Try.prog T (tab T) := by
  unfold tab at h
  split at h
  · exact AE
  · exact AF
  · exact AG
  · exact AH
  · exact AI
  · exact zG
  · exact zH
  · exact zI
  · exact zJ
  · exact zK
  · exact zL
  · exact zM
  · exact zN
  · exact zO
  · exact zP
  · exact zQ
  · exact zR
  · exact zS
  · exact zT
  · exact zU
  · exact zV
  · exact zW
  · exact zX
  · exact zY
  · exact zZ
  · exact z6
  · exact Aa
  · exact Ab
  · exact Ac
  · exact Ad
  · exact yE
  · exact yF
  · exact yG
  · exact yH
  · exact yI
  · exact yJ
  · exact yK
  · exact yL
  · exact yM
  · exact yN
  · exact yO
  · exact yP
  · exact yQ
  · exact yR
  · exact yS
  · exact yT
  · exact yU
  · exact yV
  · exact yW
  · exact yX
  · exact yY
  · exact yZ
  · exact za
  · exact zb
  · exact zc
  · cases h
theorem xJ {T : TypeId} (h : (tab T).ok = true) : br Try.prog T = true := (fR T h).known
theorem Ae {T : TypeId} (h : (tab T).ok = true) : (Try.prog.underlying T).isSome = true := (fR T h).und
theorem zd {T : TypeId} (h : (tab T).ok = true) : Try.prog.cellsOf T = (tab T).size := (fR T h).size
theorem xK {T : TypeId} (h : (tab T).ok = true) : Try.prog.bytesOf T = (tab T).bytes := (fR T h).bytes
theorem Af {T : TypeId} (h : (tab T).ok = true) : jT Try.prog T = (tab T).agg := (fR T h).agg
theorem AJ {T : TypeId} (h : (tab T).ok = true) : gh Try.prog T = (tab T).sl := (fR T h).sl
theorem Ag {T : TypeId} (h : (tab T).ok = true) : mR Try.prog T = (tab T).arr := (fR T h).arr
theorem Ah {T : TypeId} (h : (tab T).ok = true) : lz Try.prog T = (tab T).str := (fR T h).str
theorem ze {T : TypeId} (h : (tab T).ok = true) : qB Try.prog T = (tab T).bool := (fR T h).bool
theorem Ai {T : TypeId} (h : (tab T).ok = true) : rZ Try.prog T = (tab T).int := (fR T h).int
theorem Aj {T : TypeId} (h : (tab T).ok = true) : vd Try.prog T = (tab T).ptr := (fR T h).ptr
theorem zf {T : TypeId} (h : (tab T).ok = true) : Try.prog.elem T = (tab T).elem := (fR T h).elem
theorem zg {T : TypeId} (h : (tab T).ok = true) : Try.prog.arrayLen T = (tab T).alen := (fR T h).alen
theorem zh {T : TypeId} (h : (tab T).ok = true) : Try.prog.intKind T = (tab T).kind := (fR T h).kind
theorem AK {T : TypeId} (h : (tab T).ok = true) : j9 Try.prog T = (tab T).fk := (fR T h).fk
theorem zi {T : TypeId} (h : (tab T).ok = true) : ig Try.prog T = (tab T).zero := (fR T h).zero
theorem zj {T : TypeId} (h : (tab T).ok = true) : tz Try.prog T = (tab T).flat := (fR T h).flat
theorem Ak {T : TypeId} {i : Nat} (h : (tab T).ok = true) (hi : i < (tab T).fs.length) : lw Try.prog T i = true := ((fR T h).fld i hi).1
theorem zk {T : TypeId} {i : Nat} (h : (tab T).ok = true) (hi : i < (tab T).fs.length) : iT Try.prog T i = ((tab T).fs.getD i (0, 0)).1 := ((fR T h).fld i hi).2.1
theorem Al {T : TypeId} {i : Nat} (h : (tab T).ok = true) (hi : i < (tab T).fs.length) : m5 Try.prog T i = ((tab T).fs.getD i (0, 0)).2 := ((fR T h).fld i hi).2.2
def bT := And.intro (And.intro (And.intro (And.intro @xJ @Ae) (And.intro @zd @xK)) (And.intro (And.intro @Af @AJ) (And.intro @Ag @Ah))) (And.intro (And.intro (And.intro @ze @Ai) (And.intro @Aj @zf)) (And.intro (And.intro (And.intro @zg @zh) (And.intro @AK @zi)) (And.intro (And.intro @zj @Ak) (And.intro @zk @Al))))
end Pam
namespace Go.Proofs
open Go.Shelf
def Try.lays189_ren : Go.Shelf.Ren := ⟨fun | 189 => 111 | 125 => 155 | 257 => 154 | 128 => 177 | 129 => 178 | 294 => 168 | 295 => 169 | 296 => 170 | 297 => 171 | 298 => 172 | 299 => 173 | 216 => 174 | 300 => 175 | 301 => 176 | 328 => 181 | 329 => 182 | 330 => 183 | 331 => 184 | 332 => 185 | 215 => 186 | 343 => 188 | n => n, fun | 28 => 23 | 3 => 3 | 46 => 33 | 0 => 0 | 51 => 184 | 53 => 187 | 4 => 4 | 183 => 201 | 182 => 200 | 131 => 205 | 5 => 5 | 9 => 9 | 218 => 212 | 222 => 216 | 228 => 220 | 229 => 221 | n => n, fun | n => n⟩
theorem Try.lays189 : Go.Proofs.Lays.n189 Try.prog Try.lays189_ren := {
  mixed := by kernel_rfl
  f125 := Try.func155.trans (congrArg some (by kernel_rfl))
  f128 := Try.func177.trans (congrArg some (by kernel_rfl))
  f129 := Try.func178.trans (congrArg some (by kernel_rfl))
  f189 := Try.func111.trans (congrArg some (by kernel_rfl))
  f215 := Try.func186.trans (congrArg some (by kernel_rfl))
  f216 := Try.func174.trans (congrArg some (by kernel_rfl))
  f257 := Try.func154.trans (congrArg some (by kernel_rfl))
  f294 := Try.func168.trans (congrArg some (by kernel_rfl))
  f295 := Try.func169.trans (congrArg some (by kernel_rfl))
  f296 := Try.func170.trans (congrArg some (by kernel_rfl))
  f297 := Try.func171.trans (congrArg some (by kernel_rfl))
  f298 := Try.func172.trans (congrArg some (by kernel_rfl))
  f299 := Try.func173.trans (congrArg some (by kernel_rfl))
  f300 := Try.func175.trans (congrArg some (by kernel_rfl))
  f301 := Try.func176.trans (congrArg some (by kernel_rfl))
  f328 := Try.func181.trans (congrArg some (by kernel_rfl))
  f329 := Try.func182.trans (congrArg some (by kernel_rfl))
  f330 := Try.func183.trans (congrArg some (by kernel_rfl))
  f331 := Try.func184.trans (congrArg some (by kernel_rfl))
  f332 := Try.func185.trans (congrArg some (by kernel_rfl))
  f343 := Try.func188.trans (congrArg some (by kernel_rfl))
  t0 := Try.underlying0
  a0 := Try.isAgg0
  z0 := Try.sizeOf0
  v0 := Try.zeroValue0
  t3 := Try.underlying3
  a3 := Try.isAgg3
  z3 := Try.sizeOf3
  v3 := Try.zeroValue3
  t4 := Try.underlying4
  a4 := Try.isAgg4
  z4 := Try.sizeOf4
  v4 := Try.zeroValue4
  t5 := Try.underlying5
  a5 := Try.isAgg5
  z5 := Try.sizeOf5
  v5 := Try.zeroValue5
  t9 := Try.underlying9
  a9 := Try.isAgg9
  z9 := Try.sizeOf9
  v9 := Try.zeroValue9
  t28 := Try.underlying23
  a28 := Try.isAgg23
  z28 := Try.sizeOf23
  v28 := Try.zeroValue23
  t46 := Try.underlying33
  a46 := Try.isAgg33
  z46 := Try.sizeOf33
  v46 := Try.zeroValue33
  t51 := Try.underlying184
  a51 := Try.isAgg184
  z51 := Try.sizeOf184
  v51 := Try.zeroValue184
  t53 := Try.underlying187
  a53 := Try.isAgg187
  z53 := Try.sizeOf187
  v53 := Try.zeroValue187
  t131 := Try.underlying205
  a131 := Try.isAgg205
  z131 := Try.sizeOf205
  v131 := Try.zeroValue205
  t182 := Try.underlying200
  a182 := Try.isAgg200
  z182 := Try.sizeOf200
  v182 := Try.zeroValue200
  t183 := Try.underlying201
  a183 := Try.isAgg201
  z183 := Try.sizeOf201
  v183 := Try.zeroValue201
  t218 := Try.underlying212
  a218 := Try.isAgg212
  z218 := Try.sizeOf212
  v218 := Try.zeroValue212
  t222 := Try.underlying216
  a222 := Try.isAgg216
  z222 := Try.sizeOf216
  v222 := Try.zeroValue216
  t228 := Try.underlying220
  a228 := Try.isAgg220
  z228 := Try.sizeOf220
  v228 := Try.zeroValue220
  t229 := Try.underlying221
  a229 := Try.isAgg221
  z229 := Try.sizeOf221
  v229 := Try.zeroValue221 }
def Try.laysNm220_ren : Go.Shelf.Ren := ⟨fun | 20 => 112 | n => n, fun | 22 => 23 | 3 => 3 | 4 => 4 | 0 => 0 | n => n, fun | n => n⟩
theorem Try.laysNm220 : Go.Proofs.Lays2.n20 Try.prog Try.laysNm220_ren := {
  mixed := by kernel_rfl
  f20 := Try.func112.trans (congrArg some (by kernel_rfl))
  t0 := Try.underlying0
  a0 := Try.isAgg0
  z0 := Try.sizeOf0
  v0 := Try.zeroValue0
  t3 := Try.underlying3
  a3 := Try.isAgg3
  z3 := Try.sizeOf3
  v3 := Try.zeroValue3
  t4 := Try.underlying4
  a4 := Try.isAgg4
  z4 := Try.sizeOf4
  v4 := Try.zeroValue4
  t22 := Try.underlying23
  a22 := Try.isAgg23
  z22 := Try.sizeOf23
  v22 := Try.zeroValue23
  i3 := by kernel_rfl }
end Go.Proofs
namespace Pam
open Go Go.Proofs
theorem vY : Lays.n189 Try.prog Try.lays189_ren := Try.lays189
theorem tc : Lays2.n20 Try.prog Try.laysNm220_ren := Try.laysNm220
end Pam
