/- Facts of the types that the proofs of this seat speak of, read off the program by the kernel. Printed by a program of ours. -/
import Derived.Test.YtphpneddmkickaaProg
import Derived.Test.YtphpneddmkickaaHBase1
set_option linter.all false
namespace Pam
open Go Go.Proofs
def tab : Nat → TD
  | 2 => { ok := true, size := 1, bytes := 8, int := true, kind := .i64, zero := some [.int .i64 0] }
  | 3 => { ok := true, size := 1, bytes := 8, int := true, kind := .i64, zero := some [.int .i64 0] }
  | 4 => { ok := true, size := 1, bytes := 1, bool := true, zero := some [.bool false] }
  | 9 => { ok := true, size := 1, bytes := 16, str := true, zero := some [.str []] }
  | 22 => { ok := true, size := 1, bytes := 24, sl := true, elem := 39, zero := some [.nils] }
  | 23 => { ok := true, size := 1, bytes := 24, sl := true, elem := 39, zero := some [.nils] }
  | 24 => { ok := true, size := 1, bytes := 24, sl := true, elem := 9, zero := some [.nils] }
  | 25 => { ok := true, size := 1, bytes := 24, sl := true, elem := 23, zero := some [.nils] }
  | 26 => { ok := true, size := 1, bytes := 24, sl := true, elem := 3, zero := some [.nils] }
  | 30 => { ok := true, size := 2, bytes := 16, agg := true, fs := [(0, 3), (1, 3)], fk := true, flat := some [1, 1], zero := some [.int .i64 0, .int .i64 0] }
  | 39 => { ok := true, size := 2, bytes := 24, agg := true, fs := [(0, 2), (1, 9)], fk := true, flat := some [1, 2], zero := some [.int .i64 0, .str []] }
  | 41 => { ok := true, size := 1, bytes := 8, int := true, kind := .u64, zero := some [.int .u64 0] }
  | 43 => { ok := true, size := 3, bytes := 72, agg := true, arr := true, elem := 23, alen := 3, zero := some [.nils, .nils, .nils] }
  | 47 => { ok := true, size := 1, bytes := 8, zero := some [.nilf] }
  | 50 => { ok := true, size := 1, bytes := 8, zero := some [.nilf] }
  | 52 => { ok := true, size := 1, bytes := 8, zero := some [.nilf] }
  | _ => {}
theorem uj : ig Try.prog 2 (tab 2) :=
  by constructor <;> first | kernel_rfl | exact fun i hi => by simp [tab] at hi
theorem uk : ig Try.prog 3 (tab 3) :=
  by constructor <;> first | kernel_rfl | exact fun i hi => by simp [tab] at hi
theorem ul : ig Try.prog 4 (tab 4) :=
  by constructor <;> first | kernel_rfl | exact fun i hi => by simp [tab] at hi
theorem um : ig Try.prog 9 (tab 9) :=
  by constructor <;> first | kernel_rfl | exact fun i hi => by simp [tab] at hi
theorem tH : ig Try.prog 22 (tab 22) :=
  by constructor <;> first | kernel_rfl | exact fun i hi => by simp [tab] at hi
theorem tI : ig Try.prog 23 (tab 23) :=
  by constructor <;> first | kernel_rfl | exact fun i hi => by simp [tab] at hi
theorem tJ : ig Try.prog 24 (tab 24) :=
  by constructor <;> first | kernel_rfl | exact fun i hi => by simp [tab] at hi
theorem tK : ig Try.prog 25 (tab 25) :=
  by constructor <;> first | kernel_rfl | exact fun i hi => by simp [tab] at hi
theorem tL : ig Try.prog 26 (tab 26) :=
  by constructor <;> first | kernel_rfl | exact fun i hi => by simp [tab] at hi
theorem tM : ig Try.prog 30 (tab 30) :=
  ⟨by kernel_rfl, by kernel_rfl, by kernel_rfl, by kernel_rfl, by kernel_rfl, by kernel_rfl, by kernel_rfl, by kernel_rfl, by kernel_rfl, by kernel_rfl, by kernel_rfl, by kernel_rfl, by kernel_rfl, by kernel_rfl, by kernel_rfl, by kernel_rfl, by kernel_rfl,
    fun i hi => by
      have hi : i < 2 := hi
      match i, hi with
      | 0, _ => exact ⟨by kernel_rfl, by kernel_rfl, by kernel_rfl⟩
      | 1, _ => exact ⟨by kernel_rfl, by kernel_rfl, by kernel_rfl⟩⟩
theorem tO : ig Try.prog 39 (tab 39) :=
  ⟨by kernel_rfl, by kernel_rfl, by kernel_rfl, by kernel_rfl, by kernel_rfl, by kernel_rfl, by kernel_rfl, by kernel_rfl, by kernel_rfl, by kernel_rfl, by kernel_rfl, by kernel_rfl, by kernel_rfl, by kernel_rfl, by kernel_rfl, by kernel_rfl, by kernel_rfl,
    fun i hi => by
      have hi : i < 2 := hi
      match i, hi with
      | 0, _ => exact ⟨by kernel_rfl, by kernel_rfl, by kernel_rfl⟩
      | 1, _ => exact ⟨by kernel_rfl, by kernel_rfl, by kernel_rfl⟩⟩
theorem tP : ig Try.prog 41 (tab 41) :=
  by constructor <;> first | kernel_rfl | exact fun i hi => by simp [tab] at hi
theorem tQ : ig Try.prog 43 (tab 43) :=
  by constructor <;> first | kernel_rfl | exact fun i hi => by simp [tab] at hi
theorem tR : ig Try.prog 47 (tab 47) :=
  by constructor <;> first | kernel_rfl | exact fun i hi => by simp [tab] at hi
theorem tS : ig Try.prog 50 (tab 50) :=
  by constructor <;> first | kernel_rfl | exact fun i hi => by simp [tab] at hi
theorem tT : ig Try.prog 52 (tab 52) :=
  by constructor <;> first | kernel_rfl | exact fun i hi => by simp [tab] at hi
theorem eq (T : TypeId) (h : (tab T).ok = true) : ig Try.prog T (tab T) := by
  unfold tab at h
  split at h
  · exact uj
  · exact uk
  · exact ul
  · exact um
  · exact tH
  · exact tI
  · exact tJ
  · exact tK
  · exact tL
  · exact tM
  · exact tO
  · exact tP
  · exact tQ
  · exact tR
  · exact tS
  · exact tT
  · cases h
theorem si {T : TypeId} (h : (tab T).ok = true) : bw Try.prog T = true := (eq T h).known
theorem tU {T : TypeId} (h : (tab T).ok = true) : (Try.prog.underlying T).isSome = true := (eq T h).und
theorem s9 {T : TypeId} (h : (tab T).ok = true) : Try.prog.cellsOf T = (tab T).size := (eq T h).size
theorem sj {T : TypeId} (h : (tab T).ok = true) : Try.prog.bytesOf T = (tab T).bytes := (eq T h).bytes
theorem tV {T : TypeId} (h : (tab T).ok = true) : gW Try.prog T = (tab T).agg := (eq T h).agg
theorem un {T : TypeId} (h : (tab T).ok = true) : d9 Try.prog T = (tab T).sl := (eq T h).sl
theorem tW {T : TypeId} (h : (tab T).ok = true) : iR Try.prog T = (tab T).arr := (eq T h).arr
theorem tX {T : TypeId} (h : (tab T).ok = true) : iS Try.prog T = (tab T).str := (eq T h).str
theorem ta {T : TypeId} (h : (tab T).ok = true) : mo Try.prog T = (tab T).bool := (eq T h).bool
theorem tY {T : TypeId} (h : (tab T).ok = true) : nl Try.prog T = (tab T).int := (eq T h).int
theorem tZ {T : TypeId} (h : (tab T).ok = true) : pL Try.prog T = (tab T).ptr := (eq T h).ptr
theorem tb {T : TypeId} (h : (tab T).ok = true) : Try.prog.elem T = (tab T).elem := (eq T h).elem
theorem tc {T : TypeId} (h : (tab T).ok = true) : Try.prog.arrayLen T = (tab T).alen := (eq T h).alen
theorem td {T : TypeId} (h : (tab T).ok = true) : Try.prog.intKind T = (tab T).kind := (eq T h).kind
theorem uo {T : TypeId} (h : (tab T).ok = true) : ib Try.prog T = (tab T).fk := (eq T h).fk
theorem te {T : TypeId} (h : (tab T).ok = true) : gH Try.prog T = (tab T).zero := (eq T h).zero
theorem tf {T : TypeId} (h : (tab T).ok = true) : ot Try.prog T = (tab T).flat := (eq T h).flat
theorem t0 {T : TypeId} {i : Nat} (h : (tab T).ok = true) (hi : i < (tab T).fs.length) : iQ Try.prog T i = true := ((eq T h).fld i hi).1
theorem tg {T : TypeId} {i : Nat} (h : (tab T).ok = true) (hi : i < (tab T).fs.length) : fZ Try.prog T i = ((tab T).fs.getD i (0, 0)).1 := ((eq T h).fld i hi).2.1
theorem t3 {T : TypeId} {i : Nat} (h : (tab T).ok = true) (hi : i < (tab T).fs.length) : jM Try.prog T i = ((tab T).fs.getD i (0, 0)).2 := ((eq T h).fld i hi).2.2
def bT := And.intro (And.intro (And.intro (And.intro @si @tU) (And.intro @s9 @sj)) (And.intro (And.intro @tV @un) (And.intro @tW @tX))) (And.intro (And.intro (And.intro @ta @tY) (And.intro @tZ @tb)) (And.intro (And.intro (And.intro @tc @td) (And.intro @uo @te)) (And.intro (And.intro @tf @t0) (And.intro @tg @t3))))
end Pam
