/- The sum of bytes: one byte that is another one changes it. -/
import Derived.Test.YtjmjabdmmlgenaaDoesaFun1
import Derived.Laws.Bits64b
import Derived.Test.YtjmjabdmmlgenaaDoesWide1
set_option linter.all false
namespace Pam
open Go
theorem nu (a b : Nat) (ha : a < 4294967296) (hb : b < 4294967296) : bits .xor .u32 (a : Int) (b : Int) = ((a ^^^ b : Nat) : Int) := by
 have hx : a ^^^ b < 2 ^ 32 := Nat.xor_lt_two_pow (by omega) (by omega)
 have h1 : (BitVec.ofInt 32 (a : Int)).toNat = a := by
  rw [BitVec.ofInt_natCast, BitVec.toNat_ofNat]; exact Nat.mod_eq_of_lt (by omega)
 have h2 : (BitVec.ofInt 32 (b : Int)).toNat = b := by
  rw [BitVec.ofInt_natCast, BitVec.toNat_ofNat]; exact Nat.mod_eq_of_lt (by omega)
 show IntKind.u32.wrap ((BitVec.ofInt 32 (a : Int) ^^^ BitVec.ofInt 32 (b : Int)).toNat : Int) = _
 rw [BitVec.toNat_xor, h1, h2, IntKind.wrap_u32]
 omega
theorem sW (a b : Nat) (ha : a < 4294967296) (hb : b < 4294967296) : bits .and .u32 (a : Int) (b : Int) = ((a &&& b : Nat) : Int) := by
 have hx : a &&& b < 2 ^ 32 := Nat.and_lt_two_pow _ (by omega)
 have h1 : (BitVec.ofInt 32 (a : Int)).toNat = a := by
  rw [BitVec.ofInt_natCast, BitVec.toNat_ofNat]; exact Nat.mod_eq_of_lt (by omega)
 have h2 : (BitVec.ofInt 32 (b : Int)).toNat = b := by
  rw [BitVec.ofInt_natCast, BitVec.toNat_ofNat]; exact Nat.mod_eq_of_lt (by omega)
 show IntKind.u32.wrap ((BitVec.ofInt 32 (a : Int) &&& BitVec.ofInt 32 (b : Int)).toNat : Int) = _
 rw [BitVec.toNat_and, h1, h2, IntKind.wrap_u32]
 omega
def jR (c : Nat) : Nat := c / 2 ^^^ (if c % 2 = 1 then 3988292384 else 0)
theorem rH {c : Nat} (h : c < 4294967296) : jR c < 4294967296 := by
 unfold jR
 have : (c / 2 ^^^ (if c % 2 = 1 then 3988292384 else 0)) < 2 ^ 32 := Nat.xor_lt_two_pow (by omega) (by split <;> omega)
 omega
theorem sy (c : Nat) (h : c < 4294967296) :
  bits .xor .u32 ((c : Int).fdiv (2 ^ (min 1 (IntKind.bits .u32)))) (bits .and .u32 3988292384 (IntKind.wrap .u32 (0 - (bits .and .u32 (c : Int) 1)))) = (jR c : Int) := by
 have e1 : bits .and .u32 (c : Int) 1 = ((c % 2 : Nat) : Int) := by
  have := sW c 1 h (by decide)
  rw [Nat.and_one_is_mod] at this
  exact this
 have e2 : (c : Int).fdiv (2 ^ (min 1 (IntKind.bits .u32))) = ((c / 2 : Nat) : Int) := by
  show (c : Int).fdiv (2 ^ 1) = _
  rw [Int.fdiv_eq_ediv_of_nonneg _ (by decide)]
  omega
 rw [e1, e2]
 by_cases e : c % 2 = 1
 ·have e3 : IntKind.wrap .u32 (0 - ((c % 2 : Nat) : Int)) = ((4294967295 : Nat) : Int) := by rw [e]; decide
  have e4 : bits .and .u32 3988292384 ((4294967295 : Nat) : Int) = ((3988292384 : Nat) : Int) := by decide
  rw [e3, e4, nu _ _ (by omega) (by decide)]
  unfold jR
  rw [iP e]
 ·have e0 : c % 2 = 0 := by omega
  have e3 : IntKind.wrap .u32 (0 - ((c % 2 : Nat) : Int)) = ((0 : Nat) : Int) := by rw [e0]; decide
  have e4 : bits .and .u32 3988292384 ((0 : Nat) : Int) = ((0 : Nat) : Int) := by decide
  rw [e3, e4, nu _ _ (by omega) (by decide)]
  unfold jR
  rw [iN e]
def gi : Nat → Nat → Nat
 | 0, c => c
 | k + 1, c => gi k (jR c)
theorem kb : ∀ (k c : Nat), c < 4294967296 → gi k c < 4294967296
 | 0, _, h => h
 | k + 1, c, h => kb k _ (rH h)
def oS (c : Nat) (x : Nat) : Nat := gi 8 (c ^^^ x)
theorem sA {c x : Nat} (hc : c < 4294967296) (hx : x < 256) : oS c x < 4294967296 := by
 have : c ^^^ x < 2 ^ 32 := Nat.xor_lt_two_pow (by omega) (by omega)
 exact kb _ _ (by omega)
def hQ (c : Nat) (l : List Nat) : Nat := l.foldl oS c
theorem kY : ∀ (l : List Nat) (c : Nat), c < 4294967296 → (∀ x ∈ l, x < 256) → hQ c l < 4294967296
 | [], _, h, _ => h
 | x :: l, c, h, hl => kY l _ (sA h (hl x (by simp))) fun y hy => hl y (by simp [hy])
theorem jS : ∀ (k c : Nat), gi (k + 1) c = jR (gi k c)
 | 0, _ => rfl
 | k + 1, c => jS k (jR c)
def bu (l : List Int) : Prop := ∀ x ∈ l, 0 ≤ x ∧ x < 256
def gK (l : List Int) : List Nat := l.map Int.toNat
theorem lU {l : List Int} (h : bu l) : ∀ x ∈ gK l, x < 256 := by
 intro x hx
 obtain ⟨y, hy, rfl⟩ := List.mem_map.1 hx
 have := h y hy
 omega
def gR (l : List Int) : Int := ((4294967295 ^^^ hQ 4294967295 (gK l) : Nat) : Int)
theorem tp (c : Nat) (h : c < 4294967296) : aU (fun (x : Int × Int) => cn x.1 x.2) ((c : Int), 0) = some ((gi 8 c : Nat) : Int) := by
 have := fK (S := Int × Int) (T := Int) (fun k => (((gi k c : Nat) : Int), (k : Int))) (body := fun x => cn x.1 x.2) 8 ((gi 8 c : Nat) : Int)
  (by
   intro k hk
   show cn ((gi k c : Nat) : Int) (k : Int) = some (.inl (((gi (k + 1) c : Nat) : Int), ((k + 1 : Nat) : Int)))
   unfold cn
   rw [iP (by omega), sy _ (kb k c h), wrs k (by omega), jS])
  (by
   show cn _ 8 = _
   unfold cn
   rw [iN (by omega)])
 exact this
theorem n9 (l : List Int) (hb : bu l) (hl : l.length ≤ 100000000) : eN l = some (gR l) := by
 have hlt : ∀ i, hQ 4294967295 (gK (l.take i)) < 4294967296 := fun i => kY _ _ (by decide) (lU fun x hx => hb x (List.mem_of_mem_take hx))
 have := fK (S := Int × Int) (T := Int) (fun i => (((hQ 4294967295 (gK (l.take i)) : Nat) : Int), (i : Int))) (body := fun x => cI l x.1 x.2) l.length ((hQ 4294967295 (gK l) : Nat) : Int)
  (by
   intro i hi
   have hx := hb _ (gg hi)
   have hc := hlt i
   have e1 : IntKind.wrap .u32 (l.getD i default) = (((l.getD i default).toNat : Nat) : Int) := by rw [IntKind.wrap_u32]; omega
   have e2 : hQ 4294967295 (gK (l.take (i + 1))) = oS (hQ 4294967295 (gK (l.take i))) (l.getD i default).toNat := by
    rw [dl _ hi]
    unfold gK hQ
    rw [List.map_append, List.foldl_append]
    rfl
   have e3 : (hQ 4294967295 (gK (l.take i)) ^^^ (l.getD i default).toNat) < 2 ^ 32 := Nat.xor_lt_two_pow (by omega) (by omega)
   show cI l ((hQ 4294967295 (gK (l.take i)) : Nat) : Int) (i : Int) = some (.inl (((hQ 4294967295 (gK (l.take (i + 1))) : Nat) : Int), ((i + 1 : Nat) : Int)))
   unfold cI
   rw [iP (ltI hi), iP (inI hi)]
   simp only [tN]
   rw [e1, nu _ _ hc (by omega)]
   show (aU (fun (x : Int × Int) => cn x.1 x.2) (((hQ 4294967295 (gK (l.take i)) ^^^ (l.getD i default).toNat : Nat) : Int), 0)).bind _ = _
   rw [tp _ (by omega), e2]
   simp only [bSq]
   unfold ez
   rw [wrs i (by omega)]
   rfl)
  (by
   show cI l _ (l.length : Int) = _
   unfold cI
   rw [iN (dS _), List.take_length])
 unfold eN
 show (aU (fun (x : Int × Int) => cI l x.1 x.2) (4294967295, 0)).bind _ = _
 have h0 : (((hQ 4294967295 (gK (l.take 0)) : Nat) : Int), ((0 : Nat) : Int)) = ((4294967295 : Int), (0 : Int)) := by simp [gK, hQ]
 rw [h0] at this
 rw [this]
 simp only [bSq]
 unfold ey
 have hc := kY (gK l) 4294967295 (by decide) (lU hb)
 have := nu 4294967295 _ (by decide) hc
 show some (bits .xor .u32 (4294967295 : Int) _) = _
 rw [show (4294967295 : Int) = ((4294967295 : Nat) : Int) from rfl, this]
 rfl
def gj (u : Nat) : List Int × Nat := if h : 128 ≤ u then (((u % 128 + 128 : Nat) : Int) :: (gj (u / 128)).1, (gj (u / 128)).2) else ([], u)
termination_by u
decreasing_by all_goals omega
def dK (u : Nat) : List Int := (gj u).1 ++ [((gj u).2 : Int)]
theorem oT {u : Nat} (h : 128 ≤ u) : dK u = ((u % 128 + 128 : Nat) : Int) :: dK (u / 128) := by
 unfold dK
 rw [gj]
 rw [dif_pos h]
 rfl
theorem ju {u : Nat} (h : u < 128) : dK u = [(u : Int)] := by
 unfold dK
 rw [gj, dif_neg (by omega)]
 rfl
theorem iF : ∀ (k u : Nat), u < 2 ^ (7 * k) → 0 < k → (gj u).1.length < k ∧ (gj u).2 < 128
 | 0, _, _, h => by omega
 | k + 1, u, hu, _ => by
  rw [gj]
  by_cases h : 128 ≤ u
  ·rw [dif_pos h]
   by_cases hk : k = 0
   ·subst hk; simp at hu; omega
   ·have hp : 2 ^ (7 * (k + 1)) = 2 ^ (7 * k) * 128 := by rw [Nat.mul_add, Nat.pow_add]
    have h2 : u / 128 < 2 ^ (7 * k) := by rw [hp] at hu; exact Nat.div_lt_of_lt_mul (by rw [Nat.mul_comm]; exact hu)
    obtain ⟨h3, h4⟩ := iF k (u / 128) h2 (by omega)
    exact ⟨by simp only [List.length_cons]; omega, h4⟩
  ·rw [dif_neg h]; exact ⟨by simp, by omega⟩
set_option maxRecDepth 100000 in
theorem um (u : Nat) : bits .or .u8 (IntKind.wrap .u8 (u : Int)) 128 = ((u % 128 + 128 : Nat) : Int) := by
 have h1 : IntKind.wrap .u8 (u : Int) = ((u % 256 : Nat) : Int) := by rw [IntKind.wrap_u8]; omega
 have key : ∀ a : Nat, a < 256 → bits .or .u8 (a : Int) 128 = ((a % 128 + 128 : Nat) : Int) := by decide
 rw [h1, key _ (Nat.mod_lt _ (by decide))]
 congr 1
 omega
theorem hZ (n : Nat) (h : n ≤ 100000000) : fo n 1 := by
 unfold fo
 simp only [maxLen]
 omega
theorem rI : ∀ (k u : Nat) (l : List Int), u < 2 ^ (7 * k) → 0 < k → l.length + k ≤ 90000000 →
  aU (fun (x : List Int × Int) => bB x.1 x.2) (l, (u : Int)) = some (l ++ (gj u).1, ((gj u).2 : Int))
 | 0, _, _, _, h, _ => by omega
 | k + 1, u, l, hu, _, hl => by
  by_cases h : 128 ≤ u
  ·have hk : k ≠ 0 := fun e => by subst e; simp at hu; omega
   have hp : 2 ^ (7 * (k + 1)) = 2 ^ (7 * k) * 128 := by rw [Nat.mul_add, Nat.pow_add]
   have h2 : u / 128 < 2 ^ (7 * k) := by rw [hp] at hu; exact Nat.div_lt_of_lt_mul (by rw [Nat.mul_comm]; exact hu)
   have hs : bB l (u : Int) = some (.inl (l ++ [((u % 128 + 128 : Nat) : Int)], ((u / 128 : Nat) : Int))) := by
    unfold bB
    have e2 : (u : Int).fdiv (2 ^ (min 7 (IntKind.bits .u64))) = ((u / 128 : Nat) : Int) := by
     show (u : Int).fdiv (2 ^ 7) = _
     rw [Int.fdiv_eq_ediv_of_nonneg _ (by decide)]
     omega
    rw [iP (by omega), iP (hZ _ (by omega)), um, e2]
    rfl
   rw [cL (s := (l, (u : Int))) hs, rI k (u / 128) _ h2 (by omega) (by simp; omega)]
   have : gj u = (((u % 128 + 128 : Nat) : Int) :: (gj (u / 128)).1, (gj (u / 128)).2) := by rw [gj, dif_pos h]
   rw [this]
   simp
  ·have : gj u = ([], u) := by rw [gj, dif_neg h]
   rw [this]
   refine aN ?_
   show bB l (u : Int) = _
   unfold bB
   rw [iN (by omega)]
   simp
def zig (n : Int) : Nat := if 0 ≤ n then (2 * n).toNat else (-2 * n - 1).toNat
def okN (n : Int) : Prop := -9223372036854775808 ≤ n ∧ n ≤ 9223372036854775807
theorem mF {n : Int} (h : okN n) : zig n < 18446744073709551616 := by unfold zig; unfold okN at h; split <;> omega
theorem tq {n : Int} (h : okN n) : bits .xor .u64 (IntKind.wrap .u64 ((IntKind.wrap .u64 n) * 2 ^ (min 1 (IntKind.bits .u64)))) (IntKind.wrap .u64 (n.fdiv (2 ^ (min 63 (IntKind.bits .i64))))) = (zig n : Int) := by
 unfold okN at h
 have ef : n.fdiv (2 ^ (min 63 (IntKind.bits .i64))) = n / 9223372036854775808 := by
  show n.fdiv (2 ^ 63) = _
  rw [Int.fdiv_eq_ediv_of_nonneg _ (by decide)]
  rfl
 have em : ((IntKind.wrap .u64 n) * 2 ^ (min 1 (IntKind.bits .u64)) : Int) = IntKind.wrap .u64 n * 2 := rfl
 rw [ef, em]
 unfold zig
 by_cases h0 : 0 ≤ n
 ·rw [iP h0]
  have e1 : IntKind.wrap .u64 (IntKind.wrap .u64 n * 2) = (((2 * n).toNat : Nat) : Int) := by rw [IntKind.wrap_u64, IntKind.wrap_u64]; omega
  have e2 : IntKind.wrap .u64 (n / 9223372036854775808) = ((0 : Nat) : Int) := by rw [IntKind.wrap_u64]; omega
  rw [e1, e2, bits_xor_u64_nat _ _ (by omega) (by decide)]
  simp
 ·rw [iN h0]
  have e1 : IntKind.wrap .u64 (IntKind.wrap .u64 n * 2) = (((18446744073709551616 + 2 * n).toNat : Nat) : Int) := by rw [IntKind.wrap_u64, IntKind.wrap_u64]; omega
  have e2 : IntKind.wrap .u64 (n / 9223372036854775808) = ((18446744073709551615 : Nat) : Int) := by rw [IntKind.wrap_u64]; omega
  rw [e1, e2, bits_xor_u64_nat _ _ (by omega) (by decide)]
  have key : ∀ a : Nat, a < 2 ^ 64 → a ^^^ (2 ^ 64 - 1) = 2 ^ 64 - 1 - a := fun a ha => by
   have h1 := congrArg BitVec.toNat (BitVec.xor_allOnes (x := BitVec.ofNat 64 a))
   rw [BitVec.toNat_xor, BitVec.toNat_allOnes, BitVec.toNat_not, BitVec.toNat_ofNat, Nat.mod_eq_of_lt ha] at h1
   exact h1
  have := key (18446744073709551616 + 2 * n).toNat (by omega)
  rw [show (18446744073709551615 : Nat) = 2 ^ 64 - 1 from rfl, this]
  omega
def aI (l : List Int) : List Int := l.flatMap fun n => dK (zig n)
theorem gI {n : Int} (h : okN n) : (dK (zig n)).length ≤ 10 := by
 have := iF 10 (zig n) (Nat.lt_of_lt_of_le (mF h) (by decide)) (by decide)
 unfold dK
 simp
 omega
theorem dw : ∀ (l : List Int), (∀ n ∈ l, okN n) → (aI l).length ≤ 10 * l.length
 | [], _ => by simp [aI]
 | n :: l, h => by
  have h1 := gI (h n (by simp))
  have h2 := dw l fun m hm => h m (by simp [hm])
  unfold aI at h2 ⊢
  simp only [List.flatMap_cons, List.length_append, List.length_cons]
  omega
theorem kZ (l b : List Int) (hl : ∀ n ∈ l, okN n) (hn : b.length + 10 * l.length ≤ 80000000) : bN l b = some (b ++ aI l) := by
 have := fK (S := List Int × Int) (T := List Int) (fun i => (b ++ aI (l.take i), (i : Int))) (body := fun x => bC l x.1 x.2) l.length (b ++ aI l)
  (by
   intro i hi
   have hx := hl _ (gg hi)
   have hz := mF hx
   have hv := iF 10 (zig (l.getD i default)) (Nat.lt_of_lt_of_le hz (by decide)) (by decide)
   have ht := dw (l.take i) fun n hn => hl n (List.mem_of_mem_take hn)
   have htl : (l.take i).length = i := by simp; omega
   have e1 : aI (l.take (i + 1)) = aI (l.take i) ++ dK (zig (l.getD i default)) := by
    rw [dl _ hi]
    unfold aI
    simp
   show bC l (b ++ aI (l.take i)) (i : Int) = some (.inl (b ++ aI (l.take (i + 1)), ((i + 1 : Nat) : Int)))
   unfold bC
   rw [iP (ltI hi), iP (inI hi)]
   simp only [tN]
   rw [tq hx]
   show (aU (fun (x : List Int × Int) => bB x.1 x.2) (b ++ aI (l.take i), (zig (l.getD i default) : Int))).bind (fun z => ca (i : Int) z.1 z.2) = _
   rw [rI 10 _ _ (Nat.lt_of_lt_of_le hz (by decide)) (by decide) (by simp only [List.length_append]; omega)]
   simp only [bSq]
   unfold ca dE
   have e2 : IntKind.wrap .u8 ((gj (zig (l.getD i default))).2 : Int) = ((gj (zig (l.getD i default))).2 : Int) := by rw [IntKind.wrap_u8]; omega
   rw [iP (hZ _ (by simp only [List.length_append]; omega)), e2, wrs i (by omega), e1]
   unfold dK
   simp [lit])
  (by
   show bC l _ (l.length : Int) = _
   unfold bC
   rw [iN (dS _), List.take_length])
 have h0 : (b ++ aI (l.take 0), ((0 : Nat) : Int)) = (b, (0 : Int)) := by simp [aI]
 rw [h0] at this
 unfold bN
 show (aU (fun (x : List Int × Int) => bC l x.1 x.2) (b, 0)).bind _ = _
 rw [this]
 rfl
set_option maxRecDepth 100000 in
theorem tt : ∀ a : Nat, a < 256 → bits .and .u8 (a : Int) 127 = ((a % 128 : Nat) : Int) := by decide
theorem tu (a b k : Nat) (ha : a < 2 ^ k) (h : a + b * 2 ^ k < 18446744073709551616) : bits .or .u64 (a : Int) ((b * 2 ^ k : Nat) : Int) = ((a + b * 2 ^ k : Nat) : Int) := by
 rw [bits_or_u64_nat _ _ (by omega) (by omega)]
 congr 1
 have h1 := Nat.shiftLeft_add_eq_or_of_lt ha b
 rw [Nat.shiftLeft_eq] at h1
 rw [Nat.or_comm, ← h1, Nat.add_comm]
theorem sB (a x i : Nat) (hx : x < 256) (hi : i ≤ 9) (ha : a < 2 ^ (7 * i)) (h : a + (x % 128) * 2 ^ (7 * i) < 18446744073709551616) :
  bits .or .u64 (a : Int) (IntKind.wrap .u64 ((IntKind.wrap .u64 (bits .and .u8 (x : Int) 127)) * 2 ^ (min ((IntKind.wrap .i64 (7 * (i : Int))).toNat) (IntKind.bits .u64)))) = ((a + (x % 128) * 2 ^ (7 * i) : Nat) : Int) := by
 rw [tt x hx, wr (n := 7 * (i : Int)) (by omega) (by omega)]
 have e1 : (7 * (i : Int)).toNat = 7 * i := by omega
 have e2 : min (7 * i) (IntKind.bits .u64) = 7 * i := Nat.min_eq_left (by show 7 * i ≤ 64; omega)
 have e3 : IntKind.wrap .u64 ((x % 128 : Nat) : Int) = ((x % 128 : Nat) : Int) := by rw [IntKind.wrap_u64]; omega
 rw [e1, e2, e3]
 have e4 : ((x % 128 : Nat) : Int) * 2 ^ (7 * i) = (((x % 128) * 2 ^ (7 * i) : Nat) : Int) := by
  rw [Int.natCast_mul]
  congr 1
 rw [e4]
 have e5 : IntKind.wrap .u64 (((x % 128) * 2 ^ (7 * i) : Nat) : Int) = (((x % 128) * 2 ^ (7 * i) : Nat) : Int) := by rw [IntKind.wrap_u64]; omega
 rw [e5, tu a (x % 128) (7 * i) ha h]
theorem rJ (u : Nat) : 0 < (dK u).length := by unfold dK; simp
theorem rK {n : Int} (h : okN n) : bits .xor .i64 (IntKind.wrap .i64 ((zig n : Int).fdiv (2 ^ (min 1 (IntKind.bits .u64))))) (IntKind.wrap .i64 (0 - (IntKind.wrap .i64 (bits .and .u64 (zig n : Int) 1)))) = n := by
 have hz := mF h
 have e1 : bits .and .u64 (zig n : Int) 1 = ((zig n % 2 : Nat) : Int) := by
  have := bits_and_u64_nat (zig n) 1 hz (by decide)
  rw [Nat.and_one_is_mod] at this
  exact this
 have e2 : (zig n : Int).fdiv (2 ^ (min 1 (IntKind.bits .u64))) = ((zig n / 2 : Nat) : Int) := by
  show (zig n : Int).fdiv (2 ^ 1) = _
  rw [Int.fdiv_eq_ediv_of_nonneg _ (by decide)]
  omega
 have ew : IntKind.wrap .i64 ((zig n % 2 : Nat) : Int) = ((zig n % 2 : Nat) : Int) := wr (by omega) (by omega)
 have ev : IntKind.wrap .i64 ((zig n / 2 : Nat) : Int) = ((zig n / 2 : Nat) : Int) := wr (by omega) (by omega)
 have ex : IntKind.wrap .i64 (0 - ((zig n % 2 : Nat) : Int)) = 0 - ((zig n % 2 : Nat) : Int) := wr (by omega) (by omega)
 rw [e1, e2, ew, ev, ex]
 have ha : zig n / 2 < 2 ^ 64 := by omega
 have h1 : (BitVec.ofInt 64 ((zig n / 2 : Nat) : Int)).toNat = zig n / 2 := by
  rw [BitVec.ofInt_natCast, BitVec.toNat_ofNat]; exact Nat.mod_eq_of_lt ha
 unfold okN at h
 by_cases h0 : 0 ≤ n
 ·have hzn : zig n = (2 * n).toNat := by unfold zig; rw [iP h0]
  have e3 : (0 : Int) - ((zig n % 2 : Nat) : Int) = 0 := by omega
  rw [e3]
  show IntKind.i64.wrap ((BitVec.ofInt 64 ((zig n / 2 : Nat) : Int) ^^^ BitVec.ofInt 64 0).toNat : Int) = n
  have h2 : (BitVec.ofInt 64 (0 : Int)).toNat = 0 := by decide
  rw [BitVec.toNat_xor, h1, h2, Nat.xor_zero, wr (by omega) (by omega)]
  omega
 ·have hzn : zig n = (-2 * n - 1).toNat := by unfold zig; rw [iN h0]
  have e3 : (0 : Int) - ((zig n % 2 : Nat) : Int) = -1 := by omega
  rw [e3]
  show IntKind.i64.wrap ((BitVec.ofInt 64 ((zig n / 2 : Nat) : Int) ^^^ BitVec.ofInt 64 (-1)).toNat : Int) = n
  have h2 : BitVec.ofInt 64 (-1) = BitVec.allOnes 64 := by decide
  rw [h2, BitVec.xor_allOnes, BitVec.toNat_not, h1, IntKind.wrap_i64]
  omega
theorem cK (n : Int) (l : List Int) : aI (n :: l) = dK (zig n) ++ aI l := by unfold aI; simp
theorem lu (l m : List Int) : aI (l ++ m) = aI l ++ aI m := by unfold aI; simp
theorem hR : ∀ l : List Int, l.length ≤ (aI l).length
 | [] => by simp
 | n :: l => by
  have := hR l
  have := rJ (zig n)
  rw [cK]
  simp only [List.length_cons, List.length_append]
  omega
abbrev Rd (α : Type) := (α × List Int) ⊕ (Int × Nat)
def rdV : Nat → List Int → Rd Nat
 | _, [] => .inr (5, 0)
 | i, x :: r =>
  if (i = 9 ∧ x > 1) ∨ (0 < i ∧ x = 0) then .inr (2, r.length + 1)
  else if x < 128 then .inl (x.toNat, r)
  else match rdV (i + 1) r with
   | .inl (v, q) => .inl (x.toNat % 128 + 128 * v, q)
   | .inr z => .inr z
def mG (u : Nat) : Int := if u % 2 = 0 then ((u / 2 : Nat) : Int) else -((u / 2 : Nat) : Int) - 1
theorem nv (u : Nat) : zig (mG u) = u := by unfold zig mG; split <;> split <;> omega
theorem nw {u : Nat} (h : u < 18446744073709551616) : okN (mG u) := by unfold okN mG; split <;> omega
def rdN (l : List Int) : Rd Int := match rdV 0 l with
 | .inl (v, q) => .inl (mG v, q)
 | .inr z => .inr z
theorem la : ∀ (l : List Int) (i v : Nat) (q : List Int), bu l → i ≤ 9 → rdV i l = .inl (v, q) → l = dK v ++ q ∧ (0 < i → 0 < v) ∧ v * 2 ^ (7 * i) < 18446744073709551616
 | [], _, _, _, _, _, h => by simp [rdV] at h
 | x :: r, i, v, q, hb, hi, h => by
  have hx := hb x (by simp)
  rw [rdV] at h
  by_cases c1 : (i = 9 ∧ x > 1) ∨ (0 < i ∧ x = 0)
  ·rw [iP c1] at h; cases h
  rw [iN c1] at h
  by_cases c2 : x < 128
  ·rw [iP c2] at h
   simp only [Sum.inl.injEq, Prod.mk.injEq] at h
   obtain ⟨rfl, rfl⟩ := h
   refine ⟨?_, fun hp => by omega, ?_⟩
   ·rw [ju (by omega)]
    simp only [List.singleton_append, List.cons.injEq, and_true]
    omega
   ·by_cases e9 : i = 9
    ·subst e9
     have e2 : (2 : Nat) ^ (7 * 9) = 9223372036854775808 := by decide
     rw [e2]
     omega
    ·have hp : 2 ^ (7 * i) ≤ 2 ^ (7 * 8) := Nat.pow_le_pow_right (by decide) (by omega)
     have h2 : x.toNat * 2 ^ (7 * i) ≤ 127 * 2 ^ (7 * 8) := Nat.mul_le_mul (by omega) hp
     have e2 : 127 * 2 ^ (7 * 8) < 18446744073709551616 := by decide
     omega
  ·rw [iN c2] at h
   have hi8 : i ≤ 8 := by omega
   cases hr : rdV (i + 1) r with
   | inr z => rw [hr] at h; cases h
   | inl z =>
    obtain ⟨w, q'⟩ := z
    rw [hr] at h
    simp only [Sum.inl.injEq, Prod.mk.injEq] at h
    obtain ⟨rfl, rfl⟩ := h
    obtain ⟨a1, a2, a3⟩ := la r (i + 1) w q' (fun y hy => hb y (by simp [hy])) (by omega) hr
    have hw := a2 (by omega)
    refine ⟨?_, fun _ => by omega, ?_⟩
    ·rw [oT (by omega), a1]
     have e1 : (x.toNat % 128 + 128 * w) / 128 = w := by omega
     have e2 : (x.toNat % 128 + 128 * w) % 128 + 128 = x.toNat := by omega
     rw [e1, e2, List.cons_append]
     congr 1
     omega
    ·have hp : 2 ^ (7 * (i + 1)) = 2 ^ (7 * i) * 128 := by rw [Nat.mul_add, Nat.pow_add]
     by_cases e8 : i = 8
     ·subst e8
      have e2 : (2 : Nat) ^ (7 * (8 + 1)) = 9223372036854775808 := by decide
      have e3 : (2 : Nat) ^ (7 * 8) = 72057594037927936 := by decide
      rw [e2] at a3
      rw [e3]
      have hw2 : w < 2 := Nat.lt_of_mul_lt_mul_right (a := 9223372036854775808) (Nat.lt_of_lt_of_eq a3 (by decide))
      have h7 : (x.toNat % 128 + 128 * w) * 72057594037927936 ≤ 255 * 72057594037927936 := Nat.mul_le_mul_right _ (by omega)
      exact Nat.lt_of_le_of_lt h7 (by decide)
     ·have h1 : (x.toNat % 128 + 128 * w) * 2 ^ (7 * i) = x.toNat % 128 * 2 ^ (7 * i) + w * 2 ^ (7 * (i + 1)) := by
       rw [hp, Nat.add_mul]
       congr 1
       rw [Nat.mul_comm 128 w, Nat.mul_assoc, Nat.mul_comm 128]
      rw [h1]
      have h3 : x.toNat % 128 * 2 ^ (7 * i) < 2 ^ (7 * (i + 1)) := by
       rw [hp, Nat.mul_comm (2 ^ (7 * i))]
       exact Nat.mul_lt_mul_of_pos_right (Nat.mod_lt _ (by decide)) (Nat.pow_pos (by decide))
      have h64 : (18446744073709551616 : Nat) = 2 ^ 64 := by decide
      have h4 : 2 ^ (64 - 7 * (i + 1)) * 2 ^ (7 * (i + 1)) = 2 ^ 64 := by
       rw [← Nat.pow_add, show 64 - 7 * (i + 1) + 7 * (i + 1) = 64 by omega]
      have h5 : w < 2 ^ (64 - 7 * (i + 1)) := Nat.lt_of_mul_lt_mul_right (Nat.lt_of_lt_of_eq a3 (h64.trans h4.symm))
      refine Nat.lt_of_lt_of_eq ?_ (h4.trans h64.symm)
      have h6 : (w + 1) * 2 ^ (7 * (i + 1)) ≤ 2 ^ (64 - 7 * (i + 1)) * 2 ^ (7 * (i + 1)) := Nat.mul_le_mul_right _ h5
      rw [Nat.add_mul, Nat.one_mul] at h6
      omega
theorem fL {l : List Int} {n : Int} {q : List Int} (hb : bu l) (h : rdN l = .inl (n, q)) : okN n ∧ l = dK (zig n) ++ q := by
 unfold rdN at h
 cases hr : rdV 0 l with
 | inr z => rw [hr] at h; cases h
 | inl z =>
  obtain ⟨v, r⟩ := z
  rw [hr] at h
  simp only [Sum.inl.injEq, Prod.mk.injEq] at h
  obtain ⟨rfl, rfl⟩ := h
  obtain ⟨a1, _, a3⟩ := la l 0 v r hb (by omega) hr
  rw [nv]
  exact ⟨nw (by simpa using a3), a1⟩
theorem qa : ∀ (l : List Int) (i v : Nat) (q : List Int), rdV i l = .inl (v, q) → q <:+ l ∧ q.length < l.length
 | [], _, _, _, h => by simp [rdV] at h
 | x :: r, i, v, q, h => by
  rw [rdV] at h
  split at h
  ·cases h
  split at h
  ·simp only [Sum.inl.injEq, Prod.mk.injEq] at h
   obtain ⟨_, rfl⟩ := h
   exact ⟨List.suffix_cons _ _, by simp⟩
  ·cases hr : rdV (i + 1) r with
   | inr z => rw [hr] at h; cases h
   | inl z =>
    obtain ⟨w, q'⟩ := z
    rw [hr] at h
    simp only [Sum.inl.injEq, Prod.mk.injEq] at h
    obtain ⟨_, rfl⟩ := h
    obtain ⟨a1, a2⟩ := qa r (i + 1) w q' hr
    exact ⟨a1.trans (List.suffix_cons _ _), by simp only [List.length_cons]; omega⟩
theorem qb : ∀ (l : List Int) (i k : Nat) (c : Int), rdV i l = .inr (c, k) → k ≤ l.length ∧ (c = 5 ∨ c = 2)
 | [], _, _, _, h => by
  simp only [rdV, Sum.inr.injEq, Prod.mk.injEq] at h
  obtain ⟨rfl, rfl⟩ := h
  exact ⟨Nat.le_refl _, .inl rfl⟩
 | x :: r, i, k, c, h => by
  rw [rdV] at h
  split at h
  ·simp only [Sum.inr.injEq, Prod.mk.injEq] at h
   obtain ⟨rfl, rfl⟩ := h
   exact ⟨by simp, .inr rfl⟩
  split at h
  ·cases h
  ·cases hr : rdV (i + 1) r with
   | inl z => rw [hr] at h; cases h
   | inr z =>
    rw [hr] at h
    simp only [Sum.inr.injEq] at h
    subst h
    obtain ⟨a1, a2⟩ := qb r (i + 1) k c hr
    exact ⟨by simp only [List.length_cons]; omega, a2⟩
theorem bn {l : List Int} {n : Int} {q : List Int} (h : rdN l = .inl (n, q)) : q <:+ l ∧ q.length < l.length := by
 unfold rdN at h
 cases hr : rdV 0 l with
 | inr z => rw [hr] at h; cases h
 | inl z =>
  obtain ⟨v, r⟩ := z
  rw [hr] at h
  simp only [Sum.inl.injEq, Prod.mk.injEq] at h
  obtain ⟨rfl, rfl⟩ := h
  exact qa l 0 v _ hr
def asR {α : Type} (n : Nat) : Rd α → (α × Int) ⊕ (Int × Int)
 | .inl (a, r) => .inl (a, ((n - r.length : Nat) : Int))
 | .inr (c, k) => .inr (c, ((n - k : Nat) : Int))
theorem rL {l b : List Int} (h : l <:+ b) : b.drop (b.length - l.length) = l := (List.suffix_iff_eq_drop.1 h).symm
theorem oU {l b : List Int} {x : Int} {r : List Int} (h : l <:+ b) (hl : l = x :: r) : b.getD (b.length - l.length) default = x := by
 have h1 := rL h
 have h2 : (b.drop (b.length - l.length))[0]? = some x := by rw [h1, hl]; rfl
 rw [List.getElem?_drop, Nat.add_zero] at h2
 simp only [List.getD, h2]
 rfl
theorem oV (b : List Int) (at0 : Int) (hbl : b.length ≤ 100000000) (hb : bu b) : ∀ (l : List Int) (i acc : Nat), l <:+ b → i ≤ 9 → acc < 2 ^ (7 * i) →
  aU (fun (x : Int × Int × Int) => be (aD.mk b at0) x.1 x.2.1 x.2.2) (((b.length - l.length : Nat) : Int), (acc : Int), (i : Int)) =
   some (match rdV i l with
    | .inl (v, q) => .inl (((b.length - q.length : Nat) : Int), ((acc + v * 2 ^ (7 * i) : Nat) : Int))
    | .inr (c, k) => .inr (.inr (c, ((b.length - k : Nat) : Int))))
 | [], i, acc, _, hi, _ => by
  refine aN ?_
  show be (aD.mk b at0) ((b.length - 0 : Nat) : Int) (acc : Int) (i : Int) = _
  unfold be
  rw [iP (by omega), iP (by show ((b.length - 0 : Nat) : Int) ≥ (b.length : Int); omega)]
  rfl
 | x :: r, i, acc, hs, hi, ha => by
  obtain ⟨p, hp⟩ : ∃ p, p = b.length - (x :: r).length := ⟨_, rfl⟩
  have hle := hs.length_le
  simp only [List.length_cons] at hle hp
  have hg : b.getD p default = x := by
   have := oU hs rfl
   simp only [List.length_cons] at this
   rw [hp]; exact this
  have hx := hb x (hs.subset (by simp))
  have hxn : ((x.toNat : Nat) : Int) = x := by omega
  have hw7 : IntKind.wrap .i64 (7 * (i : Int)) = 7 * (i : Int) := wr (by omega) (by omega)
  rw [List.length_cons, ← hp, rdV]
  have h9 : i = 9 → (2 : Nat) ^ (7 * i) = 9223372036854775808 := fun e => by subst e; decide
  have hbound : ¬ ((i = 9 ∧ x > 1) ∨ (0 < i ∧ x = 0)) → acc + (x.toNat % 128) * 2 ^ (7 * i) < 18446744073709551616 := by
   intro c
   by_cases e9 : i = 9
   ·have e2 := h9 e9
    rw [e2] at ha ⊢
    have : x.toNat % 128 ≤ 1 := by omega
    have := Nat.mul_le_mul_right 9223372036854775808 this
    omega
   ·have hpp : 2 ^ (7 * i) ≤ 2 ^ (7 * 8) := Nat.pow_le_pow_right (by decide) (by omega)
    have h2 : x.toNat % 128 * 2 ^ (7 * i) ≤ 127 * 2 ^ (7 * 8) := Nat.mul_le_mul (by omega) hpp
    have e2 : 127 * 2 ^ (7 * 8) + 2 ^ (7 * 8) < 18446744073709551616 := by decide
    omega
  have j2 : ¬ ((i = 9 ∧ x > 1) ∨ (0 < i ∧ x = 0)) → bp (aD.mk b at0) (p : Int) (acc : Int) (i : Int) =
    (if x < 128 then some (.inr (.inl (((p + 1 : Nat) : Int), ((acc + (x.toNat % 128) * 2 ^ (7 * i) : Nat) : Int)))) else some (.inl (((p + 1 : Nat) : Int), ((acc + (x.toNat % 128) * 2 ^ (7 * i) : Nat) : Int), ((i + 1 : Nat) : Int)))) := by
   intro c
   have hin := sB acc x.toNat i (by omega) hi ha (hbound c)
   rw [hxn] at hin
   unfold bp
   rw [iP (by rw [hw7]; omega)]
   simp only [tN, hg]
   rw [wrs p (by omega), wrs i (by omega), hin]
  have hl1 : be (aD.mk b at0) (p : Int) (acc : Int) (i : Int) = (if (i = 9 ∧ x > 1) ∨ (0 < i ∧ x = 0) then some (.inr (.inr (.inr (2, (p : Int))))) else bp (aD.mk b at0) (p : Int) (acc : Int) (i : Int)) := by
   unfold be
   rw [iP (by omega), iN (by simp only; omega), iP (by simp only; omega)]
   simp only [tN, hg]
   by_cases e9 : (i : Int) = 9
   ·rw [iP e9]
    by_cases e1 : x > 1
    ·rw [iP e1, iP (.inl ⟨by omega, e1⟩)]
    ·rw [iN e1, iP (by omega)]
     by_cases e0 : x = 0
     ·rw [iP e0, iP (.inr ⟨by omega, e0⟩)]
     ·rw [iN e0, iN (by omega)]
   ·rw [iN e9]
    by_cases e1 : (i : Int) > 0
    ·rw [iP e1]
     by_cases e0 : x = 0
     ·rw [iP e0, iP (.inr ⟨by omega, e0⟩)]
     ·rw [iN e0, iN (by omega)]
    ·rw [iN e1, iN (by omega)]
  by_cases c1 : (i = 9 ∧ x > 1) ∨ (0 < i ∧ x = 0)
  ·rw [iP c1] at hl1 ⊢
   refine aN ?_
   show be (aD.mk b at0) (p : Int) (acc : Int) (i : Int) = _
   rw [hl1, hp]
  rw [iN c1] at hl1 ⊢
  have hj := j2 c1
  rw [← hl1] at hj
  have hr : r <:+ b := (List.suffix_cons x r).trans hs
  have hpr : p + 1 = b.length - r.length := by omega
  by_cases c2 : x < 128
  ·rw [iP c2] at hj ⊢
   refine aN ?_
   show be (aD.mk b at0) (p : Int) (acc : Int) (i : Int) = _
   rw [hj, hpr, show x.toNat % 128 = x.toNat by omega]
  ·rw [iN c2] at hj ⊢
   have hi8 : i ≤ 8 := by omega
   have hpw : 2 ^ (7 * (i + 1)) = 2 ^ (7 * i) * 128 := by rw [Nat.mul_add, Nat.pow_add]
   have ha2 : acc + x.toNat % 128 * 2 ^ (7 * i) < 2 ^ (7 * (i + 1)) := by
    rw [hpw]
    have h1 : x.toNat % 128 * 2 ^ (7 * i) ≤ 127 * 2 ^ (7 * i) := Nat.mul_le_mul_right _ (by omega)
    omega
   rw [cL (s := ((p : Int), (acc : Int), (i : Int))) hj, hpr, oV b at0 hbl hb r (i + 1) _ hr (by omega) ha2]
   cases rdV (i + 1) r with
   | inr z => rfl
   | inl z =>
    obtain ⟨w, q⟩ := z
    show some (Sum.inl (((b.length - q.length : Nat) : Int), ((acc + x.toNat % 128 * 2 ^ (7 * i) + w * 2 ^ (7 * (i + 1)) : Nat) : Int))) = some (Sum.inl (((b.length - q.length : Nat) : Int), ((acc + (x.toNat % 128 + 128 * w) * 2 ^ (7 * i) : Nat) : Int)))
    have e : acc + x.toNat % 128 * 2 ^ (7 * i) + w * 2 ^ (7 * (i + 1)) = acc + (x.toNat % 128 + 128 * w) * 2 ^ (7 * i) := by
     rw [hpw, Nat.add_mul, Nat.add_assoc]
     congr 2
     rw [Nat.mul_comm 128 w, Nat.mul_assoc, Nat.mul_comm 128]
    rw [e]
theorem fM {b l : List Int} (hbl : b.length ≤ 100000000) (hb : bu b) (hs : l <:+ b) : aV (aD.mk b ((b.length - l.length : Nat) : Int)) = some (asR b.length (rdN l)) := by
 have hlb : bu l := fun x hx => hb x (hs.subset hx)
 have := oV b ((b.length - l.length : Nat) : Int) hbl hb l 0 0 hs (by omega) (by decide)
 have h0 : ((0 : Nat) : Int) = 0 := rfl
 rw [h0] at this
 unfold aV
 show (aU (fun (x : Int × Int × Int) => be (aD.mk b ((b.length - l.length : Nat) : Int)) x.1 x.2.1 x.2.2) (((b.length - l.length : Nat) : Int), 0, 0)).bind _ = _
 rw [this]
 unfold rdN
 cases hr : rdV 0 l with
 | inr z => rfl
 | inl z =>
  obtain ⟨v, q⟩ := z
  obtain ⟨_, _, a3⟩ := la l 0 v q hlb (by omega) hr
  simp only [bSq, Sum.elim_inl, asR]
  unfold cb
  have hu := rK (nw (u := v) (by simpa using a3))
  rw [nv] at hu
  rw [show (0 + v * 2 ^ (7 * 0)) = v by simp, hu]
theorem mH (l b : List Int) (hl : ∀ n ∈ l, okN n) (hn : b.length + 10 * l.length ≤ 70000000) : cH l b = some (b ++ aI ((l.length : Int) :: l)) := by
 have hlen : okN (l.length : Int) := by unfold okN; omega
 have h1 := kZ [(l.length : Int)] b (by intro n hn; simp only [List.mem_singleton] at hn; subst hn; exact hlen) (by simp; omega)
 have hv := gI hlen
 have hb1 : (aI [(l.length : Int)]).length ≤ 10 := by rw [cK]; simpa [aI] using hv
 have := fK (S := List Int × Int) (T := List Int) (fun i => (b ++ aI [(l.length : Int)] ++ aI (l.take i), (i : Int))) (body := fun x => bq l x.1 x.2) l.length (b ++ aI [(l.length : Int)] ++ aI l)
  (by
   intro i hi
   have hx := hl _ (gg hi)
   have ht := dw (l.take i) fun n hn => hl n (List.mem_of_mem_take hn)
   have htl : (l.take i).length = i := by simp; omega
   have et : aI (l.take (i + 1)) = aI (l.take i) ++ aI [l.getD i default] := by rw [dl _ hi, lu]
   show bq l (b ++ aI [(l.length : Int)] ++ aI (l.take i)) (i : Int) = some (.inl (b ++ aI [(l.length : Int)] ++ aI (l.take (i + 1)), ((i + 1 : Nat) : Int)))
   unfold bq
   rw [iP (ltI hi), iP (inI hi)]
   simp only [tN]
   rw [show (lit ([l.getD i default] : List Int)) = [l.getD i default] from rfl, kZ [l.getD i default] _ (by intro n hn; simp only [List.mem_singleton] at hn; subst hn; exact hx) (by simp only [List.length_append, List.length_singleton]; omega)]
   simp only [bSq]
   rw [wrs i (by omega), et, List.append_assoc])
  (by
   show bq l _ (l.length : Int) = _
   unfold bq
   rw [iN (dS _), List.take_length])
 have h0 : (b ++ aI [(l.length : Int)] ++ aI (l.take 0), ((0 : Nat) : Int)) = (b ++ aI [(l.length : Int)], (0 : Int)) := by simp [aI]
 rw [h0] at this
 unfold cH
 rw [show (lit ([(l.length : Int)] : List Int)) = [(l.length : Int)] from rfl, h1]
 simp only [bSq]
 show (aU (fun (x : List Int × Int) => bq l x.1 x.2) (b ++ aI [(l.length : Int)], 0)).bind _ = _
 rw [this, cK]
 simp [aI]
def f6 (x : ax) : List Int := [x.op, x.k, x.r_, x.a, x.b, x.n]
def okM (m : aj) : Prop := (∀ n ∈ [m.cells, m.regs, m.cost], okN n) ∧ (∀ n ∈ m.put, okN n) ∧ (∀ n ∈ m.bools, okN n) ∧ (∀ n ∈ m.get, okN n) ∧ (∀ x ∈ m.code, ∀ n ∈ f6 x, okN n)
def dx (l : List ax) : List Int := l.flatMap fun x => aI (f6 x)
def cN (m : aj) : List Int := [76, 87, 1] ++ aI [m.cells, m.regs, m.cost] ++ aI ((m.put.length : Int) :: m.put) ++ aI ((m.bools.length : Int) :: m.bools) ++ aI ((m.get.length : Int) :: m.get) ++ aI [(m.code.length : Int)] ++ dx m.code
def dM (s : Nat) : List Int := [((s % 256 : Nat) : Int), ((s / 256 % 256 : Nat) : Int), ((s / 65536 % 256 : Nat) : Int), ((s / 16777216 % 256 : Nat) : Int)]
theorem ny : ∀ (k u : Nat), u < 2 ^ (7 * k) → 0 < k → ∀ x ∈ (gj u).1, 0 ≤ x ∧ x < 256
 | 0, _, _, h => by omega
 | k + 1, u, hu, _ => by
  intro x hx
  rw [gj] at hx
  by_cases h : 128 ≤ u
  ·rw [dif_pos h] at hx
   have hk : k ≠ 0 := fun e => by subst e; simp at hu; omega
   have hp : 2 ^ (7 * (k + 1)) = 2 ^ (7 * k) * 128 := by rw [Nat.mul_add, Nat.pow_add]
   have h2 : u / 128 < 2 ^ (7 * k) := by rw [hp] at hu; exact Nat.div_lt_of_lt_mul (by rw [Nat.mul_comm]; exact hu)
   rcases List.mem_cons.1 hx with rfl | hx
   ·omega
   ·exact ny k (u / 128) h2 (by omega) x hx
  ·rw [dif_neg h] at hx; cases hx
theorem qG {n : Int} (h : okN n) : bu (dK (zig n)) := by
 have hz := Nat.lt_of_lt_of_le (mF h) (show 18446744073709551616 ≤ 2 ^ (7 * 10) by decide)
 intro x hx
 unfold dK at hx
 rcases List.mem_append.1 hx with hx | hx
 ·exact ny 10 _ hz (by decide) x hx
 ·have := (iF 10 _ hz (by decide)).2
  simp only [List.mem_singleton] at hx
  omega
theorem iq {l m : List Int} (h : bu l) (h' : bu m) : bu (l ++ m) := fun x hx => by
 rcases List.mem_append.1 hx with hx | hx
 ·exact h x hx
 ·exact h' x hx
theorem gS {l : List Int} (h : ∀ n ∈ l, okN n) : bu (aI l) := fun x hx => by
 unfold aI at hx
 obtain ⟨n, hn, hx⟩ := List.mem_flatMap.1 hx
 exact qG (h n hn) x hx
theorem pE {l : List ax} (h : ∀ x ∈ l, ∀ n ∈ f6 x, okN n) : bu (dx l) := fun x hx => by
 unfold dx at hx
 obtain ⟨y, hy, hx⟩ := List.mem_flatMap.1 hx
 exact gS (h y hy) x hx
theorem lb {l : List Int} (h : ∀ n ∈ l, okN n) (hl : l.length ≤ 100000) : ∀ n ∈ (l.length : Int) :: l, okN n := fun n hn => by
 rcases List.mem_cons.1 hn with rfl | hn
 ·unfold okN; omega
 ·exact h n hn
theorem mI {m : aj} (h : okM m) (h1 : m.put.length ≤ 100000) (h2 : m.bools.length ≤ 100000) (h3 : m.get.length ≤ 100000) (h4 : m.code.length ≤ 100000) : bu (cN m) := by
 obtain ⟨a1, a2, a3, a4, a5⟩ := h
 unfold cN
 refine iq (iq (iq (iq (iq (iq ?_ (gS a1)) (gS (lb a2 h1))) (gS (lb a3 h2))) (gS (lb a4 h3))) (gS ?_)) (pE a5)
 ·intro x hx
  simp only [List.mem_cons, List.not_mem_nil, or_false] at hx
  omega
 ·intro n hn
  simp only [List.mem_singleton] at hn
  unfold okN; omega
theorem rM (l : List Int) : j8 l = eN l := rfl
theorem kc (l : List ax) (h : ∀ x ∈ l, ∀ n ∈ f6 x, okN n) : (dx l).length ≤ 60 * l.length := by
 induction l with
 | nil => simp [dx]
 | cons x l ih =>
  have h1 := dw (f6 x) (h x (by simp))
  have h2 := ih fun y hy => h y (by simp [hy])
  have h3 : (f6 x).length = 6 := rfl
  unfold dx at h2 ⊢
  simp only [List.flatMap_cons, List.length_append, List.length_cons]
  omega
theorem lV {l : List Int} (h : bu l) : 0 ≤ gR l ∧ gR l < 4294967296 := by
 unfold gR
 have h1 := kY (gK l) 4294967295 (by decide) (lU h)
 have h2 : (4294967295 ^^^ hQ 4294967295 (gK l)) < 2 ^ 32 := Nat.xor_lt_two_pow (by decide) (by omega)
 omega
theorem qH (l : List Int) (s : Nat) (hl : l.length ≤ 80000000) : aU (fun (x : List Int × Int × Int) => bI x.1 x.2.1 x.2.2) (l, (s : Int), 0) = some (l ++ dM s) := by
 have step : ∀ (q : List Int) (t k : Nat), q.length ≤ 90000000 → k < 4 → bI q (t : Int) (k : Int) = some (.inl (q ++ [((t % 256 : Nat) : Int)], ((t / 256 : Nat) : Int), ((k + 1 : Nat) : Int))) := by
  intro q t k hq hk
  unfold bI
  have e1 : IntKind.wrap .u8 (t : Int) = ((t % 256 : Nat) : Int) := by rw [IntKind.wrap_u8]; omega
  have e2 : (t : Int).fdiv (2 ^ (min 8 (IntKind.bits .u32))) = ((t / 256 : Nat) : Int) := by
   show (t : Int).fdiv (2 ^ 8) = _
   rw [Int.fdiv_eq_ediv_of_nonneg _ (by decide)]
   omega
  rw [iP (by omega), iP (hZ _ (by omega)), e1, e2, wrs k (by omega)]
  rfl
 have := fK (S := List Int × Int × Int) (T := List Int) (fun k => (l ++ (dM s).take k, ((s / 256 ^ k : Nat) : Int), (k : Int))) (body := fun x => bI x.1 x.2.1 x.2.2) 4 (l ++ dM s)
  (by
   intro k hk
   have hlen : (l ++ (dM s).take k).length ≤ 90000000 := by
    have : ((dM s).take k).length ≤ 4 := by rw [List.length_take]; exact Nat.min_le_right _ _
    rw [List.length_append]; omega
   show bI (l ++ (dM s).take k) ((s / 256 ^ k : Nat) : Int) (k : Int) = _
   rw [step _ _ k hlen hk]
   have e1 : s / 256 ^ k / 256 = s / 256 ^ (k + 1) := by rw [Nat.pow_succ, Nat.div_div_eq_div_mul]
   have e2 : (dM s).take (k + 1) = (dM s).take k ++ [((s / 256 ^ k % 256 : Nat) : Int)] := by
    have : k = 0 ∨ k = 1 ∨ k = 2 ∨ k = 3 := by omega
    rcases this with rfl | rfl | rfl | rfl <;> simp [dM]
   rw [e1, e2, List.append_assoc])
  (by
   show bI _ _ 4 = _
   unfold bI
   rw [iN (by omega)]
   rfl)
 have e0 : (l ++ (dM s).take 0, ((s / 256 ^ 0 : Nat) : Int), ((0 : Nat) : Int)) = (l, (s : Int), (0 : Int)) := by simp
 rw [e0] at this
 exact this
theorem qI (m : aj) (b : List Int) (h : ∀ x ∈ m.code, ∀ n ∈ f6 x, okN n) (hb : b.length ≤ 10000000) (hl : m.code.length ≤ 100000) :
  aU (fun (x : List Int × Int) => bU m x.1 x.2) (b, 0) = some (b ++ dx m.code) := by
 have := fK (S := List Int × Int) (T := List Int) (fun i => (b ++ dx (m.code.take i), (i : Int))) (body := fun x => bU m x.1 x.2) m.code.length (b ++ dx m.code)
  (by
   intro i hi
   have hx := h _ (gg hi)
   have ht := kc (m.code.take i) fun x hx => h x (List.mem_of_mem_take hx)
   have htl : (m.code.take i).length = i := by simp; omega
   have et : dx (m.code.take (i + 1)) = dx (m.code.take i) ++ aI (f6 (m.code.getD i default)) := by
    rw [dl _ hi]; unfold dx; simp
   show bU m (b ++ dx (m.code.take i)) (i : Int) = some (.inl (b ++ dx (m.code.take (i + 1)), ((i + 1 : Nat) : Int)))
   unfold bU
   rw [iP (ltI hi), iP (inI hi)]
   simp only [tN]
   show (bN (f6 (m.code.getD i default)) (b ++ dx (m.code.take i))).bind _ = _
   rw [kZ _ _ hx (by have : (f6 (m.code.getD i default)).length = 6 := rfl; rw [List.length_append, this]; omega)]
   simp only [bSq]
   rw [wrs i (by omega), et, List.append_assoc])
  (by
   show bU m _ (m.code.length : Int) = _
   unfold bU
   rw [iN (dS _), List.take_length])
 have h0 : (b ++ dx (m.code.take 0), ((0 : Nat) : Int)) = (b, (0 : Int)) := by simp [dx]
 rw [h0] at this
 exact this
theorem nA {m : aj} {f : af} (hm : okM m) (h1 : m.put.length ≤ 100000) (h2 : m.bools.length ≤ 100000) (h3 : m.get.length ≤ 100000) (h4 : m.code.length ≤ 100000) (hc : fC m = some f) :
  d7 m = some (if f.code = 0 then (cN m ++ dM (gR (cN m)).toNat, af.mk 0 0) else ([], f)) := by
 have hby := mI hm h1 h2 h3 h4
 obtain ⟨a1, a2, a3, a4, a5⟩ := hm
 unfold d7
 rw [hc]
 simp only [bSq]
 by_cases hf : f.code = 0
 ·rw [iN (not_not_intro hf), iP hf]
  have l1 := dw [m.cells, m.regs, m.cost] a1
  have l2 := dw _ (lb a2 h1)
  have l3 := dw _ (lb a3 h2)
  have l4 := dw _ (lb a4 h3)
  have oc : ∀ n ∈ [(m.code.length : Int)], okN n := by intro n hn; simp only [List.mem_singleton] at hn; unfold okN; omega
  have l5 := dw [(m.code.length : Int)] oc
  have l6 := kc m.code a5
  simp only [List.length_cons, List.length_nil] at l1 l2 l3 l4 l5
  rw [show (lit ([m.cells, m.regs, m.cost] : List Int)) = [m.cells, m.regs, m.cost] from rfl, show (lit ([76, 87, 1] : List Int)) = [76, 87, 1] from rfl, kZ _ _ a1 (by simp)]
  simp only [bSq]
  rw [mH _ _ a2 (by simp only [List.length_append, List.length_cons, List.length_nil]; omega)]
  simp only [bSq]
  rw [mH _ _ a3 (by simp only [List.length_append, List.length_cons, List.length_nil]; omega)]
  simp only [bSq]
  rw [mH _ _ a4 (by simp only [List.length_append, List.length_cons, List.length_nil]; omega)]
  simp only [bSq]
  rw [show (lit ([(m.code.length : Int)] : List Int)) = [(m.code.length : Int)] from rfl, kZ _ _ oc (by simp only [List.length_append, List.length_cons, List.length_nil]; omega)]
  simp only [bSq]
  show (aU (fun (x : List Int × Int) => bU m x.1 x.2) (_, 0)).bind _ = _
  rw [qI m _ a5 (by simp only [List.length_append, List.length_cons, List.length_nil]; omega) h4]
  simp only [bSq]
  show dz (cN m) = _
  have hbl : (cN m).length ≤ 20000000 := by unfold cN; simp only [List.length_append, List.length_cons, List.length_nil]; omega
  unfold dz
  rw [rM, n9 _ hby (by omega)]
  simp only [bSq]
  have hs := lV hby
  show (aU (fun (x : List Int × Int × Int) => bI x.1 x.2.1 x.2.2) (cN m, gR (cN m), 0)).bind _ = _
  have e := qH (cN m) (gR (cN m)).toNat (by omega)
  rw [show (((gR (cN m)).toNat : Nat) : Int) = gR (cN m) by omega] at e
  rw [e]
  rfl
 ·rw [iP hf, iN hf]
theorem mJ : ∀ l : List ax, 6 * l.length ≤ (dx l).length
 | [] => by simp
 | x :: l => by
  have := mJ l
  have h6 := hR (f6 x)
  have h3 : (f6 x).length = 6 := rfl
  unfold dx at this ⊢
  simp only [List.flatMap_cons, List.length_append, List.length_cons]
  omega
def rdB {α β : Type} (m : Rd α) (f : α → List Int → Rd β) : Rd β := match m with | .inl z => f z.1 z.2 | .inr z => .inr z
theorem bK {α β : Type} {m : Rd α} {f : α → List Int → Rd β} {b : β} {q : List Int} (h : rdB m f = .inl (b, q)) : ∃ a p, m = .inl (a, p) ∧ f a p = .inl (b, q) := by
 cases m with
 | inl z => exact ⟨z.1, z.2, rfl, h⟩
 | inr z => cases h
theorem gJ {α β : Type} {n : Nat} {m : Rd α} {g : α × Int → Option ((β × Int) ⊕ (Int × Int))} {f : α → List Int → Rd β}
  (h : ∀ a q, m = .inl (a, q) → g (a, ((n - q.length : Nat) : Int)) = some (asR n (f a q))) :
  Sum.elim g (fun y5 => some (.inr (y5.1, y5.2))) (asR n m) = some (asR n (rdB m f)) := by
 cases m with
 | inl z => exact h z.1 z.2 rfl
 | inr z => rfl
def rdC (k : Nat) (l : List Int) : Rd Int := rdB (rdN l) fun n q => if n < 0 ∨ n > ((q.length / k : Nat) : Int) then .inr (7, l.length) else .inl (n, q)
def rdL : Nat → List Int → Rd (List Int)
 | 0, l => .inl ([], l)
 | n + 1, l => rdB (rdN l) fun x q => rdB (rdL n q) fun xs p => .inl (x :: xs, p)
def ia (l : List Int) : Rd (List Int) := rdB (rdC 1 l) fun n q => rdL n.toNat q
def rdI (l : List Int) : Rd ax := rdB (rdN l) fun op q => rdB (rdN q) fun k q => rdB (rdN q) fun r q => rdB (rdN q) fun a q => rdB (rdN q) fun b q => rdB (rdN q) fun n q => .inl (ax.mk op k r a b n, q)
def rdK : Nat → List Int → Rd (List ax)
 | 0, l => .inl ([], l)
 | n + 1, l => rdB (rdI l) fun x q => rdB (rdK n q) fun xs p => .inl (x :: xs, p)
def rdM (l : List Int) : Rd aj := rdB (rdN l) fun c q => rdB (rdN q) fun r q => rdB (rdN q) fun o q => rdB (ia q) fun p q => rdB (ia q) fun bo q => rdB (ia q) fun g q => rdB (rdC 6 q) fun k q => rdB (rdK k.toNat q) fun co q => .inl (aj.mk c r o p bo g co, q)
theorem oW {k : Nat} {l q : List Int} {n : Int} (hb : bu l) (h : rdC k l = .inl (n, q)) : l = dK (zig n) ++ q ∧ 0 ≤ n ∧ n ≤ ((q.length / k : Nat) : Int) := by
 obtain ⟨a, p, h1, h2⟩ := bK h
 obtain ⟨b1, b2⟩ := fL hb h1
 by_cases c : a < 0 ∨ a > ((p.length / k : Nat) : Int)
 ·rw [iP c] at h2; cases h2
 ·rw [iN c] at h2
  simp only [Sum.inl.injEq, Prod.mk.injEq] at h2
  obtain ⟨rfl, rfl⟩ := h2
  exact ⟨b2, by omega, by omega⟩
theorem bY {l q : List Int} (h : q <:+ l) (hb : bu l) : bu q := fun x hx => hb x (h.subset hx)
theorem oX : ∀ (n : Nat) (l q xs : List Int), bu l → rdL n l = .inl (xs, q) → xs.length = n ∧ (∀ x ∈ xs, okN x) ∧ l = aI xs ++ q
 | 0, l, q, xs, _, h => by
  simp only [rdL, Sum.inl.injEq, Prod.mk.injEq] at h
  obtain ⟨rfl, rfl⟩ := h
  exact ⟨rfl, (fun _ h => by cases h), (by simp [aI])⟩
 | n + 1, l, q, xs, hb, h => by
  obtain ⟨a, p, h1, h2⟩ := bK h
  obtain ⟨ys, p2, h3, h4⟩ := bK h2
  simp only [Sum.inl.injEq, Prod.mk.injEq] at h4
  obtain ⟨rfl, rfl⟩ := h4
  obtain ⟨b1, b2⟩ := fL hb h1
  have hbp : bu p := bY (bn h1).1 hb
  obtain ⟨c1, c2, c3⟩ := oX n p _ _ hbp h3
  refine ⟨by rw [List.length_cons, c1], fun x hx => ?_, ?_⟩
  ·rcases List.mem_cons.1 hx with rfl | hx
   ·exact b1
   ·exact c2 x hx
  ·rw [b2, c3, cK, List.append_assoc]
theorem jT {l q xs : List Int} (hb : bu l) (h : ia l = .inl (xs, q)) : (∀ x ∈ xs, okN x) ∧ l = aI ((xs.length : Int) :: xs) ++ q := by
 obtain ⟨n, p, h1, h2⟩ := bK h
 obtain ⟨b1, b2, _⟩ := oW hb h1
 have hbp : bu p := bY (b1 ▸ List.suffix_append _ _) hb
 obtain ⟨c1, c2, c3⟩ := oX n.toNat p _ _ hbp h2
 refine ⟨c2, ?_⟩
 rw [cK, c1, List.append_assoc, ← c3, show ((n.toNat : Nat) : Int) = n by omega]
 exact b1
theorem rN {l q : List Int} {x : ax} (hb : bu l) (h : rdI l = .inl (x, q)) : (∀ n ∈ f6 x, okN n) ∧ l = aI (f6 x) ++ q := by
 obtain ⟨a1, p1, h1, h⟩ := bK h
 obtain ⟨o1, e1⟩ := fL hb h1
 have hb := bY (bn h1).1 hb
 obtain ⟨a2, p2, h2, h⟩ := bK h
 obtain ⟨o2, e2⟩ := fL hb h2
 have hb := bY (bn h2).1 hb
 obtain ⟨a3, p3, h3, h⟩ := bK h
 obtain ⟨o3, e3⟩ := fL hb h3
 have hb := bY (bn h3).1 hb
 obtain ⟨a4, p4, h4, h⟩ := bK h
 obtain ⟨o4, e4⟩ := fL hb h4
 have hb := bY (bn h4).1 hb
 obtain ⟨a5, p5, h5, h⟩ := bK h
 obtain ⟨o5, e5⟩ := fL hb h5
 have hb := bY (bn h5).1 hb
 obtain ⟨a6, p6, h6, h⟩ := bK h
 obtain ⟨o6, e6⟩ := fL hb h6
 simp only [Sum.inl.injEq, Prod.mk.injEq] at h
 obtain ⟨rfl, rfl⟩ := h
 refine ⟨?_, ?_⟩
 ·intro n hn
  simp only [f6, List.mem_cons, List.not_mem_nil, or_false] at hn
  rcases hn with rfl | rfl | rfl | rfl | rfl | rfl <;> assumption
 ·rw [e1, e2, e3, e4, e5, e6]
  unfold f6
  simp only [cK, List.append_assoc]
  rfl
theorem oY : ∀ (n : Nat) (l q : List Int) (xs : List ax), bu l → rdK n l = .inl (xs, q) → xs.length = n ∧ (∀ x ∈ xs, ∀ n ∈ f6 x, okN n) ∧ l = dx xs ++ q
 | 0, l, q, xs, _, h => by
  simp only [rdK, Sum.inl.injEq, Prod.mk.injEq] at h
  obtain ⟨rfl, rfl⟩ := h
  exact ⟨rfl, (fun _ h => by cases h), (by simp [dx])⟩
 | n + 1, l, q, xs, hb, h => by
  obtain ⟨a, p, h1, h2⟩ := bK h
  obtain ⟨ys, p2, h3, h4⟩ := bK h2
  simp only [Sum.inl.injEq, Prod.mk.injEq] at h4
  obtain ⟨rfl, rfl⟩ := h4
  obtain ⟨b1, b2⟩ := rN hb h1
  have hbp : bu p := bY (b2 ▸ List.suffix_append _ _) hb
  obtain ⟨c1, c2, c3⟩ := oY n p _ _ hbp h3
  refine ⟨by rw [List.length_cons, c1], fun x hx => ?_, ?_⟩
  ·rcases List.mem_cons.1 hx with rfl | hx
   ·exact b1
   ·exact c2 x hx
  ·rw [b2, c3]
   unfold dx
   simp only [List.flatMap_cons, List.append_assoc]
theorem mK {l q : List Int} {m : aj} (hb : bu l) (h : rdM l = .inl (m, q)) : okM m ∧ [76, 87, 1] ++ l = cN m ++ q := by
 obtain ⟨a1, p1, h1, h⟩ := bK h
 obtain ⟨o1, e1⟩ := fL hb h1
 have hb := bY (bn h1).1 hb
 obtain ⟨a2, p2, h2, h⟩ := bK h
 obtain ⟨o2, e2⟩ := fL hb h2
 have hb := bY (bn h2).1 hb
 obtain ⟨a3, p3, h3, h⟩ := bK h
 obtain ⟨o3, e3⟩ := fL hb h3
 have hb := bY (bn h3).1 hb
 obtain ⟨a4, p4, h4, h⟩ := bK h
 obtain ⟨o4, e4⟩ := jT hb h4
 have s4 : p4 <:+ p3 := e4 ▸ List.suffix_append _ _
 have hb := bY s4 hb
 obtain ⟨a5, p5, h5, h⟩ := bK h
 obtain ⟨o5, e5⟩ := jT hb h5
 have s5 : p5 <:+ p4 := e5 ▸ List.suffix_append _ _
 have hb := bY s5 hb
 obtain ⟨a6, p6, h6, h⟩ := bK h
 obtain ⟨o6, e6⟩ := jT hb h6
 have s6 : p6 <:+ p5 := e6 ▸ List.suffix_append _ _
 have hb := bY s6 hb
 obtain ⟨a7, p7, h7, h⟩ := bK h
 obtain ⟨e7, z7, _⟩ := oW hb h7
 have s7 : p7 <:+ p6 := e7 ▸ List.suffix_append _ _
 have hb := bY s7 hb
 obtain ⟨a8, p8, h8, h⟩ := bK h
 obtain ⟨n8, o8, e8⟩ := oY a7.toNat p7 _ _ hb h8
 simp only [Sum.inl.injEq, Prod.mk.injEq] at h
 obtain ⟨rfl, rfl⟩ := h
 refine ⟨⟨?_, o4, o5, o6, o8⟩, ?_⟩
 ·intro n hn
  simp only [List.mem_cons, List.not_mem_nil, or_false] at hn
  rcases hn with rfl | rfl | rfl <;> assumption
 ·unfold cN
  have x1 : aI [a1, a2, a3] = dK (zig a1) ++ (dK (zig a2) ++ (dK (zig a3) ++ [])) := by simp only [cK]; rfl
  have x2 : aI [(a8.length : Int)] = dK (zig (a8.length : Int)) ++ [] := by simp only [cK]; rfl
  show [76, 87, 1] ++ l = [76, 87, 1] ++ aI [a1, a2, a3] ++ aI ((a4.length : Int) :: a4) ++ aI ((a5.length : Int) :: a5) ++ aI ((a6.length : Int) :: a6) ++ aI [(a8.length : Int)] ++ dx a8 ++ p8
  rw [x1, x2, n8, show ((a7.toNat : Nat) : Int) = a7 by omega]
  simp only [List.append_assoc, List.nil_append]
  rw [← e8, ← e7, ← e6, ← e5, ← e4, ← e3, ← e2, ← e1]
theorem mL {b l : List Int} {k : Nat} (hbl : b.length ≤ 100000000) (hb : bu b) (hs : l <:+ b) (hk : 1 ≤ k ∧ k ≤ 1000) : cY (k : Int) (aD.mk b ((b.length - l.length : Nat) : Int)) = some (asR b.length (rdC k l)) := by
 unfold cY
 rw [fM hbl hb hs]
 simp only [bSq]
 refine gJ fun n q hq => ?_
 obtain ⟨s1, _⟩ := bn hq
 have hql := (s1.trans hs).length_le
 have e0 : (b.length : Int) - ((b.length - q.length : Nat) : Int) = (q.length : Int) := by omega
 have et : (q.length : Int).tdiv (k : Int) = ((q.length / k : Nat) : Int) := (Int.ofNat_tdiv _ _).symm
 have hd : q.length / k ≤ q.length := Nat.div_le_self _ _
 obtain ⟨d, hdd⟩ : ∃ d, d = q.length / k := ⟨_, rfl⟩
 rw [← hdd] at et hd ⊢
 simp only
 rw [e0, wr (n := (q.length : Int)) (by omega) (by omega), et, wr (by omega) (by omega)]
 by_cases c1 : n < 0
 ·rw [iP c1, iP (.inl c1)]; rfl
 ·rw [iN c1, iP (by omega)]
  by_cases c2 : n > (d : Int)
  ·rw [iP c2, iP (.inr c2)]; rfl
  ·rw [iN c2, iN (by omega)]; rfl
theorem lc {k : Nat} {l q : List Int} {n : Int} (h : rdC k l = .inl (n, q)) : q <:+ l ∧ 0 ≤ n ∧ n ≤ ((q.length / k : Nat) : Int) := by
 obtain ⟨a, p, h1, h2⟩ := bK h
 by_cases c : a < 0 ∨ a > ((p.length / k : Nat) : Int)
 ·rw [iP c] at h2; cases h2
 ·rw [iN c] at h2
  simp only [Sum.inl.injEq, Prod.mk.injEq] at h2
  obtain ⟨rfl, rfl⟩ := h2
  exact ⟨(bn h1).1, by omega, by omega⟩
theorem qc : ∀ (n : Nat) {l q xs : List Int}, rdL n l = .inl (xs, q) → q <:+ l
 | 0, l, q, xs, h => by
  simp only [rdL, Sum.inl.injEq, Prod.mk.injEq] at h
  exact h.2 ▸ List.suffix_refl _
 | n + 1, l, q, xs, h => by
  obtain ⟨a, p, h1, h2⟩ := bK h
  obtain ⟨ys, p2, h3, h4⟩ := bK h2
  simp only [Sum.inl.injEq, Prod.mk.injEq] at h4
  obtain ⟨rfl, rfl⟩ := h4
  exact (qc n h3).trans (bn h1).1
theorem gT {l q xs : List Int} (h : ia l = .inl (xs, q)) : q <:+ l := by
 obtain ⟨n, p, h1, h2⟩ := bK h
 exact (qc _ h2).trans (lc h1).1
theorem mM {b : List Int} {q0 : aD} {y : Int × Int} (hq : q0.b = b) (hbl : b.length ≤ 100000000) (hb : bu b) (hy : y.1 ≤ 100000000) : ∀ (n : Nat) (l acc : List Int) (i : Nat), (i : Int) + (n : Int) = y.1 → acc.length = i → l <:+ b →
  aU (fun (x : Int × List Int × Int) => br q0 y x.1 x.2.1 x.2.2) (((b.length - l.length : Nat) : Int), acc, (i : Int)) =
   some (match rdL n l with
    | .inl (xs, q) => .inl (((b.length - q.length : Nat) : Int), acc ++ xs)
    | .inr (c, k) => .inr (.inr (c, ((b.length - k : Nat) : Int))))
 | 0, l, acc, i, hi, ha, hs => by
  refine aN ?_
  show br q0 y _ acc (i : Int) = _
  unfold br
  rw [iN (by omega)]
  simp [rdL]
 | n + 1, l, acc, i, hi, ha, hs => by
  have hrm : fo (acc.length + 1) 8 := by
   unfold fo
   have : maxLen = 9223372036854775807 := rfl
   omega
  have hstep : br q0 y ((b.length - l.length : Nat) : Int) acc (i : Int) = (match rdN l with
    | .inl (x, q) => some (.inl (((b.length - q.length : Nat) : Int), acc ++ [x], ((i + 1 : Nat) : Int)))
    | .inr (c, k) => some (.inr (.inr (.inr (c, ((b.length - k : Nat) : Int)))))) := by
   unfold br
   rw [iP (by omega), hq, fM hbl hb hs]
   simp only [bSq]
   cases rdN l with
   | inr z => rfl
   | inl z =>
    simp only [asR, Sum.elim_inl]
    rw [iP hrm, wrs i (by omega)]
    rfl
  cases hr : rdN l with
  | inr z =>
   rw [hr] at hstep
   refine (aN hstep).trans ?_
   simp only [rdL, hr, rdB]
  | inl z =>
   obtain ⟨x, q⟩ := z
   rw [hr] at hstep
   rw [cL (s := (((b.length - l.length : Nat) : Int), acc, (i : Int))) hstep]
   rw [mM hq hbl hb hy n q (acc ++ [x]) (i + 1) (by omega) (by simp [ha]) ((bn hr).1.trans hs)]
   simp only [rdL, hr, rdB]
   cases rdL n q with
   | inr z => rfl
   | inl z => simp
theorem lv {b l : List Int} (hbl : b.length ≤ 100000000) (hb : bu b) (hs : l <:+ b) : cJ (aD.mk b ((b.length - l.length : Nat) : Int)) = some (asR b.length (ia l)) := by
 unfold cJ
 rw [show (1 : Int) = ((1 : Nat) : Int) from rfl, mL hbl hb hs (by omega)]
 simp only [bSq]
 refine gJ fun n q hq => ?_
 obtain ⟨s1, s2, s3⟩ := lc hq
 have hql := (s1.trans hs).length_le
 have hd : q.length / 1 ≤ q.length := Nat.div_le_self _ _
 have := mM (q0 := aD.mk b ((b.length - l.length : Nat) : Int)) (y := (n, ((b.length - q.length : Nat) : Int))) rfl hbl hb (by simp only; omega) n.toNat q [] 0 (by simp only; omega) rfl (s1.trans hs)
 have h0 : ((0 : Nat) : Int) = 0 := rfl
 rw [h0] at this
 show (aU (fun (x : Int × List Int × Int) => br (aD.mk b ((b.length - l.length : Nat) : Int)) (n, ((b.length - q.length : Nat) : Int)) x.1 x.2.1 x.2.2) (((b.length - q.length : Nat) : Int), [], 0)).bind _ = _
 rw [this]
 cases rdL n.toNat q with
 | inr z => rfl
 | inl z => rfl
theorem uD (a b : Nat) (ha : a < 4294967296) (hb : b < 4294967296) : bits .or .u32 (a : Int) (b : Int) = ((a ||| b : Nat) : Int) := by
 have hx : a ||| b < 2 ^ 32 := Nat.or_lt_two_pow (by omega) (by omega)
 have h1 : (BitVec.ofInt 32 (a : Int)).toNat = a := by
  rw [BitVec.ofInt_natCast, BitVec.toNat_ofNat]; exact Nat.mod_eq_of_lt (by omega)
 have h2 : (BitVec.ofInt 32 (b : Int)).toNat = b := by
  rw [BitVec.ofInt_natCast, BitVec.toNat_ofNat]; exact Nat.mod_eq_of_lt (by omega)
 show IntKind.u32.wrap ((BitVec.ofInt 32 (a : Int) ||| BitVec.ofInt 32 (b : Int)).toNat : Int) = _
 rw [BitVec.toNat_or, h1, h2, IntKind.wrap_u32]
 omega
theorem mN (a b k : Nat) (ha : a < 2 ^ k) (h : a + b * 2 ^ k < 4294967296) : bits .or .u32 (a : Int) ((b * 2 ^ k : Nat) : Int) = ((a + b * 2 ^ k : Nat) : Int) := by
 rw [uD _ _ (by omega) (by omega)]
 congr 1
 have h1 := Nat.shiftLeft_add_eq_or_of_lt ha b
 rw [Nat.shiftLeft_eq] at h1
 rw [Nat.or_comm, ← h1, Nat.add_comm]
theorem rO (x k : Nat) (hx : x < 256) (hk : k ≤ 24) : IntKind.wrap .u32 ((IntKind.wrap .u32 (x : Int)) * 2 ^ (min k (IntKind.bits .u32))) = ((x * 2 ^ k : Nat) : Int) := by
 have e1 : min k (IntKind.bits .u32) = k := Nat.min_eq_left (by show k ≤ 32; omega)
 have e2 : IntKind.wrap .u32 (x : Int) = (x : Int) := by rw [IntKind.wrap_u32]; omega
 rw [e1, e2]
 have e4 : (x : Int) * 2 ^ k = ((x * 2 ^ k : Nat) : Int) := by rw [Int.natCast_mul]; congr 1
 have hp : 2 ^ k ≤ 2 ^ 24 := Nat.pow_le_pow_right (by decide) hk
 have hle : x * 2 ^ k ≤ 255 * 2 ^ 24 := Nat.mul_le_mul (by omega) hp
 rw [e4, IntKind.wrap_u32]
 omega
def od (a b c d : Nat) : Nat := a + b * 2 ^ 8 + c * 2 ^ 16 + d * 2 ^ 24
theorem sC (a b c d : Nat) (ha : a < 256) (hb : b < 256) (hc : c < 256) (hd : d < 256) :
  bits .or .u32 (bits .or .u32 (bits .or .u32 (IntKind.wrap .u32 (a : Int)) (IntKind.wrap .u32 ((IntKind.wrap .u32 (b : Int)) * 2 ^ (min 8 (IntKind.bits .u32))))) (IntKind.wrap .u32 ((IntKind.wrap .u32 (c : Int)) * 2 ^ (min 16 (IntKind.bits .u32)))))
   (IntKind.wrap .u32 ((IntKind.wrap .u32 (d : Int)) * 2 ^ (min 24 (IntKind.bits .u32)))) = (od a b c d : Int) := by
 have e0 : IntKind.wrap .u32 (a : Int) = (a : Int) := by rw [IntKind.wrap_u32]; omega
 rw [e0, rO b 8 hb (by decide), rO c 16 hc (by decide), rO d 24 hd (by decide), mN a b 8 (by omega) (by omega), mN _ c 16 (by omega) (by omega), mN _ d 24 (by omega) (by omega)]
 rfl
theorem rP {a b c d a' b' c' d' : Nat} (ha : a < 256) (hb : b < 256) (hc : c < 256) (hd : d < 256) (ha' : a' < 256) (hb' : b' < 256) (hc' : c' < 256) (hd' : d' < 256) (h : od a b c d = od a' b' c' d') : a = a' ∧ b = b' ∧ c = c' ∧ d = d' := by
 unfold od at h; omega
theorem nC {s : Nat} (h : s < 4294967296) : od (s % 256) (s / 256 % 256) (s / 65536 % 256) (s / 16777216 % 256) = s := by
 unfold od; omega
theorem qJ {l : List Int} {n : Nat} (hl : l.length = n + 4) (hn : 3 ≤ n) (hbig : n ≤ 90000000) (hb : bu l) :
    eU l = (if iA (l.take 3) = [76, 87, 1] then
      (if ¬ gR (l.take n) = (od (l.getD n default).toNat (l.getD (n + 1) default).toNat (l.getD (n + 2) default).toNat (l.getD (n + 3) default).toNat : Int) then some (aj.mk 0 0 0 [] [] [] [], af.mk 19 (n : Int))
       else (cZ (aD.mk (l.take n) 3)).bind fun y2 => Sum.elim (fun y5 => if y5.2 < (n : Int) then (some ((aj.mk 0 0 0 [] [] [] []), (af.mk 4 y5.2))) else ((fC (y5.1)).bind fun y7 => if ¬ ((y7).code) = 0 then (some ((aj.mk 0 0 0 [] [] [] []), (af.mk 18 (n : Int)))) else (some ((y5.1), (af.mk 0 0)))))
        (fun y6 => some ((aj.mk 0 0 0 [] [] [] []), (af.mk y6.1 y6.2))) y2)
      else some (aj.mk 0 0 0 [] [] [] [], af.mk 4 0)) := by
  have w0 : IntKind.wrap .i64 ((l.length : Int) - 4) = (n : Int) := by rw [wr (by omega) (by omega)]; omega
  have w1 : IntKind.wrap .i64 ((n : Int) + 1) = ((n + 1 : Nat) : Int) := by rw [wr (by omega) (by omega)]; omega
  have w2 : IntKind.wrap .i64 ((n : Int) + 2) = ((n + 2 : Nat) : Int) := by rw [wr (by omega) (by omega)]; omega
  have w3 : IntKind.wrap .i64 ((n : Int) + 3) = ((n + 3 : Nat) : Int) := by rw [wr (by omega) (by omega)]; omega
  have bt : ∀ k, k < l.length → ((l.getD k default).toNat : Int) = l.getD k default ∧ (l.getD k default).toNat < 256 := fun k hk => by
    have := hb _ (gg hk); omega
  obtain ⟨a1, a2⟩ := bt n (by omega)
  obtain ⟨b1, b2⟩ := bt (n + 1) (by omega)
  obtain ⟨c1, c2⟩ := bt (n + 2) (by omega)
  obtain ⟨d1, d2⟩ := bt (n + 3) (by omega)
  have hv := sC _ _ _ _ a2 b2 c2 d2
  rw [a1, b1, c1, d1] at hv
  unfold eU
  rw [w0, w1, w2, w3]
  rw [iN (by omega), iP (by omega)]
  simp only [tN]
  rw [hv]
  by_cases hs : iA (l.take 3) = [76, 87, 1]
  · rw [iP hs, iP hs, iP (by refine ⟨?_, ?_, ?_, ?_⟩ <;> omega), iP (by omega), n9 _ (fun x hx => hb x (List.mem_of_mem_take hx)) (by simp; omega)]
    rfl
  · rw [iN hs, iN hs]
def sD (m : aj) : List Int := cN m ++ dM (gR (cN m)).toNat
theorem qK (s : Nat) : (dM s).length = 4 := rfl
theorem pF (m : aj) : ∃ r, cN m = [76, 87, 1] ++ r := by unfold cN; simp only [List.append_assoc]; exact ⟨_, rfl⟩
theorem oZ (m : aj) : 3 ≤ (cN m).length := by obtain ⟨r, h⟩ := pF m; rw [h]; simp
end Pam
namespace Pam
open Go
def fN (regs r : Int) : Bool := decide (0 ≤ r ∧ r < regs)
theorem rQ (l : List Int) (j : ck) (hl : l.length ≤ 9000000) :
  cm l j = some (match lq l.length (fun i => if fN j.m_.regs (l.getD i default) then none else some (i : Int)) () with | .inr i => i | .inl _ => -1) := by
 unfold cm
 rw [eI l.length (fun i => if fN j.m_.regs (l.getD i default) then none else some (i : Int)) ()]
 ·rcases eW l.length (fun i => if fN j.m_.regs (l.getD i default) then none else some (i : Int)) () with ⟨h, _⟩ | ⟨i, z, _, _, h⟩
  ·rw [h]; rfl
  ·rw [h]; rfl
 ·intro i hi
  unfold bP
  rw [iP (ltI hi), iP (inI hi), tN, wrs i (by omega)]
  unfold fT
  by_cases h1 : l.getD i default < 0
  ·rw [iP h1]; simp only [bSq, if_true]; rw [iN (by simp only [fN, decide_eq_true_eq]; omega)]
  ·rw [iN h1]; simp only [bSq]
   by_cases h2 : l.getD i default ≥ j.m_.regs
   ·rw [iP (dT h2), iN (by simp only [fN, decide_eq_true_eq]; omega)]
   ·rw [iN (by simp only [decide_eq_true_eq]; exact h2), iP (by simp only [fN, decide_eq_true_eq]; omega)]
 ·unfold bP
  rw [iN (dS _)]
theorem tv (j : ck) (l : List Int) (hl : l.length ≤ 9000000) : bD j l = some (l.all (fN j.m_.regs)) := by
 unfold bD cD
 rw [rQ l j hl, oR]
 rcases eW l.length (fun i => if fN j.m_.regs (l.getD i default) then none else some (i : Int)) () with ⟨h, h'⟩ | ⟨i, z, hi, hf, h⟩
 ·rw [h]
  have : ∀ i, i < l.length → fN j.m_.regs (l.getD i default) = true := fun i hi => by have := h' i hi; simpa using this
  rw [dT this]; rfl
 ·rw [h]
  have hn : ¬ ∀ i, i < l.length → fN j.m_.regs (l.getD i default) = true := fun k => by rw [iP (k i hi)] at hf; cases hf
  rw [dF hn]
  have : z = i := by split at hf <;> simp_all
  subst this
  simp
theorem qL (m : aj) (l : List Int) (hl : l.length ≤ 9000000) : c9 m l = some (l.all (fN m.regs)) := by
 unfold c9
 rw [eI l.length (fun i => if fN m.regs (l.getD i default) then none else some false) ()]
 ·rw [oR]
  rcases eW l.length (fun i => if fN m.regs (l.getD i default) then none else some false) () with ⟨h, h'⟩ | ⟨i, z, hi, hf, h⟩
  ·rw [h]
   have : ∀ i, i < l.length → fN m.regs (l.getD i default) = true := fun i hi => by have := h' i hi; simpa using this
   rw [dT this]; rfl
  ·rw [h]
   have hn : ¬ ∀ i, i < l.length → fN m.regs (l.getD i default) = true := fun k => by rw [iP (k i hi)] at hf; cases hf
   rw [dF hn]
   have : z = false := by split at hf <;> simp_all
   subst this; rfl
 ·intro i hi
  unfold gf
  rw [iP (ltI hi), iP (inI hi), tN, wrs i (by omega)]
  by_cases h1 : l.getD i default < 0
  ·rw [iP h1, iN (by simp only [fN, decide_eq_true_eq]; omega)]
  ·rw [iN h1]
   by_cases h2 : l.getD i default ≥ m.regs
   ·rw [iP h2, iN (by simp only [fN, decide_eq_true_eq]; omega)]
   ·rw [iN h2, iP (by simp only [fN, decide_eq_true_eq]; omega)]
 ·unfold gf
  rw [iN (dS _)]
def ik (cells a n : Int) : Bool := decide (1 ≤ n ∧ n ≤ cells ∧ 0 ≤ a ∧ a ≤ cells - n)
theorem rR (j : ck) (a n : Int) (h1 : 1 ≤ j.m_.cells) (h2 : j.m_.cells ≤ 6000) : cV j a n = some (ik j.m_.cells a n) := by
 unfold cV ik
 by_cases a1 : n ≥ 1
 ·rw [iP a1]
  by_cases a2 : n ≤ j.m_.cells
  ·rw [iP a2, wr (by omega) (by omega)]
   by_cases a3 : a ≥ 0
   ·rw [iP a3]; congr 1; rw [Bool.eq_iff_iff]; simp only [decide_eq_true_eq]; omega
   ·rw [iN a3]; congr 1; symm; rw [decide_eq_false_iff_not]; omega
  ·rw [iN a2]; congr 1; symm; rw [decide_eq_false_iff_not]; omega
 ·rw [iN a1]; congr 1; symm; rw [decide_eq_false_iff_not]; omega
def mO (k : Int) : Int := if 1 ≤ k ∧ k ≤ 12 then 2 else if k = 13 ∨ k = 14 then 1 else 0
theorem un (k : Int) : ∃ a b, jP k = some (a, b, mO k) := by
 unfold jP mO
 repeat' split
 all_goals first
  | exact ⟨_, _, rfl⟩
  | (exfalso; omega)
theorem sE (k : Int) : ∃ a b, jQ k = some (a, b, mO k) := by
 unfold jQ
 by_cases h1 : k < 1
 ·rw [iP h1]; exact ⟨0, 0, by unfold mO; rw [iN (by omega), iN (by omega)]⟩
 ·rw [iN h1]
  by_cases h2 : k > 14
  ·rw [iP h2]; exact ⟨0, 0, by unfold mO; rw [iN (by omega), iN (by omega)]⟩
  ·rw [iN h2]
   have hg : (0 ≤ k ∧ k < (([63, 105, 105, 105, 105, 105, 105, 105, 105, 105, 98, 98, 98, 105, 98] : List UInt8).length : Int)) ∧ (0 ≤ k ∧ k < (([63, 105, 105, 105, 105, 105, 105, 105, 98, 98, 98, 98, 98, 105, 98] : List UInt8).length : Int)) := by
    simp only [List.length_cons, List.length_nil]; omega
   by_cases h3 : k ≥ 13
   ·rw [iP h3]; unfold fF; rw [iP hg]; exact ⟨_, _, by unfold mO; rw [iN (by omega), iP (by omega)]⟩
   ·rw [iN h3]; unfold fF; rw [iP hg]; exact ⟨_, _, by unfold mO; rw [iP (by omega)]⟩
theorem sF (m : aj) (x : ax) (h1 : 1 ≤ m.cells) (h2 : m.cells ≤ 6000) : ∃ b, dy (ck.mk m) x = some b ∧ io m x = some b := by
 obtain ⟨a, b, e1⟩ := un x.k
 obtain ⟨a', b', e2⟩ := sE x.k
 have r1 : ∀ l : List Int, l.length ≤ 9000000 → bD (ck.mk m) l = some (l.all (fN m.regs)) := fun l hl => tv _ l hl
 have r2 : ∀ l : List Int, l.length ≤ 9000000 → c9 m l = some (l.all (fN m.regs)) := fun l hl => qL _ l hl
 have c1 : ∀ a n, cV (ck.mk m) a n = some (ik m.cells a n) := fun a n => rR _ a n h1 h2
 unfold dy io
 rw [e1, e2]
 simp only [bSq]
 unfold cX fV cW fU
 have q1 := r1 (lit [x.r_]) (by simp [lit])
 have q2 := r1 (lit [x.r_, x.a]) (by simp [lit])
 have q3 := r1 (lit [x.r_, x.a, x.b]) (by simp [lit])
 have p1 := r2 (lit [x.r_]) (by simp [lit])
 have p2 := r2 (lit [x.r_, x.a]) (by simp [lit])
 have p3 := r2 (lit [x.r_, x.a, x.b]) (by simp [lit])
 rw [q1, q2, q3, p1, p2, p3]
 simp only [bSq, c1]
 generalize (lit [x.r_]).all (fN m.regs) = g1
 generalize (lit [x.r_, x.a]).all (fN m.regs) = g2
 generalize (lit [x.r_, x.a, x.b]).all (fN m.regs) = g3
 have k1 : (if x.n ≥ 0 then some (decide (x.n < m.cells)) else some false) = some (ik m.cells x.n 1) := by
  unfold ik
  split
  ·congr 1; rw [Bool.eq_iff_iff]; simp only [decide_eq_true_eq]; omega
  ·congr 1; symm; rw [decide_eq_false_iff_not]; omega
 have k2 : (if x.n ≥ 0 then if x.n < m.cells then if x.b ≥ 1 then some (decide (x.b ≤ IntKind.wrap .i64 (m.cells - x.n))) else some false else some false else some false) = some (ik m.cells x.n x.b) := by
  unfold ik
  split
  ·split
   ·split
    ·rw [wr (by omega) (by omega)]; congr 1; rw [Bool.eq_iff_iff]; simp only [decide_eq_true_eq]; omega
    ·congr 1; symm; rw [decide_eq_false_iff_not]; omega
   ·congr 1; symm; rw [decide_eq_false_iff_not]; omega
  ·congr 1; symm; rw [decide_eq_false_iff_not]; omega
 rw [k1, k2]
 generalize ik m.cells x.n 1 = g4
 generalize ik m.cells x.n x.b = g5
 have key : ∀ X : Option Bool, X.isSome = true → ∃ b, X = some b ∧ X = some b := fun X h => by
  obtain ⟨b, hb⟩ := Option.isSome_iff_exists.1 h
  exact ⟨b, hb, hb⟩
 refine key _ ?_
 simp only [apply_ite Option.isSome, Option.isSome_some, ite_self]
def fO (n times one : Int) : List ax → Int
 | [] => if one > 0 then 0 else n
 | x :: l =>
  if x.op = 10 then (if times > 1 ∨ one > 0 ∨ x.n < 1 ∨ x.n > 300 then 0 else fO (n + times) x.n 1 l)
  else if x.op = 11 then (if one = 0 then 0 else fO (n + times) 1 0 l)
  else fO (n + times) times one l
theorem nD (l : List ax) (hl : l.length ≤ 9000000) : ∀ (k i : Nat) (n times one : Int), i + k = l.length → 0 ≤ n → n ≤ 300 * i → 1 ≤ times → times ≤ 300 →
  (aU (fun (x11, x12, x13, x14) => eT l x11 x12 x13 x14) (n, times, one, (i : Int))).bind (Sum.elim (fun (z15, z16) => eR z15 z16) (fun z17 => some z17)) = some (fO n times one (l.drop i))
 | 0, i, n, times, one, hi, _, _, _, _ => by
  have hi : i = l.length := by omega
  subst hi
  rw [aN (o := .inl (n, one)) (by simp only [eT]; rw [iN (dS _)]), List.drop_length]
  simp only [bSq, Sum.elim_inl, eR, fO]
  split <;> rfl
 | k + 1, i, n, times, one, hi, h1, h2, h3, h4 => by
  have hlt : i < l.length := by omega
  rw [lj l i hlt]
  have hw : IntKind.wrap .i64 (n + times) = n + times := wr (by omega) (by omega)
  have hb : eT l n times one i = (if (l.getD i default).op = 10 then (if times > 1 ∨ one > 0 ∨ (l.getD i default).n < 1 ∨ (l.getD i default).n > 300 then some (.inr (.inr 0)) else some (.inl (n + times, (l.getD i default).n, 1, ((i + 1 : Nat) : Int))))
    else if (l.getD i default).op = 11 then (if one = 0 then some (.inr (.inr 0)) else some (.inl (n + times, 1, 0, ((i + 1 : Nat) : Int)))) else some (.inl (n + times, times, one, ((i + 1 : Nat) : Int)))) := by
   unfold eT
   rw [iP (ltI hlt), iP (inI hlt), tN, hw, wrs i (by omega)]
   by_cases a1 : (l.getD i default).op = 10
   ·rw [iP a1, iP a1]
    by_cases b1 : times > 1
    ·rw [iP b1, iP (.inl b1)]
    ·rw [iN b1]
     by_cases b2 : one > 0
     ·rw [iP b2, iP (.inr (.inl b2))]
     ·rw [iN b2]
      by_cases b3 : (l.getD i default).n < 1
      ·rw [iP b3, iP (.inr (.inr (.inl b3)))]
      ·rw [iN b3]
       by_cases b4 : (l.getD i default).n > 300
       ·rw [iP b4, iP (.inr (.inr (.inr b4)))]
       ·rw [iN b4, iN (by omega)]
   ·rw [iN a1, iN a1]
  generalize l.getD i default = x at hb ⊢
  have ih := fun n' t' o' h1 h2 h3 h4 => nD l hl k (i + 1) n' t' o' (by omega) h1 h2 h3 h4
  simp only [fO]
  by_cases a1 : x.op = 10
  ·rw [iP a1] at hb ⊢
   by_cases b1 : times > 1 ∨ one > 0 ∨ x.n < 1 ∨ x.n > 300
   ·rw [iP b1] at hb ⊢; rw [aN (by simpa using hb)]; rfl
   ·rw [iN b1] at hb ⊢; rw [cL (by simpa using hb)]; exact ih _ _ _ (by omega) (by omega) (by omega) (by omega)
  ·rw [iN a1] at hb ⊢
   by_cases a2 : x.op = 11
   ·rw [iP a2] at hb ⊢
    by_cases b1 : one = 0
    ·rw [iP b1] at hb ⊢; rw [aN (by simpa using hb)]; rfl
    ·rw [iN b1] at hb ⊢; rw [cL (by simpa using hb)]; exact ih _ _ _ (by omega) (by omega) (by omega) (by omega)
   ·rw [iN a2] at hb ⊢; rw [cL (by simpa using hb)]; exact ih _ _ _ (by omega) (by omega) (by omega) (by omega)
theorem sG (l : List ax) (hl : l.length ≤ 9000000) : ja l = some (fO 0 1 0 l) := by
 have := nD l hl l.length 0 0 1 0 (by omega) (by omega) (by omega) (by omega) (by omega)
 unfold ja
 simpa using this
theorem o7 (l : List ax) (hl : l.length ≤ 9000000) : ∀ (k j : Nat), j + k = l.length →
  (aU (fun x13 => cF l x13) (j : Int) = some (.inl ((l.length : Nat) : Int)) ∧ ∀ n N, fO n N 1 (l.drop j) = 0) ∨
  (aU (fun x13 => cF l x13) (j : Int) = some (.inr 0) ∧ ∀ n N, fO n N 1 (l.drop j) = 0) ∨
  ∃ e : Nat, j ≤ e ∧ e < l.length ∧ aU (fun x13 => cF l x13) (j : Int) = some (.inl (e : Int)) ∧ ∀ n N, fO n N 1 (l.drop j) = fO (n + N * (e - j + 1)) 1 0 (l.drop (e + 1))
 | 0, j, hj => by
  have hj : j = l.length := by omega
  subst hj
  left
  refine ⟨aN (by simp only [cF]; rw [iN (dS _)]), fun n N => ?_⟩
  rw [List.drop_length]; simp [fO]
 | k + 1, j, hj => by
  have hlt : j < l.length := by omega
  have hb : cF l j = (if ¬ (l.getD j default).op = 11 then (if (l.getD j default).op = 10 then some (.inr (.inr 0)) else some (.inl ((j + 1 : Nat) : Int))) else some (.inr (.inl (j : Int)))) := by
   unfold cF
   rw [iP (ltI hlt), iP (inI hlt), tN, wrs j (by omega)]
  rw [lj l j hlt]
  generalize l.getD j default = x at hb ⊢
  simp only [fO]
  by_cases a1 : x.op = 11
  ·rw [iN (by simp [a1])] at hb
   refine .inr (.inr ⟨j, Nat.le_refl _, hlt, aN hb, fun n N => ?_⟩)
   rw [iN (by omega), iP a1, iN (by omega)]
   congr 1
   rw [show ((j : Int) - j + 1) = 1 by omega, Int.mul_one]
  ·rw [iP a1] at hb
   by_cases a2 : x.op = 10
   ·rw [iP a2] at hb
    refine .inr (.inl ⟨aN hb, fun n N => ?_⟩)
    rw [iP a2, iP (by omega)]
   ·rw [iN a2] at hb
    rw [cL hb]
    rcases o7 l hl k (j + 1) (by omega) with ⟨h1, h2⟩ | ⟨h1, h2⟩ | ⟨e, h0, h1, h2, h3⟩
    ·exact .inl ⟨h1, fun n N => by rw [iN a2, iN a1]; exact h2 _ _⟩
    ·exact .inr (.inl ⟨h1, fun n N => by rw [iN a2, iN a1]; exact h2 _ _⟩)
    ·refine .inr (.inr ⟨e, by omega, h1, h2, fun n N => ?_⟩)
     rw [iN a2, iN a1, h3]
     congr 1
     rw [show ((e : Int) - (j + 1 : Nat) + 1) = e - j by omega, Int.mul_add, Int.mul_one, Int.add_assoc]
     omega
theorem rS (l : List ax) (hl : l.length ≤ 9000000) : ∀ (k i : Nat) (n : Int), i + k = l.length → 0 ≤ n → n ≤ 301 * i →
  (aU (fun (x6, x7) => eg l x6 x7) (n, (i : Int))).bind (Sum.elim (fun z16 => ed z16) (fun z17 => some z17)) = some (fO n 1 0 (l.drop i)) := by
 intro k
 induction k using Nat.strongRecOn with
 | _ k ih =>
  intro i n hi h1 h2
  cases k with
  | zero =>
   have hi : i = l.length := by omega
   subst hi
   rw [aN (o := .inl n) (by simp only [eg]; rw [iN (dS _)]), List.drop_length]
   simp [ed, fO]
  | succ k =>
   have hlt : i < l.length := by omega
   have hw : IntKind.wrap .i64 (n + 1) = n + 1 := wr (by omega) (by omega)
   have hb : eg l n i = (if (l.getD i default).op = 11 then some (.inr (.inr 0)) else if ¬ (l.getD i default).op = 10 then some (.inl (n + 1, ((i + 1 : Nat) : Int))) else
     (aU (fun x13 => cF l x13) ((i + 1 : Nat) : Int)).bind (Sum.elim (fun z14 => db l n i z14) (fun z15 => some (.inr (.inr z15))))) := by
    unfold eg ee
    rw [iP (ltI hlt), iP (inI hlt), tN, hw, wrs i (by omega)]
   have hd := lj l i hlt
   have hj3 : ∀ z, db l n i z = (if z = (l.length : Int) then some (.inr (.inr 0)) else if (l.getD i default).n < 1 then some (.inr (.inr 0)) else if (l.getD i default).n > 300 then some (.inr (.inr 0)) else
     some (.inl (IntKind.wrap .i64 (n + 1 + IntKind.wrap .i64 ((l.getD i default).n * IntKind.wrap .i64 (z - i))), IntKind.wrap .i64 (z + 1)))) := by
    intro z; unfold db ee; rw [tN, hw]
   rw [hd]
   generalize l.getD i default = x at hb hj3 ⊢
   simp only [fO]
   by_cases a1 : x.op = 11
   ·rw [iP a1] at hb
    rw [aN hb, iN (by omega), iP a1]; rfl
   ·rw [iN a1] at hb
    by_cases a2 : x.op = 10
    ·rw [iN (by simp [a2])] at hb
     rw [iP a2]
     rcases o7 l hl k (i + 1) (by omega) with ⟨e1, e2⟩ | ⟨e1, e2⟩ | ⟨e, e0, e1, e2, e3⟩
     ·rw [e1] at hb
      simp only [bSq, Sum.elim_inl, hj3, if_true] at hb
      rw [aN hb]
      have : (if (1 : Int) > 1 ∨ (0 : Int) > 0 ∨ x.n < 1 ∨ x.n > 300 then (0 : Int) else fO (n + 1) x.n 1 (l.drop (i + 1))) = 0 := by split <;> first | rfl | exact e2 _ _
      rw [this]; rfl
     ·rw [e1] at hb
      simp only [bSq, Sum.elim_inr] at hb
      rw [aN hb]
      have : (if (1 : Int) > 1 ∨ (0 : Int) > 0 ∨ x.n < 1 ∨ x.n > 300 then (0 : Int) else fO (n + 1) x.n 1 (l.drop (i + 1))) = 0 := by split <;> first | rfl | exact e2 _ _
      rw [this]; rfl
     ·rw [e2] at hb
      simp only [bSq, Sum.elim_inl, hj3] at hb
      rw [iN (by omega)] at hb
      by_cases b1 : x.n < 1
      ·rw [iP b1] at hb; rw [aN hb, iP (by omega)]; rfl
      ·rw [iN b1] at hb
       by_cases b2 : x.n > 300
       ·rw [iP b2] at hb; rw [aN hb, iP (by omega)]; rfl
       ·rw [iN b2] at hb
        have m1 : 0 ≤ x.n * ((e : Int) - i) := Int.mul_nonneg (by omega) (by omega)
        have m2 : x.n * ((e : Int) - i) ≤ 300 * ((e : Int) - i) := Int.mul_le_mul_of_nonneg_right (by omega) (by omega)
        rw [wr (n := (e : Int) - i) (by omega) (by omega), wr (n := x.n * ((e : Int) - i)) (by omega) (by omega), wr (n := n + 1 + x.n * ((e : Int) - i)) (by omega) (by omega), wrs e (by omega)] at hb
        rw [cL hb, iN (by omega), e3]
        have := ih (l.length - (e + 1)) (by omega) (e + 1) (n + 1 + x.n * ((e : Int) - i)) (by omega) (by omega) (by omega)
        rw [this]
        congr 2
        rw [show ((e : Int) - (i + 1 : Nat) + 1) = e - i by omega]
    ·rw [iP a2] at hb
     rw [cL hb, iN a2, iN a1]
     exact ih k (by omega) (i + 1) (n + 1) (by omega) (by omega) (by omega)
theorem qM (l : List ax) (hl : l.length ≤ 9000000) : iB l = some (fO 0 1 0 l) := by
 have := rS l hl l.length 0 0 (by omega) (by omega) (by omega)
 unfold iB
 simpa using this
noncomputable def lI (m : aj) (x : ax) : Bool := (dy (ck.mk m) x).getD false
theorem rT (m : aj) (x : ax) (h1 : 1 ≤ m.cells) (h2 : m.cells ≤ 6000) : dy (ck.mk m) x = some (lI m x) ∧ io m x = some (lI m x) := by
 obtain ⟨b, e1, e2⟩ := sF m x h1 h2
 unfold lI
 rw [e1, e2]
 exact ⟨rfl, rfl⟩
def oe (m : aj) (l : List Int) (i : Nat) : Option af := if l.getD i default < 0 ∨ l.getD i default ≥ m.cells then some (af.mk 16 (-1)) else none
def qN (m : aj) (l : List Int) : Option af := match lq l.length (oe m l) () with | .inr z => some z | .inl _ => none
def dR (m : aj) (i : Nat) : List Int := (lit ([m.put, m.bools, m.get] : List (List Int))).getD i default
def F1 (m : aj) : Unit ⊕ af := lq 3 (fun i => qN m (dR m i)) ()
noncomputable def F2 (m : aj) : Unit ⊕ af := lq m.code.length (fun i => if lI m (m.code.getD i default) then none else some (af.mk 4 i)) ()
def F3 (m : aj) : af := if fO 0 1 0 m.code ≠ m.cost ∨ (fO 0 1 0 m.code = 0 ∧ (m.code.length : Int) > 0) then af.mk 18 (-1) else af.mk 0 0
noncomputable def jE (m : aj) : af :=
 if m.cells < 1 ∨ m.cells > 6000 ∨ m.regs < 1 ∨ m.regs > 40 then af.mk 13 (-1)
 else if (m.put.length : Int) > 6000 ∨ (m.bools.length : Int) > 6000 ∨ (m.get.length : Int) > 120000 ∨ (m.code.length : Int) > 200000 then af.mk 7 (-1)
 else match F1 m with
  | .inr z => z
  | .inl _ => match F2 m with
   | .inr z => z
   | .inl _ => F3 m
theorem nE (m : aj) (h : m.put.length ≤ 9000000 ∧ m.bools.length ≤ 9000000 ∧ m.get.length ≤ 9000000) (i : Nat) : (dR m i).length ≤ 9000000 := by
 unfold dR lit
 match i with
 | 0 => exact h.1
 | 1 => exact h.2.1
 | 2 => exact h.2.2
 | i + 3 => exact Nat.zero_le _
theorem sH (m : aj) (x : Nat) (hx : x < 3) (hl : (dR m x).length ≤ 9000000) : aU (fun x12 => fh m x x12) 0 = some (lq (dR m x).length (oe m (dR m x)) ()) := by
 refine eI _ _ _ (fun i hi => ?_) ?_
 ·unfold fh
  rw [tN, tN]
  show (if (i : Int) < ((dR m x).length : Int) then _ else _) = _
  rw [iP (ltI hi)]
  show (if 0 ≤ (i : Int) ∧ (i : Int) < ((dR m x).length : Int) then _ else _) = _
  rw [iP (inI hi), wrs i (by omega)]
  show (if (dR m x).getD i default < 0 then _ else if (dR m x).getD i default ≥ m.cells then _ else _) = _
  unfold oe
  by_cases a : (dR m x).getD i default < 0
  ·rw [iP a, iP (.inl a)]
  ·rw [iN a]
   by_cases b : (dR m x).getD i default ≥ m.cells
   ·rw [iP b, iP (.inr b)]
   ·rw [iN b, iN (by omega)]
 ·unfold fh
  rw [tN]
  exact iN (dS (dR m x).length)
theorem tw (m : aj) (x : Nat) (hx : x < 3) (hl : (dR m x).length ≤ 9000000) : aU (fun x23 => du m x x23) 0 = some (lq (dR m x).length (oe m (dR m x)) ()) := by
 have h3 : 0 ≤ (x : Int) ∧ (x : Int) < 3 := by omega
 refine eI _ _ _ (fun i hi => ?_) ?_
 ·unfold du
  rw [iP h3, tN, tN]
  show (if (i : Int) < ((dR m x).length : Int) then (if 0 ≤ (i : Int) ∧ (i : Int) < ((dR m x).length : Int) then (if (dR m x).getD i default < 0 then _ else (if (dR m x).getD i default ≥ m.cells then _ else _)) else _) else _) = _
  rw [iP (ltI hi), iP (inI hi), wrs i (by omega)]
  unfold oe eA
  by_cases a : (dR m x).getD i default < 0
  ·rw [iP a, iP (.inl a)]; rfl
  ·rw [iN a]
   by_cases b : (dR m x).getD i default ≥ m.cells
   ·rw [iP b, iP (.inr b)]; rfl
   ·rw [iN b, iN (by omega)]
 ·unfold du
  rw [iP h3, tN]
  exact iN (dS (dR m x).length)
theorem sK (m : aj) (h : m.put.length ≤ 9000000 ∧ m.bools.length ≤ 9000000 ∧ m.get.length ≤ 9000000) : aU (fun x9 => fj m x9) 0 = some (F1 m) := by
 refine eI 3 _ _ (fun i hi => ?_) ?_
 ·unfold fj
  have h3 : (i : Int) < 3 := by omega
  rw [iP h3, iP ⟨by omega, h3⟩, sH m i hi (nE m h i)]
  unfold qN
  rcases eW (dR m i).length (oe m (dR m i)) () with ⟨e, _⟩ | ⟨j, z, _, _, e⟩
  ·rw [e]; simp only [bSq, Sum.elim_inl, fg]; rw [wrs i (by omega)]
  ·rw [e]; rfl
 ·unfold fj; rfl
theorem tx (m : aj) (h : m.put.length ≤ 9000000 ∧ m.bools.length ≤ 9000000 ∧ m.get.length ≤ 9000000) : aU (fun x20 => dv m x20) 0 = some (F1 m) := by
 refine eI 3 _ _ (fun i hi => ?_) ?_
 ·unfold dv
  have h3 : (i : Int) < 3 := by omega
  rw [iP h3, tw m i hi (nE m h i)]
  unfold qN
  rcases eW (dR m i).length (oe m (dR m i)) () with ⟨e, _⟩ | ⟨j, z, _, _, e⟩
  ·rw [e]; simp only [bSq, Sum.elim_inl, dt]; rw [wrs i (by omega)]
  ·rw [e]; rfl
 ·unfold dv; rfl
theorem sL (m : aj) (h1 : 1 ≤ m.cells) (h2 : m.cells ≤ 6000) (hl : m.code.length ≤ 9000000) : aU (fun x4 => fe m x4) 0 = some (F2 m) := by
 refine eI _ _ _ (fun i hi => ?_) ?_
 ·unfold fe
  rw [iP (ltI hi), iP (inI hi), tN, (rT m _ h1 h2).1, wrs i (by omega)]
  simp only [bSq]
  cases lI m (m.code.getD i default) <;> rfl
 ·unfold fe; rw [iN (dS _)]
theorem tz (m : aj) (h1 : 1 ≤ m.cells) (h2 : m.cells ≤ 6000) (hl : m.code.length ≤ 9000000) : aU (fun x14 => dq m x14) 0 = some (F2 m) := by
 refine eI _ _ _ (fun i hi => ?_) ?_
 ·unfold dq eA
  rw [iP (ltI hi), iP (inI hi), tN, (rT m _ h1 h2).2, wrs i (by omega)]
  simp only [bSq]
  cases lI m (m.code.getD i default) <;> rfl
 ·unfold dq; rw [iN (dS _)]
theorem mP (m : aj) (hl : m.put.length ≤ 9000000 ∧ m.bools.length ≤ 9000000 ∧ m.get.length ≤ 9000000 ∧ m.code.length ≤ 9000000) : fC m = some (jE m) := by
 unfold fC jE
 by_cases c1 : m.cells < 1
 ·rw [iP c1, iP (by omega)]
 rw [iN c1]
 by_cases c2 : m.cells > 6000
 ·rw [iP c2, iP (by omega)]
 rw [iN c2]
 by_cases c3 : m.regs < 1
 ·rw [iP c3, iP (by omega)]
 rw [iN c3]
 by_cases c4 : m.regs > 40
 ·rw [iP c4, iP (by omega)]
 rw [iN c4, iN (show ¬ (m.cells < 1 ∨ m.cells > 6000 ∨ m.regs < 1 ∨ m.regs > 40) by omega)]
 by_cases c5 : (m.put.length : Int) > 6000
 ·rw [iP c5, iP (by omega)]
 rw [iN c5]
 by_cases c6 : (m.bools.length : Int) > 6000
 ·rw [iP c6, iP (by omega)]
 rw [iN c6]
 by_cases c7 : (m.get.length : Int) > 120000
 ·rw [iP c7, iP (by omega)]
 rw [iN c7]
 by_cases c8 : (m.code.length : Int) > 200000
 ·rw [iP c8, iP (by omega)]
 rw [iN c8, iN (show ¬ ((m.put.length : Int) > 6000 ∨ (m.bools.length : Int) > 6000 ∨ (m.get.length : Int) > 120000 ∨ (m.code.length : Int) > 200000) by omega)]
 rw [sK m ⟨hl.1, hl.2.1, hl.2.2.1⟩]
 cases F1 m with
 | inr z => rfl
 | inl u =>
  simp only [bSq, Sum.elim_inl]
  unfold ff
  rw [sL m (by omega) (by omega) hl.2.2.2]
  cases F2 m with
  | inr z => rfl
  | inl u =>
   simp only [bSq, Sum.elim_inl]
   unfold fd F3
   rw [sG _ hl.2.2.2]
   simp only [bSq]
   generalize fO 0 1 0 m.code = c
   generalize (m.code.length : Int) = n
   by_cases d1 : c = 0
   ·rw [iP d1]
    by_cases d2 : n > 0
    ·rw [iP d2, iP (.inr ⟨d1, d2⟩)]
    ·rw [iN d2]
     by_cases d3 : c = m.cost
     ·rw [iN (by simpa using d3), iN (by simp only [ne_eq, not_or, Decidable.not_not]; exact ⟨d3, fun h => d2 h.2⟩)]
     ·rw [iP d3, iP (.inl d3)]
   ·rw [iN d1]
    by_cases d3 : c = m.cost
    ·rw [iN (by simpa using d3), iN (by simp only [ne_eq, not_or, Decidable.not_not]; exact ⟨d3, fun h => d1 h.1⟩)]
    ·rw [iP d3, iP (.inl d3)]
theorem o9 (m : aj) (hl : m.put.length ≤ 9000000 ∧ m.bools.length ≤ 9000000 ∧ m.get.length ≤ 9000000 ∧ m.code.length ≤ 9000000) : eC m = some (jE m) := by
 unfold eC jE eA
 simp only [bSq]
 by_cases c1 : m.cells < 1
 ·rw [iP c1, iP (by omega)]
 rw [iN c1]
 by_cases c2 : m.cells > 6000
 ·rw [iP c2, iP (by omega)]
 rw [iN c2]
 by_cases c3 : m.regs < 1
 ·rw [iP c3, iP (by omega)]
 rw [iN c3]
 by_cases c4 : m.regs > 40
 ·rw [iP c4, iP (by omega)]
 rw [iN c4, iN (show ¬ (m.cells < 1 ∨ m.cells > 6000 ∨ m.regs < 1 ∨ m.regs > 40) by omega)]
 by_cases c5 : (m.put.length : Int) > 6000
 ·rw [iP c5, iP (by omega)]
 rw [iN c5]
 by_cases c6 : (m.bools.length : Int) > 6000
 ·rw [iP c6, iP (by omega)]
 rw [iN c6]
 by_cases c7 : (m.get.length : Int) > 120000
 ·rw [iP c7, iP (by omega)]
 rw [iN c7]
 by_cases c8 : (m.code.length : Int) > 200000
 ·rw [iP c8, iP (by omega)]
 rw [iN c8, iN (show ¬ ((m.put.length : Int) > 6000 ∨ (m.bools.length : Int) > 6000 ∨ (m.get.length : Int) > 120000 ∨ (m.code.length : Int) > 200000) by omega)]
 rw [tx m ⟨hl.1, hl.2.1, hl.2.2.1⟩]
 cases F1 m with
 | inr z => rfl
 | inl u =>
  simp only [bSq, Sum.elim_inl]
  unfold dr
  rw [tz m (by omega) (by omega) hl.2.2.2]
  cases F2 m with
  | inr z => rfl
  | inl u =>
   simp only [bSq, Sum.elim_inl]
   unfold dp F3 eA
   rw [qM _ hl.2.2.2]
   simp only [bSq]
   generalize fO 0 1 0 m.code = c
   generalize (m.code.length : Int) = n
   by_cases d3 : m.cost = c
   ·subst d3
    rw [iN (by simp)]
    by_cases d1 : m.cost = 0
    ·rw [iP d1]
     by_cases d2 : n > 0
     ·rw [iP d2, iP (.inr ⟨d1, d2⟩)]
     ·rw [iN d2, iN (by simp only [ne_eq, not_or, Decidable.not_not]; exact ⟨trivial, fun h => d2 h.2⟩)]
    ·rw [iN d1, iN (by simp only [ne_eq, not_or, Decidable.not_not]; exact ⟨trivial, fun h => d1 h.1⟩)]
   ·rw [iP d3, iP (.inl (fun h => d3 h.symm))]
theorem qd {l q : List Int} {x : ax} (h : rdI l = .inl (x, q)) : q <:+ l := by
 obtain ⟨a1, p1, h1, h⟩ := bK h
 obtain ⟨a2, p2, h2, h⟩ := bK h
 obtain ⟨a3, p3, h3, h⟩ := bK h
 obtain ⟨a4, p4, h4, h⟩ := bK h
 obtain ⟨a5, p5, h5, h⟩ := bK h
 obtain ⟨a6, p6, h6, h⟩ := bK h
 simp only [Sum.inl.injEq, Prod.mk.injEq] at h
 obtain ⟨_, rfl⟩ := h
 exact (bn h6).1.trans ((bn h5).1.trans ((bn h4).1.trans ((bn h3).1.trans ((bn h2).1.trans (bn h1).1))))
theorem qO {b : List Int} {q0 : aD} {y : Int × Int} (hq : q0.b = b) (hbl : b.length ≤ 100000000) (hb : bu b) {l : List Int} (hs : l <:+ b) {acc : List ax} {i : Nat} (hi : (i : Int) < y.1) (hi2 : i ≤ 100000000) (ha : acc.length = i) :
  bm q0 y ((b.length - l.length : Nat) : Int) acc (i : Int) = (match rdI l with
    | .inl (x, q) => some (.inl (((b.length - q.length : Nat) : Int), acc ++ [x], ((i + 1 : Nat) : Int)))
    | .inr (c, k) => some (.inr (.inr (.inr (c, ((b.length - k : Nat) : Int)))))) := by
 have hrm : fo (acc.length + 1) 48 := by
  unfold fo
  have : maxLen = 9223372036854775807 := rfl
  omega
 unfold bm rdI
 rw [iP hi, hq, fM hbl hb hs]
 simp only [bSq]
 cases h1 : rdN l with
 | inr z => rfl
 | inl z =>
  obtain ⟨a1, p1⟩ := z
  have s1 := (bn h1).1.trans hs
  simp only [asR, Sum.elim_inl, rdB]
  rw [fM hbl hb s1]
  simp only [bSq]
  cases h2 : rdN p1 with
  | inr z => rfl
  | inl z =>
   obtain ⟨a2, p2⟩ := z
   have s2 := (bn h2).1.trans s1
   simp only [asR, Sum.elim_inl]
   rw [fM hbl hb s2]
   simp only [bSq]
   cases h3 : rdN p2 with
   | inr z => rfl
   | inl z =>
    obtain ⟨a3, p3⟩ := z
    have s3 := (bn h3).1.trans s2
    simp only [asR, Sum.elim_inl]
    rw [fM hbl hb s3]
    simp only [bSq]
    cases h4 : rdN p3 with
    | inr z => rfl
    | inl z =>
     obtain ⟨a4, p4⟩ := z
     have s4 := (bn h4).1.trans s3
     simp only [asR, Sum.elim_inl]
     rw [fM hbl hb s4]
     simp only [bSq]
     cases h5 : rdN p4 with
     | inr z => rfl
     | inl z =>
      obtain ⟨a5, p5⟩ := z
      have s5 := (bn h5).1.trans s4
      simp only [asR, Sum.elim_inl]
      rw [fM hbl hb s5]
      simp only [bSq]
      cases h6 : rdN p5 with
      | inr z => rfl
      | inl z =>
       obtain ⟨a6, p6⟩ := z
       simp only [asR, Sum.elim_inl]
       rw [iP hrm, wrs i (by omega)]
       rfl
theorem nF {b : List Int} {q0 : aD} {y : Int × Int} (hq : q0.b = b) (hbl : b.length ≤ 100000000) (hb : bu b) (hy : y.1 ≤ 100000000) : ∀ (n : Nat) (l : List Int) (acc : List ax) (i : Nat), (i : Int) + (n : Int) = y.1 → acc.length = i → l <:+ b →
  aU (fun (x : Int × List ax × Int) => bm q0 y x.1 x.2.1 x.2.2) (((b.length - l.length : Nat) : Int), acc, (i : Int)) =
   some (match rdK n l with
    | .inl (xs, q) => .inl (((b.length - q.length : Nat) : Int), acc ++ xs)
    | .inr (c, k) => .inr (.inr (c, ((b.length - k : Nat) : Int))))
 | 0, l, acc, i, hi, ha, hs => by
  refine aN ?_
  show bm q0 y _ acc (i : Int) = _
  unfold bm
  rw [iN (by omega)]
  simp [rdK]
 | n + 1, l, acc, i, hi, ha, hs => by
  have hstep := qO (q0 := q0) (y := y) hq hbl hb hs (acc := acc) (i := i) (by omega) (by omega) ha
  cases hr : rdI l with
  | inr z =>
   rw [hr] at hstep
   refine (aN hstep).trans ?_
   simp only [rdK, hr, rdB]
  | inl z =>
   obtain ⟨x, q⟩ := z
   rw [hr] at hstep
   rw [cL (s := (((b.length - l.length : Nat) : Int), acc, (i : Int))) hstep]
   rw [nF hq hbl hb hy n q (acc ++ [x]) (i + 1) (by omega) (by simp [ha]) ((qd hr).trans hs)]
   simp only [rdK, hr, rdB]
   cases rdK n q with
   | inr z => rfl
   | inl z => simp
theorem pG {b l : List Int} (hbl : b.length ≤ 100000000) (hb : bu b) (hs : l <:+ b) : cZ (aD.mk b ((b.length - l.length : Nat) : Int)) = some (asR b.length (rdM l)) := by
 unfold cZ
 rw [fM hbl hb hs]
 simp only [bSq]
 refine gJ fun a1 p1 h1 => ?_
 have s1 := (bn h1).1.trans hs
 simp only
 rw [fM hbl hb s1]
 simp only [bSq]
 refine gJ fun a2 p2 h2 => ?_
 have s2 := (bn h2).1.trans s1
 simp only
 rw [fM hbl hb s2]
 simp only [bSq]
 refine gJ fun a3 p3 h3 => ?_
 have s3 := (bn h3).1.trans s2
 simp only
 rw [lv hbl hb s3]
 simp only [bSq]
 refine gJ fun a4 p4 h4 => ?_
 have s4 := (gT h4).trans s3
 simp only
 rw [lv hbl hb s4]
 simp only [bSq]
 refine gJ fun a5 p5 h5 => ?_
 have s5 := (gT h5).trans s4
 simp only
 rw [lv hbl hb s5]
 simp only [bSq]
 refine gJ fun a6 p6 h6 => ?_
 have s6 := (gT h6).trans s5
 simp only
 rw [show (6 : Int) = ((6 : Nat) : Int) from rfl, mL hbl hb s6 (by omega)]
 simp only [bSq]
 refine gJ fun n q hq => ?_
 obtain ⟨t1, t2, t3⟩ := lc hq
 have hql := (t1.trans s6).length_le
 have hd : q.length / 6 ≤ q.length := Nat.div_le_self _ _
 have := nF (q0 := aD.mk b ((b.length - l.length : Nat) : Int)) (y := (n, ((b.length - q.length : Nat) : Int))) rfl hbl hb (by simp only; omega) n.toNat q [] 0 (by simp only; omega) rfl (t1.trans s6)
 have h0 : ((0 : Nat) : Int) = 0 := rfl
 rw [h0] at this
 show (aU (fun (x : Int × List ax × Int) => bm (aD.mk b ((b.length - l.length : Nat) : Int)) (n, ((b.length - q.length : Nat) : Int)) x.1 x.2.1 x.2.2) (((b.length - q.length : Nat) : Int), [], 0)).bind _ = _
 rw [this]
 cases rdK n.toNat q with
 | inr z => rfl
 | inl z => rfl
def nfl {α : Type} (m : Rd α) : Prop := ∀ c k, m = .inr (c, k) → c ≠ 0
theorem gh {α β : Type} {m : Rd α} {f : α → List Int → Rd β} (h : nfl m) (hf : ∀ a q, nfl (f a q)) : nfl (rdB m f) := by
 intro c k e
 cases m with
 | inl z => exact hf z.1 z.2 c k e
 | inr z => exact h c k (by simp only [rdB, Sum.inr.injEq] at e; rw [e])
theorem lf {α : Type} (z : α × List Int) : nfl (.inl z : Rd α) := fun _ _ h => by cases h
theorem dU (l : List Int) : nfl (rdN l) := by
 intro c k e
 unfold rdN at e
 cases hr : rdV 0 l with
 | inl z => rw [hr] at e; cases e
 | inr z =>
  rw [hr] at e
  simp only [Sum.inr.injEq] at e
  subst e
  have := (qb l 0 k c hr).2
  omega
theorem oh (n : Nat) (l : List Int) : nfl (rdC n l) := gh (dU l) fun a q => by
 intro c k e
 split at e
 ·simp only [Sum.inr.injEq, Prod.mk.injEq] at e
  omega
 ·cases e
theorem qe : ∀ (n : Nat) (l : List Int), nfl (rdL n l)
 | 0, _ => lf _
 | n + 1, l => gh (dU l) fun _ q => gh (qe n q) fun _ _ => lf _
theorem kG (l : List Int) : nfl (ia l) := gh (oh 1 l) fun n q => qe n.toNat q
theorem qf (l : List Int) : nfl (rdI l) := gh (dU l) fun _ q => gh (dU q) fun _ q => gh (dU q) fun _ q => gh (dU q) fun _ q => gh (dU q) fun _ q => gh (dU q) fun _ _ => lf _
theorem qg : ∀ (n : Nat) (l : List Int), nfl (rdK n l)
 | 0, _ => lf _
 | n + 1, l => gh (qf l) fun _ q => gh (qg n q) fun _ _ => lf _
theorem pd : ∀ {l m : List Int}, bu l → bu m → iA l = iA m → l = m
 | [], [], _, _, _ => rfl
 | [], _ :: _, _, _, h => by simp [iA] at h
 | _ :: _, [], _, _, h => by simp [iA] at h
 | x :: l, y :: m, hl, hm, h => by
  simp only [iA, List.map_cons, List.cons.injEq] at h
  have hx := hl x (by simp)
  have hy := hm y (by simp)
  have e := congrArg UInt8.toNat h.1
  rw [UInt8.toNat_ofNat', UInt8.toNat_ofNat'] at e
  have := pd (fun z hz => hl z (by simp [hz])) (fun z hz => hm z (by simp [hz])) h.2
  rw [this]
  congr 1
  omega
theorem pe {m : aj} : m.put.length ≤ (cN m).length ∧ m.bools.length ≤ (cN m).length ∧ m.get.length ≤ (cN m).length ∧ m.code.length ≤ (cN m).length := by
 have h1 := hR ((m.put.length : Int) :: m.put)
 have h2 := hR ((m.bools.length : Int) :: m.bools)
 have h3 := hR ((m.get.length : Int) :: m.get)
 have h4 := mJ m.code
 simp only [List.length_cons] at h1 h2 h3
 unfold cN
 simp only [List.length_append, List.length_cons, List.length_nil]
 omega
theorem nG (l : List Int) (n : Nat) (h : l.length = n + 4) : l.drop n = [l.getD n default, l.getD (n + 1) default, l.getD (n + 2) default, l.getD (n + 3) default] := by
 rw [ka l n (by omega), ka l (n + 1) (by omega), ka l (n + 2) (by omega), ka l (n + 3) (by omega), List.drop_of_length_le (by omega)]
theorem mQ (a c : Int) (b : List Int) (p : Int) : bG a c (ao.mk b p (af.mk 0 0)) = some (a, c) := by
 unfold bG
 rw [iP rfl]
 rfl
def Rel {α : Type} (n : Nat) (m : Rd α) (y : α × Int × Int × Int) : Prop := match m with
 | .inl (a, q) => y = (a, ((n - q.length : Nat) : Int), 0, 0)
 | .inr (c, k) => y.2.2.1 = c ∧ y.2.2.2 = ((n - k : Nat) : Int)
theorem fc {b : List Int} {p c a : Int} (hc : c ≠ 0) : aQ (ao.mk b p (af.mk c a)) = some (0, p, c, a) := by
 unfold aQ
 have h : aU (fun (x : Int × Int × Int × Int) => aW (ao.mk b p (af.mk c a)) x.1 x.2.1 x.2.2.1 x.2.2.2) (p, 0, 1, 0) = some (.inl (p, 0)) := by
  refine aN ?_
  show aW (ao.mk b p (af.mk c a)) p 0 1 0 = _
  unfold aW
  rw [iN hc]
 show (aU (fun (x : Int × Int × Int × Int) => aW (ao.mk b p (af.mk c a)) x.1 x.2.1 x.2.2.1 x.2.2.2) (p, 0, 1, 0)).bind _ = _
 rw [h]
 simp only [bSq, Sum.elim_inl]
 unfold bH
 rw [iN (by decide)]
 rfl
theorem gk {b : List Int} {k p c a : Int} (hc : c ≠ 0) : cg k (ao.mk b p (af.mk c a)) = some (0, p, c, a) := by
 unfold cg
 rw [fc hc]
 simp only [bSq]
 rw [iN hc]
 unfold bg
 rw [iP hc]
theorem ir {b : List Int} {p c a : Int} (hc : c ≠ 0) : bV (ao.mk b p (af.mk c a)) = some ([], p, c, a) := by
 unfold bV
 rw [gk hc]
 simp only [bSq]
 have h : aU (fun (x : Int × Int × Int × List Int × Int) => aE (ao.mk b p (af.mk c a)) (0, p, c, a) x.1 x.2.1 x.2.2.1 x.2.2.2.1 x.2.2.2.2) (p, c, a, [], 0) = some (p, c, a, []) := by
  refine aN ?_
  show aE (ao.mk b p (af.mk c a)) (0, p, c, a) p c a [] 0 = _
  unfold aE
  rw [iN (by simp)]
 show (aU (fun (x : Int × Int × Int × List Int × Int) => aE (ao.mk b p (af.mk c a)) (0, p, c, a) x.1 x.2.1 x.2.2.1 x.2.2.2.1 x.2.2.2.2) (p, c, a, [], 0)).bind _ = _
 rw [h]
 rfl
theorem nH (b : List Int) (at0 : Int) (hbl : b.length ≤ 100000000) (hb : bu b) : ∀ (l : List Int) (i acc : Nat), l <:+ b → i ≤ 9 → acc < 2 ^ (7 * i) →
  ∃ z, aU (fun (x : Int × Int × Int × Int) => aW (ao.mk b at0 (af.mk 0 0)) x.1 x.2.1 x.2.2.1 x.2.2.2) (((b.length - l.length : Nat) : Int), (acc : Int), ((2 ^ (7 * i) : Nat) : Int), (i : Int)) = some z ∧
   (match rdV i l with
    | .inl (v, q) => z = .inl (((b.length - q.length : Nat) : Int), ((acc + v * 2 ^ (7 * i) : Nat) : Int))
    | .inr (c, k) => ∃ p, z = .inr (0, p, c, ((b.length - k : Nat) : Int)))
 | [], i, acc, _, hi, _ => by
  refine ⟨_, aN (o := .inr (0, ((b.length - 0 : Nat) : Int), 5, (b.length : Int))) ?_, ⟨_, rfl⟩⟩
  show aW (ao.mk b at0 (af.mk 0 0)) ((b.length - 0 : Nat) : Int) (acc : Int) _ (i : Int) = _
  unfold aW
  rw [iP rfl, iP (by show ((b.length - 0 : Nat) : Int) ≥ (b.length : Int); omega), mQ]
  rfl
 | x :: r, i, acc, hs, hi, ha => by
  obtain ⟨p, hp⟩ : ∃ p, p = b.length - (x :: r).length := ⟨_, rfl⟩
  have hle := hs.length_le
  simp only [List.length_cons] at hle hp
  have hg : b.getD p default = x := by
   have := oU hs rfl
   simp only [List.length_cons] at this
   rw [hp]; exact this
  have hx := hb x (hs.subset (by simp))
  have hxn : ((x.toNat : Nat) : Int) = x := by omega
  have hwx : IntKind.wrap .u64 x = x := by rw [IntKind.wrap_u64]; omega
  rw [List.length_cons, ← hp, rdV]
  obtain ⟨P, hP⟩ : ∃ P : Nat, P = 2 ^ (7 * i) := ⟨_, rfl⟩
  have hPb : P ≤ 9223372036854775808 := by
   have h1 : 2 ^ (7 * i) ≤ 2 ^ (7 * 9) := Nat.pow_le_pow_right (by decide) (by omega)
   have h2 : (2 : Nat) ^ (7 * 9) = 9223372036854775808 := by decide
   rw [hP]; omega
  have hP8 : i ≤ 8 → P ≤ 72057594037927936 := fun h => by
   have h1 : 2 ^ (7 * i) ≤ 2 ^ (7 * 8) := Nat.pow_le_pow_right (by decide) (by omega)
   have h2 : (2 : Nat) ^ (7 * 8) = 72057594037927936 := by decide
   rw [hP]; omega
  rw [← hP] at ha ⊢
  have hbound : ¬ ((i = 9 ∧ x > 1) ∨ (0 < i ∧ x = 0)) → acc + (x.toNat % 128) * P < 18446744073709551616 ∧ (x.toNat % 128) * P < 18446744073709551616 := by
   intro c
   by_cases e9 : i = 9
   ·have : x.toNat % 128 ≤ 1 := by omega
    have := Nat.mul_le_mul_right P this
    omega
   ·have h8 := hP8 (by omega)
    have : x.toNat % 128 ≤ 127 := by omega
    have h3 : (x.toNat % 128) * P ≤ 127 * P := Nat.mul_le_mul_right P this
    omega
  have j2 : ¬ ((i = 9 ∧ x > 1) ∨ (0 < i ∧ x = 0)) → bx (ao.mk b at0 (af.mk 0 0)) (p : Int) (acc : Int) (P : Int) (i : Int) =
    (if x < 128 then some (.inr (.inl (((p + 1 : Nat) : Int), ((acc + (x.toNat % 128) * P : Nat) : Int)))) else some (.inl (((p + 1 : Nat) : Int), ((acc + (x.toNat % 128) * P : Nat) : Int), IntKind.wrap .u64 ((P : Int) * 128), ((i + 1 : Nat) : Int)))) := by
   intro c
   obtain ⟨hb1, hb2⟩ := hbound c
   have et : x.tmod 128 = ((x.toNat % 128 : Nat) : Int) := by
    conv => lhs; rw [← hxn]
    exact (Int.ofNat_tmod _ _).symm
   have em : ((x.toNat % 128 : Nat) : Int) * (P : Int) = (((x.toNat % 128) * P : Nat) : Int) := (Int.natCast_mul _ _).symm
   have ew : IntKind.wrap .u64 ((acc : Int) + (((x.toNat % 128) * P : Nat) : Int)) = ((acc + (x.toNat % 128) * P : Nat) : Int) := by rw [IntKind.wrap_u64]; omega
   have ew2 : IntKind.wrap .u64 (((x.toNat % 128) * P : Nat) : Int) = (((x.toNat % 128) * P : Nat) : Int) := by rw [IntKind.wrap_u64]; omega
   unfold bx
   simp only [tN, hg, hwx]
   rw [et, em, ew2, ew, wrs p (by omega), wrs i (by omega)]
  have hl1 : aW (ao.mk b at0 (af.mk 0 0)) (p : Int) (acc : Int) (P : Int) (i : Int) = (if (i = 9 ∧ x > 1) ∨ (0 < i ∧ x = 0) then some (.inr (.inr (0, (p : Int), 2, (p : Int)))) else bx (ao.mk b at0 (af.mk 0 0)) (p : Int) (acc : Int) (P : Int) (i : Int)) := by
   unfold aW
   rw [iP rfl, iN (by simp only; omega), iP (by simp only; omega)]
   simp only [tN, hg, hwx]
   rw [mQ]
   simp only [bSq]
   by_cases e9 : (i : Int) = 9
   ·rw [iP e9]
    by_cases e1 : x > 1
    ·rw [iP e1, iP (.inl ⟨by omega, e1⟩)]
    ·rw [iN e1, iP (by omega)]
     by_cases e0 : x = 0
     ·rw [iP e0, iP (.inr ⟨by omega, e0⟩)]
     ·rw [iN e0, iN (by omega)]
   ·rw [iN e9]
    by_cases e1 : (i : Int) > 0
    ·rw [iP e1]
     by_cases e0 : x = 0
     ·rw [iP e0, iP (.inr ⟨by omega, e0⟩)]
     ·rw [iN e0, iN (by omega)]
    ·rw [iN e1, iN (by omega)]
  by_cases c1 : (i = 9 ∧ x > 1) ∨ (0 < i ∧ x = 0)
  ·rw [iP c1] at hl1 ⊢
   refine ⟨_, aN (s := ((p : Int), (acc : Int), (P : Int), (i : Int))) hl1, (p : Int), ?_⟩
   rw [hp]
  rw [iN c1] at hl1 ⊢
  have hj := j2 c1
  rw [← hl1] at hj
  have hr : r <:+ b := (List.suffix_cons x r).trans hs
  have hpr : p + 1 = b.length - r.length := by omega
  by_cases c2 : x < 128
  ·rw [iP c2] at hj ⊢
   refine ⟨_, aN (s := ((p : Int), (acc : Int), (P : Int), (i : Int))) hj, ?_⟩
   show Sum.inl _ = Sum.inl _
   rw [hpr, show x.toNat % 128 = x.toNat by omega]
  ·rw [iN c2] at hj ⊢
   have hi8 : i ≤ 8 := by omega
   have h8 := hP8 hi8
   have hpw : 2 ^ (7 * (i + 1)) = P * 128 := by rw [hP, Nat.mul_add, Nat.pow_add]
   have hwP : IntKind.wrap .u64 ((P : Int) * 128) = ((2 ^ (7 * (i + 1)) : Nat) : Int) := by rw [IntKind.wrap_u64, hpw]; omega
   rw [hwP] at hj
   have ha2 : acc + x.toNat % 128 * P < 2 ^ (7 * (i + 1)) := by
    rw [hpw]
    have h1 : x.toNat % 128 * P ≤ 127 * P := Nat.mul_le_mul_right _ (by omega)
    omega
   rw [cL (s := ((p : Int), (acc : Int), (P : Int), (i : Int))) hj, hpr]
   obtain ⟨z, hz, hz2⟩ := nH b at0 hbl hb r (i + 1) _ hr (by omega) ha2
   refine ⟨z, hz, ?_⟩
   cases hrv : rdV (i + 1) r with
   | inr y => rw [hrv] at hz2; exact hz2
   | inl y =>
    obtain ⟨w, q⟩ := y
    rw [hrv] at hz2
    simp only at hz2 ⊢
    rw [hz2]
    have e : acc + x.toNat % 128 * P + w * 2 ^ (7 * (i + 1)) = acc + (x.toNat % 128 + 128 * w) * P := by
     rw [hpw, Nat.add_mul, Nat.add_assoc]
     congr 2
     rw [Nat.mul_comm 128 w, Nat.mul_assoc, Nat.mul_comm 128]
    rw [e]
theorem fP {b l : List Int} (hbl : b.length ≤ 100000000) (hb : bu b) (hs : l <:+ b) : ∃ y, aQ (ao.mk b ((b.length - l.length : Nat) : Int) (af.mk 0 0)) = some y ∧ Rel b.length (rdN l) y := by
 have hlb : bu l := fun x hx => hb x (hs.subset hx)
 obtain ⟨z, hz, hz2⟩ := nH b ((b.length - l.length : Nat) : Int) hbl hb l 0 0 hs (by omega) (by decide)
 have h0 : (((b.length - l.length : Nat) : Int), ((0 : Nat) : Int), ((2 ^ (7 * 0) : Nat) : Int), ((0 : Nat) : Int)) = (((b.length - l.length : Nat) : Int), (0 : Int), (1 : Int), (0 : Int)) := rfl
 rw [h0] at hz
 have hd : aQ (ao.mk b ((b.length - l.length : Nat) : Int) (af.mk 0 0)) = (Sum.elim (fun (z19, z20) => bH (ao.mk b ((b.length - l.length : Nat) : Int) (af.mk 0 0)) z19 z20) (fun z21 => some z21)) z := by
  unfold aQ
  show (aU (fun (x : Int × Int × Int × Int) => aW (ao.mk b ((b.length - l.length : Nat) : Int) (af.mk 0 0)) x.1 x.2.1 x.2.2.1 x.2.2.2) (((b.length - l.length : Nat) : Int), 0, 1, 0)).bind _ = _
  rw [hz]
  rfl
 rw [hd]
 unfold rdN
 cases hr : rdV 0 l with
 | inr y =>
  obtain ⟨c, k⟩ := y
  rw [hr] at hz2
  obtain ⟨p, rfl⟩ := hz2
  exact ⟨_, rfl, rfl, rfl⟩
 | inl y =>
  obtain ⟨v, q⟩ := y
  rw [hr] at hz2
  simp only at hz2
  subst hz2
  obtain ⟨_, _, a3⟩ := la l 0 v q hlb (by omega) hr
  have hv : v < 18446744073709551616 := by simpa using a3
  have e0 : 0 + v * 2 ^ (7 * 0) = v := by simp
  simp only [Sum.elim_inl, e0]
  unfold bH
  have e1 : ((v : Nat) : Int).tmod 2 = ((v % 2 : Nat) : Int) := (Int.ofNat_tmod v 2).symm
  have e2 : ((v : Nat) : Int).tdiv 2 = ((v / 2 : Nat) : Int) := (Int.ofNat_tdiv v 2).symm
  have e3 : IntKind.wrap .u64 ((v / 2 : Nat) : Int) = ((v / 2 : Nat) : Int) := by rw [IntKind.wrap_u64]; omega
  rw [e1, e2, e3, wr (n := ((v / 2 : Nat) : Int)) (by omega) (by omega), wr (n := 0 - ((v / 2 : Nat) : Int)) (by omega) (by omega), wr (by omega) (by omega)]
  by_cases c : v % 2 = 1
  ·rw [iP (by omega)]
   refine ⟨_, rfl, ?_⟩
   show _ = _
   unfold mG
   rw [iN (by omega)]
   congr 1
   omega
  ·rw [iN (by omega)]
   refine ⟨_, rfl, ?_⟩
   show _ = _
   unfold mG
   rw [iP (by omega)]
theorem pH (r y : Nat) : jR (r ^^^ y) = (r / 2 ^^^ (if (y % 2 ^^^ r % 2) = 1 then 3988292384 else 0)) ^^^ y / 2 := by
 have h1 : (r ^^^ y) / 2 = r / 2 ^^^ y / 2 := by
  have := Nat.shiftRight_xor_distrib (a := r) (b := y) (i := 1)
  simpa [Nat.shiftRight_eq_div_pow] using this
 have h2 : (r ^^^ y) % 2 = 1 ↔ (y % 2 ^^^ r % 2) = 1 := by
  rw [Nat.xor_mod_two_eq_one]
  have a : r % 2 = 0 ∨ r % 2 = 1 := by omega
  have b : y % 2 = 0 ∨ y % 2 = 1 := by omega
  rcases a with a | a <;> rcases b with b | b <;> rw [a, b] <;> decide
 unfold jR
 rw [h1]
 by_cases c : (r ^^^ y) % 2 = 1
 ·rw [iP c, iP (h2.1 c), Nat.xor_assoc, Nat.xor_comm (y / 2), Nat.xor_assoc]
 ·rw [iN c, iN (fun h => c (h2.2 h)), Nat.xor_zero, Nat.xor_zero]
def hS (c x k : Nat) : Nat := gi k (c ^^^ x) ^^^ x / 2 ^ k
theorem sM {c x k : Nat} (hc : c < 4294967296) (hx : x < 256) : hS c x k < 4294967296 := by
 have h1 : c ^^^ x < 2 ^ 32 := Nat.xor_lt_two_pow (by omega) (by omega)
 have h2 := kb k (c ^^^ x) (by omega)
 have h3 : x / 2 ^ k ≤ x := Nat.div_le_self _ _
 have : gi k (c ^^^ x) ^^^ x / 2 ^ k < 2 ^ 32 := Nat.xor_lt_two_pow (by omega) (by omega)
 unfold hS; omega
theorem qP (c x k : Nat) : hS c x (k + 1) = hS c x k / 2 ^^^ (if (x / 2 ^ k % 2 ^^^ hS c x k % 2) = 1 then 3988292384 else 0) := by
 have e : gi k (c ^^^ x) = hS c x k ^^^ x / 2 ^ k := by unfold hS; rw [Nat.xor_assoc, Nat.xor_self, Nat.xor_zero]
 have h := pH (hS c x k) (x / 2 ^ k)
 rw [← e] at h
 have h2 : hS c x (k + 1) = jR (gi k (c ^^^ x)) ^^^ x / 2 ^ k / 2 := by
  unfold hS
  rw [jS, Nat.pow_succ, Nat.div_div_eq_div_mul]
 rw [h2, h, Nat.xor_assoc, Nat.xor_self, Nat.xor_zero]
theorem qQ {l : List Int} (hb : bu l) {i : Nat} (hi : i < l.length) (c : Nat) (hc : c < 4294967296) :
  aU (fun (x : Int × Int) => dd l (i : Int) x.1 x.2) ((c : Int), 0) = some ((oS c (l.getD i default).toNat : Nat) : Int) := by
 obtain ⟨x, hx⟩ : ∃ x, x = (l.getD i default).toNat := ⟨_, rfl⟩
 have hbx := hb _ (gg hi)
 have hxl : x < 256 := by omega
 have hxe : l.getD i default = (x : Int) := by omega
 rw [← hx]
 have := fK (S := Int × Int) (T := Int) (fun k => (((hS c x k : Nat) : Int), (k : Int))) (body := fun y => dd l (i : Int) y.1 y.2) 8 ((oS c x : Nat) : Int)
  (by
   intro k hk
   show dd l (i : Int) ((hS c x k : Nat) : Int) (k : Int) = some (.inl (((hS c x (k + 1) : Nat) : Int), ((k + 1 : Nat) : Int)))
   have hr := sM (k := k) hc hxl
   have wk : IntKind.wrap .u64 (k : Int) = (k : Int) := by rw [IntKind.wrap_u64]; omega
   have wx : IntKind.wrap .u32 (x : Int) = (x : Int) := by rw [IntKind.wrap_u32]; omega
   have mk : min k (IntKind.bits .u32) = k := Nat.min_eq_left (by show k ≤ 32; omega)
   have e1 : (x : Int).fdiv (2 ^ k) = ((x / 2 ^ k : Nat) : Int) := by
    rw [Int.fdiv_eq_ediv_of_nonneg _ (Int.le_of_lt (Int.pow_pos (by decide)))]
    rw [Int.natCast_ediv]
    rfl
   have e2 : ((hS c x k : Nat) : Int).fdiv (2 ^ (min 1 (IntKind.bits .u32))) = ((hS c x k / 2 : Nat) : Int) := by
    show ((hS c x k : Nat) : Int).fdiv (2 ^ 1) = _
    rw [Int.fdiv_eq_ediv_of_nonneg _ (by decide)]
    omega
   have hle : x / 2 ^ k ≤ x := Nat.div_le_self _ _
   have a1 : ∀ y : Nat, y < 4294967296 → bits .and .u32 (y : Int) 1 = ((y % 2 : Nat) : Int) := fun y hy => by
    have := sW y 1 hy (by decide)
    rw [Nat.and_one_is_mod] at this
    exact this
   have hbit : bits .xor .u32 (bits .and .u32 ((IntKind.wrap .u32 (l.getD (i : Int).toNat default)).fdiv (2 ^ (min ((IntKind.wrap .u64 (k : Int)).toNat) (IntKind.bits .u32)))) 1) (bits .and .u32 ((hS c x k : Nat) : Int) 1) = ((x / 2 ^ k % 2 ^^^ hS c x k % 2 : Nat) : Int) := by
    rw [tN, hxe, wx, wk, tN, mk, e1, a1 _ (by omega), a1 _ hr, nu _ _ (by omega) (by omega)]
   unfold dd
   rw [iP (by omega), iP ⟨⟨by omega, by omega⟩, by omega⟩, e2, wrs k (by omega), qP]
   by_cases h : (x / 2 ^ k % 2 ^^^ hS c x k % 2) = 1
   ·rw [iP (by rw [hbit]; omega), iP h]
    have := nu (hS c x k / 2) 3988292384 (by omega) (by decide)
    rw [show ((3988292384 : Nat) : Int) = 3988292384 from rfl] at this
    rw [this]
   ·rw [iN (by rw [hbit]; omega), iN h, Nat.xor_zero])
  (by
   show dd l (i : Int) ((hS c x 8 : Nat) : Int) 8 = _
   unfold dd
   rw [iN (by omega)]
   have : hS c x 8 = oS c x := by
    unfold hS oS
    rw [show x / 2 ^ 8 = 0 from Nat.div_eq_of_lt (by omega), Nat.xor_zero]
   rw [this])
 have h0 : hS c x 0 = c := by unfold hS gi; rw [Nat.pow_zero, Nat.div_one, Nat.xor_assoc, Nat.xor_self, Nat.xor_zero]
 have e0 : (((hS c x 0 : Nat) : Int), ((0 : Nat) : Int)) = ((c : Int), (0 : Int)) := by rw [h0]; rfl
 rw [e0] at this
 exact this
theorem oi (l : List Int) (hb : bu l) (hl : l.length ≤ 100000000) : ip l = some (gR l) := by
 have hlt : ∀ i, hQ 4294967295 (gK (l.take i)) < 4294967296 := fun i => kY _ _ (by decide) (lU fun x hx => hb x (List.mem_of_mem_take hx))
 have := fK (S := Int × Int) (T := Int) (fun i => (((hQ 4294967295 (gK (l.take i)) : Nat) : Int), (i : Int))) (body := fun x => dJ l x.1 x.2) l.length ((hQ 4294967295 (gK l) : Nat) : Int)
  (by
   intro i hi
   have e2 : hQ 4294967295 (gK (l.take (i + 1))) = oS (hQ 4294967295 (gK (l.take i))) (l.getD i default).toNat := by
    rw [dl _ hi]
    unfold gK hQ
    rw [List.map_append, List.foldl_append]
    rfl
   show dJ l ((hQ 4294967295 (gK (l.take i)) : Nat) : Int) (i : Int) = some (.inl (((hQ 4294967295 (gK (l.take (i + 1))) : Nat) : Int), ((i + 1 : Nat) : Int)))
   unfold dJ
   rw [iP (ltI hi)]
   show (aU (fun (x : Int × Int) => dd l (i : Int) x.1 x.2) _).bind _ = _
   rw [qQ hb hi _ (hlt i), e2]
   simp only [bSq]
   unfold fX
   rw [wrs i (by omega)])
  (by
   show dJ l _ (l.length : Int) = _
   unfold dJ
   rw [iN (dS _), List.take_length])
 have h0 : (((hQ 4294967295 (gK (l.take 0)) : Nat) : Int), ((0 : Nat) : Int)) = ((4294967295 : Int), (0 : Int)) := by simp [gK, hQ]
 rw [h0] at this
 unfold ip
 show (aU (fun (x : Int × Int) => dJ l x.1 x.2) (4294967295, 0)).bind _ = _
 rw [this]
 simp only [bSq]
 unfold fW gR
 have hl32 := hlt l.length
 rw [List.take_length] at hl32
 generalize hQ 4294967295 (gK l) = c at hl32
 have hx : 4294967295 ^^^ c = 4294967295 - c := by
  have h1 := congrArg BitVec.toNat (BitVec.xor_allOnes (x := BitVec.ofNat 32 c))
  rw [BitVec.toNat_xor, BitVec.toNat_allOnes, BitVec.toNat_not, BitVec.toNat_ofNat, Nat.mod_eq_of_lt (by omega)] at h1
  rw [Nat.xor_comm]
  exact h1
 rw [hx, IntKind.wrap_u32]
 congr 1
 omega
theorem tA (n : Nat) (h : n ≤ 100000000) : fo (n + 4) 1 := by
 unfold fo
 simp only [maxLen]
 omega
theorem rU (l : List Int) (hb : bu l) (hl : l.length ≤ 100000000) : iM l = some (gR l) := oi l hb hl
theorem mR : ∀ (k u : Nat) (l : List Int), u < 2 ^ (7 * k) → u < 18446744073709551616 → 0 < k → l.length + k ≤ 90000000 →
  aU (fun (x : List Int × Int) => cx x.1 x.2) (l, (u : Int)) = some (l ++ (gj u).1, ((gj u).2 : Int))
 | 0, _, _, _, _, h, _ => by omega
 | k + 1, u, l, hu, hb, _, hl => by
  by_cases h : 128 ≤ u
  ·have hk : k ≠ 0 := fun e => by subst e; simp at hu; omega
   have hp : 2 ^ (7 * (k + 1)) = 2 ^ (7 * k) * 128 := by rw [Nat.mul_add, Nat.pow_add]
   have h2 : u / 128 < 2 ^ (7 * k) := by rw [hp] at hu; exact Nat.div_lt_of_lt_mul (by rw [Nat.mul_comm]; exact hu)
   clear hp
   ·have hs : cx l (u : Int) = some (.inl (l ++ [((u % 128 + 128 : Nat) : Int)], ((u / 128 : Nat) : Int))) := by
     unfold cx
     have e1 : (u : Int).tmod 128 = ((u % 128 : Nat) : Int) := (Int.ofNat_tmod u 128).symm
     have e2 : (u : Int).tdiv 128 = ((u / 128 : Nat) : Int) := (Int.ofNat_tdiv u 128).symm
     have e3 : IntKind.wrap .u8 (IntKind.wrap .u64 (((u % 128 : Nat) : Int) + 128)) = ((u % 128 + 128 : Nat) : Int) := by rw [IntKind.wrap_u8, IntKind.wrap_u64]; omega
     have e4 : IntKind.wrap .u64 ((u / 128 : Nat) : Int) = ((u / 128 : Nat) : Int) := by rw [IntKind.wrap_u64]; omega
     rw [iP (by omega), iP (hZ _ (by omega)), e1, e2, e3, e4]
     rfl
    rw [cL (s := (l, (u : Int))) hs, mR k (u / 128) _ h2 (by omega) (by omega) (by simp; omega)]
    have : gj u = (((u % 128 + 128 : Nat) : Int) :: (gj (u / 128)).1, (gj (u / 128)).2) := by rw [gj, dif_pos h]
    rw [this]
    simp
  ·have : gj u = ([], u) := by rw [gj, dif_neg h]
   rw [this]
   refine aN ?_
   show cx l (u : Int) = _
   unfold cx
   rw [iN (by omega)]
   simp
theorem iG {n : Int} (h : okN n) : cy n = some (dK (zig n)) := by
 have hz := mF h
 have key : dA ((zig n : Nat) : Int) = some (dK (zig n)) := by
  have hv := iF 10 (zig n) (Nat.lt_of_lt_of_le hz (by decide)) (by decide)
  have := mR 10 (zig n) [] (Nat.lt_of_lt_of_le hz (by decide)) hz (by decide) (by simp)
  unfold dA
  show (aU (fun (x : List Int × Int) => cx x.1 x.2) ([], ((zig n : Nat) : Int))).bind _ = _
  rw [this]
  simp only [bSq]
  unfold dV
  have e2 : IntKind.wrap .u8 ((gj (zig n)).2 : Int) = ((gj (zig n)).2 : Int) := by rw [IntKind.wrap_u8]; omega
  rw [iP (hZ _ (by rw [List.nil_append]; omega)), e2]
  rfl
 unfold okN at h
 unfold cy
 by_cases c : n < 0
 ·rw [iP c]
  have e : IntKind.wrap .u64 ((IntKind.wrap .u64 ((IntKind.wrap .u64 (IntKind.wrap .i64 (0 - (IntKind.wrap .i64 (n + 1))))) * 2)) + 1) = ((zig n : Nat) : Int) := by
   rw [wr (n := n + 1) (by omega) (by omega), wr (n := 0 - (n + 1)) (by omega) (by omega), IntKind.wrap_u64, IntKind.wrap_u64, IntKind.wrap_u64]
   unfold zig
   rw [iN (by omega)]
   omega
  rw [e, key]
 ·rw [iN c]
  have e : IntKind.wrap .u64 ((IntKind.wrap .u64 n) * 2) = ((zig n : Nat) : Int) := by
   rw [IntKind.wrap_u64, IntKind.wrap_u64]
   unfold zig
   rw [iP (by omega)]
   omega
  rw [e, key]
theorem lw (l b : List Int) (v : Nat) (hl : ∀ n ∈ l, okN n) (hn : b.length + 10 * l.length ≤ 70000000) : ∃ w, eh l b v = some (b ++ aI ((l.length : Int) :: l), w) := by
 have hlen : okN (l.length : Int) := by unfold okN; omega
 have hv := gI hlen
 have := fK (S := List Int × Nat × Int) (T := List Int × Nat) (fun i => (b ++ dK (zig (l.length : Int)) ++ aI (l.take i), v + 1 + i, (i : Int))) (body := fun x => bW l x.1 x.2.1 x.2.2) l.length (b ++ dK (zig (l.length : Int)) ++ aI l, v + 1 + l.length)
  (by
   intro i hi
   have hx := hl _ (gg hi)
   have hvx := gI hx
   have ht := dw (l.take i) fun n hn => hl n (List.mem_of_mem_take hn)
   have htl : (l.take i).length = i := by simp; omega
   have et : aI (l.take (i + 1)) = aI (l.take i) ++ dK (zig (l.getD i default)) := by
    rw [dl _ hi, lu, cK]; simp [aI]
   show bW l (b ++ dK (zig (l.length : Int)) ++ aI (l.take i)) (v + 1 + i) (i : Int) = _
   unfold bW
   rw [iP (ltI hi), iP (inI hi)]
   simp only [tN]
   rw [iG hx]
   simp only [bSq]
   rw [iP (hZ _ (by simp only [List.length_append]; omega)), wrs i (by omega), et, List.append_assoc]
   rfl)
  (by
   show bW l _ _ (l.length : Int) = _
   unfold bW
   rw [iN (dS _), List.take_length])
 have h0 : (b ++ dK (zig (l.length : Int)) ++ aI (l.take 0), v + 1 + 0, ((0 : Nat) : Int)) = (b ++ dK (zig (l.length : Int)), v + 1, (0 : Int)) := by simp [aI]
 rw [h0] at this
 refine ⟨v + 1 + l.length, ?_⟩
 unfold eh
 rw [iG hlen]
 simp only [bSq]
 rw [iP (hZ _ (by omega))]
 show (aU (fun (x : List Int × Nat × Int) => bW l x.1 x.2.1 x.2.2) (b ++ dK (zig (l.length : Int)), v + 1, 0)).bind _ = _
 rw [this, cK, List.append_assoc]
 rfl
theorem rV (m : aj) (b : List Int) (h : ∀ x ∈ m.code, ∀ n ∈ f6 x, okN n) (hb : b.length ≤ 10000000) (hl : m.code.length ≤ 100000) :
  aU (fun (x : List Int × Int) => cr m x.1 x.2) (b, 0) = some (b ++ dx m.code) := by
 have one : ∀ (i : Nat) (q : List Int), i < m.code.length → q.length ≤ 80000000 → aU (fun (x : List Int × Int) => cq m (i : Int) x.1 x.2) (q, 0) = some (q ++ aI (f6 (m.code.getD i default))) := by
  intro i q hi hq
  have hx := h _ (gg hi)
  generalize hxx : m.code.getD i default = x at hx
  have hl6 : (f6 x).length = 6 := rfl
  have := fK (S := List Int × Int) (T := List Int) (fun k => (q ++ aI ((f6 x).take k), (k : Int))) (body := fun y => cq m (i : Int) y.1 y.2) 6 (q ++ aI (f6 x))
   (by
    intro k hk
    have hxk := hx _ (gg (show k < (f6 x).length by omega))
    have hvx := gI hxk
    have ht := dw ((f6 x).take k) fun n hn => hx n (List.mem_of_mem_take hn)
    have htl : ((f6 x).take k).length ≤ 6 := by rw [List.length_take]; omega
    have et : aI ((f6 x).take (k + 1)) = aI ((f6 x).take k) ++ dK (zig ((f6 x).getD k default)) := by
     rw [dl _ (by omega), lu, cK]; simp [aI]
    show cq m (i : Int) (q ++ aI ((f6 x).take k)) (k : Int) = _
    unfold cq
    simp only [tN, hxx]
    rw [iP (by omega), iP ⟨by omega, by omega⟩]
    show (cy ((f6 x).getD k default)).bind _ = _
    rw [iG hxk]
    simp only [bSq]
    rw [iP (hZ _ (by simp only [List.length_append]; omega)), wrs k (by omega), et, List.append_assoc])
   (by
    show cq m (i : Int) _ 6 = _
    unfold cq
    rw [iN (by omega)]
    rfl)
  have h0 : (q ++ aI ((f6 x).take 0), ((0 : Nat) : Int)) = (q, (0 : Int)) := by simp [aI]
  rw [h0] at this
  exact this
 have := fK (S := List Int × Int) (T := List Int) (fun i => (b ++ dx (m.code.take i), (i : Int))) (body := fun x => cr m x.1 x.2) m.code.length (b ++ dx m.code)
  (by
   intro i hi
   have ht := kc (m.code.take i) fun x hx => h x (List.mem_of_mem_take hx)
   have htl : (m.code.take i).length = i := by simp; omega
   have et : dx (m.code.take (i + 1)) = dx (m.code.take i) ++ aI (f6 (m.code.getD i default)) := by
    rw [dl _ hi]; unfold dx; simp
   show cr m (b ++ dx (m.code.take i)) (i : Int) = some (.inl (b ++ dx (m.code.take (i + 1)), ((i + 1 : Nat) : Int)))
   unfold cr
   rw [iP (ltI hi), iP (inI hi)]
   show (aU (fun (x : List Int × Int) => cq m (i : Int) x.1 x.2) _).bind _ = _
   rw [one i _ hi (by rw [List.length_append]; omega)]
   simp only [bSq]
   unfold eH
   rw [wrs i (by omega), et, List.append_assoc])
  (by
   show cr m _ (m.code.length : Int) = _
   unfold cr
   rw [iN (dS _), List.take_length])
 have h0 : (b ++ dx (m.code.take 0), ((0 : Nat) : Int)) = (b, (0 : Int)) := by simp [dx]
 rw [h0] at this
 exact this
theorem pf {m : aj} (hm : okM m) (h1 : m.put.length ≤ 100000) (h2 : m.bools.length ≤ 100000) (h3 : m.get.length ≤ 100000) (h4 : m.code.length ≤ 100000) : hM m = some (sD m) := by
 have hby := mI hm h1 h2 h3 h4
 obtain ⟨a1, a2, a3, a4, a5⟩ := hm
 have l2 := dw _ (lb a2 h1)
 have l3 := dw _ (lb a3 h2)
 have l4 := dw _ (lb a4 h3)
 have oc : okN (m.code.length : Int) := by unfold okN; omega
 have l5 := gI oc
 have l6 := kc m.code a5
 have o1 := a1 m.cells (by simp)
 have o2 := a1 m.regs (by simp)
 have o3 := a1 m.cost (by simp)
 have v1 := gI o1
 have v2 := gI o2
 have v3 := gI o3
 simp only [List.length_cons] at l2 l3 l4
 unfold hM
 rw [iG o1]
 simp only [bSq]
 rw [iP (hZ _ (by omega)), iG o2]
 simp only [bSq]
 rw [iP (hZ _ (by omega)), iG o3]
 simp only [bSq]
 rw [iP (hZ _ (by omega)), show (lit ([76, 87, 1] : List Int)) = [76, 87, 1] from rfl]
 obtain ⟨w1, e1⟩ := lw m.put ([76, 87, 1] ++ dK (zig m.cells) ++ dK (zig m.regs) ++ dK (zig m.cost)) 3 a2 (by simp only [List.length_append, List.length_cons, List.length_nil]; omega)
 rw [e1]
 simp only [bSq]
 obtain ⟨w2, e2⟩ := lw m.bools ([76, 87, 1] ++ dK (zig m.cells) ++ dK (zig m.regs) ++ dK (zig m.cost) ++ aI ((m.put.length : Int) :: m.put)) w1 a3 (by simp only [List.length_append, List.length_cons, List.length_nil]; omega)
 rw [e2]
 simp only [bSq]
 obtain ⟨w3, e3⟩ := lw m.get ([76, 87, 1] ++ dK (zig m.cells) ++ dK (zig m.regs) ++ dK (zig m.cost) ++ aI ((m.put.length : Int) :: m.put) ++ aI ((m.bools.length : Int) :: m.bools)) w2 a4 (by simp only [List.length_append, List.length_cons, List.length_nil]; omega)
 rw [e3]
 simp only [bSq]
 rw [iG oc]
 simp only [bSq]
 rw [iP (hZ _ (by simp only [List.length_append, List.length_cons, List.length_nil]; omega))]
 show (aU (fun (x : List Int × Int) => cr m x.1 x.2) (_, 0)).bind _ = _
 rw [rV m _ a5 (by simp only [List.length_append, List.length_cons, List.length_nil]; omega) h4]
 simp only [bSq]
 have eb : [76, 87, 1] ++ dK (zig m.cells) ++ dK (zig m.regs) ++ dK (zig m.cost) ++ aI ((m.put.length : Int) :: m.put) ++ aI ((m.bools.length : Int) :: m.bools) ++ aI ((m.get.length : Int) :: m.get) ++ dK (zig (m.code.length : Int)) ++ dx m.code = cN m := by
  have x1 : aI [m.cells, m.regs, m.cost] = dK (zig m.cells) ++ (dK (zig m.regs) ++ (dK (zig m.cost) ++ [])) := by simp only [cK]; rfl
  have x2 : aI [(m.code.length : Int)] = dK (zig (m.code.length : Int)) ++ [] := by simp only [cK]; rfl
  unfold cN
  rw [x1, x2]
  simp only [List.append_assoc, List.append_nil, List.nil_append]
 rw [eb]
 have hbl : (cN m).length ≤ 20000000 := by rw [← eb]; simp only [List.length_append, List.length_cons, List.length_nil]; omega
 unfold eG
 rw [rU _ hby (by omega)]
 simp only [bSq]
 rw [iP (tA _ (by omega))]
 have hs := lV hby
 have hN : ((gR (cN m)).toNat : Int) = gR (cN m) := by omega
 unfold sD dM lit
 generalize gR (cN m) = s at hs hN ⊢
 congr 2
 generalize s.toNat = n at hN
 subst hN
 have f8 : ((n : Nat) : Int).fdiv (2 ^ (min 8 (IntKind.bits .u32))) = ((n / 256 : Nat) : Int) := by
  show ((n : Nat) : Int).fdiv (2 ^ 8) = _
  rw [Int.fdiv_eq_ediv_of_nonneg _ (by decide)]; omega
 have f16 : ((n : Nat) : Int).fdiv (2 ^ (min 16 (IntKind.bits .u32))) = ((n / 65536 : Nat) : Int) := by
  show ((n : Nat) : Int).fdiv (2 ^ 16) = _
  rw [Int.fdiv_eq_ediv_of_nonneg _ (by decide)]; omega
 have f24 : ((n : Nat) : Int).fdiv (2 ^ (min 24 (IntKind.bits .u32))) = ((n / 16777216 : Nat) : Int) := by
  show ((n : Nat) : Int).fdiv (2 ^ 24) = _
  rw [Int.fdiv_eq_ediv_of_nonneg _ (by decide)]; omega
 have w8 : ∀ k : Nat, IntKind.wrap .u8 (k : Int) = ((k % 256 : Nat) : Int) := fun k => by rw [IntKind.wrap_u8]; omega
 rw [f8, f16, f24, w8, w8, w8, w8]
theorem mS {b l : List Int} {k : Nat} (hbl : b.length ≤ 100000000) (hb : bu b) (hs : l <:+ b) (hk : 1 ≤ k ∧ k ≤ 1000) : ∃ y, cg (k : Int) (ao.mk b ((b.length - l.length : Nat) : Int) (af.mk 0 0)) = some y ∧ Rel b.length (rdC k l) y := by
 obtain ⟨y, e, hr⟩ := fP hbl hb hs
 unfold cg rdC
 rw [e]
 simp only [bSq]
 cases hn : rdN l with
 | inr z =>
  obtain ⟨c, j⟩ := z
  rw [hn] at hr
  obtain ⟨h1, h2⟩ := hr
  have hc : c ≠ 0 := dU l c j hn
  rw [iN (by rw [h1]; exact hc)]
  unfold bg
  rw [iP (by rw [h1]; exact hc)]
  exact ⟨_, rfl, h1, h2⟩
 | inl z =>
  obtain ⟨n, q⟩ := z
  rw [hn] at hr
  have hr : y = (n, ((b.length - q.length : Nat) : Int), 0, 0) := hr
  subst hr
  obtain ⟨s1, _⟩ := bn hn
  have hql := (s1.trans hs).length_le
  have e0 : (b.length : Int) - ((b.length - q.length : Nat) : Int) = (q.length : Int) := by omega
  have et : (q.length : Int).tdiv (k : Int) = ((q.length / k : Nat) : Int) := (Int.ofNat_tdiv _ _).symm
  have hd : q.length / k ≤ q.length := Nat.div_le_self _ _
  simp only [rdB]
  obtain ⟨d, hdd⟩ : ∃ d, d = q.length / k := ⟨_, rfl⟩
  rw [← hdd] at et hd ⊢
  rw [if_true, e0, wr (n := (q.length : Int)) (by omega) (by omega), et, wr (by omega) (by omega), mQ]
  simp only [bSq]
  unfold bg
  by_cases c1 : n < 0
  ·rw [iP c1, iP (by decide), iP (.inl c1)]
   exact ⟨_, rfl, rfl, rfl⟩
  ·rw [iN c1, iP (by omega)]
   by_cases c2 : n > (d : Int)
   ·rw [iP c2, iP (by decide), iP (.inr c2)]
    exact ⟨_, rfl, rfl, rfl⟩
   ·rw [iN c2, iN (by decide), iN (by omega)]
    exact ⟨_, rfl, rfl⟩
theorem mT {b : List Int} {q0 : ao} {y : Int × Int × Int × Int} (hq : q0.b = b) (hbl : b.length ≤ 100000000) (hb : bu b) (hy : y.1 ≤ 100000000) : ∀ (n : Nat) (l acc : List Int) (i : Nat), (i : Int) + (n : Int) = y.1 → acc.length = i → l <:+ b →
  ∃ z, aU (fun (x : Int × Int × Int × List Int × Int) => aE q0 y x.1 x.2.1 x.2.2.1 x.2.2.2.1 x.2.2.2.2) (((b.length - l.length : Nat) : Int), 0, 0, acc, (i : Int)) = some z ∧
   (match rdL n l with
    | .inl (xs, q) => z = (((b.length - q.length : Nat) : Int), 0, 0, acc ++ xs)
    | .inr (c, k) => z.2.1 = c ∧ z.2.2.1 = ((b.length - k : Nat) : Int))
 | 0, l, acc, i, hi, ha, hs => by
  refine ⟨_, aN (o := (((b.length - l.length : Nat) : Int), 0, 0, acc)) ?_, by simp [rdL]⟩
  show aE q0 y _ 0 0 acc (i : Int) = _
  unfold aE
  rw [iN (by omega)]
 | n + 1, l, acc, i, hi, ha, hs => by
  have hrm : fo (acc.length + 1) 8 := by
   unfold fo
   have : maxLen = 9223372036854775807 := rfl
   omega
  obtain ⟨w, e, hr⟩ := fP hbl hb hs
  have hstep : aE q0 y ((b.length - l.length : Nat) : Int) 0 0 acc (i : Int) = some (.inl (w.2.1, w.2.2.1, w.2.2.2, acc ++ [w.1], ((i + 1 : Nat) : Int))) := by
   unfold aE
   rw [iP (by omega), iP rfl, hq, e]
   simp only [bSq]
   rw [iP hrm, wrs i (by omega)]
   rfl
  rw [cL (s := (((b.length - l.length : Nat) : Int), (0 : Int), (0 : Int), acc, (i : Int))) hstep]
  cases hn : rdN l with
  | inr z =>
   obtain ⟨c, j⟩ := z
   rw [hn] at hr
   obtain ⟨h1, h2⟩ := hr
   have hc : c ≠ 0 := dU l c j hn
   refine ⟨_, aN (o := (w.2.1, w.2.2.1, w.2.2.2, acc ++ [w.1])) ?_, ?_⟩
   ·show aE q0 y w.2.1 w.2.2.1 w.2.2.2 (acc ++ [w.1]) ((i + 1 : Nat) : Int) = _
    unfold aE
    rw [h1, iN hc]
    split <;> rfl
   ·simp only [rdL, hn, rdB]
    exact ⟨h1, h2⟩
  | inl z =>
   obtain ⟨x, q⟩ := z
   rw [hn] at hr
   have hr : w = (x, ((b.length - q.length : Nat) : Int), 0, 0) := hr
   subst hr
   obtain ⟨z, hz, hz2⟩ := mT hq hbl hb hy n q (acc ++ [x]) (i + 1) (by omega) (by simp [ha]) ((bn hn).1.trans hs)
   refine ⟨z, hz, ?_⟩
   simp only [rdL, hn, rdB]
   cases hl : rdL n q with
   | inr u => rw [hl] at hz2; exact hz2
   | inl u => rw [hl] at hz2; simp only at hz2 ⊢; rw [hz2]; simp
theorem lz {b l : List Int} (hbl : b.length ≤ 100000000) (hb : bu b) (hs : l <:+ b) : ∃ y, bV (ao.mk b ((b.length - l.length : Nat) : Int) (af.mk 0 0)) = some y ∧ Rel b.length (ia l) y := by
 obtain ⟨y, e, hr⟩ := mS (k := 1) hbl hb hs (by omega)
 unfold bV ia
 rw [show (1 : Int) = ((1 : Nat) : Int) from rfl, e]
 simp only [bSq]
 cases hn : rdC 1 l with
 | inr z =>
  obtain ⟨c, j⟩ := z
  rw [hn] at hr
  obtain ⟨h1, h2⟩ := hr
  have hc : c ≠ 0 := oh 1 l c j hn
  have h : aU (fun (x : Int × Int × Int × List Int × Int) => aE (ao.mk b ((b.length - l.length : Nat) : Int) (af.mk 0 0)) y x.1 x.2.1 x.2.2.1 x.2.2.2.1 x.2.2.2.2) (y.2.1, y.2.2.1, y.2.2.2, [], 0) = some (y.2.1, y.2.2.1, y.2.2.2, []) := by
   refine aN ?_
   show aE (ao.mk b ((b.length - l.length : Nat) : Int) (af.mk 0 0)) y y.2.1 y.2.2.1 y.2.2.2 [] 0 = _
   unfold aE
   rw [h1, iN hc]
   split <;> rfl
  show ∃ u, (aU (fun (x : Int × Int × Int × List Int × Int) => aE (ao.mk b ((b.length - l.length : Nat) : Int) (af.mk 0 0)) y x.1 x.2.1 x.2.2.1 x.2.2.2.1 x.2.2.2.2) (y.2.1, y.2.2.1, y.2.2.2, [], 0)).bind _ = some u ∧ _
  rw [h]
  exact ⟨_, rfl, h1, h2⟩
 | inl z =>
  obtain ⟨n, q⟩ := z
  rw [hn] at hr
  have hr : y = (n, ((b.length - q.length : Nat) : Int), 0, 0) := hr
  subst hr
  obtain ⟨s1, s2, s3⟩ := lc hn
  have hql := (s1.trans hs).length_le
  have hd : q.length / 1 ≤ q.length := Nat.div_le_self _ _
  obtain ⟨z, hz, hz2⟩ := mT (q0 := ao.mk b ((b.length - l.length : Nat) : Int) (af.mk 0 0)) (y := (n, ((b.length - q.length : Nat) : Int), 0, 0)) rfl hbl hb (by simp only; omega) n.toNat q [] 0 (by simp only; omega) rfl (s1.trans hs)
  have h0 : ((0 : Nat) : Int) = 0 := rfl
  rw [h0] at hz
  show ∃ u, (aU (fun (x : Int × Int × Int × List Int × Int) => aE (ao.mk b ((b.length - l.length : Nat) : Int) (af.mk 0 0)) (n, ((b.length - q.length : Nat) : Int), 0, 0) x.1 x.2.1 x.2.2.1 x.2.2.2.1 x.2.2.2.2) (((b.length - q.length : Nat) : Int), 0, 0, [], 0)).bind _ = some u ∧ _
  rw [hz]
  simp only [rdB]
  cases hl : rdL n.toNat q with
  | inr u =>
   rw [hl] at hz2
   exact ⟨_, rfl, hz2.1, hz2.2⟩
  | inl u =>
   rw [hl] at hz2
   simp only at hz2
   subst hz2
   exact ⟨_, rfl, rfl⟩
theorem qR {L b : List Int} {y : Int × Int × Int × Int} (hL : L.take ((IntKind.wrap .i64 ((L.length : Int) - 4)).toNat) = b) (hbl : b.length ≤ 100000000) (hb : bu b) {l : List Int} (hs : l <:+ b) {acc : List ax} {i : Nat} (hi : (i : Int) < y.1) (hi2 : i ≤ 100000000) (ha : acc.length = i) :
  ∃ s, bj L y ((b.length - l.length : Nat) : Int) 0 0 acc (i : Int) = some (.inl s) ∧ (match rdI l with
    | .inl (x, q) => s = (((b.length - q.length : Nat) : Int), 0, 0, acc ++ [x], ((i + 1 : Nat) : Int))
    | .inr (c, k) => s.2.1 = c ∧ s.2.2.1 = ((b.length - k : Nat) : Int)) := by
 have hrm : fo (acc.length + 1) 48 := by
  unfold fo
  have : maxLen = 9223372036854775807 := rfl
  omega
 unfold bj rdI
 rw [iP hi, iP rfl, hL]
 obtain ⟨w1, e1, r1⟩ := fP hbl hb hs
 rw [e1]
 simp only [bSq]
 cases h1 : rdN l with
 | inr z =>
  obtain ⟨c, j⟩ := z
  rw [h1] at r1
  obtain ⟨g1, g2⟩ := r1
  have hc : w1.2.2.1 ≠ 0 := by rw [g1]; exact dU l c j h1
  simp only [fc hc, bSq, iP hrm]
  exact ⟨_, rfl, g1, g2⟩
 | inl z =>
  obtain ⟨a1, p1⟩ := z
  rw [h1] at r1
  have r1 : w1 = _ := r1
  subst r1
  have s1 := (bn h1).1.trans hs
  obtain ⟨w2, e2, r2⟩ := fP hbl hb s1
  simp only [rdB]
  rw [e2]
  simp only [bSq]
  cases h2 : rdN p1 with
  | inr z =>
   obtain ⟨c, j⟩ := z
   rw [h2] at r2
   obtain ⟨g1, g2⟩ := r2
   have hc : w2.2.2.1 ≠ 0 := by rw [g1]; exact dU _ c j h2
   simp only [fc hc, bSq, iP hrm]
   exact ⟨_, rfl, g1, g2⟩
  | inl z =>
   obtain ⟨a2, p2⟩ := z
   rw [h2] at r2
   have r2 : w2 = _ := r2
   subst r2
   have s2 := (bn h2).1.trans s1
   obtain ⟨w3, e3, r3⟩ := fP hbl hb s2
   simp only
   rw [e3]
   simp only [bSq]
   cases h3 : rdN p2 with
   | inr z =>
    obtain ⟨c, j⟩ := z
    rw [h3] at r3
    obtain ⟨g1, g2⟩ := r3
    have hc : w3.2.2.1 ≠ 0 := by rw [g1]; exact dU _ c j h3
    simp only [fc hc, bSq, iP hrm]
    exact ⟨_, rfl, g1, g2⟩
   | inl z =>
    obtain ⟨a3, p3⟩ := z
    rw [h3] at r3
    have r3 : w3 = _ := r3
    subst r3
    have s3 := (bn h3).1.trans s2
    obtain ⟨w4, e4, r4⟩ := fP hbl hb s3
    simp only
    rw [e4]
    simp only [bSq]
    cases h4 : rdN p3 with
    | inr z =>
     obtain ⟨c, j⟩ := z
     rw [h4] at r4
     obtain ⟨g1, g2⟩ := r4
     have hc : w4.2.2.1 ≠ 0 := by rw [g1]; exact dU _ c j h4
     simp only [fc hc, bSq, iP hrm]
     exact ⟨_, rfl, g1, g2⟩
    | inl z =>
     obtain ⟨a4, p4⟩ := z
     rw [h4] at r4
     have r4 : w4 = _ := r4
     subst r4
     have s4 := (bn h4).1.trans s3
     obtain ⟨w5, e5, r5⟩ := fP hbl hb s4
     simp only
     rw [e5]
     simp only [bSq]
     cases h5 : rdN p4 with
     | inr z =>
      obtain ⟨c, j⟩ := z
      rw [h5] at r5
      obtain ⟨g1, g2⟩ := r5
      have hc : w5.2.2.1 ≠ 0 := by rw [g1]; exact dU _ c j h5
      simp only [fc hc, bSq, iP hrm]
      exact ⟨_, rfl, g1, g2⟩
     | inl z =>
      obtain ⟨a5, p5⟩ := z
      rw [h5] at r5
      have r5 : w5 = _ := r5
      subst r5
      have s5 := (bn h5).1.trans s4
      obtain ⟨w6, e6, r6⟩ := fP hbl hb s5
      simp only
      rw [e6]
      simp only [bSq]
      rw [iP hrm]
      cases h6 : rdN p5 with
      | inr z =>
       obtain ⟨c, j⟩ := z
       rw [h6] at r6
       exact ⟨_, rfl, r6.1, r6.2⟩
      | inl z =>
       obtain ⟨a6, p6⟩ := z
       rw [h6] at r6
       have r6 : w6 = _ := r6
       subst r6
       rw [wrs i (by omega)]
       exact ⟨_, rfl, rfl⟩
theorem mU {L b : List Int} {y : Int × Int × Int × Int} (hL : L.take ((IntKind.wrap .i64 ((L.length : Int) - 4)).toNat) = b) (hbl : b.length ≤ 100000000) (hb : bu b) (hy : y.1 ≤ 100000000) : ∀ (n : Nat) (l : List Int) (acc : List ax) (i : Nat), (i : Int) + (n : Int) = y.1 → acc.length = i → l <:+ b →
  ∃ z, aU (fun (x : Int × Int × Int × List ax × Int) => bj L y x.1 x.2.1 x.2.2.1 x.2.2.2.1 x.2.2.2.2) (((b.length - l.length : Nat) : Int), 0, 0, acc, (i : Int)) = some z ∧
   (match rdK n l with
    | .inl (xs, q) => z = (((b.length - q.length : Nat) : Int), 0, 0, acc ++ xs)
    | .inr (c, k) => z.2.1 = c ∧ z.2.2.1 = ((b.length - k : Nat) : Int))
 | 0, l, acc, i, hi, ha, hs => by
  refine ⟨_, aN (o := (((b.length - l.length : Nat) : Int), 0, 0, acc)) ?_, by simp [rdK]⟩
  show bj L y _ 0 0 acc (i : Int) = _
  unfold bj
  rw [iN (by omega)]
 | n + 1, l, acc, i, hi, ha, hs => by
  obtain ⟨s, hstep, hr⟩ := qR (y := y) hL hbl hb hs (acc := acc) (i := i) (by omega) (by omega) ha
  rw [cL (s := (((b.length - l.length : Nat) : Int), (0 : Int), (0 : Int), acc, (i : Int))) hstep]
  cases hn : rdI l with
  | inr z =>
   obtain ⟨c, j⟩ := z
   rw [hn] at hr
   obtain ⟨h1, h2⟩ := hr
   have hc : c ≠ 0 := qf l c j hn
   refine ⟨_, aN (s := s) (o := (s.1, s.2.1, s.2.2.1, s.2.2.2.1)) ?_, ?_⟩
   ·show bj L y s.1 s.2.1 s.2.2.1 s.2.2.2.1 s.2.2.2.2 = _
    unfold bj
    rw [h1, iN hc]
    split <;> rfl
   ·simp only [rdK, hn, rdB]
    exact ⟨h1, h2⟩
  | inl z =>
   obtain ⟨x, q⟩ := z
   rw [hn] at hr
   simp only at hr
   subst hr
   obtain ⟨z, hz, hz2⟩ := mU hL hbl hb hy n q (acc ++ [x]) (i + 1) (by omega) (by simp [ha]) ((qd hn).trans hs)
   refine ⟨z, hz, ?_⟩
   simp only [rdK, hn, rdB]
   cases hl : rdK n q with
   | inr u => rw [hl] at hz2; exact hz2
   | inl u => rw [hl] at hz2; simp only at hz2 ⊢; rw [hz2]; simp
def m0 : aj := aj.mk 0 0 0 [] [] [] []
noncomputable def oj (n : Nat) : Rd aj → aj × af
 | .inl (m, q) => if q ≠ [] then (m0, af.mk 4 ((n - q.length : Nat) : Int)) else if (jE m).code ≠ 0 then (m0, af.mk 18 (n : Int)) else (m, af.mk 0 0)
 | .inr (c, k) => (m0, af.mk c ((n - k : Nat) : Int))
noncomputable def m9 (l : List Int) : aj × af :=
 if l.length < 7 then (m0, af.mk 5 (l.length : Int))
 else if l.take 3 ≠ [76, 87, 1] then (m0, af.mk 4 0)
 else if l.drop (l.length - 4) ≠ dM (gR (l.take (l.length - 4))).toNat then (m0, af.mk 19 ((l.length - 4 : Nat) : Int))
 else oj (l.length - 4) (rdM ((l.take (l.length - 4)).drop 3))
theorem pg {l : List Int} {n : Nat} (hb : bu l) (hln : l.length = n + 4) :
  l.drop n = dM (gR (l.take n)).toNat ↔ gR (l.take n) = (od (l.getD n default).toNat (l.getD (n + 1) default).toNat (l.getD (n + 2) default).toNat (l.getD (n + 3) default).toNat : Int) := by
 have hbt : bu (l.take n) := fun x hx => hb x (List.mem_of_mem_take hx)
 have hs := lV hbt
 generalize gR (l.take n) = s at hs
 have bt : ∀ k, k < l.length → ((l.getD k default).toNat : Int) = l.getD k default ∧ (l.getD k default).toNat < 256 := fun k hk => by
  have := hb _ (gg hk); omega
 obtain ⟨a1, a2⟩ := bt n (by omega)
 obtain ⟨b1, b2⟩ := bt (n + 1) (by omega)
 obtain ⟨d1, d2⟩ := bt (n + 2) (by omega)
 obtain ⟨e1, e2⟩ := bt (n + 3) (by omega)
 rw [nG l n hln]
 unfold dM
 constructor
 ·intro h
  simp only [List.cons.injEq, and_true] at h
  obtain ⟨h1, h2, h3, h4⟩ := h
  rw [h1, h2, h3, h4]
  have := nC (s := s.toNat) (by omega)
  simp only [tN]
  rw [this]
  omega
 ·intro h
  obtain ⟨q0, q1, q2, q3⟩ := rP a2 b2 d2 e2 (Nat.mod_lt _ (by decide)) (Nat.mod_lt _ (by decide)) (Nat.mod_lt _ (by decide)) (Nat.mod_lt _ (by decide)) (show _ = od (s.toNat % 256) (s.toNat / 256 % 256) (s.toNat / 65536 % 256) (s.toNat / 16777216 % 256) by rw [nC (by omega)]; omega)
  rw [← q0, ← q1, ← q2, ← q3, a1, b1, d1, e1]
theorem lA {l q : List Int} {m : aj} (hb : bu l) (hl : l.length ≤ 9000000) (h : rdM l = .inl (m, q)) : m.put.length ≤ 9000000 ∧ m.bools.length ≤ 9000000 ∧ m.get.length ≤ 9000000 ∧ m.code.length ≤ 9000000 := by
 obtain ⟨_, o2⟩ := mK hb h
 have h1 := congrArg List.length o2
 have hp := pe (m := m)
 have h3 : 3 + 6 * m.code.length ≤ (cN m).length := by
  have h4 := mJ m.code
  unfold cN
  simp only [List.length_append, List.length_cons, List.length_nil]
  omega
 have h2 : (cN m).length ≤ l.length + 3 := by simp only [List.length_append, List.length_cons, List.length_nil] at h1; omega
 have g1 := hR ((m.put.length : Int) :: m.put)
 have g2 := hR ((m.bools.length : Int) :: m.bools)
 have g3 := hR ((m.get.length : Int) :: m.get)
 have g4 : 3 + (aI ((m.put.length : Int) :: m.put)).length + (aI ((m.bools.length : Int) :: m.bools)).length + (aI ((m.get.length : Int) :: m.get)).length ≤ (cN m).length := by
  unfold cN
  simp only [List.length_append, List.length_cons, List.length_nil]
  omega
 simp only [List.length_cons] at g1 g2 g3
 omega
theorem rW {l : List Int} (hb : bu l) (hl : l.length ≤ 30000) : eU l = some (m9 l) := by
 unfold m9
 by_cases h7 : l.length < 7
 ·rw [iP h7]
  unfold eU
  rw [wr (n := (l.length : Int) - 4) (by omega) (by omega), iP (by omega)]
  rfl
 rw [iN h7]
 obtain ⟨n, hn⟩ : ∃ n, n = l.length - 4 := ⟨_, rfl⟩
 have hln : l.length = n + 4 := by omega
 have hbt : bu (l.take n) := fun x hx => hb x (List.mem_of_mem_take hx)
 have htl : (l.take n).length = n := by rw [List.length_take]; omega
 rw [qJ hln (by omega) (by omega) hb, ← hn]
 have h3 : iA (l.take 3) = [76, 87, 1] ↔ l.take 3 = [76, 87, 1] := by
  constructor
  ·intro c1
   refine pd (fun x hx => hb x (List.mem_of_mem_take hx)) ?_ c1
   intro x hx
   simp only [List.mem_cons, List.not_mem_nil, or_false] at hx
   omega
  ·intro c1; rw [c1]; rfl
 by_cases c1 : l.take 3 = [76, 87, 1]
 ·rw [iP (h3.2 c1), iN (not_not_intro c1)]
  by_cases c2 : l.drop n = dM (gR (l.take n)).toNat
  ·rw [iN (not_not_intro ((pg hb hln).1 c2)), iN (not_not_intro c2)]
   have hall := pG (b := l.take n) (l := (l.take n).drop 3) (by omega) hbt (List.drop_suffix _ _)
   rw [List.length_drop, htl, show n - (n - 3) = 3 by omega] at hall
   rw [show (3 : Int) = ((3 : Nat) : Int) from rfl, hall]
   simp only [bSq]
   cases hr : rdM ((l.take n).drop 3) with
   | inr z => rfl
   | inl z =>
    obtain ⟨m, q⟩ := z
    have hql : q.length ≤ n := by
     obtain ⟨_, o2⟩ := mK (bY (List.drop_suffix _ _) hbt) hr
     have := congrArg List.length o2
     have := oZ m
     simp only [List.length_append, List.length_cons, List.length_nil, List.length_drop, htl] at *
     omega
    simp only [asR, Sum.elim_inl, oj]
    by_cases c3 : q = []
    ·rw [iN (not_not_intro c3), iN (by rw [c3, List.length_nil]; omega), mP m (lA (bY (List.drop_suffix _ _) hbt) (by rw [List.length_drop]; omega) hr)]
     simp only [bSq]
     by_cases c4 : (jE m).code = 0
     ·rw [iN (not_not_intro c4), iN (not_not_intro c4)]
     ·rw [iP c4, iP c4]; rfl
    ·have := List.length_pos_iff.2 c3
     rw [iP c3, iP (by omega)]
     rfl
  ·rw [iP (fun h => c2 ((pg hb hln).2 h)), iP c2]
   rfl
 ·rw [iN (fun h => c1 (h3.1 h)), iP c1]
  rfl
noncomputable def tlF (L : List Int) (n s k : Nat) : Option (aj × af) := if L.getD (n + k) default = (dM s).getD k default then none else some (m0, af.mk 19 (n : Int))
theorem qS {L : List Int} {n : Nat} (hln : L.length = n + 4) (hbig : n ≤ 90000000) (s : Nat) (hs : s < 4294967296) :
  aU (fun x => dQ L (s : Int) x) 0 = some (if L.drop n = dM s then .inl () else .inr (m0, af.mk 19 (n : Int))) := by
 have w0 : IntKind.wrap .i64 ((L.length : Int) - 4) = (n : Int) := by rw [wr (by omega) (by omega)]; omega
 have step : ∀ k : Nat, k < 4 → dQ L (s : Int) (k : Int) = some (match tlF L n s k with | some z => .inr (.inr z) | none => .inl ((k + 1 : Nat) : Int)) := by
  intro k hk
  unfold dQ tlF
  have w1 : IntKind.wrap .i64 ((n : Int) + (k : Int)) = ((n + k : Nat) : Int) := by rw [wr (by omega) (by omega)]; omega
  have w2 : IntKind.wrap .u64 (IntKind.wrap .i64 (8 * (k : Int))) = ((8 * k : Nat) : Int) := by rw [wr (by omega) (by omega), IntKind.wrap_u64]; omega
  rw [w0, w1, w2, iP (by omega), iP (by refine ⟨⟨?_, ?_⟩, ?_⟩ <;> omega), wrs k (by omega)]
  simp only [tN]
  have ek : IntKind.wrap .u8 ((s : Int).fdiv (2 ^ (min (8 * k) (IntKind.bits .u32)))) = (dM s).getD k default := by
   have f : ∀ j : Nat, (s : Int).fdiv (2 ^ j) = ((s / 2 ^ j : Nat) : Int) := fun j => by
    rw [Int.fdiv_eq_ediv_of_nonneg _ (Int.le_of_lt (Int.pow_pos (by decide))), Int.natCast_ediv]
    rfl
   have w8 : ∀ j : Nat, IntKind.wrap .u8 (j : Int) = ((j % 256 : Nat) : Int) := fun j => by rw [IntKind.wrap_u8]; omega
   have : k = 0 ∨ k = 1 ∨ k = 2 ∨ k = 3 := by omega
   rcases this with rfl | rfl | rfl | rfl
   ·rw [show min (8 * 0) (IntKind.bits .u32) = 0 from rfl, f, w8]; simp [dM]
   ·rw [show min (8 * 1) (IntKind.bits .u32) = 8 from rfl, f, w8]; rfl
   ·rw [show min (8 * 2) (IntKind.bits .u32) = 16 from rfl, f, w8]; rfl
   ·rw [show min (8 * 3) (IntKind.bits .u32) = 24 from rfl, f, w8]; rfl
  by_cases c : L.getD (n + k) default = (dM s).getD k default
  ·rw [iN (by rw [ek]; exact not_not_intro c), iP c]
  ·rw [iP (by rw [ek]; exact c), iN c]
   rfl
 rw [eI 4 (tlF L n s) () (fun k hk => (step k hk).trans (by cases tlF L n s k <;> rfl)) (by unfold dQ; rw [iN (by decide)])]
 congr 1
 have hd := nG L n hln
 have ht : dM s = [(dM s).getD 0 default, (dM s).getD 1 default, (dM s).getD 2 default, (dM s).getD 3 default] := rfl
 by_cases c : L.drop n = dM s
 ·rw [iP c]
  refine lr fun k hk => ?_
  unfold tlF
  rw [iP]
  rw [← c]
  simp only [List.getD, List.getElem?_drop]
 ·rw [iN c]
  rcases eW 4 (tlF L n s) () with ⟨_, h⟩ | ⟨k, z, hk, hz, e⟩
  ·exfalso
   have g : ∀ k, k < 4 → L.getD (n + k) default = (dM s).getD k default := fun k hk => by
    have := h k hk
    unfold tlF at this
    by_cases cc : L.getD (n + k) default = (dM s).getD k default
    ·exact cc
    ·rw [iN cc] at this; cases this
   refine c ?_
   rw [hd, ht, ← g 0 (by decide), ← g 1 (by decide), ← g 2 (by decide), ← g 3 (by decide)]
   rfl
  ·rw [e]
   unfold tlF at hz
   split at hz
   ·cases hz
   ·simp only [sJ] at hz
    rw [hz]
theorem sN {L b : List Int} {n : Nat} (hln : L.length = n + 4) (hn3 : 3 ≤ n) (hbig : n ≤ 9000000) (hL : L.take n = b) (hb : bu b) : dP L = some (oj n (rdM (b.drop 3))) := by
 have w0 : IntKind.wrap .i64 ((L.length : Int) - 4) = (n : Int) := by rw [wr (by omega) (by omega)]; omega
 have hL2 : L.take ((IntKind.wrap .i64 ((L.length : Int) - 4)).toNat) = b := by rw [w0, tN, hL]
 have hbn : b.length = n := by rw [← hL, List.length_take]; omega
 have hbl : b.length ≤ 100000000 := by omega
 have hs : b.drop 3 <:+ b := List.drop_suffix _ _
 have jbad : ∀ (y6 y7 y8 : Int × Int × Int × Int) (y9 y10 y11 : List Int × Int × Int × Int) (x15 x16 x17 : Int) (l18 : List ax), x16 ≠ 0 → cp L y6 y7 y8 y9 y10 y11 x15 x16 x17 l18 = some (m0, af.mk x16 x17) := by
  intro y6 y7 y8 y9 y10 y11 x15 x16 x17 l18 h
  unfold cp
  rw [iP h]
  rfl
 have lbad : ∀ (y12 : Int × Int × Int × Int), y12.2.2.1 ≠ 0 → aU (fun (x : Int × Int × Int × List ax × Int) => bj L y12 x.1 x.2.1 x.2.2.1 x.2.2.2.1 x.2.2.2.2) (y12.2.1, y12.2.2.1, y12.2.2.2, [], 0) = some (y12.2.1, y12.2.2.1, y12.2.2.2, []) := by
  intro y12 h
  refine aN ?_
  show bj L y12 y12.2.1 y12.2.2.1 y12.2.2.2 [] 0 = _
  unfold bj
  rw [iN h]
  split <;> rfl
 have tbad : ∀ (y6 y7 y8 : Int × Int × Int × Int) (y9 y10 y11 : List Int × Int × Int × Int) (y12 : Int × Int × Int × Int), y12.2.2.1 ≠ 0 → ((aU (fun (x : Int × Int × Int × List ax × Int) => bj L y12 x.1 x.2.1 x.2.2.1 x.2.2.2.1 x.2.2.2.2) (y12.2.1, y12.2.2.1, y12.2.2.2, [], 0)).bind (fun x => cp L y6 y7 y8 y9 y10 y11 x.1 x.2.1 x.2.2.1 x.2.2.2)) = some (m0, af.mk y12.2.2.1 y12.2.2.2) := by
  intro y6 y7 y8 y9 y10 y11 y12 h
  rw [lbad y12 h]
  exact jbad _ _ _ _ _ _ _ _ _ _ h
 unfold dP
 rw [hL2]
 have h3 : (3 : Int) = ((b.length - (b.drop 3).length : Nat) : Int) := by rw [List.length_drop]; omega
 rw [h3]
 unfold rdM
 obtain ⟨w1, e1, r1⟩ := fP hbl hb hs
 rw [e1]
 simp only [bSq]
 cases h1 : rdN (b.drop 3) with
 | inr z =>
  obtain ⟨c, j⟩ := z
  rw [h1] at r1
  obtain ⟨g1, g2⟩ := r1
  have hc : w1.2.2.1 ≠ 0 := by rw [g1]; exact dU _ c j h1
  simp only [fc hc, gk hc, ir hc, bSq]
  refine (tbad _ _ _ _ _ _ _ ?_).trans ?_
  ·exact hc
  simp only [g1, g2, hbn]
  rfl
 | inl z =>
  obtain ⟨a1, p1⟩ := z
  rw [h1] at r1
  have r1 : w1 = _ := r1
  subst r1
  have s1 := (bn h1).1.trans hs
  obtain ⟨w2, e2, r2⟩ := fP hbl hb s1
  simp only [rdB]
  rw [e2]
  simp only [bSq]
  cases h2 : rdN p1 with
  | inr z =>
   obtain ⟨c, j⟩ := z
   rw [h2] at r2
   obtain ⟨g1, g2⟩ := r2
   have hc : w2.2.2.1 ≠ 0 := by rw [g1]; exact dU _ c j h2
   simp only [fc hc, gk hc, ir hc, bSq]
   refine (tbad _ _ _ _ _ _ _ ?_).trans ?_
   ·exact hc
   simp only [g1, g2, hbn]
   rfl
  | inl z =>
   obtain ⟨a2, p2⟩ := z
   rw [h2] at r2
   have r2 : w2 = _ := r2
   subst r2
   have s2 := (bn h2).1.trans s1
   obtain ⟨w3, e3, r3⟩ := fP hbl hb s2
   simp only
   rw [e3]
   simp only [bSq]
   cases h3 : rdN p2 with
   | inr z =>
    obtain ⟨c, j⟩ := z
    rw [h3] at r3
    obtain ⟨g1, g2⟩ := r3
    have hc : w3.2.2.1 ≠ 0 := by rw [g1]; exact dU _ c j h3
    simp only [fc hc, gk hc, ir hc, bSq]
    refine (tbad _ _ _ _ _ _ _ ?_).trans ?_
    ·exact hc
    simp only [g1, g2, hbn]
    rfl
   | inl z =>
    obtain ⟨a3, p3⟩ := z
    rw [h3] at r3
    have r3 : w3 = _ := r3
    subst r3
    have s3 := (bn h3).1.trans s2
    obtain ⟨w4, e4, r4⟩ := lz hbl hb s3
    simp only
    rw [e4]
    simp only [bSq]
    cases h4 : ia p3 with
    | inr z =>
     obtain ⟨c, j⟩ := z
     rw [h4] at r4
     obtain ⟨g1, g2⟩ := r4
     have hc : w4.2.2.1 ≠ 0 := by rw [g1]; exact kG _ c j h4
     simp only [fc hc, gk hc, ir hc, bSq]
     refine (tbad _ _ _ _ _ _ _ ?_).trans ?_
     ·exact hc
     simp only [g1, g2, hbn]
     rfl
    | inl z =>
     obtain ⟨a4, p4⟩ := z
     rw [h4] at r4
     have r4 : w4 = _ := r4
     subst r4
     have s4 := (gT h4).trans s3
     obtain ⟨w5, e5, r5⟩ := lz hbl hb s4
     simp only
     rw [e5]
     simp only [bSq]
     cases h5 : ia p4 with
     | inr z =>
      obtain ⟨c, j⟩ := z
      rw [h5] at r5
      obtain ⟨g1, g2⟩ := r5
      have hc : w5.2.2.1 ≠ 0 := by rw [g1]; exact kG _ c j h5
      simp only [fc hc, gk hc, ir hc, bSq]
      refine (tbad _ _ _ _ _ _ _ ?_).trans ?_
      ·exact hc
      simp only [g1, g2, hbn]
      rfl
     | inl z =>
      obtain ⟨a5, p5⟩ := z
      rw [h5] at r5
      have r5 : w5 = _ := r5
      subst r5
      have s5 := (gT h5).trans s4
      obtain ⟨w6, e6, r6⟩ := lz hbl hb s5
      simp only
      rw [e6]
      simp only [bSq]
      cases h6 : ia p5 with
      | inr z =>
       obtain ⟨c, j⟩ := z
       rw [h6] at r6
       obtain ⟨g1, g2⟩ := r6
       have hc : w6.2.2.1 ≠ 0 := by rw [g1]; exact kG _ c j h6
       simp only [fc hc, gk hc, ir hc, bSq]
       refine (tbad _ _ _ _ _ _ _ ?_).trans ?_
       ·exact hc
       simp only [g1, g2, hbn]
       rfl
      | inl z =>
       obtain ⟨a6, p6⟩ := z
       rw [h6] at r6
       have r6 : w6 = _ := r6
       subst r6
       have s6 := (gT h6).trans s5
       obtain ⟨w7, e7, r7⟩ := mS (k := 6) hbl hb s6 (by omega)
       simp only
       rw [show (6 : Int) = ((6 : Nat) : Int) from rfl, e7]
       simp only [bSq]
       cases h7 : rdC 6 p6 with
       | inr z =>
        obtain ⟨c, j⟩ := z
        rw [h7] at r7
        obtain ⟨g1, g2⟩ := r7
        have hc : w7.2.2.1 ≠ 0 := by rw [g1]; exact oh 6 _ c j h7
        refine (tbad _ _ _ _ _ _ _ ?_).trans ?_
        ·exact hc
        simp only [g1, g2, hbn]
        rfl
       | inl z =>
        obtain ⟨a7, p7⟩ := z
        rw [h7] at r7
        have r7 : w7 = _ := r7
        subst r7
        obtain ⟨t1, t2, t3⟩ := lc h7
        have hql := (t1.trans s6).length_le
        have hd : p7.length / 6 ≤ p7.length := Nat.div_le_self _ _
        obtain ⟨z, hz, hz2⟩ := mU (y := (a7, ((b.length - p7.length : Nat) : Int), 0, 0)) hL2 hbl hb (by simp only; omega) a7.toNat p7 [] 0 (by simp only; omega) rfl (t1.trans s6)
        have h0 : ((0 : Nat) : Int) = 0 := rfl
        rw [h0] at hz
        show (aU (fun (x : Int × Int × Int × List ax × Int) => bj L (a7, ((b.length - p7.length : Nat) : Int), 0, 0) x.1 x.2.1 x.2.2.1 x.2.2.2.1 x.2.2.2.2) (((b.length - p7.length : Nat) : Int), 0, 0, [], 0)).bind _ = _
        rw [hz]
        simp only [bSq]
        cases h8 : rdK a7.toNat p7 with
        | inr u =>
         obtain ⟨c, j⟩ := u
         rw [h8] at hz2
         obtain ⟨g1, g2⟩ := hz2
         have hc : z.2.1 ≠ 0 := by rw [g1]; exact qg _ _ c j h8
         rw [jbad _ _ _ _ _ _ _ _ _ _ hc, g1, g2, hbn]
         rfl
        | inl u =>
         obtain ⟨xs, q⟩ := u
         rw [h8] at hz2
         simp only [List.nil_append] at hz2
         subst hz2
         have hm : rdM (b.drop 3) = .inl (aj.mk a1 a2 a3 a4 a5 a6 xs, q) := by
          unfold rdM
          simp only [h1, h2, h3, h4, h5, h6, h7, h8, rdB]
         have hsm := lA (bY (List.drop_suffix _ _) hb) (by rw [List.length_drop]; omega) hm
         have hq : q.length ≤ n := by
          obtain ⟨_, o2⟩ := mK (bY (List.drop_suffix _ _) hb) hm
          have := congrArg List.length o2
          have := oZ (aj.mk a1 a2 a3 a4 a5 a6 xs)
          simp only [List.length_append, List.length_cons, List.length_nil, List.length_drop] at *
          omega
         unfold cp oj
         rw [iN (not_not_intro rfl), w0, hbn]
         by_cases c3 : q = []
         ·rw [iN (by rw [c3, List.length_nil]; omega), o9 _ hsm]
          simp only [bSq]
          rw [iN (not_not_intro c3)]
          by_cases c4 : (jE (aj.mk a1 a2 a3 a4 a5 a6 xs)).code = 0
          ·rw [iN (not_not_intro c4), iN (not_not_intro c4)]
          ·rw [iP c4, iP c4]; rfl
         ·have := List.length_pos_iff.2 c3
          rw [iP (by omega)]
          dsimp only
          rw [iP c3]
          rfl
theorem qT {l : List Int} (hb : bu l) (hl : l.length ≤ 30000) : hK l = some (m9 l) := by
 unfold m9 hK
 by_cases h7 : l.length < 7
 ·rw [iP h7, iP (by omega)]
  rfl
 rw [iN h7, iN (by omega)]
 obtain ⟨n, hn⟩ : ∃ n, n = l.length - 4 := ⟨_, rfl⟩
 have hln : l.length = n + 4 := by omega
 have w0 : IntKind.wrap .i64 ((l.length : Int) - 4) = (n : Int) := by rw [wr (by omega) (by omega)]; omega
 have hbt : bu (l.take n) := fun x hx => hb x (List.mem_of_mem_take hx)
 have ht3 : l.take 3 = [l.getD 0 default, l.getD 1 default, l.getD 2 default] := by
  match l, h7 with
  | a :: b :: c :: r, _ => rfl
  | [], h => simp at h
  | [_], h => simp at h
  | [_, _], h => simp at h
 rw [ht3, ← hn, w0, tN]
 rw [iP (by omega)]
 by_cases c0 : l.getD 0 default = 76
 ·rw [iN (not_not_intro c0), iP (by omega)]
  by_cases c1 : l.getD 1 default = 87
  ·rw [iN (not_not_intro c1), iP (by omega)]
   by_cases c2 : l.getD 2 default = 1
   ·rw [iN (not_not_intro c2), iP (by omega), iN (by rw [c0, c1, c2]; simp), oi _ hbt (by rw [List.length_take]; omega)]
    simp only [bSq]
    have hs := lV hbt
    have hlp := qS hln (by omega) (gR (l.take n)).toNat (by omega)
    rw [show (((gR (l.take n)).toNat : Nat) : Int) = gR (l.take n) by omega] at hlp
    rw [hlp]
    by_cases c3 : l.drop n = dM (gR (l.take n)).toNat
    ·rw [iP c3, iN (not_not_intro c3)]
     simp only [bSq, Sum.elim_inl]
     exact sN hln (by omega) (by omega) rfl hbt
    ·rw [iN c3, iP c3]
     rfl
   ·rw [iP c2, iP (by intro h; simp at h; exact c2 h.2.2)]
    rfl
  ·rw [iP c1, iP (by intro h; simp at h; exact c1 h.2.1)]
   rfl
 ·rw [iP c0, iP (by intro h; simp at h; exact c0 h.1)]
  rfl
def eX : aj := aj.mk 100 3 0 [] [] [] []
theorem om : jE eX = af.mk 0 0 := by
 unfold jE
 rw [iN (by decide), iN (by decide)]
 have e1 : F1 eX = .inl () := by decide
 have e2 : F2 eX = .inl () := rfl
 rw [e1, e2]
 decide
theorem ph : cN eX = [76, 87, 1, 200, 1, 6, 0, 0, 0, 0, 0] := by
 have z100 : zig eX.cells = 200 := by decide
 have z3 : zig eX.regs = 6 := by decide
 have z0 : zig eX.cost = 0 := by decide
 have y0 : zig 0 = 0 := by decide
 have p0 : eX.put = [] := rfl
 have p1 : eX.bools = [] := rfl
 have p2 : eX.get = [] := rfl
 have p3 : eX.code = [] := rfl
 have hn : aI [] = [] := rfl
 unfold cN
 rw [p0, p1, p2, p3]
 simp only [cK, hn, z100, z3, z0, List.length_nil, Int.ofNat_zero, Int.natCast_zero, y0]
 rw [oT (u := 200) (by decide), ju (u := 200 / 128) (by decide), ju (u := 6) (by decide), ju (u := 0) (by decide)]
 rfl
theorem qU : okM eX := by
 unfold okM okN
 refine ⟨?_, ?_, ?_, ?_, ?_⟩
 ·intro n hn
  have : n = 100 ∨ n = 3 ∨ n = 0 := by simpa [eX] using hn
  omega
 all_goals (intro n hn; cases hn)
theorem lM : fD = some true := by
 have hl : eX.put.length ≤ 9000000 ∧ eX.bools.length ≤ 9000000 ∧ eX.get.length ≤ 9000000 ∧ eX.code.length ≤ 9000000 := by decide
 have hc := mP eX hl
 rw [om] at hc
 have he := nA qU (by decide) (by decide) (by decide) (by decide) hc
 rw [iP rfl, ph] at he
 unfold fD
 show (d7 eX).bind _ = _
 rw [he]
 simp only [bSq]
 rw [if_true, List.length_append, qK, iP (by decide), iP (by decide)]
 rw [iP (by rfl), iP (by decide), iP (by rfl)]
 have hb : bu [49, 50, 51, 52, 53, 54, 55, 56, 57] := by
  intro x hx
  simp only [List.mem_cons, List.not_mem_nil, or_false] at hx
  omega
 rw [show (lit ([49, 50, 51, 52, 53, 54, 55, 56, 57] : List Int)) = [49, 50, 51, 52, 53, 54, 55, 56, 57] from rfl, n9 _ hb (by decide)]
 have hs : gR [49, 50, 51, 52, 53, 54, 55, 56, 57] = 3421780262 := by decide +kernel
 rw [hs]
 rfl
theorem rX (m : aj) : fE m = some (decide ((m.put.length : Int) > 7000 ∨ (m.bools.length : Int) > 7000 ∨ (m.get.length : Int) > 20000 ∨ (m.code.length : Int) > 20000)) := by
 unfold fE
 by_cases h1 : (m.put.length : Int) > 7000
 ·rw [iP h1, dT (.inl h1)]
 rw [iN h1]
 by_cases h2 : (m.bools.length : Int) > 7000
 ·rw [iP h2, dT (.inr (.inl h2))]
 rw [iN h2]
 by_cases h3 : (m.get.length : Int) > 20000
 ·rw [iP h3, dT (.inr (.inr (.inl h3)))]
 rw [iN h3]
 congr 1
 exact decide_eq_decide.2 ⟨fun h => .inr (.inr (.inr h)), fun h => by omega⟩
theorem tB {m : aj} (h : m.ok) : okM m := by
 obtain ⟨h1, h2, h3, h4, h5, h6, h7⟩ := h
 refine ⟨?_, h4, h5, h6, ?_⟩
 ·intro n hn
  simp only [List.mem_cons, List.not_mem_nil, or_false] at hn
  rcases hn with rfl | rfl | rfl
  ·exact h1
  ·exact h2
  ·exact h3
 ·intro x hx n hn
  obtain ⟨g1, g2, g3, g4, g5, g6⟩ := h7 x hx
  simp only [f6, List.mem_cons, List.not_mem_nil, or_false] at hn
  rcases hn with rfl | rfl | rfl | rfl | rfl | rfl
  ·exact g1
  ·exact g2
  ·exact g3
  ·exact g4
  ·exact g5
  ·exact g6
theorem iT (l : List Int) (hl : l.length ≤ 9000000) : eV l l = some true := by
 unfold eV
 rw [iN (by simp), eI l.length (fun _ => none) ()]
 ·rw [lr (fun _ _ => rfl)]; rfl
 ·intro i hi
  unfold fb
  rw [iP (ltI hi), iP ⟨inI hi, inI hi⟩, iN (not_not_intro rfl), wrs i (by omega)]
 ·unfold fb; rw [iN (dS _)]
theorem jU (m : aj) (hl : m.put.length ≤ 9000000 ∧ m.bools.length ≤ 9000000 ∧ m.get.length ≤ 9000000 ∧ m.code.length ≤ 9000000) : fl m m = some true := by
 unfold fl
 rw [iN (by simp), iN (by simp), iN (by simp), iT _ hl.1, iT _ hl.2.1, iT _ hl.2.2.1]
 simp only [bSq, if_true]
 rw [iN (by simp), eI m.code.length (fun _ => none) ()]
 ·rw [lr (fun _ _ => rfl)]; rfl
 ·intro i hi
  unfold eE
  rw [iP (ltI hi), iP ⟨inI hi, inI hi⟩, iP ⟨rfl, rfl, rfl, rfl, rfl, rfl⟩, wrs i (by omega)]
 ·unfold eE; rw [iN (dS _)]
theorem sO (m : aj) (h : (jE m).code = 0) : jE m = af.mk 0 0 := by
 unfold jE at h ⊢
 split at h
 ·cases h
 rename_i c1
 rw [iN c1]
 split at h
 ·cases h
 rename_i c2
 rw [iN c2]
 cases e1 : F1 m with
 | inr z =>
  rw [e1] at h
  exfalso
  unfold F1 at e1
  rcases eW 3 (fun i => qN m (dR m i)) () with ⟨e, _⟩ | ⟨i, y, _, hy, e⟩
  ·rw [e] at e1; cases e1
  ·rw [e] at e1
   simp only [Sum.inr.injEq] at e1
   subst e1
   have hy : qN m (dR m i) = some y := hy
   unfold qN at hy
   rcases eW (dR m i).length (oe m (dR m i)) () with ⟨e', _⟩ | ⟨j, w, _, hw, e'⟩
   ·rw [e'] at hy; cases hy
   ·rw [e'] at hy
    simp only [sJ] at hy
    subst hy
    unfold oe at hw
    split at hw
    ·simp only [sJ] at hw
     subst hw
     cases h
    ·cases hw
 | inl z =>
  rw [e1] at h
  simp only at h ⊢
  cases e2 : F2 m with
  | inr z =>
   rw [e2] at h
   exfalso
   unfold F2 at e2
   rcases eW m.code.length (fun i => if lI m (m.code.getD i default) then none else some (af.mk 4 (i : Int))) () with ⟨e, _⟩ | ⟨i, y, _, hy, e⟩
   ·rw [e] at e2; cases e2
   ·rw [e] at e2
    simp only [Sum.inr.injEq] at e2
    subst e2
    have hy : (if lI m (m.code.getD i default) then none else some (af.mk 4 (i : Int))) = some y := hy
    split at hy
    ·cases hy
    ·simp only [sJ] at hy
     subst hy
     cases h
  | inl z =>
   rw [e2] at h
   simp only at h ⊢
   unfold F3 at h ⊢
   split at h
   ·cases h
   ·rename_i c3
    rw [iN c3]
theorem pI {n : Nat} {l : List Int} (hb : bu l) (hl : l.length ≤ 9000000) : (oj n (rdM l)).1.put.length ≤ 9000000 ∧ (oj n (rdM l)).1.bools.length ≤ 9000000 ∧ (oj n (rdM l)).1.get.length ≤ 9000000 ∧ (oj n (rdM l)).1.code.length ≤ 9000000 := by
 have z : m0.put.length ≤ 9000000 ∧ m0.bools.length ≤ 9000000 ∧ m0.get.length ≤ 9000000 ∧ m0.code.length ≤ 9000000 := by decide
 cases h : rdM l with
 | inr y => exact z
 | inl y =>
  obtain ⟨m, q⟩ := y
  have := lA hb hl h
  unfold oj
  simp only
  split
  ·exact z
  ·split
   ·exact z
   ·exact this
theorem pJ {l : List Int} (hb : bu l) (hl : l.length ≤ 30000) : (m9 l).1.put.length ≤ 9000000 ∧ (m9 l).1.bools.length ≤ 9000000 ∧ (m9 l).1.get.length ≤ 9000000 ∧ (m9 l).1.code.length ≤ 9000000 := by
 have z : m0.put.length ≤ 9000000 ∧ m0.bools.length ≤ 9000000 ∧ m0.get.length ≤ 9000000 ∧ m0.code.length ≤ 9000000 := by decide
 unfold m9
 split
 ·exact z
 split
 ·exact z
 split
 ·exact z
 exact pI (fun x hx => hb x (List.mem_of_mem_take (List.mem_of_mem_drop hx))) (by rw [List.length_drop, List.length_take]; omega)
theorem kH (m : aj) (l : List Int) (hm : m.ok) (hb : okL (okI .u8) l) (_ : m.sz + szL szI l ≤ 1048576) : gX m l = some true := by
 have hbl : bu l := fun x hx => by
  have : (0 : Int) ≤ x ∧ x ≤ 255 := hb x hx
  omega
 unfold gX
 rw [lM]
 simp only [bSq, if_true]
 rw [rX]
 simp only [bSq]
 by_cases hg : (m.put.length : Int) > 7000 ∨ (m.bools.length : Int) > 7000 ∨ (m.get.length : Int) > 20000 ∨ (m.code.length : Int) > 20000
 ·rw [iP (dT hg)]
 rw [iN (by simpa using hg)]
 by_cases hll : (l.length : Int) > 30000
 ·rw [iP hll]
 rw [iN hll]
 have ok := tB hm
 have hsm : m.put.length ≤ 9000000 ∧ m.bools.length ≤ 9000000 ∧ m.get.length ≤ 9000000 ∧ m.code.length ≤ 9000000 := ⟨by omega, by omega, by omega, by omega⟩
 have hc := mP m hsm
 have he : d7 m = some (if (jE m).code = 0 then (sD m, af.mk 0 0) else ([], jE m)) := nA ok (by omega) (by omega) (by omega) (by omega) hc
 have hr : ∀ n s : Nat, n ≤ 100000 → s ≤ 48 → fo n s := by
  intro n s h h'
  unfold fo
  have h1 : n * s ≤ 100000 * 48 := Nat.mul_le_mul h h'
  simp only [maxLen]
  omega
 unfold gW
 rw [iP ⟨hr _ _ (by omega) (by decide), hr _ _ (by omega) (by decide), hr _ _ (by omega) (by decide), hr _ _ (by omega) (by decide)⟩]
 simp only [bSq]
 rw [iP (hr _ _ (by omega) (by decide)), he, rW hbl (by omega), o9 m hsm, qT hbl (by omega)]
 simp only [bSq]
 have hd := pJ hbl (show l.length ≤ 30000 by omega)
 generalize m9 l = d at hd
 have hif : (if (jE m).code = 0 then (sD m, af.mk 0 0) else (([] : List Int), jE m)).2 = jE m := by
  split
  ·rename_i h; rw [sO m h]
  ·rfl
 rw [hif, iP (by simp), iP (by simp), jU _ hd, jU _ hsm]
 simp only [bSq, if_true]
 rw [n9 l hbl (by omega), oi l hbl (by omega)]
 simp only [bSq]
 rw [iN (not_not_intro trivial)]
 by_cases hf : (jE m).code = 0
 ·rw [iN (not_not_intro hf), iP hf, pf ok (by omega) (by omega) (by omega) (by omega)]
  simp
 ·rw [iP hf, iN hf]
  rfl
end Pam
