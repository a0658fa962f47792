/- Chapter 02: whole roots: the plain words, and two functions of the library. -/
import Derived.Test.YtlcikfnhgldonaaAid
import Derived.BigQuiet
import Derived.Deep.QuietTactic
import Derived.Outline
import Derived.Handy
import Derived.WalkLawsBesides
import Derived.Shelf.Small.Bits
import Derived.Shelf.Spec.BitsCarry
import Derived.Lib.ItoaNum
import Derived.Test.YtlcikfnhgldonaaProg
namespace Go.Proofs
open Go.Shelf
def Try.lays129_ren : Go.Shelf.Ren := ⟨fun | 129 => 91 | n => n, fun | 53 => 32 | 3 => 3 | 4 => 4 | 46 => 68 | 5 => 5 | 9 => 9 | n => n, fun | n => n⟩
theorem Try.lays129 : Go.Proofs.Lays.n129 Try.prog Try.lays129_ren := {
  mixed := by kernel_rfl
  f129 := Try.func91.trans (congrArg some (by kernel_rfl))
  t3 := Try.underlying3
  a3 := Try.isAgg3
  z3 := Try.sizeOf3
  v3 := Try.zeroValue3
  t4 := Try.underlying4
  a4 := Try.isAgg4
  z4 := Try.sizeOf4
  v4 := Try.zeroValue4
  t5 := Try.underlying5
  a5 := Try.isAgg5
  z5 := Try.sizeOf5
  v5 := Try.zeroValue5
  t9 := Try.underlying9
  a9 := Try.isAgg9
  z9 := Try.sizeOf9
  v9 := Try.zeroValue9
  t46 := Try.underlying68
  a46 := Try.isAgg68
  z46 := Try.sizeOf68
  v46 := Try.zeroValue68
  t53 := Try.underlying32
  a53 := Try.isAgg32
  z53 := Try.sizeOf32
  v53 := Try.zeroValue32 }
def Try.lays25_ren : Go.Shelf.Ren := ⟨fun | 25 => 80 | n => n, fun | 22 => 32 | n => n, fun | n => n⟩
theorem Try.lays25 : Go.Proofs.Lays7.n25 Try.prog Try.lays25_ren := {
  mixed := by kernel_rfl
  f25 := Try.func80.trans (congrArg some (by kernel_rfl))
  t22 := Try.underlying32
  a22 := Try.isAgg32
  z22 := Try.sizeOf32
  v22 := Try.zeroValue32
  i22 := by kernel_rfl }
end Go.Proofs
namespace Go.Proofs.Ytlcikfnhgldonaa
open Go.RowKit Go.Shelf

theorem lib_Len64 (x : Int) (w : World) (h0 : 0 ≤ x) (h1 : x ≤ 18446744073709551615) :
    Calls Try.prog 91 #[.int .u64 x] w fun e w' => e = .returned (.int .i64 (Lib.bitLen x.toNat)) ∧ w' = w := Any.bits_Len64 Try.lays129 x w h0 h1
theorem lib_Add64 (x y : Int) (hx : 0 ≤ x) (hy : 0 ≤ y) (w : World) : (callFunc 80 #[.int .u64 x, .int .u64 y, .int .u64 0]).run Try.prog w =
    .ok (.value (.tuple #[.int .u64 ((x + y) % 18446744073709551616), .int .u64 ((x + y) / 18446744073709551616)])) w := by
  obtain ⟨x, rfl⟩ := Int.eq_ofNat_of_zero_le hx
  obtain ⟨y, rfl⟩ := Int.eq_ofNat_of_zero_le hy
  refine (Any7.bits_Add64 Try.lays25 x y 0 (by omega) w).trans ?_
  congr 5 <;> omega

/-! ### The plain words -/
def rootN : Nat → Nat
  | 0 => 0
  | n + 1 => if (rootN n + 1) * (rootN n + 1) ≤ n + 1 then rootN n + 1 else rootN n
theorem rootN_spec (n : Nat) : rootN n * rootN n ≤ n ∧ n < (rootN n + 1) * (rootN n + 1) := by
  induction n with
  | zero => simp [rootN]
  | succ n ih =>
    simp only [rootN]
    generalize rootN n = s at *
    have e : (s + 1 + 1) * (s + 1 + 1) = (s + 1) * (s + 1) + 2 * s + 3 := by grind
    split
    · exact ⟨by assumption, by rw [e]; omega⟩
    · exact ⟨by omega, by omega⟩
/-- The whole root. -/
def rootP (n : Int) : Int := rootN n.toNat
theorem rootP_spec (n : Int) (h : 0 ≤ n) : 0 ≤ rootP n ∧ rootP n * rootP n ≤ n ∧ n < (rootP n + 1) * (rootP n + 1) := by
  obtain ⟨m, rfl⟩ := Int.eq_ofNat_of_zero_le h
  have := rootN_spec m
  unfold rootP
  rw [Int.toNat_natCast]
  exact ⟨Int.natCast_nonneg _, by exact_mod_cast this.1, by exact_mod_cast this.2⟩
theorem sq_le {a b : Int} (h0 : 0 ≤ a) (h : a ≤ b) : a * a ≤ b * b := Int.mul_le_mul h h h0 (by omega)
theorem sq_iff (n x : Int) (h : 0 ≤ n) (hx : 0 ≤ x) : x * x ≤ n ↔ x ≤ rootP n := by
  obtain ⟨h1, h2, h3⟩ := rootP_spec n h
  constructor
  · intro g
    rcases Int.lt_or_le (rootP n) x with h4 | h4
    · have := sq_le (by omega) (show rootP n + 1 ≤ x by omega); omega
    · exact h4
  · intro g
    have := sq_le hx g; omega
theorem root_eq {n r : Int} (h0 : 0 ≤ r) (h1 : r * r ≤ n) (h2 : n < (r + 1) * (r + 1)) : rootP n = r := by
  have hn : 0 ≤ n := by have := Int.mul_nonneg h0 h0; omega
  have g1 := (sq_iff n r hn h0).1 h1
  rcases Int.lt_or_le r (rootP n) with h | h
  · have := (sq_iff n (r + 1) hn (by omega)).2 (by omega); omega
  · omega
theorem root_mono {n m : Int} (h0 : 0 ≤ n) (h : n ≤ m) : rootP n ≤ rootP m := by
  obtain ⟨h1, h2, h3⟩ := rootP_spec n h0
  exact (sq_iff m (rootP n) (by omega) h1).1 (by omega)
theorem root_bd (n : Int) (h0 : 0 ≤ n) (h : n ≤ 18446744073709551615) : 0 ≤ rootP n ∧ rootP n ≤ 4294967295 := by
  obtain ⟨h1, h2, h3⟩ := rootP_spec n h0
  refine ⟨h1, ?_⟩
  rcases Int.lt_or_le 4294967295 (rootP n) with g | g
  · have := sq_le (by omega) (show 4294967296 ≤ rootP n by omega); omega
  · exact g
theorem root_sq (n : Int) (h0 : 0 ≤ n) : 0 ≤ rootP n * rootP n ∧ rootP n * rootP n ≤ n ∧ n - rootP n * rootP n ≤ 2 * rootP n := by
  obtain ⟨h1, h2, h3⟩ := rootP_spec n h0
  have e : (rootP n + 1) * (rootP n + 1) = rootP n * rootP n + 2 * rootP n + 1 := by grind
  exact ⟨Int.mul_nonneg h1 h1, h2, by omega⟩

/-- A step from above. -/
theorem newton (n r : Int) (hn : 0 < n) (hr : rootP n ≤ r) : 0 < r ∧ 1 ≤ rootP n ∧ 0 ≤ n / r ∧ n / r ≤ rootP n + 2 ∧ 2 * rootP n ≤ r + n / r ∧ (r ≤ (r + n / r) / 2 → r = rootP n) := by
  have h1 : 1 ≤ rootP n := (sq_iff n 1 (by omega) (by omega)).1 (by omega)
  obtain ⟨h2, h3, h4⟩ := rootP_spec n (by omega)
  have hs := root_sq n (by omega)
  have hr0 : 0 < r := by omega
  generalize rootP n = s at *
  have hq0 : 0 ≤ n / r := Int.ediv_nonneg (by omega) (by omega)
  have hq1 : n / r < s + 3 := Int.ediv_lt_of_lt_mul hr0 (by
    have : (s + 3) * s ≤ (s + 3) * r := Int.mul_le_mul_of_nonneg_left hr (by omega)
    have e : (s + 3) * s = s * s + 3 * s := by grind
    omega)
  have hq2 : 2 * s - r ≤ n / r := Int.le_ediv_of_mul_le hr0 (by
    have e : (2 * s - r) * r = s * s - (r - s) * (r - s) := by grind
    have := Int.mul_nonneg (show 0 ≤ r - s by omega) (show 0 ≤ r - s by omega)
    omega)
  refine ⟨hr0, h1, hq0, by omega, by omega, fun g => ?_⟩
  have h5 : r ≤ n / r := by omega
  have h6 : r * r ≤ n := by
    have := Int.ediv_mul_le n (show r ≠ 0 by omega)
    have h7 : r * r ≤ n / r * r := Int.mul_le_mul_of_nonneg_right h5 (by omega)
    omega
  rcases Int.lt_or_le s r with h | h
  · have := sq_le (by omega) (show s + 1 ≤ r by omega); omega
  · omega
theorem pow_le32 (m : Nat) (h : m ≤ 32) : 1 ≤ (2 : Int) ^ m ∧ (2 : Int) ^ m ≤ 4294967296 := by
  have h1 : (1 : Nat) ≤ 2 ^ m := Nat.one_le_two_pow
  have h2 : 2 ^ m ≤ 2 ^ 32 := Nat.pow_le_pow_right (by omega) h
  have e : (2 : Int) ^ m = ((2 ^ m : Nat) : Int) := by rw [Int.natCast_pow]; rfl
  rw [e]
  omega
/-- A power of two above the root. -/
theorem above_facts (n : Int) (h0 : 0 < n) (h1 : n ≤ 18446744073709551615) :
    ∃ m : Nat, 1 ≤ m ∧ m ≤ 32 ∧ ((Lib.bitLen n.toNat : Nat) : Int) ≤ 64 ∧ (((Lib.bitLen n.toNat : Nat) : Int) + 1) / 2 = (m : Int) ∧ rootP n ≤ 2 ^ m := by
  have hb := Lib.bitLenAux_bounds 64 n.toNat (by omega) (by omega)
  have hl : Lib.bitLen n.toNat ≤ 64 := Lib.bitLen_le n.toNat 64 (by omega) (by omega)
  have e0 : Lib.bitLen n.toNat = Lib.bitLenAux 64 n.toNat := rfl
  rw [← e0] at hb
  generalize Lib.bitLen n.toNat = L at *
  refine ⟨(L + 1) / 2, by omega, by omega, by omega, by omega, ?_⟩
  have h2 : 2 ^ L ≤ 2 ^ (2 * ((L + 1) / 2)) := Nat.pow_le_pow_right (by omega) (by omega)
  have e : (2 : Nat) ^ (2 * ((L + 1) / 2)) = 2 ^ ((L + 1) / 2) * 2 ^ ((L + 1) / 2) := by rw [Nat.two_mul, Nat.pow_add]
  have e2 : (2 : Int) ^ ((L + 1) / 2) = ((2 ^ ((L + 1) / 2) : Nat) : Int) := by rw [Int.natCast_pow]; rfl
  rw [e] at h2
  rw [e2]
  generalize 2 ^ ((L + 1) / 2) = R at *
  have h3 := rootP_spec n (by omega)
  have h4 : n < (R : Int) * R := by
    have : n.toNat < R * R := by omega
    have h5 : ((n.toNat : Nat) : Int) < ((R * R : Nat) : Int) := by exact_mod_cast this
    rw [Int.natCast_mul] at h5
    omega
  rcases Int.lt_or_le (R : Int) (rootP n) with h | h
  · have := sq_le (Int.natCast_nonneg R) (show (R : Int) ≤ rootP n by omega); omega
  · exact h

/-! ### Squares -/
def sqs : List Int → Int
  | [] => 0
  | c :: r => c * c + sqs r
theorem sq_nonneg (x : Int) : 0 ≤ x * x := by
  rcases Int.lt_or_le x 0 with h | h
  · have := Int.mul_nonneg (show 0 ≤ -x by omega) (show 0 ≤ -x by omega)
    rwa [Int.neg_mul_neg] at this
  · exact Int.mul_nonneg h h
theorem sqs_nonneg (xs : List Int) : 0 ≤ sqs xs := by
  induction xs with
  | nil => simp [sqs]
  | cons c r ih => have := sq_nonneg c; simp only [sqs]; omega
theorem sqs_app (xs ys : List Int) : sqs (xs ++ ys) = sqs xs + sqs ys := by
  induction xs with
  | nil => simp [sqs]
  | cons c r ih => simp only [List.cons_append, sqs, ih]; omega
theorem take_one (xs : List Int) (j : Nat) (h : j < xs.length) : xs.take (j + 1) = xs.take j ++ [xs[j]?.getD 0] := by
  rw [List.take_succ_eq_append_getElem h]; simp [h]
theorem sqs_take (xs : List Int) (j : Nat) (h : j < xs.length) : sqs (xs.take (j + 1)) = sqs (xs.take j) + xs[j]?.getD 0 * xs[j]?.getD 0 ∧ sqs (xs.take (j + 1)) ≤ sqs xs := by
  constructor
  · rw [take_one xs j h, sqs_app]; simp [sqs]
  · have := sqs_app (xs.take (j + 1)) (xs.drop (j + 1))
    rw [List.take_append_drop] at this
    have := sqs_nonneg (xs.drop (j + 1))
    omega
/-- The squares together, cut. -/
def sqP (xs : List Int) : Int := min (sqs xs) 18446744073709551615
theorem sqP_bd (xs : List Int) : 0 ≤ sqP xs ∧ sqP xs ≤ 18446744073709551615 := by have := sqs_nonneg xs; unfold sqP; omega
theorem sq32 (x : Int) (h : -2147483648 ≤ x ∧ x ≤ 2147483647) : 0 ≤ x * x ∧ x * x ≤ 4611686018427387904 := by
  refine ⟨sq_nonneg x, ?_⟩
  rcases Int.lt_or_le x 0 with g | g
  · have := sq_le (show 0 ≤ -x by omega) (show -x ≤ 2147483648 by omega)
    rw [Int.neg_mul_neg] at this; omega
  · have := sq_le g (show x ≤ 2147483648 by omega); omega
end Go.Proofs.Ytlcikfnhgldonaa
