/- Chapter 08: the plain laws of the bits of a word. No program is in sight here. -/
import Derived.Test.YtfogjfmpgfcolaaBits
import Derived.Laws.BitsAllLaws
namespace Go.Proofs.Ytfogjfmpgfcolaa
open Go.RowKit
set_option linter.unusedVariables false
set_option linter.unusedSimpArgs false

/-- The bits above a mask. -/
theorem nat_above (x N : Nat) (hx : x < 2 ^ 32) (hN : N ≤ 32) : x &&& (4294967295 - (2 ^ N - 1)) = 2 ^ N * (x / 2 ^ N) := by
  have hp : 0 < 2 ^ N := Nat.two_pow_pos N
  have hle : 2 ^ N ≤ 2 ^ 32 := Nat.pow_le_pow_right (by omega) hN
  have e : 4294967295 - (2 ^ N - 1) = 2 ^ 32 - ((2 ^ N - 1) + 1) := by omega
  rw [e]
  apply Nat.eq_of_testBit_eq
  intro i
  rw [Nat.testBit_and, Nat.testBit_two_pow_sub_succ (by omega), Nat.testBit_two_pow_mul, Nat.testBit_two_pow_sub_one, Nat.testBit_div_two_pow]
  by_cases h : i < 32
  · by_cases g : i < N
    · simp [h, g]; omega
    · have e2 : i - N + N = i := by omega
      simp [h, g]
      rw [e2]
      simp
      omega
  · have h0 : x.testBit i = false := Nat.testBit_lt_two_pow (Nat.lt_of_lt_of_le hx (Nat.pow_le_pow_right (by omega) (by omega)))
    simp [h, h0]
    intro hg
    rw [Nat.sub_add_cancel hg]; exact h0

theorem nat_beside (x A N : Nat) (hx : x < 2 ^ 32) (hAN : A + N ≤ 32) : x &&& (4294967295 - (2 ^ N - 1) * 2 ^ A) = 2 ^ (A + N) * (x / 2 ^ (A + N)) + x % 2 ^ A := by
  have hp : 0 < 2 ^ N := Nat.two_pow_pos N
  have hq : 0 < 2 ^ A := Nat.two_pow_pos A
  have hle : 2 ^ (A + N) ≤ 2 ^ 32 := Nat.pow_le_pow_right (by omega) hAN
  have hm : (2 ^ N - 1) * 2 ^ A < 2 ^ 32 := by
    have h1 : (2 ^ N - 1) * 2 ^ A < 2 ^ N * 2 ^ A := Nat.mul_lt_mul_of_pos_right (by omega) hq
    rw [← Nat.pow_add, Nat.add_comm] at h1
    omega
  have e : 4294967295 - (2 ^ N - 1) * 2 ^ A = 2 ^ 32 - ((2 ^ N - 1) * 2 ^ A + 1) := by omega
  have hlt : x % 2 ^ A < 2 ^ (A + N) := Nat.lt_of_lt_of_le (Nat.mod_lt _ hq) (Nat.pow_le_pow_right (by omega) (by omega))
  rw [e, Nat.two_pow_add_eq_or_of_lt hlt]
  apply Nat.eq_of_testBit_eq
  intro i
  rw [Nat.testBit_and, Nat.testBit_two_pow_sub_succ hm, Nat.testBit_or, Nat.testBit_two_pow_mul, Nat.testBit_mul_two_pow, Nat.testBit_two_pow_sub_one, Nat.testBit_div_two_pow, Nat.testBit_mod_two_pow]
  by_cases h : i < 32
  · by_cases g1 : i < A
    · have a1 : ¬ A ≤ i := by omega
      have a2 : ¬ A + N ≤ i := by omega
      simp [h, g1, a1, a2]
    · by_cases g2 : i < A + N
      · have a1 : A ≤ i := by omega
        have a2 : ¬ A + N ≤ i := by omega
        have a3 : i - A < N := by omega
        simp [h, g1, a1, a2, a3]
      · have a1 : A ≤ i := by omega
        have a2 : A + N ≤ i := by omega
        have a3 : ¬ i - A < N := by omega
        have a4 : i - (A + N) + (A + N) = i := by omega
        simp [h, g1, a1, a2, a3, a4]
  · have h0 : x.testBit i = false := Nat.testBit_lt_two_pow (Nat.lt_of_lt_of_le hx (Nat.pow_le_pow_right (by omega) (by omega)))
    have a2 : A + N ≤ i := by omega
    have a4 : i - (A + N) + (A + N) = i := by omega
    simp [h, h0, a2, a4]
theorem nat_put (q v lo A N : Nat) (hv : v < 2 ^ N) (hlo : lo < 2 ^ A) : (2 ^ (A + N) * q + lo) ||| (v * 2 ^ A) = 2 ^ (A + N) * q + v * 2 ^ A + lo := by
  have hq : 0 < 2 ^ A := Nat.two_pow_pos A
  have h1 : lo < 2 ^ (A + N) := Nat.lt_of_lt_of_le hlo (Nat.pow_le_pow_right (by omega) (by omega))
  have h2 : 2 ^ A * v + lo < 2 ^ (A + N) := by
    rw [Nat.pow_add]
    have : 2 ^ A * (v + 1) ≤ 2 ^ A * 2 ^ N := Nat.mul_le_mul_left _ (by omega)
    rw [Nat.mul_add] at this
    omega
  rw [Nat.mul_comm v, Nat.add_assoc, Nat.two_pow_add_eq_or_of_lt h2, Nat.two_pow_add_eq_or_of_lt h1, Nat.two_pow_add_eq_or_of_lt hlo]
  rw [Nat.or_assoc, Nat.or_comm lo]
end Go.Proofs.Ytfogjfmpgfcolaa
