/- Chapter 08: the plain laws of the bits of a word, in whole numbers. -/
import Derived.Test.YtfogjfmpgfcolaaBitsB
import Derived.Test.YtfogjfmpgfcolaaBitsP
namespace Go.Proofs.Ytfogjfmpgfcolaa
open Go.RowKit
set_option linter.unusedVariables false
set_option linter.unusedSimpArgs false

theorem cast_pow (N : Nat) : ((2 ^ N : Nat) : Int) = (2 : Int) ^ N := by simp
theorem int_above (v : Int) (N : Nat) (hv : 0 ≤ v ∧ v ≤ 4294967295) (hN : N ≤ 32) : bits .andNot .u32 v (2 ^ N - 1) = 2 ^ N * (v / 2 ^ N) := by
  obtain ⟨p1, p2⟩ := pow_bd N hN
  obtain ⟨V, rfl⟩ := Int.eq_ofNat_of_zero_le hv.1
  have hp : 0 < 2 ^ N := Nat.two_pow_pos N
  have e : (2 : Int) ^ N - 1 = ((2 ^ N - 1 : Nat) : Int) := by rw [Int.natCast_sub hp, cast_pow]; rfl
  have hle : 2 ^ N ≤ 2 ^ 32 := Nat.pow_le_pow_right (by omega) hN
  rw [e, u32_andNot_nat V (2 ^ N - 1) (by omega) (by omega), nat_above V N (by omega) hN]
  simp
theorem int_beside (u : Int) (A N : Nat) (hu : 0 ≤ u ∧ u ≤ 4294967295) (hAN : A + N ≤ 32) : bits .andNot .u32 u ((2 ^ N - 1) * 2 ^ A) = 2 ^ (A + N) * (u / 2 ^ (A + N)) + u % 2 ^ A := by
  obtain ⟨U, rfl⟩ := Int.eq_ofNat_of_zero_le hu.1
  have hp : 0 < 2 ^ N := Nat.two_pow_pos N
  have hq : 0 < 2 ^ A := Nat.two_pow_pos A
  have hm : (2 ^ N - 1) * 2 ^ A < 4294967296 := by
    have h1 : (2 ^ N - 1) * 2 ^ A < 2 ^ N * 2 ^ A := Nat.mul_lt_mul_of_pos_right (by omega) hq
    have hle : 2 ^ (A + N) ≤ 2 ^ 32 := Nat.pow_le_pow_right (by omega) hAN
    rw [← Nat.pow_add, Nat.add_comm] at h1
    omega
  have e : ((2 : Int) ^ N - 1) * 2 ^ A = (((2 ^ N - 1) * 2 ^ A : Nat) : Int) := by rw [Int.natCast_mul, Int.natCast_sub hp, cast_pow, cast_pow]; rfl
  rw [e, u32_andNot_nat U _ (by omega) hm, nat_beside U A N (by omega) hAN]
  simp
theorem int_put (u v : Int) (A N : Nat) (hu : 0 ≤ u ∧ u ≤ 4294967295) (hv : 0 ≤ v ∧ v < 2 ^ N) (hAN : A + N ≤ 32) :
    bits .or .u32 (2 ^ (A + N) * (u / 2 ^ (A + N)) + u % 2 ^ A) (v * 2 ^ A) = 2 ^ (A + N) * (u / 2 ^ (A + N)) + v * 2 ^ A + u % 2 ^ A ∧
    0 ≤ v * 2 ^ A ∧ v * 2 ^ A ≤ 4294967295 ∧ 0 ≤ 2 ^ (A + N) * (u / 2 ^ (A + N)) + v * 2 ^ A + u % 2 ^ A ∧ 2 ^ (A + N) * (u / 2 ^ (A + N)) + v * 2 ^ A + u % 2 ^ A ≤ 4294967295 ∧
    0 ≤ 2 ^ (A + N) * (u / 2 ^ (A + N)) ∧ 0 ≤ u % 2 ^ A ∧ 0 ≤ 2 ^ (A + N) * (u / 2 ^ (A + N)) + v * 2 ^ A ∧ 2 ^ (A + N) * (u / 2 ^ (A + N)) + v * 2 ^ A ≤ 4294967295 := by
  obtain ⟨U, rfl⟩ := Int.eq_ofNat_of_zero_le hu.1
  obtain ⟨V, rfl⟩ := Int.eq_ofNat_of_zero_le hv.1
  have hV : V < 2 ^ N := by have := hv.2; rw [← cast_pow] at this; exact_mod_cast this
  have hq : 0 < 2 ^ A := Nat.two_pow_pos A
  have hle : 2 ^ (A + N) ≤ 2 ^ 32 := Nat.pow_le_pow_right (by omega) hAN
  have h1 : V * 2 ^ A + U % 2 ^ A < 2 ^ (A + N) := by
    have := Nat.mod_lt U hq
    have : (V + 1) * 2 ^ A ≤ 2 ^ N * 2 ^ A := Nat.mul_le_mul_right _ (by omega)
    rw [Nat.add_mul, ← Nat.pow_add, Nat.add_comm N A] at this
    omega
  have hUlt : U < 2 ^ 32 := by omega
  -- the high part and what is less than 2^(A+N) stay below 2^32
  have hd : 2 ^ (A + N) ∣ 2 ^ 32 := Nat.pow_dvd_pow 2 hAN
  have h2 : 2 ^ (A + N) * (U / 2 ^ (A + N)) + (V * 2 ^ A + U % 2 ^ A) < 2 ^ 32 := by
    obtain ⟨c, hc⟩ := hd
    have hlt : U / 2 ^ (A + N) < c := by
      rw [Nat.div_lt_iff_lt_mul (Nat.two_pow_pos _), Nat.mul_comm, ← hc]; exact hUlt
    have : 2 ^ (A + N) * (U / 2 ^ (A + N) + 1) ≤ 2 ^ (A + N) * c := Nat.mul_le_mul_left _ hlt
    rw [Nat.mul_add] at this
    omega
  have e1 : ((2 : Int) ^ (A + N) * ((U : Int) / 2 ^ (A + N)) + (U : Int) % 2 ^ A) = ((2 ^ (A + N) * (U / 2 ^ (A + N)) + U % 2 ^ A : Nat) : Int) := by simp
  have e2 : (V : Int) * 2 ^ A = ((V * 2 ^ A : Nat) : Int) := by simp
  have e3 : (2 : Int) ^ (A + N) * ((U : Int) / 2 ^ (A + N)) = ((2 ^ (A + N) * (U / 2 ^ (A + N)) : Nat) : Int) := by simp
  have e4 : (U : Int) % 2 ^ A = ((U % 2 ^ A : Nat) : Int) := by simp
  refine ⟨?_, ?_⟩
  · rw [e1, e2, u32_or_nat _ _ (by omega) (by omega), nat_put _ _ _ _ _ hV (Nat.mod_lt U hq), e3, e4]
    omega
  · rw [e2, e3, e4]
    generalize 2 ^ (A + N) * (U / 2 ^ (A + N)) = X at *
    generalize V * 2 ^ A = Y at *
    generalize U % 2 ^ A = Z at *
    omega
end Go.Proofs.Ytfogjfmpgfcolaa
