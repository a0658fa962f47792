/- Chapter 08: with a sign; does a number fit. -/
import Derived.Test.YtfogjfmpgfcolaaBitsD
namespace Go.Proofs.Ytfogjfmpgfcolaa
open Go.RowKit
set_option linter.unusedVariables false
set_option linter.unusedSimpArgs false

def signP (u n : Int) : Int := if n < 1 ∨ 32 < n then 0 else if 2 ^ (n.toNat - 1) ≤ u % 2 ^ n.toNat then u % 2 ^ n.toNat - 2 ^ n.toNat else u % 2 ^ n.toNat
def fitB (i n : Int) : Bool := decide (1 ≤ n) && decide (n ≤ 32) && decide (i < 2 ^ (n.toNat - 1)) && decide (-(2 ^ (n.toNat - 1)) ≤ i)

theorem sign_parts (N L : Nat) (h : N + L = 32) (h1 : 1 ≤ N) : (4294967296 : Int) = 2 ^ L * 2 ^ N ∧ (2147483648 : Int) = 2 ^ L * 2 ^ (N - 1) ∧ (2 : Int) ^ N = 2 * 2 ^ (N - 1) := by
  refine ⟨?_, ?_, ?_⟩
  · rw [← Int.pow_add, Nat.add_comm, h]; rfl
  · rw [← Int.pow_add, show L + (N - 1) = 31 by omega]; rfl
  · obtain ⟨M, rfl⟩ : ∃ M, N = M + 1 := ⟨N - 1, by omega⟩
    rw [Int.pow_succ, Int.mul_comm]; rfl
theorem sign_law (u : Int) (N L : Nat) (h : N + L = 32) (h1 : 1 ≤ N) :
    0 ≤ u * 2 ^ L % 4294967296 ∧ u * 2 ^ L % 4294967296 < 4294967296 ∧ IntKind.i32.wrap (u * 2 ^ L % 4294967296) / 2 ^ L = signP u N ∧ -2147483648 ≤ signP u N ∧ signP u N ≤ 2147483647 := by
  obtain ⟨e1, e2, e3⟩ := sign_parts N L h h1
  have hL : (0 : Int) < 2 ^ L := Int.pow_pos (by omega)
  have hN : (0 : Int) < 2 ^ N := Int.pow_pos (by omega)
  have hx0 := Int.emod_nonneg u (show (2 : Int) ^ N ≠ 0 by omega)
  have hx1 := Int.emod_lt_of_pos u hN
  have hb := pow_bd N (by omega)
  have hY : u * 2 ^ L % 4294967296 = 2 ^ L * (u % 2 ^ N) := by
    rw [e1, Int.mul_comm u, Int.mul_emod_mul_of_pos _ _ hL]
  have hS : signP u N = if 2 ^ (N - 1) ≤ u % 2 ^ N then u % 2 ^ N - 2 ^ N else u % 2 ^ N := by
    unfold signP
    rw [if_neg (by omega)]; simp
  have h0 := Int.emod_nonneg (u * 2 ^ L) (show (4294967296 : Int) ≠ 0 by omega)
  have h2 := Int.emod_lt_of_pos (u * 2 ^ L) (show (0 : Int) < 4294967296 by omega)
  refine ⟨h0, h2, ?_, ?_, ?_⟩
  · rw [IntKind.wrap_i32, hS]
    rw [hY] at h0 h2 ⊢
    split
    · rename_i g
      have hg : 2147483648 ≤ 2 ^ L * (u % 2 ^ N) := by rw [e2]; exact Int.mul_le_mul_of_nonneg_left g (by omega)
      have : (2 ^ L * (u % 2 ^ N) + 2147483648) % 4294967296 - 2147483648 = 2 ^ L * (u % 2 ^ N - 2 ^ N) := by
        rw [Int.mul_sub, ← e1]; omega
      rw [this, Int.mul_ediv_cancel_left _ (by omega)]
    · rename_i g
      have hg : 2 ^ L * (u % 2 ^ N) < 2147483648 := by rw [e2]; exact Int.mul_lt_mul_of_pos_left (by omega) hL
      have : (2 ^ L * (u % 2 ^ N) + 2147483648) % 4294967296 - 2147483648 = 2 ^ L * (u % 2 ^ N) := by omega
      rw [this, Int.mul_ediv_cancel_left _ (by omega)]
  · rw [hS]; split <;> omega
  · rw [hS]; split <;> omega

end Go.Proofs.Ytfogjfmpgfcolaa
