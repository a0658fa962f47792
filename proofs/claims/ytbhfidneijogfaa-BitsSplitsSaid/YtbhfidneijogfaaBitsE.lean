/- Chapter 08: with a sign; does a number fit. -/
import Derived.Test.YtbhfidneijogfaaBitsD
namespace Go.Proofs.Ytbhfidneijogfaa
open Go.RowKit
set_option linter.unusedVariables false
set_option linter.unusedSimpArgs false

def signP (u n : Int) : Int := if n < 1 ∨ 32 < n then 0 else if 2 ^ (n.toNat - 1) ≤ u % 2 ^ n.toNat then u % 2 ^ n.toNat - 2 ^ n.toNat else u % 2 ^ n.toNat
def fitB (i n : Int) : Bool := decide (1 ≤ n) && decide (n ≤ 32) && decide (i < 2 ^ (n.toNat - 1)) && decide (-(2 ^ (n.toNat - 1)) ≤ i)

theorem sign_parts (N L : Nat) (h : N + L = 32) (h1 : 1 ≤ N) : (4294967296 : Int) = 2 ^ L * 2 ^ N ∧ (2147483648 : Int) = 2 ^ L * 2 ^ (N - 1) ∧ (2 : Int) ^ N = 2 * 2 ^ (N - 1) := by
  refine ⟨?_, ?_, ?_⟩
  · rw [← Int.pow_add, Nat.add_comm, h]; rfl
  · rw [← Int.pow_add, show L + (N - 1) = 31 by omega]; rfl
  · obtain ⟨M, rfl⟩ : ∃ M, N = M + 1 := ⟨N - 1, by omega⟩
    rw [Int.pow_succ, Int.mul_comm]; rfl
theorem sign_law (u : Int) (N L : Nat) (h : N + L = 32) (h1 : 1 ≤ N) :
    0 ≤ u * 2 ^ L % 4294967296 ∧ u * 2 ^ L % 4294967296 < 4294967296 ∧ IntKind.i32.wrap (u * 2 ^ L % 4294967296) / 2 ^ L = signP u N ∧ -2147483648 ≤ signP u N ∧ signP u N ≤ 2147483647 := by
  obtain ⟨e1, e2, e3⟩ := sign_parts N L h h1
  have hL : (0 : Int) < 2 ^ L := Int.pow_pos (by omega)
  have hN : (0 : Int) < 2 ^ N := Int.pow_pos (by omega)
  have hx0 := Int.emod_nonneg u (show (2 : Int) ^ N ≠ 0 by omega)
  have hx1 := Int.emod_lt_of_pos u hN
  have hb := pow_bd N (by omega)
  have hY : u * 2 ^ L % 4294967296 = 2 ^ L * (u % 2 ^ N) := by
    rw [e1, Int.mul_comm u, Int.mul_emod_mul_of_pos _ _ hL]
  have hS : signP u N = if 2 ^ (N - 1) ≤ u % 2 ^ N then u % 2 ^ N - 2 ^ N else u % 2 ^ N := by
    unfold signP
    rw [if_neg (by omega)]; simp
  have h0 := Int.emod_nonneg (u * 2 ^ L) (show (4294967296 : Int) ≠ 0 by omega)
  have h2 := Int.emod_lt_of_pos (u * 2 ^ L) (show (0 : Int) < 4294967296 by omega)
  refine ⟨h0, h2, ?_, ?_, ?_⟩
  · rw [IntKind.wrap_i32, hS]
    rw [hY] at h0 h2 ⊢
    split
    · rename_i g
      have hg : 2147483648 ≤ 2 ^ L * (u % 2 ^ N) := by rw [e2]; exact Int.mul_le_mul_of_nonneg_left g (by omega)
      have : (2 ^ L * (u % 2 ^ N) + 2147483648) % 4294967296 - 2147483648 = 2 ^ L * (u % 2 ^ N - 2 ^ N) := by
        rw [Int.mul_sub, ← e1]; omega
      rw [this, Int.mul_ediv_cancel_left _ (by omega)]
    · rename_i g
      have hg : 2 ^ L * (u % 2 ^ N) < 2147483648 := by rw [e2]; exact Int.mul_lt_mul_of_pos_left (by omega) hL
      have : (2 ^ L * (u % 2 ^ N) + 2147483648) % 4294967296 - 2147483648 = 2 ^ L * (u % 2 ^ N) := by omega
      rw [this, Int.mul_ediv_cancel_left _ (by omega)]
  · rw [hS]; split <;> omega
  · rw [hS]; split <;> omega

theorem b_Signed (u n : Int) (w : World) (hu : 0 ≤ u ∧ u ≤ 4294967295) :
    Calls Try.prog 28 #[.int .u32 u, .int .i64 n] w fun e w' => e = .returned (.int .i32 (signP u n)) ∧ w = w' := by
  by_cases g1 : n < 1
  · have d1 : decide (n < 1) = true := by simpa using g1
    have HS : Hid (signP u n = 0) := hid (by unfold signP; rw [if_pos (.inl g1)])
    go_enter Try.func28, Try.ntmps28
    go_wp2
    go_ret
    exact ⟨by rw [HS.out]; rfl, rfl⟩
  have d1 : decide (n < 1) = false := by simpa using g1
  by_cases g2 : 32 < n
  · have d2 : decide (32 < n) = true := by simpa using g2
    have HS : Hid (signP u n = 0) := hid (by unfold signP; rw [if_pos (.inr g2)])
    go_enter Try.func28, Try.ntmps28
    go_wp2
    go_ret
    exact ⟨by rw [HS.out]; rfl, rfl⟩
  have d2 : decide (32 < n) = false := by simpa using g2
  obtain ⟨N, rfl⟩ := Int.eq_ofNat_of_zero_le (show 0 ≤ n by omega)
  obtain ⟨L, hL⟩ : ∃ L : Nat, N + L = 32 := ⟨32 - N, by omega⟩
  have u1 : IntKind.i64.wrap (32 - (N : Int)) = (L : Int) := (IntWalk.i64_in _ (by omega)).trans (by omega)
  obtain ⟨y0, y1, hs, s0, s1⟩ := sign_law u N L hL (by omega)
  have e64 : min L 64 = L := by omega
  have u2 : IntKind.u32.wrap (u * 2 ^ L) = u * 2 ^ L % 4294967296 := IntKind.wrap_u32 _
  generalize signP u N = S at *
  generalize hY : u * 2 ^ L % 4294967296 = Y at *
  clear hY
  generalize hZ : IntKind.i32.wrap Y = Z at *
  go_enter Try.func28, Try.ntmps28
  go_wp2
  go_ret
  exact ⟨rfl, rfl⟩
end Go.Proofs.Ytbhfidneijogfaa
