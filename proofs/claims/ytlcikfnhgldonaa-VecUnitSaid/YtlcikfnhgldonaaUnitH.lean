/- Chapter 11: the walk of UnitKept: signs and order are kept. -/
import Derived.Test.YtlcikfnhgldonaaUnitF
namespace Go.Proofs.Ytlcikfnhgldonaa
open Go.RowKit
set_option linter.unusedVariables false
set_option linter.unusedSimpArgs false

theorem absP_mul (x c : Int) (hc : 0 ≤ c) : absP (x * c) = absP x * c := by
  unfold absP
  by_cases h : x < 0
  · by_cases h0 : c = 0
    · subst h0; simp
    · have := Int.mul_neg_of_neg_of_pos h (show 0 < c by omega)
      rw [if_pos this, if_pos h, Int.neg_mul]
  · have := Int.mul_nonneg (show 0 ≤ x by omega) hc
    rw [if_neg (by omega), if_neg h]
theorem absP_over (n d : Int) (hn : -4611686018427387904 ≤ n ∧ n ≤ 4611686018427387904) (hd : 0 < d) : absP (overP n d) = (2 * absP n + d) / (2 * d) := by
  rw [over_pos n d hn hd]
  unfold absP
  by_cases h : n < 0
  · simp only [h, if_true]
    have h0 : 0 ≤ (2 * (-n) + d) / (2 * d) := Int.ediv_nonneg (by omega) (by omega)
    split <;> omega
  · simp only [h, if_false]
    have h0 : 0 ≤ (2 * n + d) / (2 * d) := Int.ediv_nonneg (by omega) (by omega)
    rw [if_neg (by omega)]
theorem over_sign (n d : Int) (hn : -4611686018427387904 ≤ n ∧ n ≤ 4611686018427387904) (hd : 0 < d) : (n < 0 → overP n d ≤ 0) ∧ (0 ≤ n → 0 ≤ overP n d) ∧ (n = 0 → overP n d = 0) := by
  rw [over_pos n d hn hd]
  refine ⟨fun h => ?_, fun h => ?_, fun h => ?_⟩
  · have h0 : 0 ≤ (2 * (-n) + d) / (2 * d) := Int.ediv_nonneg (by omega) (by omega)
    rw [if_pos h]; omega
  · have h0 : 0 ≤ (2 * n + d) / (2 * d) := Int.ediv_nonneg (by omega) (by omega)
    rw [if_neg (by omega)]; exact h0
  · subst h
    simp
    exact Int.ediv_eq_zero_of_lt (by omega) (by omega)
/-- What a part becomes keeps its sign, and no part passes another one. -/
theorem one_kept (xs : List Int) (hx : ∀ x ∈ xs, -2147483648 ≤ x ∧ x ≤ 2147483647) (h0 : 0 < farP xs) (x y : Int) (hxm : x ∈ xs) (hym : y ∈ xs) :
    (x < 0 → oneP xs x ≤ 0) ∧ (0 ≤ x → 0 ≤ oneP xs x) ∧ (x = 0 → oneP xs x = 0) ∧ (absP y ≤ absP x → absP (oneP xs y) ≤ absP (oneP xs x)) := by
  obtain ⟨u1, u2, u3, u4, u5⟩ := up_facts xs hx h0
  have ux := u2 x hxm
  have uy := u2 y hym
  have hp : (0 : Int) < 2 ^ upN xs := Int.pow_pos (by omega)
  have hs := over_sign (x * 2 ^ upN xs * 1073741824) (lenP xs) (by unfold I32 at ux; omega) (by omega)
  have hax := absP_over (x * 2 ^ upN xs * 1073741824) (lenP xs) (by unfold I32 at ux; omega) (by omega)
  have hay := absP_over (y * 2 ^ upN xs * 1073741824) (lenP xs) (by unfold I32 at uy; omega) (by omega)
  unfold oneP
  refine ⟨fun h => hs.1 ?_, fun h => hs.2.1 ?_, fun h => hs.2.2 ?_, fun h => ?_⟩
  · have := Int.mul_neg_of_neg_of_pos h hp; omega
  · have := Int.mul_nonneg h (Int.le_of_lt hp); omega
  · subst h; simp
  · rw [hax, hay, absP_mul _ 1073741824 (by omega), absP_mul _ 1073741824 (by omega), absP_mul x _ (Int.le_of_lt hp), absP_mul y _ (Int.le_of_lt hp)]
    apply Int.ediv_le_ediv (by omega)
    have := Int.mul_le_mul_of_nonneg_right h (Int.le_of_lt hp)
    omega
theorem make_kept (xs : List Int) (hx : ∀ x ∈ xs, -2147483648 ≤ x ∧ x ≤ 2147483647) (x y : Int) (hxm : x ∈ xs) (hym : y ∈ xs) :
    (x < 0 → makeP xs x ≤ 0) ∧ (0 ≤ x → 0 ≤ makeP xs x) ∧ (x = 0 → makeP xs x = 0) ∧ (absP y ≤ absP x → absP (makeP xs y) ≤ absP (makeP xs x)) ∧ (¬ 0 < farP xs → makeP xs x = 0) := by
  have h := (farP_facts xs hx).1
  unfold makeP
  by_cases hz : farP xs = 0
  · simp [hz]
  · rw [if_neg hz, if_neg hz]
    obtain ⟨k1, k2, k3, k4⟩ := one_kept xs hx (by omega) x y hxm hym
    exact ⟨k1, k2, k3, k4, fun h => absurd (by omega) h⟩
theorem mem4 (xs : List Int) (j : Nat) (h : j < xs.length) : xs[j]?.getD 0 ∈ xs := by simp [h]
end Go.Proofs.Ytlcikfnhgldonaa
