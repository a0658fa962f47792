/- Chapter 10: the plain laws of the product: one changes nothing, turned round, and the norm of a product. No program is in sight here. -/
import Derived.Test.YtgmepohfkpncmaaGreatQuatF
namespace Go.Proofs.YtgmepohfkpncmaaGreat
open Go.RowKit

theorem tm_eq (a b : Int) (ha : I32 a) (hb : I32 b) : tmP a b = if a * b < 0 then -((2 * (-(a * b)) + 1073741824) / 2147483648) else (2 * (a * b) + 1073741824) / 2147483648 := by
  have hm := mul_bd a b ha hb
  unfold tmP roundP fracP
  have e : (2 : Int) ^ (max (0:Int) (min 30 62)).toNat = 1073741824 := by decide +kernel
  rw [e]
  generalize a * b = n at *
  unfold overP absP
  split
  · omega
  · split <;> (split <;> omega)
theorem tm_one (a : Int) (ha : I32 a) : tmP a 1073741824 = a := by
  rw [tm_eq a _ ha (by unfold I32; omega)]
  unfold I32 at ha
  split <;> omega
theorem tm_zero (a : Int) (ha : I32 a) : tmP a 0 = 0 := by
  rw [tm_eq a _ ha (by unfold I32; omega)]
  simp
theorem cutC_zero (x : Int) (h : I32 x) : cutC x = 0 := by
  unfold cutC clampP; unfold I32 at h
  rw [if_neg]; simp; omega
theorem clampP_in (x : Int) (h : I32 x) : clampP x = x := by unfold clampP; unfold I32 at h; omega
/-! ### The norm of a product -/
theorem prod_bd (x y X Y : Int) (hx : -X ≤ x ∧ x ≤ X) (hy : -Y ≤ y ∧ y ≤ Y) : -(X * Y) ≤ x * y ∧ x * y ≤ X * Y := by
  have h : (x * y).natAbs ≤ X.natAbs * Y.natAbs := by rw [Int.natAbs_mul]; exact Nat.mul_le_mul (by omega) (by omega)
  have e : X * Y = ((X.natAbs * Y.natAbs : Nat) : Int) := by
    rw [Int.natCast_mul, Int.natAbs_of_nonneg (by omega), Int.natAbs_of_nonneg (by omega)]
  rw [e]
  omega
theorem sq_nn (x : Int) : 0 ≤ x * x := by
  rcases Int.le_total 0 x with h | h
  · exact Int.mul_nonneg h h
  · exact Int.mul_nonneg_of_nonpos_of_nonpos h h
end Go.Proofs.YtgmepohfkpncmaaGreat
