/- Chapter 01: FixNear: the plain law, and the walk. -/
import Derived.Test.YthfcbaiminjkbaaFixG
namespace Go.Proofs.Ythfcbaiminjkbaa
open Go.RowKit

theorem near_facts (n d : Int) (hn : -1099511627776 ≤ n ∧ n ≤ 1099511627776) (hd : -1099511627776 ≤ d ∧ d ≤ 1099511627776) (h0 : d ≠ 0) :
    -1099511627776 ≤ overP n d ∧ overP n d ≤ 1099511627776 ∧ overP (-n) (-d) = overP n d ∧ overP (-n) d = -overP n d ∧ (0 < d → 2 * (n - overP n d * d) ≤ d ∧ -d ≤ 2 * (n - overP n d * d)) := by
  have hQ : ∃ Q : Int, Q = (2 * absP n + absP d) / (2 * absP d) ∧ 0 ≤ Q ∧ Q ≤ 1099511627776 ∧ (absP n = 0 → Q = 0) ∧ (0 < d → 2 * (absP n - Q * d) ≤ d ∧ -d ≤ 2 * (absP n - Q * d)) := by
    have ha : 0 ≤ absP n ∧ absP n ≤ 1099511627776 := by unfold absP; split <;> omega
    have hb : 1 ≤ absP d ∧ (0 < d → d = absP d) := by unfold absP; split <;> omega
    generalize absP n = a at *
    generalize absP d = b at *
    refine ⟨_, rfl, ?_⟩
    have h1 := Int.mul_ediv_add_emod (2 * a + b) (2 * b)
    have h2 := Int.emod_nonneg (2 * a + b) (show 2 * b ≠ 0 by omega)
    have h3 := Int.emod_lt_of_pos (2 * a + b) (show 0 < 2 * b by omega)
    have h4 : 0 ≤ (2 * a + b) / (2 * b) := Int.ediv_nonneg (by omega) (by omega)
    have h5 : (2 * a + b) / (2 * b) < a + 1 := Int.ediv_lt_of_lt_mul (by omega) (by
      have : a * 1 ≤ a * b := Int.mul_le_mul_of_nonneg_left hb.1 ha.1
      have e : (a + 1) * (2 * b) = 2 * (a * b) + 2 * b := by grind
      rw [e]; omega)
    generalize (2 * a + b) / (2 * b) = Q at *
    generalize (2 * a + b) % (2 * b) = r at *
    refine ⟨h4, by omega, fun e => by omega, fun hp => ?_⟩
    have e := hb.2 hp
    have e2 : 2 * b * Q = 2 * (Q * d) := by rw [e]; grind
    rw [e2] at h1
    rw [← e] at *
    clear e2
    generalize Q * d = p at *
    omega
  obtain ⟨Q, hq, q0, q1, q2, q3⟩ := hQ
  have en : absP (-n) = absP n := by unfold absP; split <;> split <;> omega
  have ed : absP (-d) = absP d := by unfold absP; split <;> split <;> omega
  have hz : absP n = 0 ↔ n = 0 := by unfold absP; split <;> omega
  have han : absP n = if n < 0 then -n else n := rfl
  unfold overP
  rw [if_neg h0, if_neg (by omega : ¬ -d = 0), if_neg h0, en, ed, ← hq]
  generalize absP n = a at *
  clear hq en ed
  by_cases g1 : n < 0
  · have g1' : ¬ -n < 0 := by omega
    by_cases g2 : d < 0
    · have g2' : ¬ -d < 0 := by omega
      simp only [if_pos g1, if_pos g2, if_neg g1', if_neg g2']
      exact ⟨by omega, by omega, trivial, by omega, fun h => by omega⟩
    · have g2' : -d < 0 := by omega
      have g3 := q3 (by omega)
      simp only [if_pos g1, if_neg g2, if_neg g1', if_pos g2']
      rw [if_pos g1] at han
      have e : n - -Q * d = -(a - Q * d) := by rw [han]; grind
      rw [e]
      exact ⟨by omega, by omega, trivial, by omega, fun _ => by omega⟩
  · rw [if_neg g1] at han
    by_cases gz : n = 0
    · have g1' : ¬ -n < 0 := by omega
      have e : Q = 0 := by omega
      subst e
      simp only [if_neg g1, if_neg g1']
      by_cases g2 : d < 0
      · have g2' : ¬ -d < 0 := by omega
        simp only [if_pos g2, if_neg g2']
        exact ⟨by omega, by omega, by omega, by omega, fun h => by omega⟩
      · have g2' : -d < 0 := by omega
        have e : min (0 : Int) 9223372036854775807 = 0 := by omega
        simp only [if_neg g2, if_pos g2', e]
        exact ⟨by omega, by omega, by omega, by omega, fun h => by omega⟩
    · have g1' : -n < 0 := by omega
      have e : min Q 9223372036854775807 = Q := by omega
      by_cases g2 : d < 0
      · have g2' : ¬ -d < 0 := by omega
        simp only [if_neg g1, if_pos g2, if_pos g1', if_neg g2', e]
        exact ⟨by omega, by omega, trivial, by omega, fun h => by omega⟩
      · have g2' : -d < 0 := by omega
        have g3 := q3 (by omega)
        simp only [if_neg g1, if_neg g2, if_pos g1', if_pos g2', e]
        rw [han] at g3
        exact ⟨by omega, by omega, trivial, trivial, fun _ => by omega⟩

/-- Half of the quotient by the divisor, and the rest. -/
theorem near_left (n d q : Int) (hn : -1099511627776 ≤ n ∧ n ≤ 1099511627776) (hd : 0 < d ∧ d ≤ 1099511627776) (h : 2 * (n - q * d) ≤ d ∧ -d ≤ 2 * (n - q * d)) :
    ∃ p r : Int, q.tdiv 2 * d = p ∧ (q - q.tdiv 2) * d = r ∧ -4398046511104 ≤ p ∧ p ≤ 4398046511104 ∧ -4398046511104 ≤ r ∧ r ≤ 4398046511104 ∧ n - p - r ≤ d.tdiv 2 ∧ (-d).tdiv 2 ≤ n - p - r := by
  have hs : q.tdiv 2 = if q < 0 then -((-q) / 2) else q / 2 := by
    split
    · have e : q = -(-q) := by omega
      rw [e, Int.neg_tdiv, Int.tdiv_eq_ediv_of_nonneg (by omega)]; omega
    · rw [Int.tdiv_eq_ediv_of_nonneg (by omega)]
  have e1 : d.tdiv 2 = d / 2 := Int.tdiv_eq_ediv_of_nonneg (by omega)
  have e2 : (-d).tdiv 2 = -(d / 2) := by rw [Int.neg_tdiv, e1]
  refine ⟨_, _, rfl, rfl, ?_⟩
  rw [e1, e2]
  have hsum : q.tdiv 2 * d + (q - q.tdiv 2) * d = q * d := by grind
  generalize q.tdiv 2 = k at *
  have hk : (q - k) * d - k * d = (q - 2 * k) * d := by grind
  have hj : q - 2 * k = 0 ∨ q - 2 * k = 1 ∨ q - 2 * k = -1 := by split at hs <;> omega
  have hd3 : (q - 2 * k) * d = 0 ∨ (q - 2 * k) * d = d ∨ (q - 2 * k) * d = -d := by
    rcases hj with h | h | h <;> rw [h]
    · left; omega
    · right; left; omega
    · right; right; omega
  generalize (q - 2 * k) * d = m at *
  generalize (q - k) * d = r at *
  generalize k * d = p at *
  generalize q * d = s at *
  clear hs hj e1 e2
  omega
end Go.Proofs.Ythfcbaiminjkbaa
