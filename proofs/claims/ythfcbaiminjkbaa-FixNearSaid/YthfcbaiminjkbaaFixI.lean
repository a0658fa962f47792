/- Chapter 01: the walk of FixNear. -/
import Derived.Test.YthfcbaiminjkbaaFixH
namespace Go.Proofs.Ythfcbaiminjkbaa
open Go.RowKit

theorem tdiv_two (q : Int) (h : -1099511627776 ≤ q ∧ q ≤ 1099511627776) : -1099511627776 ≤ q.tdiv 2 ∧ q.tdiv 2 ≤ 1099511627776 ∧ -1099511627776 ≤ q - q.tdiv 2 ∧ q - q.tdiv 2 ≤ 1099511627776 := by
  have hs : q.tdiv 2 = if q < 0 then -((-q) / 2) else q / 2 := by
    split
    · have e : q = -(-q) := by omega
      rw [e, Int.neg_tdiv, Int.tdiv_eq_ediv_of_nonneg (by omega)]; omega
    · rw [Int.tdiv_eq_ediv_of_nonneg (by omega)]
  rw [hs]
  split <;> omega

set_option maxRecDepth 100000 in
set_option maxHeartbeats 4000000 in
theorem fixNear_walk (a0 a1 : Int) (w : World) (w0 : (Lit.int .i64 a0).wf = true) (w1 : (Lit.int .i64 a1).wf = true) :
    Calls Try.prog 4 #[.int .i64 a0, .int .i64 a1] w fun e w' => e = .returned (.bool true) ∧ Below w.heap.size w w' := by
  obtain ⟨n1, n2⟩ := bounds_i64 w0
  obtain ⟨d1, d2⟩ := bounds_i64 w1
  clear w0 w1
  have HK := hid (law01_knows w)
  by_cases g1 : 1099511627776 < a0
  · go_enter Try.func4, Try.ntmps4
    go_wp2_with fail
    refine (HK.out).mono ?_
    rintro e w1 ⟨rfl, b1⟩
    go_wp2
    go_ret
    exact ⟨rfl, b1⟩
  by_cases g2 : a0 < -1099511627776
  · go_enter Try.func4, Try.ntmps4
    go_wp2_with fail
    refine (HK.out).mono ?_
    rintro e w1 ⟨rfl, b1⟩
    go_wp2
    go_ret
    exact ⟨rfl, b1⟩
  by_cases g3 : 1099511627776 < a1
  · go_enter Try.func4, Try.ntmps4
    go_wp2_with fail
    refine (HK.out).mono ?_
    rintro e w1 ⟨rfl, b1⟩
    go_wp2
    go_ret
    exact ⟨rfl, b1⟩
  by_cases g4 : a1 < -1099511627776
  · go_enter Try.func4, Try.ntmps4
    go_wp2_with fail
    refine (HK.out).mono ?_
    rintro e w1 ⟨rfl, b1⟩
    go_wp2
    go_ret
    exact ⟨rfl, b1⟩
  by_cases g5 : a1 = 0
  · have g5' : (a1 == 0) = true := by simpa using g5
    clear g5
    go_enter Try.func4, Try.ntmps4
    go_wp2_with fail
    refine (HK.out).mono ?_
    rintro e w1 ⟨rfl, b1⟩
    go_wp2
    go_ret
    exact ⟨rfl, b1⟩
  have g5' : (a1 == 0) = false := by simpa using g5
  obtain ⟨q1, q2, q3, q4, q5⟩ := near_facts a0 a1 ⟨by omega, by omega⟩ ⟨by omega, by omega⟩ g5
  have h1 := fun w => fx_Over a0 a1 w ⟨n1, n2⟩ ⟨d1, d2⟩
  have h2 := fun w => fx_Over (-a0) (-a1) w ⟨by omega, by omega⟩ ⟨by omega, by omega⟩
  have h3 := fun w => fx_Over (-a0) a1 w ⟨by omega, by omega⟩ ⟨by omega, by omega⟩
  rw [q3] at h2
  rw [q4] at h3
  generalize overP a0 a1 = q at *
  have H1 := hid h1
  have H2 := hid h2
  have H3 := hid h3
  have HK2 := hid fun w => law01_knows w
  clear h1 h2 h3 q3 q4 g5
  by_cases gd : a1 < 0
  · clear q5
    go_enter Try.func4, Try.ntmps4
    go_wp2_with fail
    refine (HK.out).mono ?_
    rintro e w1 ⟨rfl, b1⟩
    go_wp2_with fail
    refine (H1.out _).mono ?_
    rintro e w2 ⟨rfl, b2⟩
    go_wp2_with fail
    refine (H2.out _).mono ?_
    rintro e w3 ⟨rfl, b3⟩
    go_wp2
    go_ret
    exact ⟨by simp, (b1.on b2).on b3⟩
  · have gd1 : 0 < a1 := by
      rcases Int.lt_or_le 0 a1 with h | h
      · exact h
      · have : a1 ≠ 0 := by simpa using g5'
        omega
    have hl := near_left a0 a1 q ⟨by omega, by omega⟩ ⟨by omega, by omega⟩ (q5 gd1)
    obtain ⟨p, r, hp, hr, p1, p2, r1, r2, l1, l2⟩ := hl
    clear q5
    have k : -1099511627776 ≤ q.tdiv 2 ∧ q.tdiv 2 ≤ 1099511627776 ∧ -1099511627776 ≤ q - q.tdiv 2 ∧ q - q.tdiv 2 ≤ 1099511627776 := tdiv_two q ⟨q1, q2⟩
    obtain ⟨k1, k2, k3, k4⟩ := k
    have e1 : a1.tdiv 2 = a1 / 2 := Int.tdiv_eq_ediv_of_nonneg (by omega)
    rw [Int.neg_tdiv, e1] at l2
    rw [e1] at l1
    have t1 : (decide (a0 - p - r ≤ a1 / 2)) = true := by simpa using l1
    have t2 : (decide (-(a1 / 2) ≤ a0 - p - r)) = true := by simpa using l2
    by_cases gn : a0 < 0
    · go_enter Try.func4, Try.ntmps4
      go_wp2_with fail
      refine (HK.out).mono ?_
      rintro e w1 ⟨rfl, b1⟩
      go_wp2_with fail
      refine (H1.out _).mono ?_
      rintro e w2 ⟨rfl, b2⟩
      go_wp2_with fail
      refine (H3.out _).mono ?_
      rintro e w3 ⟨rfl, b3⟩
      go_wp2
      go_ret
      exact ⟨by simp, (b1.on b2).on b3⟩
    · go_enter Try.func4, Try.ntmps4
      go_wp2_with fail
      refine (HK.out).mono ?_
      rintro e w1 ⟨rfl, b1⟩
      go_wp2_with fail
      refine (H1.out _).mono ?_
      rintro e w2 ⟨rfl, b2⟩
      go_wp2_with fail
      refine (H3.out _).mono ?_
      rintro e w3 ⟨rfl, b3⟩
      go_wp2
      go_ret
      exact ⟨by simp, (b1.on b2).on b3⟩
end Go.Proofs.Ythfcbaiminjkbaa
