/- Chapter 02: the walks of the laws. -/
import Derived.Test.YthfcbaiminjkbaaRootD
namespace Go.Proofs.Ythfcbaiminjkbaa
open Go.RowKit

theorem root_on {w w1 w2 : World} (a : Below w.heap.size w w1) (b : Below w1.heap.size w1 w2) : Below w.heap.size w w2 := a.trans (b.mono a.size)

theorem rootTells_walk (a0 : Int) (A : Option Addr) (n c : Nat) (xs : List Int) (w : World) (w0 : (Lit.int .u64 a0).wf = true) (h : In .i32 w A n c xs) :
    Calls Try.prog 6 #[.int .u64 a0, .slice A n c] w fun e w' => e = .returned (.bool true) ∧ Below w.heap.size w w' := by
  obtain ⟨hr, hm, hc, hw⟩ := h
  have i0 := bounds_u64 w0
  have hx : ∀ x ∈ xs, -2147483648 ≤ x ∧ x ≤ 2147483647 := fun x hx => bounds_i32 (hw x hx)
  have HK := hid fun w => law02_knows w
  clear w0 hw
  by_cases g : 100 < n
  · go_enter Try.func6, Try.ntmps6
    go_wp2_with fail
    refine (HK.out _).mono ?_
    rintro e w1 ⟨rfl, b1⟩
    go_wp2
    go_ret
    exact ⟨rfl, b1⟩
  have d1 : decide ((100 : Int) < n) = false := by simp; omega
  have H1 := hid fun w => root_Sqrt a0 w i0.1 i0.2
  have H2 := hid fun w => ref_Sqrt a0 w i0.1 i0.2
  have H3 := hid fun w => root_Near a0 w i0.1 i0.2
  have H4 := hid fun w => ref_Near a0 w i0.1 i0.2
  have H5 := hid fun w h => root_Squares A n c xs w h hx (by omega)
  have H6 := hid fun w h => ref_Squares A n c xs w h hx (by omega)
  have H7 := hid fun w h => root_Length A n c xs w h hx (by omega)
  have H8 := hid fun w h => ref_Length A n c xs w h hx (by omega)
  clear hx i0
  go_enter Try.func6, Try.ntmps6
  go_wp2_with fail
  refine (HK.out _).mono ?_
  rintro e w1 ⟨rfl, b1⟩
  go_wp2_with fail
  refine (H1.out _).mono ?_
  rintro e w' ⟨rfl, rfl⟩
  go_wp2_with fail
  refine (H2.out _).mono ?_
  rintro e w' ⟨rfl, rfl⟩
  go_wp2_with fail
  refine (H3.out _).mono ?_
  rintro e w' ⟨rfl, rfl⟩
  go_wp2_with fail
  refine (H4.out _).mono ?_
  rintro e w' ⟨rfl, rfl⟩
  go_wp2_with fail
  refine (H5.out _ ((hr.below b1).more b1.size)).mono ?_
  rintro e w' ⟨rfl, rfl⟩
  go_wp2_with fail
  refine (H6.out _ ((hr.below b1).more b1.size)).mono ?_
  rintro e w2 ⟨rfl, b2⟩
  have b3 := root_on b1 b2
  go_wp2_with fail
  refine (H7.out _ ((hr.below b3).more b3.size)).mono ?_
  rintro e w' ⟨rfl, rfl⟩
  go_wp2_with fail
  refine (H8.out _ ((hr.below b3).more b3.size)).mono ?_
  rintro e w4 ⟨rfl, b4⟩
  go_wp2
  go_ret
  exact ⟨rfl, root_on b3 b4⟩

theorem rootFloor_walk (a0 : Int) (w : World) (w0 : (Lit.int .u64 a0).wf = true) :
    Calls Try.prog 7 #[.int .u64 a0] w fun e w' => e = .returned (.bool true) ∧ Below w.heap.size w w' := by
  obtain ⟨h0, h1⟩ := bounds_u64 w0
  have HK := hid fun w => law02_knows w
  have H1 := hid fun w => root_Sqrt a0 w h0 h1
  obtain ⟨s1, s2⟩ := root_bd a0 h0 h1
  obtain ⟨q1, q2, q3⟩ := root_sq a0 h0
  generalize rootP a0 = s at *
  generalize hp : s * s = p at *
  clear w0
  have d1 : decide (p ≤ a0) = true := by simp; omega
  have d2 : decide (a0 - p ≤ 2 * s) = true := by simp; omega
  go_enter Try.func7, Try.ntmps7
  go_wp2_with fail
  refine (H1.out _).mono ?_
  rintro e w' ⟨rfl, rfl⟩
  go_wp2_with fail
  refine (HK.out _).mono ?_
  rintro e w1 ⟨rfl, b1⟩
  go_wp2
  go_ret
  exact ⟨rfl, b1⟩

/-- The plain law of the nearest one. -/
theorem near_law (n : Int) (h0 : 0 < n) (h1 : n ≤ 4611686018427387904) : 0 ≤ nearP n ∧ nearP n ≤ 2147483648 ∧ 0 ≤ nearP n * nearP n ∧ nearP n * nearP n ≤ 4611686018427387904 ∧ n ≤ nearP n * nearP n + nearP n ∧ nearP n * nearP n < n + nearP n := by
  obtain ⟨s0, s1, s2⟩ := rootP_spec n (by omega)
  have h2 := (sq_iff n 1 (by omega) (by omega)).1 (by omega)
  have h3 : rootP n ≤ 2147483648 := by
    rcases Int.lt_or_le 2147483648 (rootP n) with h | h
    · have := (sq_iff n 2147483649 (by omega) (by omega)).2 (by omega); omega
    · exact h
  have e : (rootP n + 1) * (rootP n + 1) = rootP n * rootP n + 2 * rootP n + 1 := by grind
  have h4 := sq_nonneg (rootP n)
  have h6 : 2147483648 ≤ rootP n → rootP n * rootP n = 4611686018427387904 := fun h => by
    have : rootP n = 2147483648 := by omega
    rw [this]; rfl
  have h5 : nearP n ≤ 2147483648 := by unfold nearP; split <;> omega
  have h7 : nearP n * nearP n ≤ 4611686018427387904 := by
    have := sq_le (show 0 ≤ nearP n by unfold nearP; split <;> omega) h5; omega
  refine ⟨by unfold nearP; split <;> omega, h5, sq_nonneg _, h7, ?_, ?_⟩
  · unfold nearP
    split
    · rw [e]; omega
    · omega
  · unfold nearP
    split
    · rw [e]; omega
    · omega

theorem rootNear_walk (a0 : Int) (w : World) (w0 : (Lit.int .u64 a0).wf = true) :
    Calls Try.prog 8 #[.int .u64 a0] w fun e w' => e = .returned (.bool true) ∧ Below w.heap.size w w' := by
  obtain ⟨h0, h1⟩ := bounds_u64 w0
  have HK := hid fun w => law02_knows w
  have H1 := hid fun w => root_Near a0 w h0 h1
  clear w0
  by_cases g : 4611686018427387904 < a0
  · go_enter Try.func8, Try.ntmps8
    go_wp2_with fail
    refine (HK.out _).mono ?_
    rintro e w1 ⟨rfl, b1⟩
    go_wp2
    go_ret
    exact ⟨rfl, b1⟩
  by_cases gz : a0 = 0
  · subst gz
    have e : nearP 0 = 0 := by decide +kernel
    rw [e] at H1
    clear e
    go_enter Try.func8, Try.ntmps8
    go_wp2_with fail
    refine (HK.out _).mono ?_
    rintro e w1 ⟨rfl, b1⟩
    go_wp2_with fail
    refine (H1.out _).mono ?_
    rintro e w' ⟨rfl, rfl⟩
    go_wp2
    go_ret
    exact ⟨rfl, b1⟩
  have gz' : (a0 == 0) = false := by simpa using gz
  obtain ⟨r1, r2, r3, r4, r5, r6⟩ := near_law a0 (by omega) (by omega)
  generalize nearP a0 = r at *
  generalize hp : r * r = p at *
  clear gz
  have d1 : decide (2147483648 < r) = false := by simp; omega
  have d2 : decide (a0 ≤ p + r) = true := by simp; omega
  have d3 : decide (p < a0 + r) = true := by simp; omega
  go_enter Try.func8, Try.ntmps8
  go_wp2_with fail
  refine (HK.out _).mono ?_
  rintro e w1 ⟨rfl, b1⟩
  go_wp2_with fail
  refine (H1.out _).mono ?_
  rintro e w' ⟨rfl, rfl⟩
  go_wp2
  go_ret
  exact ⟨rfl, b1⟩
end Go.Proofs.Ythfcbaiminjkbaa
