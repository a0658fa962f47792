/- Chapter 01: FixCut: the plain law, and the walk. -/
import Derived.Test.YthfcbaiminjkbaaFixF
namespace Go.Proofs.Ythfcbaiminjkbaa
open Go.RowKit

/-- What was not cut is right, what was cut is the greatest or the least. -/
def rightP (n : Int) (c : Bool) (i : Int) : Bool := if c then (decide (2147483647 < i) && n == 2147483647) || (decide (i < -2147483648) && n == -2147483648) else n == i

theorem rightP_clamp (v : Int) : rightP (clampP v) (clampP v != v) v = true := by
  unfold rightP
  by_cases g1 : 2147483647 < v
  · have e : clampP v = 2147483647 := by unfold clampP; omega
    have e2 : ((2147483647 : Int) != v) = true := by simp; omega
    rw [e, e2]; simp; omega
  · by_cases g2 : v < -2147483648
    · have e : clampP v = -2147483648 := by unfold clampP; omega
      have e2 : ((-2147483648 : Int) != v) = true := by simp; omega
      rw [e, e2]; simp; omega
    · have e : clampP v = v := by unfold clampP; omega
      rw [e]; simp

theorem law01_right (v : Int) (w : World) (hv : I64 v) :
    Calls Try.prog 25 #[.int .i32 (clampP v), .bool (clampP v != v), .int .i64 v] w fun e w' => e = .returned (.bool true) ∧ w = w' := by
  obtain ⟨v1, v2⟩ := hv
  by_cases g1 : 2147483647 < v
  · have e : clampP v = 2147483647 := by unfold clampP; omega
    have e2 : ((2147483647 : Int) != v) = true := by simp; omega
    rw [e, e2]
    clear e e2
    go_enter Try.func25, Try.ntmps25
    go_wp2
    go_ret
    exact ⟨rfl, rfl⟩
  · by_cases g2 : v < -2147483648
    · have e : clampP v = -2147483648 := by unfold clampP; omega
      have e2 : ((-2147483648 : Int) != v) = true := by simp; omega
      rw [e, e2]
      clear e e2
      go_enter Try.func25, Try.ntmps25
      go_wp2
      go_ret
      exact ⟨rfl, rfl⟩
    · have e : clampP v = v := by unfold clampP; omega
      have e2 : (v != v) = false := by simp
      rw [e, e2]
      clear e e2
      go_enter Try.func25, Try.ntmps25
      go_wp2
      go_ret
      exact ⟨rfl, rfl⟩

theorem round_zero (n : Int) (hn : I64 n) : roundP n (max 0 (min 0 30)) = n := by
  have e : fracP (max 0 (min 0 30)) 62 = 0 := by decide +kernel
  show overP n (2 ^ fracP (max 0 (min 0 30)) 62) = n
  rw [e, Int.pow_zero]
  unfold overP absP
  unfold I64 at hn
  rw [if_neg (by omega : ¬ (1 : Int) = 0), if_neg (by omega : ¬ (1 : Int) < 0), if_neg (by omega : ¬ (1 : Int) < 0)]
  split <;> omega

theorem fixCut_walk (a0 a1 : Int) (w : World) (w0 : (Lit.int .i32 a0).wf = true) (w1 : (Lit.int .i32 a1).wf = true) :
    Calls Try.prog 5 #[.int .i32 a0, .int .i32 a1] w fun e w' => e = .returned (.bool true) ∧ Below w.heap.size w w' := by
  have i0 := bounds_i32 w0
  have i1 := bounds_i32 w1
  have hm := mul_bd a0 a1 i0 i1
  have h1 := fun w => fx_Add a0 a1 w i0 i1
  have h2 := fun w => fx_Sub a0 a1 w i0 i1
  have h5 := fun w => fx_Mul a0 a1 0 w i0 i1 (by unfold I64; omega)
  unfold Cuts at h1 h2 h5
  simp only [round_zero (a0 * a1) (by unfold I64; omega)] at h5
  have r1 := fun w => law01_right (a0 + a1) w (by unfold I64; omega)
  have r2 := fun w => law01_right (a0 - a1) w (by unfold I64; omega)
  have r3 := fun w => law01_right (a0 * a1) w (by unfold I64; omega)
  generalize (clampP (a0 + a1) != a0 + a1) = c1 at *
  generalize (clampP (a0 - a1) != a0 - a1) = c2 at *
  generalize (clampP (a0 * a1) != a0 * a1) = c5 at *
  generalize clampP (a0 + a1) = x1 at *
  generalize clampP (a0 - a1) = x2 at *
  generalize clampP (a0 * a1) = x5 at *
  have H1 := hid h1
  have H2 := hid h2
  have H5 := hid h5
  have R1 := hid r1
  have R2 := hid r2
  have R3 := hid r3
  obtain ⟨a1, a2⟩ := i0
  obtain ⟨b1, b2⟩ := i1
  clear w0 w1 h1 h2 h5 r1 r2 r3
  go_enter Try.func5, Try.ntmps5
  go_wp2_with fail
  refine (H1.out _).mono ?_
  rintro e w1 ⟨rfl, b1⟩
  go_wp2_with fail
  refine (H2.out _).mono ?_
  rintro e w2 ⟨rfl, b2⟩
  go_wp2_with fail
  refine (H5.out _).mono ?_
  rintro e w3 ⟨rfl, b3⟩
  go_wp2_with fail
  refine (R1.out _).mono ?_
  rintro e w' ⟨rfl, rfl⟩
  go_wp2_with fail
  refine (R2.out _).mono ?_
  rintro e w' ⟨rfl, rfl⟩
  go_wp2_with fail
  refine (R3.out _).mono ?_
  rintro e w' ⟨rfl, rfl⟩
  go_wp2_with fail
  refine (law01_knows _).mono ?_
  rintro e w4 ⟨rfl, b4⟩
  go_wp2
  go_ret
  exact ⟨rfl, ((b1.on b2).on b3).on b4⟩
end Go.Proofs.Ythfcbaiminjkbaa
