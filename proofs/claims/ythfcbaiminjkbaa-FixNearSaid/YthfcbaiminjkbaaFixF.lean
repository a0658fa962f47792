/- Chapter 01: the walks of FixTells and FixOps. -/
import Derived.Test.YthfcbaiminjkbaaFixE
namespace Go.Proofs.Ythfcbaiminjkbaa
open Go.RowKit

theorem fixTells_walk (a0 a1 a2 : Int) (w : World) (w0 : (Lit.int .i64 a0).wf = true) (w1 : (Lit.int .i64 a1).wf = true) (w2 : (Lit.int .i64 a2).wf = true) :
    Calls Try.prog 3 #[.int .i64 a0, .int .i64 a1, .int .i64 a2] w fun e w' => e = .returned (.bool true) ∧ Below w.heap.size w w' := by
  have i0 := bounds_i64 w0
  have i1 := bounds_i64 w1
  have i2 := bounds_i64 w2
  have H1 := hid fun w => fx_Clamp a0 w i0
  have H2 := hid fun w => fxr_Clamp a0 w i0
  have H3 := hid fun w => fx_Over a0 a1 w i0 i1
  have H4 := hid fun w => fxr_Over a0 a1 w i0 i1
  have H5 := hid fun w => fx_Round a0 a2 w i0 i2
  have H6 := hid fun w => fxr_Round a0 a2 w i0 i2
  generalize clampP a0 = x at *
  generalize (x != a0) = xb at *
  generalize overP a0 a1 = y at *
  generalize roundP a0 a2 = z at *
  clear w0 w1 w2 i0 i1 i2
  go_enter Try.func3, Try.ntmps3
  go_wp2_with fail
  refine (H1.out _).mono ?_
  rintro e w1 ⟨rfl, rfl⟩
  go_wp2_with fail
  refine (H2.out _).mono ?_
  rintro e w1 ⟨rfl, rfl⟩
  go_wp2_with fail
  refine (H3.out _).mono ?_
  rintro e w1 ⟨rfl, b1⟩
  go_wp2_with fail
  refine (H4.out _).mono ?_
  rintro e w' ⟨rfl, rfl⟩
  go_wp2_with fail
  refine (H5.out _).mono ?_
  rintro e w2 ⟨rfl, b2⟩
  go_wp2_with fail
  refine (H6.out _).mono ?_
  rintro e w' ⟨rfl, rfl⟩
  go_wp2_with fail
  refine (law01_knows _).mono ?_
  rintro e w3 ⟨rfl, b3⟩
  go_wp2
  go_ret
  exact ⟨rfl, (b1.on b2).on b3⟩

theorem fixOps_walk (a0 a1 a2 : Int) (w : World) (w0 : (Lit.int .i32 a0).wf = true) (w1 : (Lit.int .i32 a1).wf = true) (w2 : (Lit.int .i64 a2).wf = true) :
    Calls Try.prog 10 #[.int .i32 a0, .int .i32 a1, .int .i64 a2] w fun e w' => e = .returned (.bool true) ∧ Below w.heap.size w w' := by
  have i0 := bounds_i32 w0
  have i1 := bounds_i32 w1
  have i2 := bounds_i64 w2
  have h1 := fun w => fx_Add a0 a1 w i0 i1
  have h2 := fun w => fx_Sub a0 a1 w i0 i1
  have h3 := fun w => fx_Neg a0 w i0
  have h4 := fun w => fx_Abs a0 w i0
  have h5 := fun w => fx_Mul a0 a1 a2 w i0 i1 i2
  have h6 := fun w => fx_Div a0 a1 a2 w i0 i1 i2
  have r1 := fun w => fxr_Add a0 a1 w i0 i1
  have r2 := fun w => fxr_Sub a0 a1 w i0 i1
  have r3 := fun w => fxr_Neg a0 w i0
  have r4 := fun w => fxr_Abs a0 w i0
  have r5 := fun w => fxr_Mul a0 a1 a2 w i0 i1 i2
  have r6 := fun w => fxr_Div a0 a1 a2 w i0 i1 i2
  unfold Cuts at h1 h2 h3 h4 h5
  unfold CutsR at r1 r2 r3 r4 r5
  unfold Divs at h6
  unfold DivsR at r6
  generalize roundP (a0 * a1) (max 0 (min a2 30)) = v5 at *
  generalize divV a0 a1 a2 = x6 at *
  generalize divC a0 a1 a2 = c6 at *
  generalize (clampP (a0 + a1) != a0 + a1) = c1 at *
  generalize (clampP (a0 - a1) != a0 - a1) = c2 at *
  generalize (clampP (-a0) != -a0) = c3 at *
  generalize (clampP (absP a0) != absP a0) = c4 at *
  generalize (clampP v5 != v5) = c5 at *
  generalize clampP (a0 + a1) = x1 at *
  generalize clampP (a0 - a1) = x2 at *
  generalize clampP (-a0) = x3 at *
  generalize clampP (absP a0) = x4 at *
  generalize clampP v5 = x5 at *
  have H1 := hid h1
  have H2 := hid h2
  have H3 := hid h3
  have H4 := hid h4
  have H5 := hid h5
  have H6 := hid h6
  have R1 := hid r1
  have R2 := hid r2
  have R3 := hid r3
  have R4 := hid r4
  have R5 := hid r5
  have R6 := hid r6
  clear w0 w1 w2 i0 i1 i2 h1 h2 h3 h4 h5 h6 r1 r2 r3 r4 r5 r6
  go_enter Try.func10, Try.ntmps10
  go_wp2_with fail
  refine (H1.out _).mono ?_
  rintro e w1 ⟨rfl, b1⟩
  go_wp2_with fail
  refine (H2.out _).mono ?_
  rintro e w2 ⟨rfl, b2⟩
  go_wp2_with fail
  refine (H3.out _).mono ?_
  rintro e w3 ⟨rfl, b3⟩
  go_wp2_with fail
  refine (H4.out _).mono ?_
  rintro e w4 ⟨rfl, b4⟩
  go_wp2_with fail
  refine (H5.out _).mono ?_
  rintro e w5 ⟨rfl, b5⟩
  go_wp2_with fail
  refine (H6.out _).mono ?_
  rintro e w6 ⟨rfl, b6⟩
  go_wp2_with fail
  refine (R1.out _).mono ?_
  rintro e w' ⟨rfl, rfl⟩
  go_wp2_with fail
  refine (R2.out _).mono ?_
  rintro e w' ⟨rfl, rfl⟩
  go_wp2_with fail
  refine (R3.out _).mono ?_
  rintro e w' ⟨rfl, rfl⟩
  go_wp2_with fail
  refine (R4.out _).mono ?_
  rintro e w' ⟨rfl, rfl⟩
  go_wp2_with fail
  refine (R5.out _).mono ?_
  rintro e w' ⟨rfl, rfl⟩
  go_wp2_with fail
  refine (R6.out _).mono ?_
  rintro e w' ⟨rfl, rfl⟩
  go_wp2_with fail
  refine (law01_knows _).mono ?_
  rintro e w7 ⟨rfl, b7⟩
  go_wp2
  go_ret
  exact ⟨rfl, (((((b1.on b2).on b3).on b4).on b5).on b6).on b7⟩
end Go.Proofs.Ythfcbaiminjkbaa
