/- Chapter 08: what must come; the walk of BitsGets. -/
import Derived.Test.YtbhfidneijogfaaBitsK
namespace Go.Proofs.Ytbhfidneijogfaa
open Go.RowKit
set_option linter.unusedVariables false
set_option linter.unusedSimpArgs false

set_option maxHeartbeats 4000000 in
theorem law08_knows (w : World) :
    Calls Try.prog 32 #[] w fun e w' => e = .returned (.bool true) ∧ Below w.heap.size w w' := by
  have e1 : splitP 2147483649 [1, 30, 1] = [1, 0, 1] := by decide +kernel
  have e2 : okF 32 [1, 30, 1] = true := by decide +kernel
  have e3 : getP 240 4 4 = 15 := by decide +kernel
  have e4 : fitB (-1) 1 = true := by decide +kernel
  have e5 : signP 1 1 = -1 := by decide +kernel
  have h1 := fun g w h => b_Split (some ⟨g, 0, none⟩) 3 3 [1, 30, 1] 2147483649 w (by omega) h (by simp) (by omega)
  have h2 := fun w => b_Get 240 4 4 w (by omega)
  have h3 := fun w => b_Fits (-1) 1 w (by omega)
  have h4 := fun w => b_Signed 1 1 w (by omega)
  simp only [e1, e2, e3, e4, e5] at h1 h2 h3 h4
  have H1 := hid h1
  have H2 := hid h2
  have H3 := hid h3
  have H4 := hid h4
  clear h1 h2 h3 h4 e1 e2 e3 e4 e5
  have hB : Below w.heap.size w (w.alloc (.cells #[.int .i64 1, .int .i64 30, .int .i64 1] 3)) := (Below.refl _ w).alloc (Nat.le_refl _) _
  have hs : Blk (w.alloc (.cells #[.int .i64 1, .int .i64 30, .int .i64 1] 3)) w.heap.size 3 #[.int .i64 1, .int .i64 30, .int .i64 1] := Blk.new w _ _
  go_enter Try.func32, Try.ntmps32
  go_wp2_with fail
  refine (H1.out _ _ (Row.blk hs rfl hs.lt)).mono ?_
  rintro e w1 ⟨A', c', rfl, hr, b1⟩
  replace hB := hB.trans (b1.mono hB.size)
  go_wp2_with fail
  refine (H2.out _).mono ?_
  rintro e w2 ⟨rfl, b2⟩
  replace hr := hr.below b2
  replace hB := hB.trans (b2.mono hB.size)
  have hx := Blk.new w2 43 #[.int .u32 1, .int .u32 0, .int .u32 1]
  have hr2 := (hr.alloc b2.size (.cells #[.int .u32 1, .int .u32 0, .int .u32 1] 43)).more (B' := (w2.alloc (.cells #[.int .u32 1, .int .u32 0, .int .u32 1] 43)).heap.size) (by have := b2.size; simp; omega)
  replace hB := hB.alloc hB.size (.cells #[.int .u32 1, .int .u32 0, .int .u32 1] 43)
  go_wp2_with fail
  refine (r8_Same A' 3 c' [1, 0, 1] (some ⟨w2.heap.size, 0, none⟩) 3 3 [1, 0, 1] _ hr2 (Row.blk hx rfl hx.lt) (by omega) (by omega)).mono ?_
  rintro e w3 ⟨rfl, b3⟩
  replace hB := hB.trans (b3.mono hB.size)
  have ed : decide (([1, 0, 1] : List Int) = [1, 0, 1]) = true := by decide
  rw [ed]
  clear ed
  go_wp2_with fail
  refine (H3.out _).mono ?_
  rintro e w' ⟨rfl, rfl⟩
  go_wp2_with fail
  refine (H4.out _).mono ?_
  rintro e w' ⟨rfl, rfl⟩
  go_wp2
  go_ret
  exact ⟨rfl, hB⟩

set_option maxHeartbeats 4000000 in
theorem bitsGets_walk (a0 a1 a2 a3 a4 : Int) (w : World) (w0 : (Lit.int .u32 a0).wf = true) (w1 : (Lit.int .i64 a1).wf = true) (w2 : (Lit.int .i64 a2).wf = true) (w3 : (Lit.int .u32 a3).wf = true) (w4 : (Lit.int .i32 a4).wf = true) :
    Calls Try.prog 6 #[.int .u32 a0, .int .i64 a1, .int .i64 a2, .int .u32 a3, .int .i32 a4] w fun e w' => e = .returned (.bool true) ∧ Below w.heap.size w w' := by
  have i0 := bounds_u32 w0
  have i3 := bounds_u32 w3
  have i4 := bounds_i32 w4
  clear w0 w1 w2 w3 w4
  have HK := hid fun w => law08_knows w
  have h1 := fun w => b_Put a0 a1 a2 a3 w i0 i3
  have h2 := fun w => r8_Put a0 a1 a2 a3 w i0 i3
  have h3 := fun w => b_Get a0 a1 a2 w i0
  have h4 := fun w => r8_Get a0 a1 a2 w i0
  have h5 := fun w => b_Signed a0 a2 w i0
  have h6 := fun w => r8_Signed a0 a2 w i0
  have h7 := fun w => b_Fits a4 a2 w i4
  have h8 := fun w => r8_Fits a4 a2 w i4
  generalize putV a0 a1 a2 a3 = v at *
  generalize putB a1 a2 a3 = B at *
  generalize getP a0 a1 a2 = g at *
  generalize signP a0 a2 = s at *
  generalize fitB a4 a2 = F at *
  clear i0 i3 i4
  have H1 := hid h1
  have H2 := hid h2
  have H3 := hid h3
  have H4 := hid h4
  have H5 := hid h5
  have H6 := hid h6
  have H7 := hid h7
  have H8 := hid h8
  clear h1 h2 h3 h4 h5 h6 h7 h8
  go_enter Try.func6, Try.ntmps6
  go_wp2_with fail
  refine (H1.out _).mono ?_
  rintro e w1 ⟨rfl, b1⟩
  go_wp2_with fail
  refine (H2.out _).mono ?_
  rintro e w2 ⟨rfl, b2⟩
  replace b1 := b1.trans (b2.mono b1.size)
  go_wp2_with fail
  refine (H3.out _).mono ?_
  rintro e w3 ⟨rfl, b3⟩
  replace b1 := b1.trans (b3.mono b1.size)
  go_wp2_with fail
  refine (H4.out _).mono ?_
  rintro e w4 ⟨rfl, b4⟩
  replace b1 := b1.trans (b4.mono b1.size)
  go_wp2_with fail
  refine (H5.out _).mono ?_
  rintro e w' ⟨rfl, rfl⟩
  go_wp2_with fail
  refine (H6.out _).mono ?_
  rintro e w' ⟨rfl, rfl⟩
  go_wp2_with fail
  refine (H7.out _).mono ?_
  rintro e w' ⟨rfl, rfl⟩
  go_wp2_with fail
  refine (H8.out _).mono ?_
  rintro e w' ⟨rfl, rfl⟩
  go_wp2_with fail
  refine (HK.out _).mono ?_
  rintro e w5 ⟨rfl, b5⟩
  replace b1 := b1.trans (b5.mono b1.size)
  go_wp2
  go_ret
  exact ⟨rfl, b1⟩
end Go.Proofs.Ytbhfidneijogfaa
