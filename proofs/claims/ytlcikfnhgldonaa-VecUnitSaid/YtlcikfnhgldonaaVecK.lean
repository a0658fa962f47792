/- Chapter 09: the walks of VecDots, VecTurned and VecUnit. -/
import Derived.Test.YtlcikfnhgldonaaVecJ
import Derived.Test.YtlcikfnhgldonaaUnitH
namespace Go.Proofs.Ytlcikfnhgldonaa
open Go.RowKit
set_option linter.unusedVariables false
set_option linter.unusedSimpArgs false

set_option maxHeartbeats 16000000 in
theorem vecDots_walk (a0 a1 a2 b0 b1 b2 : Int) (w : World) (va0 : (Lit.int .i32 a0).wf = true) (va1 : (Lit.int .i32 a1).wf = true) (va2 : (Lit.int .i32 a2).wf = true) (vb0 : (Lit.int .i32 b0).wf = true) (vb1 : (Lit.int .i32 b1).wf = true) (vb2 : (Lit.int .i32 b2).wf = true) :
    Calls Try.prog 12 #[.agg #[.int .i32 a0, .int .i32 a1, .int .i32 a2], .agg #[.int .i32 b0, .int .i32 b1, .int .i32 b2]] w fun e w' => e = .returned (.bool true) ∧ Below w.heap.size w w' := by
  have ia0 : I32 a0 := bounds_i32 va0
  have ia1 : I32 a1 := bounds_i32 va1
  have ia2 : I32 a2 := bounds_i32 va2
  have ib0 : I32 b0 := bounds_i32 vb0
  have ib1 : I32 b1 := bounds_i32 vb1
  have ib2 : I32 b2 := bounds_i32 vb2
  clear va0 va1 va2 vb0 vb1 vb2
  have h1 := fun w => v_Dot a0 a1 a2 b0 b1 b2 w ia0 ia1 ia2 ib0 ib1 ib2
  have h2 := fun w => r9_Dot a0 a1 a2 b0 b1 b2 w ia0 ia1 ia2 ib0 ib1 ib2
  have h3 := fun w => v_Cross a0 a1 a2 b0 b1 b2 w ia0 ia1 ia2 ib0 ib1 ib2
  have h4 := fun w => r9_Cross a0 a1 a2 b0 b1 b2 w ia0 ia1 ia2 ib0 ib1 ib2
  have h5 := fun w => v_Unit a0 a1 a2 w ia0 ia1 ia2
  have h6 := fun w => r9_Unit a0 a1 a2 w ia0 ia1 ia2
  have H7 := hid fun w => v_Length a0 a1 a2 w ia0 ia1 ia2
  have H8 := hid fun w => r9_Length a0 a1 a2 w ia0 ia1 ia2
  have HK := hid fun w => law09_knows w
  clear ia0 ia1 ia2 ib0 ib1 ib2
  unfold Makes3 at h5 h6
  generalize (clampP (dotV a0 a1 a2 b0 b1 b2) != dotV a0 a1 a2 b0 b1 b2) = B at *
  generalize clampP (dotV a0 a1 a2 b0 b1 b2) = p at *
  generalize clampP (tvP a1 b2 - tvP a2 b1) = x0 at *
  generalize clampP (tvP a2 b0 - tvP a0 b2) = x1 at *
  generalize clampP (tvP a0 b1 - tvP a1 b0) = x2 at *
  generalize cutC (tvP a1 b2 - tvP a2 b1) + cutC (tvP a2 b0 - tvP a0 b2) + cutC (tvP a0 b1 - tvP a1 b0) = n at *
  generalize makeP [a0, a1, a2] a0 = y0 at *
  generalize makeP [a0, a1, a2] a1 = y1 at *
  generalize makeP [a0, a1, a2] a2 = y2 at *
  generalize decide (0 < farP [a0, a1, a2]) = C at *
  generalize rootP (sqP [a0, a1, a2]) = r at *
  have H1 := hid h1
  have H2 := hid h2
  have H3 := hid h3
  have H4 := hid h4
  have H5 := hid h5
  have H6 := hid h6
  clear h1 h2 h3 h4 h5 h6
  go_enter Try.func12, Try.ntmps12
  have hp0 : Blk (w.alloc (.cells #[.int .i32 a0, .int .i32 a1, .int .i32 a2] 40)) w.heap.size 40 #[.int .i32 a0, .int .i32 a1, .int .i32 a2] := Blk.new w _ _
  have hb : Below w.heap.size w (w.alloc (.cells #[.int .i32 a0, .int .i32 a1, .int .i32 a2] 40)) := (Below.refl _ w).alloc (Nat.le_refl _) _
  replace hp0 := hp0.alloc (.cells #[.int .i32 b0, .int .i32 b1, .int .i32 b2] 40)
  have hp1 : Blk ((w.alloc (.cells #[.int .i32 a0, .int .i32 a1, .int .i32 a2] 40)).alloc (.cells #[.int .i32 b0, .int .i32 b1, .int .i32 b2] 40)) (w.heap.size + 1) 40 #[.int .i32 b0, .int .i32 b1, .int .i32 b2] := by have := Blk.new (w.alloc (.cells #[.int .i32 a0, .int .i32 a1, .int .i32 a2] 40)) 40 #[.int .i32 b0, .int .i32 b1, .int .i32 b2]; simpa using this
  replace hb := hb.alloc hb.size (.cells #[.int .i32 b0, .int .i32 b1, .int .i32 b2] 40)
  go_wp2_with fail
  generalize (w.alloc (.cells #[.int .i32 a0, .int .i32 a1, .int .i32 a2] 40)).alloc (.cells #[.int .i32 b0, .int .i32 b1, .int .i32 b2] 40) = W0 at *
  refine (H1.out _).mono ?_
  rintro e w1 ⟨rfl, b1⟩
  replace hp0 := hp0.below b1 hp0.lt
  replace hp1 := hp1.below b1 hp1.lt
  replace hb := hb.on b1
  clear b1
  have f0 : (w1).cell? ⟨w.heap.size, 0, none⟩ = some (.int .i32 a0) := hp0.cell 0
  have f1 : (w1).cell? ⟨w.heap.size, 1, none⟩ = some (.int .i32 a1) := hp0.cell 1
  have f2 : (w1).cell? ⟨w.heap.size, 2, none⟩ = some (.int .i32 a2) := hp0.cell 2
  have f3 : (w1).cell? ⟨w.heap.size + 1, 0, none⟩ = some (.int .i32 b0) := hp1.cell 0
  have f4 : (w1).cell? ⟨w.heap.size + 1, 1, none⟩ = some (.int .i32 b1) := hp1.cell 1
  have f5 : (w1).cell? ⟨w.heap.size + 1, 2, none⟩ = some (.int .i32 b2) := hp1.cell 2
  go_wp2_with fail
  clear f0 f1 f2 f3 f4 f5
  generalize w1 = W1 at *
  refine (H2.out _).mono ?_
  rintro e w2 ⟨rfl, b2⟩
  replace hp0 := hp0.below b2 hp0.lt
  replace hp1 := hp1.below b2 hp1.lt
  replace hb := hb.on b2
  clear b2
  have f0 : (w2).cell? ⟨w.heap.size, 0, none⟩ = some (.int .i32 a0) := hp0.cell 0
  have f1 : (w2).cell? ⟨w.heap.size, 1, none⟩ = some (.int .i32 a1) := hp0.cell 1
  have f2 : (w2).cell? ⟨w.heap.size, 2, none⟩ = some (.int .i32 a2) := hp0.cell 2
  have f3 : (w2).cell? ⟨w.heap.size + 1, 0, none⟩ = some (.int .i32 b0) := hp1.cell 0
  have f4 : (w2).cell? ⟨w.heap.size + 1, 1, none⟩ = some (.int .i32 b1) := hp1.cell 1
  have f5 : (w2).cell? ⟨w.heap.size + 1, 2, none⟩ = some (.int .i32 b2) := hp1.cell 2
  go_wp2_with fail
  clear f0 f1 f2 f3 f4 f5
  generalize w2 = W2 at *
  refine (H3.out _).mono ?_
  rintro e w3 ⟨rfl, b3⟩
  replace hp0 := hp0.below b3 hp0.lt
  replace hp1 := hp1.below b3 hp1.lt
  replace hb := hb.on b3
  clear b3
  have o3hp0 := hp0.lt
  have o3hp1 := hp1.lt
  replace hp0 := hp0.alloc (.cells #[.int .i32 x0, .int .i32 x1, .int .i32 x2] 40)
  replace hp1 := hp1.alloc (.cells #[.int .i32 x0, .int .i32 x1, .int .i32 x2] 40)
  have ob3 := hb.size
  have hn3 : Blk (w3.alloc (.cells #[.int .i32 x0, .int .i32 x1, .int .i32 x2] 40)) w3.heap.size 40 #[.int .i32 x0, .int .i32 x1, .int .i32 x2] := Blk.new w3 _ _
  replace hb := hb.alloc hb.size (.cells #[.int .i32 x0, .int .i32 x1, .int .i32 x2] 40)
  have f0 : (w3.alloc (.cells #[.int .i32 x0, .int .i32 x1, .int .i32 x2] 40)).cell? ⟨w.heap.size, 0, none⟩ = some (.int .i32 a0) := hp0.cell 0
  have f1 : (w3.alloc (.cells #[.int .i32 x0, .int .i32 x1, .int .i32 x2] 40)).cell? ⟨w.heap.size, 1, none⟩ = some (.int .i32 a1) := hp0.cell 1
  have f2 : (w3.alloc (.cells #[.int .i32 x0, .int .i32 x1, .int .i32 x2] 40)).cell? ⟨w.heap.size, 2, none⟩ = some (.int .i32 a2) := hp0.cell 2
  have f3 : (w3.alloc (.cells #[.int .i32 x0, .int .i32 x1, .int .i32 x2] 40)).cell? ⟨w.heap.size + 1, 0, none⟩ = some (.int .i32 b0) := hp1.cell 0
  have f4 : (w3.alloc (.cells #[.int .i32 x0, .int .i32 x1, .int .i32 x2] 40)).cell? ⟨w.heap.size + 1, 1, none⟩ = some (.int .i32 b1) := hp1.cell 1
  have f5 : (w3.alloc (.cells #[.int .i32 x0, .int .i32 x1, .int .i32 x2] 40)).cell? ⟨w.heap.size + 1, 2, none⟩ = some (.int .i32 b2) := hp1.cell 2
  have f6 : (w3.alloc (.cells #[.int .i32 x0, .int .i32 x1, .int .i32 x2] 40)).cell? ⟨w3.heap.size, 0, none⟩ = some (.int .i32 x0) := hn3.cell 0
  have f7 : (w3.alloc (.cells #[.int .i32 x0, .int .i32 x1, .int .i32 x2] 40)).cell? ⟨w3.heap.size, 1, none⟩ = some (.int .i32 x1) := hn3.cell 1
  have f8 : (w3.alloc (.cells #[.int .i32 x0, .int .i32 x1, .int .i32 x2] 40)).cell? ⟨w3.heap.size, 2, none⟩ = some (.int .i32 x2) := hn3.cell 2
  go_wp2_with fail
  clear f0 f1 f2 f3 f4 f5 f6 f7 f8
  generalize w3.alloc (.cells #[.int .i32 x0, .int .i32 x1, .int .i32 x2] 40) = W3 at *
  refine (H4.out _).mono ?_
  rintro e w4 ⟨rfl, b4⟩
  replace hp0 := hp0.below b4 hp0.lt
  replace hp1 := hp1.below b4 hp1.lt
  replace hn3 := hn3.below b4 hn3.lt
  replace hb := hb.on b4
  clear b4
  have o4hp0 := hp0.lt
  have o4hp1 := hp1.lt
  have o4hn3 := hn3.lt
  replace hp0 := hp0.alloc (.cells #[.int .i32 x0, .int .i32 x1, .int .i32 x2] 40)
  replace hp1 := hp1.alloc (.cells #[.int .i32 x0, .int .i32 x1, .int .i32 x2] 40)
  replace hn3 := hn3.alloc (.cells #[.int .i32 x0, .int .i32 x1, .int .i32 x2] 40)
  have ob4 := hb.size
  have hn4 : Blk (w4.alloc (.cells #[.int .i32 x0, .int .i32 x1, .int .i32 x2] 40)) w4.heap.size 40 #[.int .i32 x0, .int .i32 x1, .int .i32 x2] := Blk.new w4 _ _
  replace hb := hb.alloc hb.size (.cells #[.int .i32 x0, .int .i32 x1, .int .i32 x2] 40)
  have f0 : (w4.alloc (.cells #[.int .i32 x0, .int .i32 x1, .int .i32 x2] 40)).cell? ⟨w.heap.size, 0, none⟩ = some (.int .i32 a0) := hp0.cell 0
  have f1 : (w4.alloc (.cells #[.int .i32 x0, .int .i32 x1, .int .i32 x2] 40)).cell? ⟨w.heap.size, 1, none⟩ = some (.int .i32 a1) := hp0.cell 1
  have f2 : (w4.alloc (.cells #[.int .i32 x0, .int .i32 x1, .int .i32 x2] 40)).cell? ⟨w.heap.size, 2, none⟩ = some (.int .i32 a2) := hp0.cell 2
  have f3 : (w4.alloc (.cells #[.int .i32 x0, .int .i32 x1, .int .i32 x2] 40)).cell? ⟨w.heap.size + 1, 0, none⟩ = some (.int .i32 b0) := hp1.cell 0
  have f4 : (w4.alloc (.cells #[.int .i32 x0, .int .i32 x1, .int .i32 x2] 40)).cell? ⟨w.heap.size + 1, 1, none⟩ = some (.int .i32 b1) := hp1.cell 1
  have f5 : (w4.alloc (.cells #[.int .i32 x0, .int .i32 x1, .int .i32 x2] 40)).cell? ⟨w.heap.size + 1, 2, none⟩ = some (.int .i32 b2) := hp1.cell 2
  have f6 : (w4.alloc (.cells #[.int .i32 x0, .int .i32 x1, .int .i32 x2] 40)).cell? ⟨w3.heap.size, 0, none⟩ = some (.int .i32 x0) := hn3.cell 0
  have f7 : (w4.alloc (.cells #[.int .i32 x0, .int .i32 x1, .int .i32 x2] 40)).cell? ⟨w3.heap.size, 1, none⟩ = some (.int .i32 x1) := hn3.cell 1
  have f8 : (w4.alloc (.cells #[.int .i32 x0, .int .i32 x1, .int .i32 x2] 40)).cell? ⟨w3.heap.size, 2, none⟩ = some (.int .i32 x2) := hn3.cell 2
  have f9 : (w4.alloc (.cells #[.int .i32 x0, .int .i32 x1, .int .i32 x2] 40)).cell? ⟨w4.heap.size, 0, none⟩ = some (.int .i32 x0) := hn4.cell 0
  have f10 : (w4.alloc (.cells #[.int .i32 x0, .int .i32 x1, .int .i32 x2] 40)).cell? ⟨w4.heap.size, 1, none⟩ = some (.int .i32 x1) := hn4.cell 1
  have f11 : (w4.alloc (.cells #[.int .i32 x0, .int .i32 x1, .int .i32 x2] 40)).cell? ⟨w4.heap.size, 2, none⟩ = some (.int .i32 x2) := hn4.cell 2
  go_wp2_with fail
  clear f0 f1 f2 f3 f4 f5 f6 f7 f8 f9 f10 f11
  generalize w4.alloc (.cells #[.int .i32 x0, .int .i32 x1, .int .i32 x2] 40) = W4 at *
  refine (H5.out _).mono ?_
  rintro e w5 ⟨rfl, b5⟩
  replace hp0 := hp0.below b5 hp0.lt
  replace hp1 := hp1.below b5 hp1.lt
  replace hn3 := hn3.below b5 hn3.lt
  replace hn4 := hn4.below b5 hn4.lt
  replace hb := hb.on b5
  clear b5
  have o5hp0 := hp0.lt
  have o5hp1 := hp1.lt
  have o5hn3 := hn3.lt
  have o5hn4 := hn4.lt
  replace hp0 := hp0.alloc (.cells #[.int .i32 y0, .int .i32 y1, .int .i32 y2] 40)
  replace hp1 := hp1.alloc (.cells #[.int .i32 y0, .int .i32 y1, .int .i32 y2] 40)
  replace hn3 := hn3.alloc (.cells #[.int .i32 y0, .int .i32 y1, .int .i32 y2] 40)
  replace hn4 := hn4.alloc (.cells #[.int .i32 y0, .int .i32 y1, .int .i32 y2] 40)
  have ob5 := hb.size
  have hn5 : Blk (w5.alloc (.cells #[.int .i32 y0, .int .i32 y1, .int .i32 y2] 40)) w5.heap.size 40 #[.int .i32 y0, .int .i32 y1, .int .i32 y2] := Blk.new w5 _ _
  replace hb := hb.alloc hb.size (.cells #[.int .i32 y0, .int .i32 y1, .int .i32 y2] 40)
  have f0 : (w5.alloc (.cells #[.int .i32 y0, .int .i32 y1, .int .i32 y2] 40)).cell? ⟨w.heap.size, 0, none⟩ = some (.int .i32 a0) := hp0.cell 0
  have f1 : (w5.alloc (.cells #[.int .i32 y0, .int .i32 y1, .int .i32 y2] 40)).cell? ⟨w.heap.size, 1, none⟩ = some (.int .i32 a1) := hp0.cell 1
  have f2 : (w5.alloc (.cells #[.int .i32 y0, .int .i32 y1, .int .i32 y2] 40)).cell? ⟨w.heap.size, 2, none⟩ = some (.int .i32 a2) := hp0.cell 2
  have f3 : (w5.alloc (.cells #[.int .i32 y0, .int .i32 y1, .int .i32 y2] 40)).cell? ⟨w.heap.size + 1, 0, none⟩ = some (.int .i32 b0) := hp1.cell 0
  have f4 : (w5.alloc (.cells #[.int .i32 y0, .int .i32 y1, .int .i32 y2] 40)).cell? ⟨w.heap.size + 1, 1, none⟩ = some (.int .i32 b1) := hp1.cell 1
  have f5 : (w5.alloc (.cells #[.int .i32 y0, .int .i32 y1, .int .i32 y2] 40)).cell? ⟨w.heap.size + 1, 2, none⟩ = some (.int .i32 b2) := hp1.cell 2
  have f6 : (w5.alloc (.cells #[.int .i32 y0, .int .i32 y1, .int .i32 y2] 40)).cell? ⟨w3.heap.size, 0, none⟩ = some (.int .i32 x0) := hn3.cell 0
  have f7 : (w5.alloc (.cells #[.int .i32 y0, .int .i32 y1, .int .i32 y2] 40)).cell? ⟨w3.heap.size, 1, none⟩ = some (.int .i32 x1) := hn3.cell 1
  have f8 : (w5.alloc (.cells #[.int .i32 y0, .int .i32 y1, .int .i32 y2] 40)).cell? ⟨w3.heap.size, 2, none⟩ = some (.int .i32 x2) := hn3.cell 2
  have f9 : (w5.alloc (.cells #[.int .i32 y0, .int .i32 y1, .int .i32 y2] 40)).cell? ⟨w4.heap.size, 0, none⟩ = some (.int .i32 x0) := hn4.cell 0
  have f10 : (w5.alloc (.cells #[.int .i32 y0, .int .i32 y1, .int .i32 y2] 40)).cell? ⟨w4.heap.size, 1, none⟩ = some (.int .i32 x1) := hn4.cell 1
  have f11 : (w5.alloc (.cells #[.int .i32 y0, .int .i32 y1, .int .i32 y2] 40)).cell? ⟨w4.heap.size, 2, none⟩ = some (.int .i32 x2) := hn4.cell 2
  have f12 : (w5.alloc (.cells #[.int .i32 y0, .int .i32 y1, .int .i32 y2] 40)).cell? ⟨w5.heap.size, 0, none⟩ = some (.int .i32 y0) := hn5.cell 0
  have f13 : (w5.alloc (.cells #[.int .i32 y0, .int .i32 y1, .int .i32 y2] 40)).cell? ⟨w5.heap.size, 1, none⟩ = some (.int .i32 y1) := hn5.cell 1
  have f14 : (w5.alloc (.cells #[.int .i32 y0, .int .i32 y1, .int .i32 y2] 40)).cell? ⟨w5.heap.size, 2, none⟩ = some (.int .i32 y2) := hn5.cell 2
  go_wp2_with fail
  clear f0 f1 f2 f3 f4 f5 f6 f7 f8 f9 f10 f11 f12 f13 f14
  generalize w5.alloc (.cells #[.int .i32 y0, .int .i32 y1, .int .i32 y2] 40) = W5 at *
  refine (H6.out _).mono ?_
  rintro e w6 ⟨rfl, b6⟩
  replace hp0 := hp0.below b6 hp0.lt
  replace hp1 := hp1.below b6 hp1.lt
  replace hn3 := hn3.below b6 hn3.lt
  replace hn4 := hn4.below b6 hn4.lt
  replace hn5 := hn5.below b6 hn5.lt
  replace hb := hb.on b6
  clear b6
  have o6hp0 := hp0.lt
  have o6hp1 := hp1.lt
  have o6hn3 := hn3.lt
  have o6hn4 := hn4.lt
  have o6hn5 := hn5.lt
  replace hp0 := hp0.alloc (.cells #[.int .i32 y0, .int .i32 y1, .int .i32 y2] 40)
  replace hp1 := hp1.alloc (.cells #[.int .i32 y0, .int .i32 y1, .int .i32 y2] 40)
  replace hn3 := hn3.alloc (.cells #[.int .i32 y0, .int .i32 y1, .int .i32 y2] 40)
  replace hn4 := hn4.alloc (.cells #[.int .i32 y0, .int .i32 y1, .int .i32 y2] 40)
  replace hn5 := hn5.alloc (.cells #[.int .i32 y0, .int .i32 y1, .int .i32 y2] 40)
  have ob6 := hb.size
  have hn6 : Blk (w6.alloc (.cells #[.int .i32 y0, .int .i32 y1, .int .i32 y2] 40)) w6.heap.size 40 #[.int .i32 y0, .int .i32 y1, .int .i32 y2] := Blk.new w6 _ _
  replace hb := hb.alloc hb.size (.cells #[.int .i32 y0, .int .i32 y1, .int .i32 y2] 40)
  have f0 : (w6.alloc (.cells #[.int .i32 y0, .int .i32 y1, .int .i32 y2] 40)).cell? ⟨w.heap.size, 0, none⟩ = some (.int .i32 a0) := hp0.cell 0
  have f1 : (w6.alloc (.cells #[.int .i32 y0, .int .i32 y1, .int .i32 y2] 40)).cell? ⟨w.heap.size, 1, none⟩ = some (.int .i32 a1) := hp0.cell 1
  have f2 : (w6.alloc (.cells #[.int .i32 y0, .int .i32 y1, .int .i32 y2] 40)).cell? ⟨w.heap.size, 2, none⟩ = some (.int .i32 a2) := hp0.cell 2
  have f3 : (w6.alloc (.cells #[.int .i32 y0, .int .i32 y1, .int .i32 y2] 40)).cell? ⟨w.heap.size + 1, 0, none⟩ = some (.int .i32 b0) := hp1.cell 0
  have f4 : (w6.alloc (.cells #[.int .i32 y0, .int .i32 y1, .int .i32 y2] 40)).cell? ⟨w.heap.size + 1, 1, none⟩ = some (.int .i32 b1) := hp1.cell 1
  have f5 : (w6.alloc (.cells #[.int .i32 y0, .int .i32 y1, .int .i32 y2] 40)).cell? ⟨w.heap.size + 1, 2, none⟩ = some (.int .i32 b2) := hp1.cell 2
  have f6 : (w6.alloc (.cells #[.int .i32 y0, .int .i32 y1, .int .i32 y2] 40)).cell? ⟨w3.heap.size, 0, none⟩ = some (.int .i32 x0) := hn3.cell 0
  have f7 : (w6.alloc (.cells #[.int .i32 y0, .int .i32 y1, .int .i32 y2] 40)).cell? ⟨w3.heap.size, 1, none⟩ = some (.int .i32 x1) := hn3.cell 1
  have f8 : (w6.alloc (.cells #[.int .i32 y0, .int .i32 y1, .int .i32 y2] 40)).cell? ⟨w3.heap.size, 2, none⟩ = some (.int .i32 x2) := hn3.cell 2
  have f9 : (w6.alloc (.cells #[.int .i32 y0, .int .i32 y1, .int .i32 y2] 40)).cell? ⟨w4.heap.size, 0, none⟩ = some (.int .i32 x0) := hn4.cell 0
  have f10 : (w6.alloc (.cells #[.int .i32 y0, .int .i32 y1, .int .i32 y2] 40)).cell? ⟨w4.heap.size, 1, none⟩ = some (.int .i32 x1) := hn4.cell 1
  have f11 : (w6.alloc (.cells #[.int .i32 y0, .int .i32 y1, .int .i32 y2] 40)).cell? ⟨w4.heap.size, 2, none⟩ = some (.int .i32 x2) := hn4.cell 2
  have f12 : (w6.alloc (.cells #[.int .i32 y0, .int .i32 y1, .int .i32 y2] 40)).cell? ⟨w5.heap.size, 0, none⟩ = some (.int .i32 y0) := hn5.cell 0
  have f13 : (w6.alloc (.cells #[.int .i32 y0, .int .i32 y1, .int .i32 y2] 40)).cell? ⟨w5.heap.size, 1, none⟩ = some (.int .i32 y1) := hn5.cell 1
  have f14 : (w6.alloc (.cells #[.int .i32 y0, .int .i32 y1, .int .i32 y2] 40)).cell? ⟨w5.heap.size, 2, none⟩ = some (.int .i32 y2) := hn5.cell 2
  have f15 : (w6.alloc (.cells #[.int .i32 y0, .int .i32 y1, .int .i32 y2] 40)).cell? ⟨w6.heap.size, 0, none⟩ = some (.int .i32 y0) := hn6.cell 0
  have f16 : (w6.alloc (.cells #[.int .i32 y0, .int .i32 y1, .int .i32 y2] 40)).cell? ⟨w6.heap.size, 1, none⟩ = some (.int .i32 y1) := hn6.cell 1
  have f17 : (w6.alloc (.cells #[.int .i32 y0, .int .i32 y1, .int .i32 y2] 40)).cell? ⟨w6.heap.size, 2, none⟩ = some (.int .i32 y2) := hn6.cell 2
  go_upto_region 7 with fail
  clear f0 f1 f2 f3 f4 f5 f6 f7 f8 f9 f10 f11 f12 f13 f14 f15 f16 f17
  generalize w6.alloc (.cells #[.int .i32 y0, .int .i32 y1, .int .i32 y2] 40) = W6 at *
  refine wp_region_noPanic ?_
  refine wp_region_held_drew (S := (fun w' : World => w'.cell? ⟨w.heap.size, 0, none⟩ = some (.int .i32 a0) ∧ w'.cell? ⟨w.heap.size, 1, none⟩ = some (.int .i32 a1) ∧ w'.cell? ⟨w.heap.size, 2, none⟩ = some (.int .i32 a2) ∧ w'.cell? ⟨w.heap.size + 1, 0, none⟩ = some (.int .i32 b0) ∧ w'.cell? ⟨w.heap.size + 1, 1, none⟩ = some (.int .i32 b1) ∧ w'.cell? ⟨w.heap.size + 1, 2, none⟩ = some (.int .i32 b2) ∧ w'.cell? ⟨w3.heap.size, 0, none⟩ = some (.int .i32 x0) ∧ w'.cell? ⟨w3.heap.size, 1, none⟩ = some (.int .i32 x1) ∧ w'.cell? ⟨w3.heap.size, 2, none⟩ = some (.int .i32 x2) ∧ w'.cell? ⟨w4.heap.size, 0, none⟩ = some (.int .i32 x0) ∧ w'.cell? ⟨w4.heap.size, 1, none⟩ = some (.int .i32 x1) ∧ w'.cell? ⟨w4.heap.size, 2, none⟩ = some (.int .i32 x2) ∧ w'.cell? ⟨w5.heap.size, 0, none⟩ = some (.int .i32 y0) ∧ w'.cell? ⟨w5.heap.size, 1, none⟩ = some (.int .i32 y1) ∧ w'.cell? ⟨w5.heap.size, 2, none⟩ = some (.int .i32 y2) ∧ w'.cell? ⟨w6.heap.size, 0, none⟩ = some (.int .i32 y0) ∧ w'.cell? ⟨w6.heap.size, 1, none⟩ = some (.int .i32 y1) ∧ w'.cell? ⟨w6.heap.size, 2, none⟩ = some (.int .i32 y2))) (by kernel_rfl) ⟨hp0.cell 0, hp0.cell 1, hp0.cell 2, hp1.cell 0, hp1.cell 1, hp1.cell 2, hn3.cell 0, hn3.cell 1, hn3.cell 2, hn4.cell 0, hn4.cell 1, hn4.cell 2, hn5.cell 0, hn5.cell 1, hn5.cell 2, hn6.cell 0, hn6.cell 1, hn6.cell 2⟩ (fun hHeld => ?_)
  refine (show wpAnyH _ _ _ _ _ 39 _ _ _ from ?_)
  try (simp only [Act.put, List.setIfInBounds_toArray, List.set_cons_zero, List.set_cons_succ])
  replace hp0 := hp0.drew
  replace hp1 := hp1.drew
  replace hn3 := hn3.drew
  replace hn4 := hn4.drew
  replace hn5 := hn5.drew
  replace hn6 := hn6.drew
  replace hb := hb.drew
  generalize W6.drew = W1 at *
  refine tk 0 hHeld ?_
  refine tk 1 hHeld ?_
  refine tk 2 hHeld ?_
  refine tk 3 hHeld ?_
  refine tk 4 hHeld ?_
  refine tk 5 hHeld ?_
  refine tk 6 hHeld ?_
  refine tk 7 hHeld ?_
  refine tk 8 hHeld ?_
  refine tk 9 hHeld ?_
  refine tk 10 hHeld ?_
  refine tk 11 hHeld ?_
  refine tk 12 hHeld ?_
  refine tk 13 hHeld ?_
  refine tk 14 hHeld ?_
  refine tk 15 hHeld ?_
  refine tk 16 hHeld ?_
  refine tk 17 hHeld ?_
  refine tk 18 hHeld ?_
  refine tk 19 hHeld ?_
  refine tk 21 hHeld ?_
  refine rd1 20 (fun K hK => ?_)
  go_simp
  refine (H7.out _).mono ?_
  rintro e w2x ⟨rfl, b2x⟩
  go_wp2_with fail
  refine hK.out _ _ ⟨(hp0.below b2x hp0.lt).cell 0, (hp0.below b2x hp0.lt).cell 1, (hp0.below b2x hp0.lt).cell 2, (hp1.below b2x hp1.lt).cell 0, (hp1.below b2x hp1.lt).cell 1, (hp1.below b2x hp1.lt).cell 2, (hn3.below b2x hn3.lt).cell 0, (hn3.below b2x hn3.lt).cell 1, (hn3.below b2x hn3.lt).cell 2, (hn4.below b2x hn4.lt).cell 0, (hn4.below b2x hn4.lt).cell 1, (hn4.below b2x hn4.lt).cell 2, (hn5.below b2x hn5.lt).cell 0, (hn5.below b2x hn5.lt).cell 1, (hn5.below b2x hn5.lt).cell 2, (hn6.below b2x hn6.lt).cell 0, (hn6.below b2x hn6.lt).cell 1, (hn6.below b2x hn6.lt).cell 2⟩ (fun hHeld => ?_)
  clear hK K
  try (simp only [Act.put, List.setIfInBounds_toArray, List.set_cons_zero, List.set_cons_succ])
  refine rd1 22 (fun K hK => ?_)
  go_simp
  refine (H8.out _).mono ?_
  rintro e w3x ⟨rfl, b3x⟩
  go_wp2_with fail
  have B3x := b2x.on b3x
  refine hK.out _ _ ⟨(hp0.below B3x hp0.lt).cell 0, (hp0.below B3x hp0.lt).cell 1, (hp0.below B3x hp0.lt).cell 2, (hp1.below B3x hp1.lt).cell 0, (hp1.below B3x hp1.lt).cell 1, (hp1.below B3x hp1.lt).cell 2, (hn3.below B3x hn3.lt).cell 0, (hn3.below B3x hn3.lt).cell 1, (hn3.below B3x hn3.lt).cell 2, (hn4.below B3x hn4.lt).cell 0, (hn4.below B3x hn4.lt).cell 1, (hn4.below B3x hn4.lt).cell 2, (hn5.below B3x hn5.lt).cell 0, (hn5.below B3x hn5.lt).cell 1, (hn5.below B3x hn5.lt).cell 2, (hn6.below B3x hn6.lt).cell 0, (hn6.below B3x hn6.lt).cell 1, (hn6.below B3x hn6.lt).cell 2⟩ (fun hHeld => ?_)
  clear hK K
  try (simp only [Act.put, List.setIfInBounds_toArray, List.set_cons_zero, List.set_cons_succ])
  refine tk 23 hHeld ?_
  refine tk 24 hHeld ?_
  refine tk 25 hHeld ?_
  refine tk 26 hHeld ?_
  refine tk 27 hHeld ?_
  refine tk 28 hHeld ?_
  refine tk 29 hHeld ?_
  refine tk 30 hHeld ?_
  refine tk 31 hHeld ?_
  refine tk 32 hHeld ?_
  refine tk 33 hHeld ?_
  refine tk 34 hHeld ?_
  refine tk 35 hHeld ?_
  refine rd1 36 (fun K hK => ?_)
  go_simp
  refine (HK.out _).mono ?_
  rintro e w4x ⟨rfl, b4x⟩
  go_wp2_with fail
  have B4x := B3x.on b4x
  refine hK.out _ _ ⟨(hp0.below B4x hp0.lt).cell 0, (hp0.below B4x hp0.lt).cell 1, (hp0.below B4x hp0.lt).cell 2, (hp1.below B4x hp1.lt).cell 0, (hp1.below B4x hp1.lt).cell 1, (hp1.below B4x hp1.lt).cell 2, (hn3.below B4x hn3.lt).cell 0, (hn3.below B4x hn3.lt).cell 1, (hn3.below B4x hn3.lt).cell 2, (hn4.below B4x hn4.lt).cell 0, (hn4.below B4x hn4.lt).cell 1, (hn4.below B4x hn4.lt).cell 2, (hn5.below B4x hn5.lt).cell 0, (hn5.below B4x hn5.lt).cell 1, (hn5.below B4x hn5.lt).cell 2, (hn6.below B4x hn6.lt).cell 0, (hn6.below B4x hn6.lt).cell 1, (hn6.below B4x hn6.lt).cell 2⟩ (fun hHeld => ?_)
  clear hK K
  try (simp only [Act.put, List.setIfInBounds_toArray, List.set_cons_zero, List.set_cons_succ])
  refine tk 37 hHeld ?_
  refine tk 38 hHeld ?_
  refine wpAnyH_done ?hru5 ?hqu5 _
  case hru5 => kernel_rfl
  refine NoPanic.normal ?_
  go_wp2
  go_ret
  exact ⟨rfl, hb.on B4x⟩

theorem tv_comm (a b : Int) : tvP a b = tvP b a := by unfold tvP; rw [Int.mul_comm]
theorem turned_facts (a0 a1 a2 b0 b1 b2 : Int) : dotV b0 b1 b2 a0 a1 a2 = dotV a0 a1 a2 b0 b1 b2 ∧ tvP b1 a2 - tvP b2 a1 = -(tvP a1 b2 - tvP a2 b1) ∧ tvP b2 a0 - tvP b0 a2 = -(tvP a2 b0 - tvP a0 b2) ∧ tvP b0 a1 - tvP b1 a0 = -(tvP a0 b1 - tvP a1 b0) := by
  unfold dotV
  simp only [tv_comm b0, tv_comm b1, tv_comm b2]
  refine ⟨by trivial, ?_, ?_, ?_⟩ <;> omega
/-- A number and the same taken from 0, where neither is cut. -/
theorem cut_pair (x : Int) (h : cutC x + cutC (-x) = 0) : clampP x = x ∧ clampP (-x) = -x ∧ I32 x ∧ I32 (-x) := by
  have h1 := cutC_nn x
  have h2 := cutC_nn (-x)
  obtain ⟨p, q⟩ := cutC_in x (by omega)
  obtain ⟨r, s⟩ := cutC_in (-x) (by omega)
  exact ⟨q, s, p, r⟩
set_option maxHeartbeats 40000000 in
theorem vecTurned_walk (a0 a1 a2 b0 b1 b2 : Int) (w : World) (va0 : (Lit.int .i32 a0).wf = true) (va1 : (Lit.int .i32 a1).wf = true) (va2 : (Lit.int .i32 a2).wf = true) (vb0 : (Lit.int .i32 b0).wf = true) (vb1 : (Lit.int .i32 b1).wf = true) (vb2 : (Lit.int .i32 b2).wf = true) :
    Calls Try.prog 13 #[.agg #[.int .i32 a0, .int .i32 a1, .int .i32 a2], .agg #[.int .i32 b0, .int .i32 b1, .int .i32 b2]] w fun e w' => e = .returned (.bool true) ∧ Below w.heap.size w w' := by
  have ia0 : I32 a0 := bounds_i32 va0
  have ia1 : I32 a1 := bounds_i32 va1
  have ia2 : I32 a2 := bounds_i32 va2
  have ib0 : I32 b0 := bounds_i32 vb0
  have ib1 : I32 b1 := bounds_i32 vb1
  have ib2 : I32 b2 := bounds_i32 vb2
  clear va0 va1 va2 vb0 vb1 vb2
  have h1 := fun w => v_Dot a0 a1 a2 b0 b1 b2 w ia0 ia1 ia2 ib0 ib1 ib2
  have h2 := fun w => v_Dot b0 b1 b2 a0 a1 a2 w ib0 ib1 ib2 ia0 ia1 ia2
  have h3 := fun w => v_Cross a0 a1 a2 b0 b1 b2 w ia0 ia1 ia2 ib0 ib1 ib2
  have h4 := fun w => v_Cross b0 b1 b2 a0 a1 a2 w ib0 ib1 ib2 ia0 ia1 ia2
  have h5 := fun w => v_Add a0 a1 a2 b0 b1 b2 w ia0 ia1 ia2 ib0 ib1 ib2
  have h6 := fun w => v_Sub (clampP (a0 + b0)) (clampP (a1 + b1)) (clampP (a2 + b2)) b0 b1 b2 w (clampP_32 _) (clampP_32 _) (clampP_32 _) ib0 ib1 ib2
  have HK := hid fun w => law09_knows w
  obtain ⟨e0, e1, e2, e3⟩ := turned_facts a0 a1 a2 b0 b1 b2
  rw [e0] at h2
  rw [e1, e2, e3] at h4
  clear e0 e1 e2 e3
  generalize (clampP (dotV a0 a1 a2 b0 b1 b2) != dotV a0 a1 a2 b0 b1 b2) = B at *
  generalize clampP (dotV a0 a1 a2 b0 b1 b2) = p at *
  generalize tvP a1 b2 - tvP a2 b1 = c0 at *
  generalize tvP a2 b0 - tvP a0 b2 = c1 at *
  generalize tvP a0 b1 - tvP a1 b0 = c2 at *
  have m1 : 0 ≤ cutC c0 + cutC c1 + cutC c2 ∧ cutC c0 + cutC c1 + cutC c2 ≤ 3 := by have := cutC_bd c0; have := cutC_bd c1; have := cutC_bd c2; omega
  have m2 : 0 ≤ cutC (-c0) + cutC (-c1) + cutC (-c2) ∧ cutC (-c0) + cutC (-c1) + cutC (-c2) ≤ 3 := by have := cutC_bd (-c0); have := cutC_bd (-c1); have := cutC_bd (-c2); omega
  have m3 : 0 ≤ cutC (a0 + b0) + cutC (a1 + b1) + cutC (a2 + b2) := by have := cutC_nn (a0 + b0); have := cutC_nn (a1 + b1); have := cutC_nn (a2 + b2); omega
  have K1 : cutC c0 + cutC c1 + cutC c2 + (cutC (-c0) + cutC (-c1) + cutC (-c2)) = 0 → (clampP c0 = c0 ∧ clampP (-c0) = -c0 ∧ I32 c0 ∧ I32 (-c0)) ∧ (clampP c1 = c1 ∧ clampP (-c1) = -c1 ∧ I32 c1 ∧ I32 (-c1)) ∧ (clampP c2 = c2 ∧ clampP (-c2) = -c2 ∧ I32 c2 ∧ I32 (-c2)) := by
    intro h
    have := cutC_nn c0
    have := cutC_nn c1
    have := cutC_nn c2
    have := cutC_nn (-c0)
    have := cutC_nn (-c1)
    have := cutC_nn (-c2)
    exact ⟨cut_pair c0 (by omega), cut_pair c1 (by omega), cut_pair c2 (by omega)⟩
  have K2 : cutC (a0 + b0) + cutC (a1 + b1) + cutC (a2 + b2) = 0 → a0 = clampP (clampP (a0 + b0) - b0) ∧ a1 = clampP (clampP (a1 + b1) - b1) ∧ a2 = clampP (clampP (a2 + b2) - b2) ∧ cutC (clampP (a0 + b0) - b0) + cutC (clampP (a1 + b1) - b1) + cutC (clampP (a2 + b2) - b2) = 0 := by
    intro h
    have n0 := cutC_nn (a0 + b0)
    have n1 := cutC_nn (a1 + b1)
    have n2 := cutC_nn (a2 + b2)
    have r0 := (cutC_in (a0 + b0) (by omega)).2
    have r1 := (cutC_in (a1 + b1) (by omega)).2
    have r2 := (cutC_in (a2 + b2) (by omega)).2
    rw [r0, r1, r2, Int.add_sub_cancel, Int.add_sub_cancel, Int.add_sub_cancel, clampP_in _ ia0, clampP_in _ ia1, clampP_in _ ia2, cutC_zero _ ia0, cutC_zero _ ia1, cutC_zero _ ia2]
    exact ⟨rfl, rfl, rfl, rfl⟩
  clear ia0 ia1 ia2 ib0 ib1 ib2
  generalize cutC (clampP (a0 + b0) - b0) + cutC (clampP (a1 + b1) - b1) + cutC (clampP (a2 + b2) - b2) = n4 at *
  generalize clampP (clampP (a0 + b0) - b0) = t0 at *
  generalize clampP (clampP (a1 + b1) - b1) = t1 at *
  generalize clampP (clampP (a2 + b2) - b2) = t2 at *
  generalize cutC (a0 + b0) + cutC (a1 + b1) + cutC (a2 + b2) = n3 at *
  generalize clampP (a0 + b0) = s0 at *
  generalize clampP (a1 + b1) = s1 at *
  generalize clampP (a2 + b2) = s2 at *
  generalize cutC c0 + cutC c1 + cutC c2 = n1 at *
  generalize cutC (-c0) + cutC (-c1) + cutC (-c2) = n2 at *
  have um : IntKind.i64.wrap (n1 + n2) = n1 + n2 := IntWalk.i64_in _ (by omega)
  by_cases g1 : n1 + n2 = 0
  · by_cases g2 : n3 = 0
    · obtain ⟨⟨p0, q0, i0, j0⟩, ⟨p1, q1, i1, j1⟩, ⟨p2, q2, i2, j2⟩⟩ := K1 g1
      rw [p0, p1, p2] at h3
      rw [q0, q1, q2] at h4
      have E1 : (n1 + n2 == 0) = true := by simpa using g1
      have w0 : IntKind.i32.wrap (- -c0) = c0 := by rw [Int.neg_neg]; exact IntWalk.i32_in _ (by unfold I32 at i0; omega)
      have v0 : IntKind.i32.wrap (c0) = c0 := IntWalk.i32_in _ (by unfold I32 at i0; omega)
      have w1 : IntKind.i32.wrap (- -c1) = c1 := by rw [Int.neg_neg]; exact IntWalk.i32_in _ (by unfold I32 at i1; omega)
      have v1 : IntKind.i32.wrap (c1) = c1 := IntWalk.i32_in _ (by unfold I32 at i1; omega)
      have w2 : IntKind.i32.wrap (- -c2) = c2 := by rw [Int.neg_neg]; exact IntWalk.i32_in _ (by unfold I32 at i2; omega)
      have v2 : IntKind.i32.wrap (c2) = c2 := IntWalk.i32_in _ (by unfold I32 at i2; omega)
      clear p0 p1 p2 q0 q1 q2 i0 i1 i2 j0 j1 j2
      obtain ⟨rfl, rfl, rfl, rfl⟩ := K2 g2
      have dd : decide (0 < n3) = false := by simp; omega
      clear K1 K2 g1 g2 m1 m2 m3
      have H1 := hid h1
      have H2 := hid h2
      have H3 := hid h3
      have H4 := hid h4
      have H5 := hid h5
      have H6 := hid h6
      clear h1 h2 h3 h4 h5 h6
      go_enter Try.func13, Try.ntmps13
      have hp0 : Blk (w.alloc (.cells #[.int .i32 a0, .int .i32 a1, .int .i32 a2] 40)) w.heap.size 40 #[.int .i32 a0, .int .i32 a1, .int .i32 a2] := Blk.new w _ _
      have hb : Below w.heap.size w (w.alloc (.cells #[.int .i32 a0, .int .i32 a1, .int .i32 a2] 40)) := (Below.refl _ w).alloc (Nat.le_refl _) _
      replace hp0 := hp0.alloc (.cells #[.int .i32 b0, .int .i32 b1, .int .i32 b2] 40)
      have hp1 : Blk ((w.alloc (.cells #[.int .i32 a0, .int .i32 a1, .int .i32 a2] 40)).alloc (.cells #[.int .i32 b0, .int .i32 b1, .int .i32 b2] 40)) (w.heap.size + 1) 40 #[.int .i32 b0, .int .i32 b1, .int .i32 b2] := by have := Blk.new (w.alloc (.cells #[.int .i32 a0, .int .i32 a1, .int .i32 a2] 40)) 40 #[.int .i32 b0, .int .i32 b1, .int .i32 b2]; simpa using this
      replace hb := hb.alloc hb.size (.cells #[.int .i32 b0, .int .i32 b1, .int .i32 b2] 40)
      go_wp2_with fail
      generalize (w.alloc (.cells #[.int .i32 a0, .int .i32 a1, .int .i32 a2] 40)).alloc (.cells #[.int .i32 b0, .int .i32 b1, .int .i32 b2] 40) = W0 at *
      refine (H1.out _).mono ?_
      rintro e w1 ⟨rfl, b1⟩
      replace hp0 := hp0.below b1 hp0.lt
      replace hp1 := hp1.below b1 hp1.lt
      replace hb := hb.on b1
      clear b1
      have f0 : (w1).cell? ⟨w.heap.size, 0, none⟩ = some (.int .i32 a0) := hp0.cell 0
      have f1 : (w1).cell? ⟨w.heap.size, 1, none⟩ = some (.int .i32 a1) := hp0.cell 1
      have f2 : (w1).cell? ⟨w.heap.size, 2, none⟩ = some (.int .i32 a2) := hp0.cell 2
      have f3 : (w1).cell? ⟨w.heap.size + 1, 0, none⟩ = some (.int .i32 b0) := hp1.cell 0
      have f4 : (w1).cell? ⟨w.heap.size + 1, 1, none⟩ = some (.int .i32 b1) := hp1.cell 1
      have f5 : (w1).cell? ⟨w.heap.size + 1, 2, none⟩ = some (.int .i32 b2) := hp1.cell 2
      go_wp2_with fail
      clear f0 f1 f2 f3 f4 f5
      generalize w1 = W1 at *
      refine (H2.out _).mono ?_
      rintro e w2 ⟨rfl, b2⟩
      replace hp0 := hp0.below b2 hp0.lt
      replace hp1 := hp1.below b2 hp1.lt
      replace hb := hb.on b2
      clear b2
      have f0 : (w2).cell? ⟨w.heap.size, 0, none⟩ = some (.int .i32 a0) := hp0.cell 0
      have f1 : (w2).cell? ⟨w.heap.size, 1, none⟩ = some (.int .i32 a1) := hp0.cell 1
      have f2 : (w2).cell? ⟨w.heap.size, 2, none⟩ = some (.int .i32 a2) := hp0.cell 2
      have f3 : (w2).cell? ⟨w.heap.size + 1, 0, none⟩ = some (.int .i32 b0) := hp1.cell 0
      have f4 : (w2).cell? ⟨w.heap.size + 1, 1, none⟩ = some (.int .i32 b1) := hp1.cell 1
      have f5 : (w2).cell? ⟨w.heap.size + 1, 2, none⟩ = some (.int .i32 b2) := hp1.cell 2
      go_wp2_with fail
      clear f0 f1 f2 f3 f4 f5
      generalize w2 = W2 at *
      refine (H3.out _).mono ?_
      rintro e w3 ⟨rfl, b3⟩
      replace hp0 := hp0.below b3 hp0.lt
      replace hp1 := hp1.below b3 hp1.lt
      replace hb := hb.on b3
      clear b3
      have o3hp0 := hp0.lt
      have o3hp1 := hp1.lt
      replace hp0 := hp0.alloc (.cells #[.int .i32 c0, .int .i32 c1, .int .i32 c2] 40)
      replace hp1 := hp1.alloc (.cells #[.int .i32 c0, .int .i32 c1, .int .i32 c2] 40)
      have ob3 := hb.size
      have hn3 : Blk (w3.alloc (.cells #[.int .i32 c0, .int .i32 c1, .int .i32 c2] 40)) w3.heap.size 40 #[.int .i32 c0, .int .i32 c1, .int .i32 c2] := Blk.new w3 _ _
      replace hb := hb.alloc hb.size (.cells #[.int .i32 c0, .int .i32 c1, .int .i32 c2] 40)
      have f0 : (w3.alloc (.cells #[.int .i32 c0, .int .i32 c1, .int .i32 c2] 40)).cell? ⟨w.heap.size, 0, none⟩ = some (.int .i32 a0) := hp0.cell 0
      have f1 : (w3.alloc (.cells #[.int .i32 c0, .int .i32 c1, .int .i32 c2] 40)).cell? ⟨w.heap.size, 1, none⟩ = some (.int .i32 a1) := hp0.cell 1
      have f2 : (w3.alloc (.cells #[.int .i32 c0, .int .i32 c1, .int .i32 c2] 40)).cell? ⟨w.heap.size, 2, none⟩ = some (.int .i32 a2) := hp0.cell 2
      have f3 : (w3.alloc (.cells #[.int .i32 c0, .int .i32 c1, .int .i32 c2] 40)).cell? ⟨w.heap.size + 1, 0, none⟩ = some (.int .i32 b0) := hp1.cell 0
      have f4 : (w3.alloc (.cells #[.int .i32 c0, .int .i32 c1, .int .i32 c2] 40)).cell? ⟨w.heap.size + 1, 1, none⟩ = some (.int .i32 b1) := hp1.cell 1
      have f5 : (w3.alloc (.cells #[.int .i32 c0, .int .i32 c1, .int .i32 c2] 40)).cell? ⟨w.heap.size + 1, 2, none⟩ = some (.int .i32 b2) := hp1.cell 2
      have f6 : (w3.alloc (.cells #[.int .i32 c0, .int .i32 c1, .int .i32 c2] 40)).cell? ⟨w3.heap.size, 0, none⟩ = some (.int .i32 c0) := hn3.cell 0
      have f7 : (w3.alloc (.cells #[.int .i32 c0, .int .i32 c1, .int .i32 c2] 40)).cell? ⟨w3.heap.size, 1, none⟩ = some (.int .i32 c1) := hn3.cell 1
      have f8 : (w3.alloc (.cells #[.int .i32 c0, .int .i32 c1, .int .i32 c2] 40)).cell? ⟨w3.heap.size, 2, none⟩ = some (.int .i32 c2) := hn3.cell 2
      go_wp2_with fail
      clear f0 f1 f2 f3 f4 f5 f6 f7 f8
      generalize w3.alloc (.cells #[.int .i32 c0, .int .i32 c1, .int .i32 c2] 40) = W3 at *
      refine (H4.out _).mono ?_
      rintro e w4 ⟨rfl, b4⟩
      replace hp0 := hp0.below b4 hp0.lt
      replace hp1 := hp1.below b4 hp1.lt
      replace hn3 := hn3.below b4 hn3.lt
      replace hb := hb.on b4
      clear b4
      have o4hp0 := hp0.lt
      have o4hp1 := hp1.lt
      have o4hn3 := hn3.lt
      replace hp0 := hp0.alloc (.cells #[.int .i32 (-c0), .int .i32 (-c1), .int .i32 (-c2)] 40)
      replace hp1 := hp1.alloc (.cells #[.int .i32 (-c0), .int .i32 (-c1), .int .i32 (-c2)] 40)
      replace hn3 := hn3.alloc (.cells #[.int .i32 (-c0), .int .i32 (-c1), .int .i32 (-c2)] 40)
      have ob4 := hb.size
      have hn4 : Blk (w4.alloc (.cells #[.int .i32 (-c0), .int .i32 (-c1), .int .i32 (-c2)] 40)) w4.heap.size 40 #[.int .i32 (-c0), .int .i32 (-c1), .int .i32 (-c2)] := Blk.new w4 _ _
      replace hb := hb.alloc hb.size (.cells #[.int .i32 (-c0), .int .i32 (-c1), .int .i32 (-c2)] 40)
      have f0 : (w4.alloc (.cells #[.int .i32 (-c0), .int .i32 (-c1), .int .i32 (-c2)] 40)).cell? ⟨w.heap.size, 0, none⟩ = some (.int .i32 a0) := hp0.cell 0
      have f1 : (w4.alloc (.cells #[.int .i32 (-c0), .int .i32 (-c1), .int .i32 (-c2)] 40)).cell? ⟨w.heap.size, 1, none⟩ = some (.int .i32 a1) := hp0.cell 1
      have f2 : (w4.alloc (.cells #[.int .i32 (-c0), .int .i32 (-c1), .int .i32 (-c2)] 40)).cell? ⟨w.heap.size, 2, none⟩ = some (.int .i32 a2) := hp0.cell 2
      have f3 : (w4.alloc (.cells #[.int .i32 (-c0), .int .i32 (-c1), .int .i32 (-c2)] 40)).cell? ⟨w.heap.size + 1, 0, none⟩ = some (.int .i32 b0) := hp1.cell 0
      have f4 : (w4.alloc (.cells #[.int .i32 (-c0), .int .i32 (-c1), .int .i32 (-c2)] 40)).cell? ⟨w.heap.size + 1, 1, none⟩ = some (.int .i32 b1) := hp1.cell 1
      have f5 : (w4.alloc (.cells #[.int .i32 (-c0), .int .i32 (-c1), .int .i32 (-c2)] 40)).cell? ⟨w.heap.size + 1, 2, none⟩ = some (.int .i32 b2) := hp1.cell 2
      have f6 : (w4.alloc (.cells #[.int .i32 (-c0), .int .i32 (-c1), .int .i32 (-c2)] 40)).cell? ⟨w3.heap.size, 0, none⟩ = some (.int .i32 c0) := hn3.cell 0
      have f7 : (w4.alloc (.cells #[.int .i32 (-c0), .int .i32 (-c1), .int .i32 (-c2)] 40)).cell? ⟨w3.heap.size, 1, none⟩ = some (.int .i32 c1) := hn3.cell 1
      have f8 : (w4.alloc (.cells #[.int .i32 (-c0), .int .i32 (-c1), .int .i32 (-c2)] 40)).cell? ⟨w3.heap.size, 2, none⟩ = some (.int .i32 c2) := hn3.cell 2
      have f9 : (w4.alloc (.cells #[.int .i32 (-c0), .int .i32 (-c1), .int .i32 (-c2)] 40)).cell? ⟨w4.heap.size, 0, none⟩ = some (.int .i32 (-c0)) := hn4.cell 0
      have f10 : (w4.alloc (.cells #[.int .i32 (-c0), .int .i32 (-c1), .int .i32 (-c2)] 40)).cell? ⟨w4.heap.size, 1, none⟩ = some (.int .i32 (-c1)) := hn4.cell 1
      have f11 : (w4.alloc (.cells #[.int .i32 (-c0), .int .i32 (-c1), .int .i32 (-c2)] 40)).cell? ⟨w4.heap.size, 2, none⟩ = some (.int .i32 (-c2)) := hn4.cell 2
      go_wp2_with fail
      clear f0 f1 f2 f3 f4 f5 f6 f7 f8 f9 f10 f11
      generalize w4.alloc (.cells #[.int .i32 (-c0), .int .i32 (-c1), .int .i32 (-c2)] 40) = W4 at *
      refine (H5.out _).mono ?_
      rintro e w5 ⟨rfl, b5⟩
      replace hp0 := hp0.below b5 hp0.lt
      replace hp1 := hp1.below b5 hp1.lt
      replace hn3 := hn3.below b5 hn3.lt
      replace hn4 := hn4.below b5 hn4.lt
      replace hb := hb.on b5
      clear b5
      have o5hp0 := hp0.lt
      have o5hp1 := hp1.lt
      have o5hn3 := hn3.lt
      have o5hn4 := hn4.lt
      replace hp0 := hp0.alloc (.cells #[.int .i32 s0, .int .i32 s1, .int .i32 s2] 40)
      replace hp1 := hp1.alloc (.cells #[.int .i32 s0, .int .i32 s1, .int .i32 s2] 40)
      replace hn3 := hn3.alloc (.cells #[.int .i32 s0, .int .i32 s1, .int .i32 s2] 40)
      replace hn4 := hn4.alloc (.cells #[.int .i32 s0, .int .i32 s1, .int .i32 s2] 40)
      have ob5 := hb.size
      have hn5 : Blk (w5.alloc (.cells #[.int .i32 s0, .int .i32 s1, .int .i32 s2] 40)) w5.heap.size 40 #[.int .i32 s0, .int .i32 s1, .int .i32 s2] := Blk.new w5 _ _
      replace hb := hb.alloc hb.size (.cells #[.int .i32 s0, .int .i32 s1, .int .i32 s2] 40)
      have f0 : (w5.alloc (.cells #[.int .i32 s0, .int .i32 s1, .int .i32 s2] 40)).cell? ⟨w.heap.size, 0, none⟩ = some (.int .i32 a0) := hp0.cell 0
      have f1 : (w5.alloc (.cells #[.int .i32 s0, .int .i32 s1, .int .i32 s2] 40)).cell? ⟨w.heap.size, 1, none⟩ = some (.int .i32 a1) := hp0.cell 1
      have f2 : (w5.alloc (.cells #[.int .i32 s0, .int .i32 s1, .int .i32 s2] 40)).cell? ⟨w.heap.size, 2, none⟩ = some (.int .i32 a2) := hp0.cell 2
      have f3 : (w5.alloc (.cells #[.int .i32 s0, .int .i32 s1, .int .i32 s2] 40)).cell? ⟨w.heap.size + 1, 0, none⟩ = some (.int .i32 b0) := hp1.cell 0
      have f4 : (w5.alloc (.cells #[.int .i32 s0, .int .i32 s1, .int .i32 s2] 40)).cell? ⟨w.heap.size + 1, 1, none⟩ = some (.int .i32 b1) := hp1.cell 1
      have f5 : (w5.alloc (.cells #[.int .i32 s0, .int .i32 s1, .int .i32 s2] 40)).cell? ⟨w.heap.size + 1, 2, none⟩ = some (.int .i32 b2) := hp1.cell 2
      have f6 : (w5.alloc (.cells #[.int .i32 s0, .int .i32 s1, .int .i32 s2] 40)).cell? ⟨w3.heap.size, 0, none⟩ = some (.int .i32 c0) := hn3.cell 0
      have f7 : (w5.alloc (.cells #[.int .i32 s0, .int .i32 s1, .int .i32 s2] 40)).cell? ⟨w3.heap.size, 1, none⟩ = some (.int .i32 c1) := hn3.cell 1
      have f8 : (w5.alloc (.cells #[.int .i32 s0, .int .i32 s1, .int .i32 s2] 40)).cell? ⟨w3.heap.size, 2, none⟩ = some (.int .i32 c2) := hn3.cell 2
      have f9 : (w5.alloc (.cells #[.int .i32 s0, .int .i32 s1, .int .i32 s2] 40)).cell? ⟨w4.heap.size, 0, none⟩ = some (.int .i32 (-c0)) := hn4.cell 0
      have f10 : (w5.alloc (.cells #[.int .i32 s0, .int .i32 s1, .int .i32 s2] 40)).cell? ⟨w4.heap.size, 1, none⟩ = some (.int .i32 (-c1)) := hn4.cell 1
      have f11 : (w5.alloc (.cells #[.int .i32 s0, .int .i32 s1, .int .i32 s2] 40)).cell? ⟨w4.heap.size, 2, none⟩ = some (.int .i32 (-c2)) := hn4.cell 2
      have f12 : (w5.alloc (.cells #[.int .i32 s0, .int .i32 s1, .int .i32 s2] 40)).cell? ⟨w5.heap.size, 0, none⟩ = some (.int .i32 s0) := hn5.cell 0
      have f13 : (w5.alloc (.cells #[.int .i32 s0, .int .i32 s1, .int .i32 s2] 40)).cell? ⟨w5.heap.size, 1, none⟩ = some (.int .i32 s1) := hn5.cell 1
      have f14 : (w5.alloc (.cells #[.int .i32 s0, .int .i32 s1, .int .i32 s2] 40)).cell? ⟨w5.heap.size, 2, none⟩ = some (.int .i32 s2) := hn5.cell 2
      go_wp2_with fail
      clear f0 f1 f2 f3 f4 f5 f6 f7 f8 f9 f10 f11 f12 f13 f14
      generalize w5.alloc (.cells #[.int .i32 s0, .int .i32 s1, .int .i32 s2] 40) = W5 at *
      refine (H6.out _).mono ?_
      rintro e w6 ⟨rfl, b6⟩
      replace hp0 := hp0.below b6 hp0.lt
      replace hp1 := hp1.below b6 hp1.lt
      replace hn3 := hn3.below b6 hn3.lt
      replace hn4 := hn4.below b6 hn4.lt
      replace hn5 := hn5.below b6 hn5.lt
      replace hb := hb.on b6
      clear b6
      have o6hp0 := hp0.lt
      have o6hp1 := hp1.lt
      have o6hn3 := hn3.lt
      have o6hn4 := hn4.lt
      have o6hn5 := hn5.lt
      replace hp0 := hp0.alloc (.cells #[.int .i32 a0, .int .i32 a1, .int .i32 a2] 40)
      replace hp1 := hp1.alloc (.cells #[.int .i32 a0, .int .i32 a1, .int .i32 a2] 40)
      replace hn3 := hn3.alloc (.cells #[.int .i32 a0, .int .i32 a1, .int .i32 a2] 40)
      replace hn4 := hn4.alloc (.cells #[.int .i32 a0, .int .i32 a1, .int .i32 a2] 40)
      replace hn5 := hn5.alloc (.cells #[.int .i32 a0, .int .i32 a1, .int .i32 a2] 40)
      have ob6 := hb.size
      have hn6 : Blk (w6.alloc (.cells #[.int .i32 a0, .int .i32 a1, .int .i32 a2] 40)) w6.heap.size 40 #[.int .i32 a0, .int .i32 a1, .int .i32 a2] := Blk.new w6 _ _
      replace hb := hb.alloc hb.size (.cells #[.int .i32 a0, .int .i32 a1, .int .i32 a2] 40)
      have f0 : (w6.alloc (.cells #[.int .i32 a0, .int .i32 a1, .int .i32 a2] 40)).cell? ⟨w.heap.size, 0, none⟩ = some (.int .i32 a0) := hp0.cell 0
      have f1 : (w6.alloc (.cells #[.int .i32 a0, .int .i32 a1, .int .i32 a2] 40)).cell? ⟨w.heap.size, 1, none⟩ = some (.int .i32 a1) := hp0.cell 1
      have f2 : (w6.alloc (.cells #[.int .i32 a0, .int .i32 a1, .int .i32 a2] 40)).cell? ⟨w.heap.size, 2, none⟩ = some (.int .i32 a2) := hp0.cell 2
      have f3 : (w6.alloc (.cells #[.int .i32 a0, .int .i32 a1, .int .i32 a2] 40)).cell? ⟨w.heap.size + 1, 0, none⟩ = some (.int .i32 b0) := hp1.cell 0
      have f4 : (w6.alloc (.cells #[.int .i32 a0, .int .i32 a1, .int .i32 a2] 40)).cell? ⟨w.heap.size + 1, 1, none⟩ = some (.int .i32 b1) := hp1.cell 1
      have f5 : (w6.alloc (.cells #[.int .i32 a0, .int .i32 a1, .int .i32 a2] 40)).cell? ⟨w.heap.size + 1, 2, none⟩ = some (.int .i32 b2) := hp1.cell 2
      have f6 : (w6.alloc (.cells #[.int .i32 a0, .int .i32 a1, .int .i32 a2] 40)).cell? ⟨w3.heap.size, 0, none⟩ = some (.int .i32 c0) := hn3.cell 0
      have f7 : (w6.alloc (.cells #[.int .i32 a0, .int .i32 a1, .int .i32 a2] 40)).cell? ⟨w3.heap.size, 1, none⟩ = some (.int .i32 c1) := hn3.cell 1
      have f8 : (w6.alloc (.cells #[.int .i32 a0, .int .i32 a1, .int .i32 a2] 40)).cell? ⟨w3.heap.size, 2, none⟩ = some (.int .i32 c2) := hn3.cell 2
      have f9 : (w6.alloc (.cells #[.int .i32 a0, .int .i32 a1, .int .i32 a2] 40)).cell? ⟨w4.heap.size, 0, none⟩ = some (.int .i32 (-c0)) := hn4.cell 0
      have f10 : (w6.alloc (.cells #[.int .i32 a0, .int .i32 a1, .int .i32 a2] 40)).cell? ⟨w4.heap.size, 1, none⟩ = some (.int .i32 (-c1)) := hn4.cell 1
      have f11 : (w6.alloc (.cells #[.int .i32 a0, .int .i32 a1, .int .i32 a2] 40)).cell? ⟨w4.heap.size, 2, none⟩ = some (.int .i32 (-c2)) := hn4.cell 2
      have f12 : (w6.alloc (.cells #[.int .i32 a0, .int .i32 a1, .int .i32 a2] 40)).cell? ⟨w5.heap.size, 0, none⟩ = some (.int .i32 s0) := hn5.cell 0
      have f13 : (w6.alloc (.cells #[.int .i32 a0, .int .i32 a1, .int .i32 a2] 40)).cell? ⟨w5.heap.size, 1, none⟩ = some (.int .i32 s1) := hn5.cell 1
      have f14 : (w6.alloc (.cells #[.int .i32 a0, .int .i32 a1, .int .i32 a2] 40)).cell? ⟨w5.heap.size, 2, none⟩ = some (.int .i32 s2) := hn5.cell 2
      have f15 : (w6.alloc (.cells #[.int .i32 a0, .int .i32 a1, .int .i32 a2] 40)).cell? ⟨w6.heap.size, 0, none⟩ = some (.int .i32 a0) := hn6.cell 0
      have f16 : (w6.alloc (.cells #[.int .i32 a0, .int .i32 a1, .int .i32 a2] 40)).cell? ⟨w6.heap.size, 1, none⟩ = some (.int .i32 a1) := hn6.cell 1
      have f17 : (w6.alloc (.cells #[.int .i32 a0, .int .i32 a1, .int .i32 a2] 40)).cell? ⟨w6.heap.size, 2, none⟩ = some (.int .i32 a2) := hn6.cell 2
      go_wp2_with fail
      clear f0 f1 f2 f3 f4 f5 f6 f7 f8 f9 f10 f11 f12 f13 f14 f15 f16 f17
      generalize w6.alloc (.cells #[.int .i32 a0, .int .i32 a1, .int .i32 a2] 40) = W6 at *
      refine (HK.out _).mono ?_
      rintro e w7 ⟨rfl, b7⟩
      replace hp0 := hp0.below b7 hp0.lt
      replace hp1 := hp1.below b7 hp1.lt
      replace hn3 := hn3.below b7 hn3.lt
      replace hn4 := hn4.below b7 hn4.lt
      replace hn5 := hn5.below b7 hn5.lt
      replace hn6 := hn6.below b7 hn6.lt
      replace hb := hb.on b7
      clear b7
      go_wp2
      go_ret
      exact ⟨rfl, hb⟩
    · obtain ⟨⟨p0, q0, i0, j0⟩, ⟨p1, q1, i1, j1⟩, ⟨p2, q2, i2, j2⟩⟩ := K1 g1
      rw [p0, p1, p2] at h3
      rw [q0, q1, q2] at h4
      have E1 : (n1 + n2 == 0) = true := by simpa using g1
      have w0 : IntKind.i32.wrap (- -c0) = c0 := by rw [Int.neg_neg]; exact IntWalk.i32_in _ (by unfold I32 at i0; omega)
      have v0 : IntKind.i32.wrap (c0) = c0 := IntWalk.i32_in _ (by unfold I32 at i0; omega)
      have w1 : IntKind.i32.wrap (- -c1) = c1 := by rw [Int.neg_neg]; exact IntWalk.i32_in _ (by unfold I32 at i1; omega)
      have v1 : IntKind.i32.wrap (c1) = c1 := IntWalk.i32_in _ (by unfold I32 at i1; omega)
      have w2 : IntKind.i32.wrap (- -c2) = c2 := by rw [Int.neg_neg]; exact IntWalk.i32_in _ (by unfold I32 at i2; omega)
      have v2 : IntKind.i32.wrap (c2) = c2 := IntWalk.i32_in _ (by unfold I32 at i2; omega)
      clear p0 p1 p2 q0 q1 q2 i0 i1 i2 j0 j1 j2
      have dd : decide (0 < n3) = true := by simp; omega
      clear K1 K2 g1 g2 m1 m2 m3
      have H1 := hid h1
      have H2 := hid h2
      have H3 := hid h3
      have H4 := hid h4
      have H5 := hid h5
      have H6 := hid h6
      clear h1 h2 h3 h4 h5 h6
      go_enter Try.func13, Try.ntmps13
      have hp0 : Blk (w.alloc (.cells #[.int .i32 a0, .int .i32 a1, .int .i32 a2] 40)) w.heap.size 40 #[.int .i32 a0, .int .i32 a1, .int .i32 a2] := Blk.new w _ _
      have hb : Below w.heap.size w (w.alloc (.cells #[.int .i32 a0, .int .i32 a1, .int .i32 a2] 40)) := (Below.refl _ w).alloc (Nat.le_refl _) _
      replace hp0 := hp0.alloc (.cells #[.int .i32 b0, .int .i32 b1, .int .i32 b2] 40)
      have hp1 : Blk ((w.alloc (.cells #[.int .i32 a0, .int .i32 a1, .int .i32 a2] 40)).alloc (.cells #[.int .i32 b0, .int .i32 b1, .int .i32 b2] 40)) (w.heap.size + 1) 40 #[.int .i32 b0, .int .i32 b1, .int .i32 b2] := by have := Blk.new (w.alloc (.cells #[.int .i32 a0, .int .i32 a1, .int .i32 a2] 40)) 40 #[.int .i32 b0, .int .i32 b1, .int .i32 b2]; simpa using this
      replace hb := hb.alloc hb.size (.cells #[.int .i32 b0, .int .i32 b1, .int .i32 b2] 40)
      go_wp2_with fail
      generalize (w.alloc (.cells #[.int .i32 a0, .int .i32 a1, .int .i32 a2] 40)).alloc (.cells #[.int .i32 b0, .int .i32 b1, .int .i32 b2] 40) = W0 at *
      refine (H1.out _).mono ?_
      rintro e w1 ⟨rfl, b1⟩
      replace hp0 := hp0.below b1 hp0.lt
      replace hp1 := hp1.below b1 hp1.lt
      replace hb := hb.on b1
      clear b1
      have f0 : (w1).cell? ⟨w.heap.size, 0, none⟩ = some (.int .i32 a0) := hp0.cell 0
      have f1 : (w1).cell? ⟨w.heap.size, 1, none⟩ = some (.int .i32 a1) := hp0.cell 1
      have f2 : (w1).cell? ⟨w.heap.size, 2, none⟩ = some (.int .i32 a2) := hp0.cell 2
      have f3 : (w1).cell? ⟨w.heap.size + 1, 0, none⟩ = some (.int .i32 b0) := hp1.cell 0
      have f4 : (w1).cell? ⟨w.heap.size + 1, 1, none⟩ = some (.int .i32 b1) := hp1.cell 1
      have f5 : (w1).cell? ⟨w.heap.size + 1, 2, none⟩ = some (.int .i32 b2) := hp1.cell 2
      go_wp2_with fail
      clear f0 f1 f2 f3 f4 f5
      generalize w1 = W1 at *
      refine (H2.out _).mono ?_
      rintro e w2 ⟨rfl, b2⟩
      replace hp0 := hp0.below b2 hp0.lt
      replace hp1 := hp1.below b2 hp1.lt
      replace hb := hb.on b2
      clear b2
      have f0 : (w2).cell? ⟨w.heap.size, 0, none⟩ = some (.int .i32 a0) := hp0.cell 0
      have f1 : (w2).cell? ⟨w.heap.size, 1, none⟩ = some (.int .i32 a1) := hp0.cell 1
      have f2 : (w2).cell? ⟨w.heap.size, 2, none⟩ = some (.int .i32 a2) := hp0.cell 2
      have f3 : (w2).cell? ⟨w.heap.size + 1, 0, none⟩ = some (.int .i32 b0) := hp1.cell 0
      have f4 : (w2).cell? ⟨w.heap.size + 1, 1, none⟩ = some (.int .i32 b1) := hp1.cell 1
      have f5 : (w2).cell? ⟨w.heap.size + 1, 2, none⟩ = some (.int .i32 b2) := hp1.cell 2
      go_wp2_with fail
      clear f0 f1 f2 f3 f4 f5
      generalize w2 = W2 at *
      refine (H3.out _).mono ?_
      rintro e w3 ⟨rfl, b3⟩
      replace hp0 := hp0.below b3 hp0.lt
      replace hp1 := hp1.below b3 hp1.lt
      replace hb := hb.on b3
      clear b3
      have o3hp0 := hp0.lt
      have o3hp1 := hp1.lt
      replace hp0 := hp0.alloc (.cells #[.int .i32 c0, .int .i32 c1, .int .i32 c2] 40)
      replace hp1 := hp1.alloc (.cells #[.int .i32 c0, .int .i32 c1, .int .i32 c2] 40)
      have ob3 := hb.size
      have hn3 : Blk (w3.alloc (.cells #[.int .i32 c0, .int .i32 c1, .int .i32 c2] 40)) w3.heap.size 40 #[.int .i32 c0, .int .i32 c1, .int .i32 c2] := Blk.new w3 _ _
      replace hb := hb.alloc hb.size (.cells #[.int .i32 c0, .int .i32 c1, .int .i32 c2] 40)
      have f0 : (w3.alloc (.cells #[.int .i32 c0, .int .i32 c1, .int .i32 c2] 40)).cell? ⟨w.heap.size, 0, none⟩ = some (.int .i32 a0) := hp0.cell 0
      have f1 : (w3.alloc (.cells #[.int .i32 c0, .int .i32 c1, .int .i32 c2] 40)).cell? ⟨w.heap.size, 1, none⟩ = some (.int .i32 a1) := hp0.cell 1
      have f2 : (w3.alloc (.cells #[.int .i32 c0, .int .i32 c1, .int .i32 c2] 40)).cell? ⟨w.heap.size, 2, none⟩ = some (.int .i32 a2) := hp0.cell 2
      have f3 : (w3.alloc (.cells #[.int .i32 c0, .int .i32 c1, .int .i32 c2] 40)).cell? ⟨w.heap.size + 1, 0, none⟩ = some (.int .i32 b0) := hp1.cell 0
      have f4 : (w3.alloc (.cells #[.int .i32 c0, .int .i32 c1, .int .i32 c2] 40)).cell? ⟨w.heap.size + 1, 1, none⟩ = some (.int .i32 b1) := hp1.cell 1
      have f5 : (w3.alloc (.cells #[.int .i32 c0, .int .i32 c1, .int .i32 c2] 40)).cell? ⟨w.heap.size + 1, 2, none⟩ = some (.int .i32 b2) := hp1.cell 2
      have f6 : (w3.alloc (.cells #[.int .i32 c0, .int .i32 c1, .int .i32 c2] 40)).cell? ⟨w3.heap.size, 0, none⟩ = some (.int .i32 c0) := hn3.cell 0
      have f7 : (w3.alloc (.cells #[.int .i32 c0, .int .i32 c1, .int .i32 c2] 40)).cell? ⟨w3.heap.size, 1, none⟩ = some (.int .i32 c1) := hn3.cell 1
      have f8 : (w3.alloc (.cells #[.int .i32 c0, .int .i32 c1, .int .i32 c2] 40)).cell? ⟨w3.heap.size, 2, none⟩ = some (.int .i32 c2) := hn3.cell 2
      go_wp2_with fail
      clear f0 f1 f2 f3 f4 f5 f6 f7 f8
      generalize w3.alloc (.cells #[.int .i32 c0, .int .i32 c1, .int .i32 c2] 40) = W3 at *
      refine (H4.out _).mono ?_
      rintro e w4 ⟨rfl, b4⟩
      replace hp0 := hp0.below b4 hp0.lt
      replace hp1 := hp1.below b4 hp1.lt
      replace hn3 := hn3.below b4 hn3.lt
      replace hb := hb.on b4
      clear b4
      have o4hp0 := hp0.lt
      have o4hp1 := hp1.lt
      have o4hn3 := hn3.lt
      replace hp0 := hp0.alloc (.cells #[.int .i32 (-c0), .int .i32 (-c1), .int .i32 (-c2)] 40)
      replace hp1 := hp1.alloc (.cells #[.int .i32 (-c0), .int .i32 (-c1), .int .i32 (-c2)] 40)
      replace hn3 := hn3.alloc (.cells #[.int .i32 (-c0), .int .i32 (-c1), .int .i32 (-c2)] 40)
      have ob4 := hb.size
      have hn4 : Blk (w4.alloc (.cells #[.int .i32 (-c0), .int .i32 (-c1), .int .i32 (-c2)] 40)) w4.heap.size 40 #[.int .i32 (-c0), .int .i32 (-c1), .int .i32 (-c2)] := Blk.new w4 _ _
      replace hb := hb.alloc hb.size (.cells #[.int .i32 (-c0), .int .i32 (-c1), .int .i32 (-c2)] 40)
      have f0 : (w4.alloc (.cells #[.int .i32 (-c0), .int .i32 (-c1), .int .i32 (-c2)] 40)).cell? ⟨w.heap.size, 0, none⟩ = some (.int .i32 a0) := hp0.cell 0
      have f1 : (w4.alloc (.cells #[.int .i32 (-c0), .int .i32 (-c1), .int .i32 (-c2)] 40)).cell? ⟨w.heap.size, 1, none⟩ = some (.int .i32 a1) := hp0.cell 1
      have f2 : (w4.alloc (.cells #[.int .i32 (-c0), .int .i32 (-c1), .int .i32 (-c2)] 40)).cell? ⟨w.heap.size, 2, none⟩ = some (.int .i32 a2) := hp0.cell 2
      have f3 : (w4.alloc (.cells #[.int .i32 (-c0), .int .i32 (-c1), .int .i32 (-c2)] 40)).cell? ⟨w.heap.size + 1, 0, none⟩ = some (.int .i32 b0) := hp1.cell 0
      have f4 : (w4.alloc (.cells #[.int .i32 (-c0), .int .i32 (-c1), .int .i32 (-c2)] 40)).cell? ⟨w.heap.size + 1, 1, none⟩ = some (.int .i32 b1) := hp1.cell 1
      have f5 : (w4.alloc (.cells #[.int .i32 (-c0), .int .i32 (-c1), .int .i32 (-c2)] 40)).cell? ⟨w.heap.size + 1, 2, none⟩ = some (.int .i32 b2) := hp1.cell 2
      have f6 : (w4.alloc (.cells #[.int .i32 (-c0), .int .i32 (-c1), .int .i32 (-c2)] 40)).cell? ⟨w3.heap.size, 0, none⟩ = some (.int .i32 c0) := hn3.cell 0
      have f7 : (w4.alloc (.cells #[.int .i32 (-c0), .int .i32 (-c1), .int .i32 (-c2)] 40)).cell? ⟨w3.heap.size, 1, none⟩ = some (.int .i32 c1) := hn3.cell 1
      have f8 : (w4.alloc (.cells #[.int .i32 (-c0), .int .i32 (-c1), .int .i32 (-c2)] 40)).cell? ⟨w3.heap.size, 2, none⟩ = some (.int .i32 c2) := hn3.cell 2
      have f9 : (w4.alloc (.cells #[.int .i32 (-c0), .int .i32 (-c1), .int .i32 (-c2)] 40)).cell? ⟨w4.heap.size, 0, none⟩ = some (.int .i32 (-c0)) := hn4.cell 0
      have f10 : (w4.alloc (.cells #[.int .i32 (-c0), .int .i32 (-c1), .int .i32 (-c2)] 40)).cell? ⟨w4.heap.size, 1, none⟩ = some (.int .i32 (-c1)) := hn4.cell 1
      have f11 : (w4.alloc (.cells #[.int .i32 (-c0), .int .i32 (-c1), .int .i32 (-c2)] 40)).cell? ⟨w4.heap.size, 2, none⟩ = some (.int .i32 (-c2)) := hn4.cell 2
      go_wp2_with fail
      clear f0 f1 f2 f3 f4 f5 f6 f7 f8 f9 f10 f11
      generalize w4.alloc (.cells #[.int .i32 (-c0), .int .i32 (-c1), .int .i32 (-c2)] 40) = W4 at *
      refine (H5.out _).mono ?_
      rintro e w5 ⟨rfl, b5⟩
      replace hp0 := hp0.below b5 hp0.lt
      replace hp1 := hp1.below b5 hp1.lt
      replace hn3 := hn3.below b5 hn3.lt
      replace hn4 := hn4.below b5 hn4.lt
      replace hb := hb.on b5
      clear b5
      have o5hp0 := hp0.lt
      have o5hp1 := hp1.lt
      have o5hn3 := hn3.lt
      have o5hn4 := hn4.lt
      replace hp0 := hp0.alloc (.cells #[.int .i32 s0, .int .i32 s1, .int .i32 s2] 40)
      replace hp1 := hp1.alloc (.cells #[.int .i32 s0, .int .i32 s1, .int .i32 s2] 40)
      replace hn3 := hn3.alloc (.cells #[.int .i32 s0, .int .i32 s1, .int .i32 s2] 40)
      replace hn4 := hn4.alloc (.cells #[.int .i32 s0, .int .i32 s1, .int .i32 s2] 40)
      have ob5 := hb.size
      have hn5 : Blk (w5.alloc (.cells #[.int .i32 s0, .int .i32 s1, .int .i32 s2] 40)) w5.heap.size 40 #[.int .i32 s0, .int .i32 s1, .int .i32 s2] := Blk.new w5 _ _
      replace hb := hb.alloc hb.size (.cells #[.int .i32 s0, .int .i32 s1, .int .i32 s2] 40)
      have f0 : (w5.alloc (.cells #[.int .i32 s0, .int .i32 s1, .int .i32 s2] 40)).cell? ⟨w.heap.size, 0, none⟩ = some (.int .i32 a0) := hp0.cell 0
      have f1 : (w5.alloc (.cells #[.int .i32 s0, .int .i32 s1, .int .i32 s2] 40)).cell? ⟨w.heap.size, 1, none⟩ = some (.int .i32 a1) := hp0.cell 1
      have f2 : (w5.alloc (.cells #[.int .i32 s0, .int .i32 s1, .int .i32 s2] 40)).cell? ⟨w.heap.size, 2, none⟩ = some (.int .i32 a2) := hp0.cell 2
      have f3 : (w5.alloc (.cells #[.int .i32 s0, .int .i32 s1, .int .i32 s2] 40)).cell? ⟨w.heap.size + 1, 0, none⟩ = some (.int .i32 b0) := hp1.cell 0
      have f4 : (w5.alloc (.cells #[.int .i32 s0, .int .i32 s1, .int .i32 s2] 40)).cell? ⟨w.heap.size + 1, 1, none⟩ = some (.int .i32 b1) := hp1.cell 1
      have f5 : (w5.alloc (.cells #[.int .i32 s0, .int .i32 s1, .int .i32 s2] 40)).cell? ⟨w.heap.size + 1, 2, none⟩ = some (.int .i32 b2) := hp1.cell 2
      have f6 : (w5.alloc (.cells #[.int .i32 s0, .int .i32 s1, .int .i32 s2] 40)).cell? ⟨w3.heap.size, 0, none⟩ = some (.int .i32 c0) := hn3.cell 0
      have f7 : (w5.alloc (.cells #[.int .i32 s0, .int .i32 s1, .int .i32 s2] 40)).cell? ⟨w3.heap.size, 1, none⟩ = some (.int .i32 c1) := hn3.cell 1
      have f8 : (w5.alloc (.cells #[.int .i32 s0, .int .i32 s1, .int .i32 s2] 40)).cell? ⟨w3.heap.size, 2, none⟩ = some (.int .i32 c2) := hn3.cell 2
      have f9 : (w5.alloc (.cells #[.int .i32 s0, .int .i32 s1, .int .i32 s2] 40)).cell? ⟨w4.heap.size, 0, none⟩ = some (.int .i32 (-c0)) := hn4.cell 0
      have f10 : (w5.alloc (.cells #[.int .i32 s0, .int .i32 s1, .int .i32 s2] 40)).cell? ⟨w4.heap.size, 1, none⟩ = some (.int .i32 (-c1)) := hn4.cell 1
      have f11 : (w5.alloc (.cells #[.int .i32 s0, .int .i32 s1, .int .i32 s2] 40)).cell? ⟨w4.heap.size, 2, none⟩ = some (.int .i32 (-c2)) := hn4.cell 2
      have f12 : (w5.alloc (.cells #[.int .i32 s0, .int .i32 s1, .int .i32 s2] 40)).cell? ⟨w5.heap.size, 0, none⟩ = some (.int .i32 s0) := hn5.cell 0
      have f13 : (w5.alloc (.cells #[.int .i32 s0, .int .i32 s1, .int .i32 s2] 40)).cell? ⟨w5.heap.size, 1, none⟩ = some (.int .i32 s1) := hn5.cell 1
      have f14 : (w5.alloc (.cells #[.int .i32 s0, .int .i32 s1, .int .i32 s2] 40)).cell? ⟨w5.heap.size, 2, none⟩ = some (.int .i32 s2) := hn5.cell 2
      go_wp2_with fail
      clear f0 f1 f2 f3 f4 f5 f6 f7 f8 f9 f10 f11 f12 f13 f14
      generalize w5.alloc (.cells #[.int .i32 s0, .int .i32 s1, .int .i32 s2] 40) = W5 at *
      refine (H6.out _).mono ?_
      rintro e w6 ⟨rfl, b6⟩
      replace hp0 := hp0.below b6 hp0.lt
      replace hp1 := hp1.below b6 hp1.lt
      replace hn3 := hn3.below b6 hn3.lt
      replace hn4 := hn4.below b6 hn4.lt
      replace hn5 := hn5.below b6 hn5.lt
      replace hb := hb.on b6
      clear b6
      have o6hp0 := hp0.lt
      have o6hp1 := hp1.lt
      have o6hn3 := hn3.lt
      have o6hn4 := hn4.lt
      have o6hn5 := hn5.lt
      replace hp0 := hp0.alloc (.cells #[.int .i32 t0, .int .i32 t1, .int .i32 t2] 40)
      replace hp1 := hp1.alloc (.cells #[.int .i32 t0, .int .i32 t1, .int .i32 t2] 40)
      replace hn3 := hn3.alloc (.cells #[.int .i32 t0, .int .i32 t1, .int .i32 t2] 40)
      replace hn4 := hn4.alloc (.cells #[.int .i32 t0, .int .i32 t1, .int .i32 t2] 40)
      replace hn5 := hn5.alloc (.cells #[.int .i32 t0, .int .i32 t1, .int .i32 t2] 40)
      have ob6 := hb.size
      have hn6 : Blk (w6.alloc (.cells #[.int .i32 t0, .int .i32 t1, .int .i32 t2] 40)) w6.heap.size 40 #[.int .i32 t0, .int .i32 t1, .int .i32 t2] := Blk.new w6 _ _
      replace hb := hb.alloc hb.size (.cells #[.int .i32 t0, .int .i32 t1, .int .i32 t2] 40)
      have f0 : (w6.alloc (.cells #[.int .i32 t0, .int .i32 t1, .int .i32 t2] 40)).cell? ⟨w.heap.size, 0, none⟩ = some (.int .i32 a0) := hp0.cell 0
      have f1 : (w6.alloc (.cells #[.int .i32 t0, .int .i32 t1, .int .i32 t2] 40)).cell? ⟨w.heap.size, 1, none⟩ = some (.int .i32 a1) := hp0.cell 1
      have f2 : (w6.alloc (.cells #[.int .i32 t0, .int .i32 t1, .int .i32 t2] 40)).cell? ⟨w.heap.size, 2, none⟩ = some (.int .i32 a2) := hp0.cell 2
      have f3 : (w6.alloc (.cells #[.int .i32 t0, .int .i32 t1, .int .i32 t2] 40)).cell? ⟨w.heap.size + 1, 0, none⟩ = some (.int .i32 b0) := hp1.cell 0
      have f4 : (w6.alloc (.cells #[.int .i32 t0, .int .i32 t1, .int .i32 t2] 40)).cell? ⟨w.heap.size + 1, 1, none⟩ = some (.int .i32 b1) := hp1.cell 1
      have f5 : (w6.alloc (.cells #[.int .i32 t0, .int .i32 t1, .int .i32 t2] 40)).cell? ⟨w.heap.size + 1, 2, none⟩ = some (.int .i32 b2) := hp1.cell 2
      have f6 : (w6.alloc (.cells #[.int .i32 t0, .int .i32 t1, .int .i32 t2] 40)).cell? ⟨w3.heap.size, 0, none⟩ = some (.int .i32 c0) := hn3.cell 0
      have f7 : (w6.alloc (.cells #[.int .i32 t0, .int .i32 t1, .int .i32 t2] 40)).cell? ⟨w3.heap.size, 1, none⟩ = some (.int .i32 c1) := hn3.cell 1
      have f8 : (w6.alloc (.cells #[.int .i32 t0, .int .i32 t1, .int .i32 t2] 40)).cell? ⟨w3.heap.size, 2, none⟩ = some (.int .i32 c2) := hn3.cell 2
      have f9 : (w6.alloc (.cells #[.int .i32 t0, .int .i32 t1, .int .i32 t2] 40)).cell? ⟨w4.heap.size, 0, none⟩ = some (.int .i32 (-c0)) := hn4.cell 0
      have f10 : (w6.alloc (.cells #[.int .i32 t0, .int .i32 t1, .int .i32 t2] 40)).cell? ⟨w4.heap.size, 1, none⟩ = some (.int .i32 (-c1)) := hn4.cell 1
      have f11 : (w6.alloc (.cells #[.int .i32 t0, .int .i32 t1, .int .i32 t2] 40)).cell? ⟨w4.heap.size, 2, none⟩ = some (.int .i32 (-c2)) := hn4.cell 2
      have f12 : (w6.alloc (.cells #[.int .i32 t0, .int .i32 t1, .int .i32 t2] 40)).cell? ⟨w5.heap.size, 0, none⟩ = some (.int .i32 s0) := hn5.cell 0
      have f13 : (w6.alloc (.cells #[.int .i32 t0, .int .i32 t1, .int .i32 t2] 40)).cell? ⟨w5.heap.size, 1, none⟩ = some (.int .i32 s1) := hn5.cell 1
      have f14 : (w6.alloc (.cells #[.int .i32 t0, .int .i32 t1, .int .i32 t2] 40)).cell? ⟨w5.heap.size, 2, none⟩ = some (.int .i32 s2) := hn5.cell 2
      have f15 : (w6.alloc (.cells #[.int .i32 t0, .int .i32 t1, .int .i32 t2] 40)).cell? ⟨w6.heap.size, 0, none⟩ = some (.int .i32 t0) := hn6.cell 0
      have f16 : (w6.alloc (.cells #[.int .i32 t0, .int .i32 t1, .int .i32 t2] 40)).cell? ⟨w6.heap.size, 1, none⟩ = some (.int .i32 t1) := hn6.cell 1
      have f17 : (w6.alloc (.cells #[.int .i32 t0, .int .i32 t1, .int .i32 t2] 40)).cell? ⟨w6.heap.size, 2, none⟩ = some (.int .i32 t2) := hn6.cell 2
      go_wp2_with fail
      clear f0 f1 f2 f3 f4 f5 f6 f7 f8 f9 f10 f11 f12 f13 f14 f15 f16 f17
      generalize w6.alloc (.cells #[.int .i32 t0, .int .i32 t1, .int .i32 t2] 40) = W6 at *
      refine (HK.out _).mono ?_
      rintro e w7 ⟨rfl, b7⟩
      replace hp0 := hp0.below b7 hp0.lt
      replace hp1 := hp1.below b7 hp1.lt
      replace hn3 := hn3.below b7 hn3.lt
      replace hn4 := hn4.below b7 hn4.lt
      replace hn5 := hn5.below b7 hn5.lt
      replace hn6 := hn6.below b7 hn6.lt
      replace hb := hb.on b7
      clear b7
      go_wp2
      go_ret
      exact ⟨rfl, hb⟩
  · by_cases g2 : n3 = 0
    · have E1 : (n1 + n2 == 0) = false := by simpa using g1
      generalize clampP c0 = d0 at *
      generalize clampP (-c0) = ee0 at *
      generalize clampP c1 = d1 at *
      generalize clampP (-c1) = ee1 at *
      generalize clampP c2 = d2 at *
      generalize clampP (-c2) = ee2 at *
      obtain ⟨rfl, rfl, rfl, rfl⟩ := K2 g2
      have dd : decide (0 < n3) = false := by simp; omega
      clear K1 K2 g1 g2 m1 m2 m3
      have H1 := hid h1
      have H2 := hid h2
      have H3 := hid h3
      have H4 := hid h4
      have H5 := hid h5
      have H6 := hid h6
      clear h1 h2 h3 h4 h5 h6
      go_enter Try.func13, Try.ntmps13
      have hp0 : Blk (w.alloc (.cells #[.int .i32 a0, .int .i32 a1, .int .i32 a2] 40)) w.heap.size 40 #[.int .i32 a0, .int .i32 a1, .int .i32 a2] := Blk.new w _ _
      have hb : Below w.heap.size w (w.alloc (.cells #[.int .i32 a0, .int .i32 a1, .int .i32 a2] 40)) := (Below.refl _ w).alloc (Nat.le_refl _) _
      replace hp0 := hp0.alloc (.cells #[.int .i32 b0, .int .i32 b1, .int .i32 b2] 40)
      have hp1 : Blk ((w.alloc (.cells #[.int .i32 a0, .int .i32 a1, .int .i32 a2] 40)).alloc (.cells #[.int .i32 b0, .int .i32 b1, .int .i32 b2] 40)) (w.heap.size + 1) 40 #[.int .i32 b0, .int .i32 b1, .int .i32 b2] := by have := Blk.new (w.alloc (.cells #[.int .i32 a0, .int .i32 a1, .int .i32 a2] 40)) 40 #[.int .i32 b0, .int .i32 b1, .int .i32 b2]; simpa using this
      replace hb := hb.alloc hb.size (.cells #[.int .i32 b0, .int .i32 b1, .int .i32 b2] 40)
      go_wp2_with fail
      generalize (w.alloc (.cells #[.int .i32 a0, .int .i32 a1, .int .i32 a2] 40)).alloc (.cells #[.int .i32 b0, .int .i32 b1, .int .i32 b2] 40) = W0 at *
      refine (H1.out _).mono ?_
      rintro e w1 ⟨rfl, b1⟩
      replace hp0 := hp0.below b1 hp0.lt
      replace hp1 := hp1.below b1 hp1.lt
      replace hb := hb.on b1
      clear b1
      have f0 : (w1).cell? ⟨w.heap.size, 0, none⟩ = some (.int .i32 a0) := hp0.cell 0
      have f1 : (w1).cell? ⟨w.heap.size, 1, none⟩ = some (.int .i32 a1) := hp0.cell 1
      have f2 : (w1).cell? ⟨w.heap.size, 2, none⟩ = some (.int .i32 a2) := hp0.cell 2
      have f3 : (w1).cell? ⟨w.heap.size + 1, 0, none⟩ = some (.int .i32 b0) := hp1.cell 0
      have f4 : (w1).cell? ⟨w.heap.size + 1, 1, none⟩ = some (.int .i32 b1) := hp1.cell 1
      have f5 : (w1).cell? ⟨w.heap.size + 1, 2, none⟩ = some (.int .i32 b2) := hp1.cell 2
      go_wp2_with fail
      clear f0 f1 f2 f3 f4 f5
      generalize w1 = W1 at *
      refine (H2.out _).mono ?_
      rintro e w2 ⟨rfl, b2⟩
      replace hp0 := hp0.below b2 hp0.lt
      replace hp1 := hp1.below b2 hp1.lt
      replace hb := hb.on b2
      clear b2
      have f0 : (w2).cell? ⟨w.heap.size, 0, none⟩ = some (.int .i32 a0) := hp0.cell 0
      have f1 : (w2).cell? ⟨w.heap.size, 1, none⟩ = some (.int .i32 a1) := hp0.cell 1
      have f2 : (w2).cell? ⟨w.heap.size, 2, none⟩ = some (.int .i32 a2) := hp0.cell 2
      have f3 : (w2).cell? ⟨w.heap.size + 1, 0, none⟩ = some (.int .i32 b0) := hp1.cell 0
      have f4 : (w2).cell? ⟨w.heap.size + 1, 1, none⟩ = some (.int .i32 b1) := hp1.cell 1
      have f5 : (w2).cell? ⟨w.heap.size + 1, 2, none⟩ = some (.int .i32 b2) := hp1.cell 2
      go_wp2_with fail
      clear f0 f1 f2 f3 f4 f5
      generalize w2 = W2 at *
      refine (H3.out _).mono ?_
      rintro e w3 ⟨rfl, b3⟩
      replace hp0 := hp0.below b3 hp0.lt
      replace hp1 := hp1.below b3 hp1.lt
      replace hb := hb.on b3
      clear b3
      have o3hp0 := hp0.lt
      have o3hp1 := hp1.lt
      replace hp0 := hp0.alloc (.cells #[.int .i32 d0, .int .i32 d1, .int .i32 d2] 40)
      replace hp1 := hp1.alloc (.cells #[.int .i32 d0, .int .i32 d1, .int .i32 d2] 40)
      have ob3 := hb.size
      have hn3 : Blk (w3.alloc (.cells #[.int .i32 d0, .int .i32 d1, .int .i32 d2] 40)) w3.heap.size 40 #[.int .i32 d0, .int .i32 d1, .int .i32 d2] := Blk.new w3 _ _
      replace hb := hb.alloc hb.size (.cells #[.int .i32 d0, .int .i32 d1, .int .i32 d2] 40)
      have f0 : (w3.alloc (.cells #[.int .i32 d0, .int .i32 d1, .int .i32 d2] 40)).cell? ⟨w.heap.size, 0, none⟩ = some (.int .i32 a0) := hp0.cell 0
      have f1 : (w3.alloc (.cells #[.int .i32 d0, .int .i32 d1, .int .i32 d2] 40)).cell? ⟨w.heap.size, 1, none⟩ = some (.int .i32 a1) := hp0.cell 1
      have f2 : (w3.alloc (.cells #[.int .i32 d0, .int .i32 d1, .int .i32 d2] 40)).cell? ⟨w.heap.size, 2, none⟩ = some (.int .i32 a2) := hp0.cell 2
      have f3 : (w3.alloc (.cells #[.int .i32 d0, .int .i32 d1, .int .i32 d2] 40)).cell? ⟨w.heap.size + 1, 0, none⟩ = some (.int .i32 b0) := hp1.cell 0
      have f4 : (w3.alloc (.cells #[.int .i32 d0, .int .i32 d1, .int .i32 d2] 40)).cell? ⟨w.heap.size + 1, 1, none⟩ = some (.int .i32 b1) := hp1.cell 1
      have f5 : (w3.alloc (.cells #[.int .i32 d0, .int .i32 d1, .int .i32 d2] 40)).cell? ⟨w.heap.size + 1, 2, none⟩ = some (.int .i32 b2) := hp1.cell 2
      have f6 : (w3.alloc (.cells #[.int .i32 d0, .int .i32 d1, .int .i32 d2] 40)).cell? ⟨w3.heap.size, 0, none⟩ = some (.int .i32 d0) := hn3.cell 0
      have f7 : (w3.alloc (.cells #[.int .i32 d0, .int .i32 d1, .int .i32 d2] 40)).cell? ⟨w3.heap.size, 1, none⟩ = some (.int .i32 d1) := hn3.cell 1
      have f8 : (w3.alloc (.cells #[.int .i32 d0, .int .i32 d1, .int .i32 d2] 40)).cell? ⟨w3.heap.size, 2, none⟩ = some (.int .i32 d2) := hn3.cell 2
      go_wp2_with fail
      clear f0 f1 f2 f3 f4 f5 f6 f7 f8
      generalize w3.alloc (.cells #[.int .i32 d0, .int .i32 d1, .int .i32 d2] 40) = W3 at *
      refine (H4.out _).mono ?_
      rintro e w4 ⟨rfl, b4⟩
      replace hp0 := hp0.below b4 hp0.lt
      replace hp1 := hp1.below b4 hp1.lt
      replace hn3 := hn3.below b4 hn3.lt
      replace hb := hb.on b4
      clear b4
      have o4hp0 := hp0.lt
      have o4hp1 := hp1.lt
      have o4hn3 := hn3.lt
      replace hp0 := hp0.alloc (.cells #[.int .i32 ee0, .int .i32 ee1, .int .i32 ee2] 40)
      replace hp1 := hp1.alloc (.cells #[.int .i32 ee0, .int .i32 ee1, .int .i32 ee2] 40)
      replace hn3 := hn3.alloc (.cells #[.int .i32 ee0, .int .i32 ee1, .int .i32 ee2] 40)
      have ob4 := hb.size
      have hn4 : Blk (w4.alloc (.cells #[.int .i32 ee0, .int .i32 ee1, .int .i32 ee2] 40)) w4.heap.size 40 #[.int .i32 ee0, .int .i32 ee1, .int .i32 ee2] := Blk.new w4 _ _
      replace hb := hb.alloc hb.size (.cells #[.int .i32 ee0, .int .i32 ee1, .int .i32 ee2] 40)
      have f0 : (w4.alloc (.cells #[.int .i32 ee0, .int .i32 ee1, .int .i32 ee2] 40)).cell? ⟨w.heap.size, 0, none⟩ = some (.int .i32 a0) := hp0.cell 0
      have f1 : (w4.alloc (.cells #[.int .i32 ee0, .int .i32 ee1, .int .i32 ee2] 40)).cell? ⟨w.heap.size, 1, none⟩ = some (.int .i32 a1) := hp0.cell 1
      have f2 : (w4.alloc (.cells #[.int .i32 ee0, .int .i32 ee1, .int .i32 ee2] 40)).cell? ⟨w.heap.size, 2, none⟩ = some (.int .i32 a2) := hp0.cell 2
      have f3 : (w4.alloc (.cells #[.int .i32 ee0, .int .i32 ee1, .int .i32 ee2] 40)).cell? ⟨w.heap.size + 1, 0, none⟩ = some (.int .i32 b0) := hp1.cell 0
      have f4 : (w4.alloc (.cells #[.int .i32 ee0, .int .i32 ee1, .int .i32 ee2] 40)).cell? ⟨w.heap.size + 1, 1, none⟩ = some (.int .i32 b1) := hp1.cell 1
      have f5 : (w4.alloc (.cells #[.int .i32 ee0, .int .i32 ee1, .int .i32 ee2] 40)).cell? ⟨w.heap.size + 1, 2, none⟩ = some (.int .i32 b2) := hp1.cell 2
      have f6 : (w4.alloc (.cells #[.int .i32 ee0, .int .i32 ee1, .int .i32 ee2] 40)).cell? ⟨w3.heap.size, 0, none⟩ = some (.int .i32 d0) := hn3.cell 0
      have f7 : (w4.alloc (.cells #[.int .i32 ee0, .int .i32 ee1, .int .i32 ee2] 40)).cell? ⟨w3.heap.size, 1, none⟩ = some (.int .i32 d1) := hn3.cell 1
      have f8 : (w4.alloc (.cells #[.int .i32 ee0, .int .i32 ee1, .int .i32 ee2] 40)).cell? ⟨w3.heap.size, 2, none⟩ = some (.int .i32 d2) := hn3.cell 2
      have f9 : (w4.alloc (.cells #[.int .i32 ee0, .int .i32 ee1, .int .i32 ee2] 40)).cell? ⟨w4.heap.size, 0, none⟩ = some (.int .i32 ee0) := hn4.cell 0
      have f10 : (w4.alloc (.cells #[.int .i32 ee0, .int .i32 ee1, .int .i32 ee2] 40)).cell? ⟨w4.heap.size, 1, none⟩ = some (.int .i32 ee1) := hn4.cell 1
      have f11 : (w4.alloc (.cells #[.int .i32 ee0, .int .i32 ee1, .int .i32 ee2] 40)).cell? ⟨w4.heap.size, 2, none⟩ = some (.int .i32 ee2) := hn4.cell 2
      go_wp2_with fail
      clear f0 f1 f2 f3 f4 f5 f6 f7 f8 f9 f10 f11
      generalize w4.alloc (.cells #[.int .i32 ee0, .int .i32 ee1, .int .i32 ee2] 40) = W4 at *
      refine (H5.out _).mono ?_
      rintro e w5 ⟨rfl, b5⟩
      replace hp0 := hp0.below b5 hp0.lt
      replace hp1 := hp1.below b5 hp1.lt
      replace hn3 := hn3.below b5 hn3.lt
      replace hn4 := hn4.below b5 hn4.lt
      replace hb := hb.on b5
      clear b5
      have o5hp0 := hp0.lt
      have o5hp1 := hp1.lt
      have o5hn3 := hn3.lt
      have o5hn4 := hn4.lt
      replace hp0 := hp0.alloc (.cells #[.int .i32 s0, .int .i32 s1, .int .i32 s2] 40)
      replace hp1 := hp1.alloc (.cells #[.int .i32 s0, .int .i32 s1, .int .i32 s2] 40)
      replace hn3 := hn3.alloc (.cells #[.int .i32 s0, .int .i32 s1, .int .i32 s2] 40)
      replace hn4 := hn4.alloc (.cells #[.int .i32 s0, .int .i32 s1, .int .i32 s2] 40)
      have ob5 := hb.size
      have hn5 : Blk (w5.alloc (.cells #[.int .i32 s0, .int .i32 s1, .int .i32 s2] 40)) w5.heap.size 40 #[.int .i32 s0, .int .i32 s1, .int .i32 s2] := Blk.new w5 _ _
      replace hb := hb.alloc hb.size (.cells #[.int .i32 s0, .int .i32 s1, .int .i32 s2] 40)
      have f0 : (w5.alloc (.cells #[.int .i32 s0, .int .i32 s1, .int .i32 s2] 40)).cell? ⟨w.heap.size, 0, none⟩ = some (.int .i32 a0) := hp0.cell 0
      have f1 : (w5.alloc (.cells #[.int .i32 s0, .int .i32 s1, .int .i32 s2] 40)).cell? ⟨w.heap.size, 1, none⟩ = some (.int .i32 a1) := hp0.cell 1
      have f2 : (w5.alloc (.cells #[.int .i32 s0, .int .i32 s1, .int .i32 s2] 40)).cell? ⟨w.heap.size, 2, none⟩ = some (.int .i32 a2) := hp0.cell 2
      have f3 : (w5.alloc (.cells #[.int .i32 s0, .int .i32 s1, .int .i32 s2] 40)).cell? ⟨w.heap.size + 1, 0, none⟩ = some (.int .i32 b0) := hp1.cell 0
      have f4 : (w5.alloc (.cells #[.int .i32 s0, .int .i32 s1, .int .i32 s2] 40)).cell? ⟨w.heap.size + 1, 1, none⟩ = some (.int .i32 b1) := hp1.cell 1
      have f5 : (w5.alloc (.cells #[.int .i32 s0, .int .i32 s1, .int .i32 s2] 40)).cell? ⟨w.heap.size + 1, 2, none⟩ = some (.int .i32 b2) := hp1.cell 2
      have f6 : (w5.alloc (.cells #[.int .i32 s0, .int .i32 s1, .int .i32 s2] 40)).cell? ⟨w3.heap.size, 0, none⟩ = some (.int .i32 d0) := hn3.cell 0
      have f7 : (w5.alloc (.cells #[.int .i32 s0, .int .i32 s1, .int .i32 s2] 40)).cell? ⟨w3.heap.size, 1, none⟩ = some (.int .i32 d1) := hn3.cell 1
      have f8 : (w5.alloc (.cells #[.int .i32 s0, .int .i32 s1, .int .i32 s2] 40)).cell? ⟨w3.heap.size, 2, none⟩ = some (.int .i32 d2) := hn3.cell 2
      have f9 : (w5.alloc (.cells #[.int .i32 s0, .int .i32 s1, .int .i32 s2] 40)).cell? ⟨w4.heap.size, 0, none⟩ = some (.int .i32 ee0) := hn4.cell 0
      have f10 : (w5.alloc (.cells #[.int .i32 s0, .int .i32 s1, .int .i32 s2] 40)).cell? ⟨w4.heap.size, 1, none⟩ = some (.int .i32 ee1) := hn4.cell 1
      have f11 : (w5.alloc (.cells #[.int .i32 s0, .int .i32 s1, .int .i32 s2] 40)).cell? ⟨w4.heap.size, 2, none⟩ = some (.int .i32 ee2) := hn4.cell 2
      have f12 : (w5.alloc (.cells #[.int .i32 s0, .int .i32 s1, .int .i32 s2] 40)).cell? ⟨w5.heap.size, 0, none⟩ = some (.int .i32 s0) := hn5.cell 0
      have f13 : (w5.alloc (.cells #[.int .i32 s0, .int .i32 s1, .int .i32 s2] 40)).cell? ⟨w5.heap.size, 1, none⟩ = some (.int .i32 s1) := hn5.cell 1
      have f14 : (w5.alloc (.cells #[.int .i32 s0, .int .i32 s1, .int .i32 s2] 40)).cell? ⟨w5.heap.size, 2, none⟩ = some (.int .i32 s2) := hn5.cell 2
      go_wp2_with fail
      clear f0 f1 f2 f3 f4 f5 f6 f7 f8 f9 f10 f11 f12 f13 f14
      generalize w5.alloc (.cells #[.int .i32 s0, .int .i32 s1, .int .i32 s2] 40) = W5 at *
      refine (H6.out _).mono ?_
      rintro e w6 ⟨rfl, b6⟩
      replace hp0 := hp0.below b6 hp0.lt
      replace hp1 := hp1.below b6 hp1.lt
      replace hn3 := hn3.below b6 hn3.lt
      replace hn4 := hn4.below b6 hn4.lt
      replace hn5 := hn5.below b6 hn5.lt
      replace hb := hb.on b6
      clear b6
      have o6hp0 := hp0.lt
      have o6hp1 := hp1.lt
      have o6hn3 := hn3.lt
      have o6hn4 := hn4.lt
      have o6hn5 := hn5.lt
      replace hp0 := hp0.alloc (.cells #[.int .i32 a0, .int .i32 a1, .int .i32 a2] 40)
      replace hp1 := hp1.alloc (.cells #[.int .i32 a0, .int .i32 a1, .int .i32 a2] 40)
      replace hn3 := hn3.alloc (.cells #[.int .i32 a0, .int .i32 a1, .int .i32 a2] 40)
      replace hn4 := hn4.alloc (.cells #[.int .i32 a0, .int .i32 a1, .int .i32 a2] 40)
      replace hn5 := hn5.alloc (.cells #[.int .i32 a0, .int .i32 a1, .int .i32 a2] 40)
      have ob6 := hb.size
      have hn6 : Blk (w6.alloc (.cells #[.int .i32 a0, .int .i32 a1, .int .i32 a2] 40)) w6.heap.size 40 #[.int .i32 a0, .int .i32 a1, .int .i32 a2] := Blk.new w6 _ _
      replace hb := hb.alloc hb.size (.cells #[.int .i32 a0, .int .i32 a1, .int .i32 a2] 40)
      have f0 : (w6.alloc (.cells #[.int .i32 a0, .int .i32 a1, .int .i32 a2] 40)).cell? ⟨w.heap.size, 0, none⟩ = some (.int .i32 a0) := hp0.cell 0
      have f1 : (w6.alloc (.cells #[.int .i32 a0, .int .i32 a1, .int .i32 a2] 40)).cell? ⟨w.heap.size, 1, none⟩ = some (.int .i32 a1) := hp0.cell 1
      have f2 : (w6.alloc (.cells #[.int .i32 a0, .int .i32 a1, .int .i32 a2] 40)).cell? ⟨w.heap.size, 2, none⟩ = some (.int .i32 a2) := hp0.cell 2
      have f3 : (w6.alloc (.cells #[.int .i32 a0, .int .i32 a1, .int .i32 a2] 40)).cell? ⟨w.heap.size + 1, 0, none⟩ = some (.int .i32 b0) := hp1.cell 0
      have f4 : (w6.alloc (.cells #[.int .i32 a0, .int .i32 a1, .int .i32 a2] 40)).cell? ⟨w.heap.size + 1, 1, none⟩ = some (.int .i32 b1) := hp1.cell 1
      have f5 : (w6.alloc (.cells #[.int .i32 a0, .int .i32 a1, .int .i32 a2] 40)).cell? ⟨w.heap.size + 1, 2, none⟩ = some (.int .i32 b2) := hp1.cell 2
      have f6 : (w6.alloc (.cells #[.int .i32 a0, .int .i32 a1, .int .i32 a2] 40)).cell? ⟨w3.heap.size, 0, none⟩ = some (.int .i32 d0) := hn3.cell 0
      have f7 : (w6.alloc (.cells #[.int .i32 a0, .int .i32 a1, .int .i32 a2] 40)).cell? ⟨w3.heap.size, 1, none⟩ = some (.int .i32 d1) := hn3.cell 1
      have f8 : (w6.alloc (.cells #[.int .i32 a0, .int .i32 a1, .int .i32 a2] 40)).cell? ⟨w3.heap.size, 2, none⟩ = some (.int .i32 d2) := hn3.cell 2
      have f9 : (w6.alloc (.cells #[.int .i32 a0, .int .i32 a1, .int .i32 a2] 40)).cell? ⟨w4.heap.size, 0, none⟩ = some (.int .i32 ee0) := hn4.cell 0
      have f10 : (w6.alloc (.cells #[.int .i32 a0, .int .i32 a1, .int .i32 a2] 40)).cell? ⟨w4.heap.size, 1, none⟩ = some (.int .i32 ee1) := hn4.cell 1
      have f11 : (w6.alloc (.cells #[.int .i32 a0, .int .i32 a1, .int .i32 a2] 40)).cell? ⟨w4.heap.size, 2, none⟩ = some (.int .i32 ee2) := hn4.cell 2
      have f12 : (w6.alloc (.cells #[.int .i32 a0, .int .i32 a1, .int .i32 a2] 40)).cell? ⟨w5.heap.size, 0, none⟩ = some (.int .i32 s0) := hn5.cell 0
      have f13 : (w6.alloc (.cells #[.int .i32 a0, .int .i32 a1, .int .i32 a2] 40)).cell? ⟨w5.heap.size, 1, none⟩ = some (.int .i32 s1) := hn5.cell 1
      have f14 : (w6.alloc (.cells #[.int .i32 a0, .int .i32 a1, .int .i32 a2] 40)).cell? ⟨w5.heap.size, 2, none⟩ = some (.int .i32 s2) := hn5.cell 2
      have f15 : (w6.alloc (.cells #[.int .i32 a0, .int .i32 a1, .int .i32 a2] 40)).cell? ⟨w6.heap.size, 0, none⟩ = some (.int .i32 a0) := hn6.cell 0
      have f16 : (w6.alloc (.cells #[.int .i32 a0, .int .i32 a1, .int .i32 a2] 40)).cell? ⟨w6.heap.size, 1, none⟩ = some (.int .i32 a1) := hn6.cell 1
      have f17 : (w6.alloc (.cells #[.int .i32 a0, .int .i32 a1, .int .i32 a2] 40)).cell? ⟨w6.heap.size, 2, none⟩ = some (.int .i32 a2) := hn6.cell 2
      go_wp2_with fail
      clear f0 f1 f2 f3 f4 f5 f6 f7 f8 f9 f10 f11 f12 f13 f14 f15 f16 f17
      generalize w6.alloc (.cells #[.int .i32 a0, .int .i32 a1, .int .i32 a2] 40) = W6 at *
      refine (HK.out _).mono ?_
      rintro e w7 ⟨rfl, b7⟩
      replace hp0 := hp0.below b7 hp0.lt
      replace hp1 := hp1.below b7 hp1.lt
      replace hn3 := hn3.below b7 hn3.lt
      replace hn4 := hn4.below b7 hn4.lt
      replace hn5 := hn5.below b7 hn5.lt
      replace hn6 := hn6.below b7 hn6.lt
      replace hb := hb.on b7
      clear b7
      go_wp2
      go_ret
      exact ⟨rfl, hb⟩
    · have E1 : (n1 + n2 == 0) = false := by simpa using g1
      generalize clampP c0 = d0 at *
      generalize clampP (-c0) = ee0 at *
      generalize clampP c1 = d1 at *
      generalize clampP (-c1) = ee1 at *
      generalize clampP c2 = d2 at *
      generalize clampP (-c2) = ee2 at *
      have dd : decide (0 < n3) = true := by simp; omega
      clear K1 K2 g1 g2 m1 m2 m3
      have H1 := hid h1
      have H2 := hid h2
      have H3 := hid h3
      have H4 := hid h4
      have H5 := hid h5
      have H6 := hid h6
      clear h1 h2 h3 h4 h5 h6
      go_enter Try.func13, Try.ntmps13
      have hp0 : Blk (w.alloc (.cells #[.int .i32 a0, .int .i32 a1, .int .i32 a2] 40)) w.heap.size 40 #[.int .i32 a0, .int .i32 a1, .int .i32 a2] := Blk.new w _ _
      have hb : Below w.heap.size w (w.alloc (.cells #[.int .i32 a0, .int .i32 a1, .int .i32 a2] 40)) := (Below.refl _ w).alloc (Nat.le_refl _) _
      replace hp0 := hp0.alloc (.cells #[.int .i32 b0, .int .i32 b1, .int .i32 b2] 40)
      have hp1 : Blk ((w.alloc (.cells #[.int .i32 a0, .int .i32 a1, .int .i32 a2] 40)).alloc (.cells #[.int .i32 b0, .int .i32 b1, .int .i32 b2] 40)) (w.heap.size + 1) 40 #[.int .i32 b0, .int .i32 b1, .int .i32 b2] := by have := Blk.new (w.alloc (.cells #[.int .i32 a0, .int .i32 a1, .int .i32 a2] 40)) 40 #[.int .i32 b0, .int .i32 b1, .int .i32 b2]; simpa using this
      replace hb := hb.alloc hb.size (.cells #[.int .i32 b0, .int .i32 b1, .int .i32 b2] 40)
      go_wp2_with fail
      generalize (w.alloc (.cells #[.int .i32 a0, .int .i32 a1, .int .i32 a2] 40)).alloc (.cells #[.int .i32 b0, .int .i32 b1, .int .i32 b2] 40) = W0 at *
      refine (H1.out _).mono ?_
      rintro e w1 ⟨rfl, b1⟩
      replace hp0 := hp0.below b1 hp0.lt
      replace hp1 := hp1.below b1 hp1.lt
      replace hb := hb.on b1
      clear b1
      have f0 : (w1).cell? ⟨w.heap.size, 0, none⟩ = some (.int .i32 a0) := hp0.cell 0
      have f1 : (w1).cell? ⟨w.heap.size, 1, none⟩ = some (.int .i32 a1) := hp0.cell 1
      have f2 : (w1).cell? ⟨w.heap.size, 2, none⟩ = some (.int .i32 a2) := hp0.cell 2
      have f3 : (w1).cell? ⟨w.heap.size + 1, 0, none⟩ = some (.int .i32 b0) := hp1.cell 0
      have f4 : (w1).cell? ⟨w.heap.size + 1, 1, none⟩ = some (.int .i32 b1) := hp1.cell 1
      have f5 : (w1).cell? ⟨w.heap.size + 1, 2, none⟩ = some (.int .i32 b2) := hp1.cell 2
      go_wp2_with fail
      clear f0 f1 f2 f3 f4 f5
      generalize w1 = W1 at *
      refine (H2.out _).mono ?_
      rintro e w2 ⟨rfl, b2⟩
      replace hp0 := hp0.below b2 hp0.lt
      replace hp1 := hp1.below b2 hp1.lt
      replace hb := hb.on b2
      clear b2
      have f0 : (w2).cell? ⟨w.heap.size, 0, none⟩ = some (.int .i32 a0) := hp0.cell 0
      have f1 : (w2).cell? ⟨w.heap.size, 1, none⟩ = some (.int .i32 a1) := hp0.cell 1
      have f2 : (w2).cell? ⟨w.heap.size, 2, none⟩ = some (.int .i32 a2) := hp0.cell 2
      have f3 : (w2).cell? ⟨w.heap.size + 1, 0, none⟩ = some (.int .i32 b0) := hp1.cell 0
      have f4 : (w2).cell? ⟨w.heap.size + 1, 1, none⟩ = some (.int .i32 b1) := hp1.cell 1
      have f5 : (w2).cell? ⟨w.heap.size + 1, 2, none⟩ = some (.int .i32 b2) := hp1.cell 2
      go_wp2_with fail
      clear f0 f1 f2 f3 f4 f5
      generalize w2 = W2 at *
      refine (H3.out _).mono ?_
      rintro e w3 ⟨rfl, b3⟩
      replace hp0 := hp0.below b3 hp0.lt
      replace hp1 := hp1.below b3 hp1.lt
      replace hb := hb.on b3
      clear b3
      have o3hp0 := hp0.lt
      have o3hp1 := hp1.lt
      replace hp0 := hp0.alloc (.cells #[.int .i32 d0, .int .i32 d1, .int .i32 d2] 40)
      replace hp1 := hp1.alloc (.cells #[.int .i32 d0, .int .i32 d1, .int .i32 d2] 40)
      have ob3 := hb.size
      have hn3 : Blk (w3.alloc (.cells #[.int .i32 d0, .int .i32 d1, .int .i32 d2] 40)) w3.heap.size 40 #[.int .i32 d0, .int .i32 d1, .int .i32 d2] := Blk.new w3 _ _
      replace hb := hb.alloc hb.size (.cells #[.int .i32 d0, .int .i32 d1, .int .i32 d2] 40)
      have f0 : (w3.alloc (.cells #[.int .i32 d0, .int .i32 d1, .int .i32 d2] 40)).cell? ⟨w.heap.size, 0, none⟩ = some (.int .i32 a0) := hp0.cell 0
      have f1 : (w3.alloc (.cells #[.int .i32 d0, .int .i32 d1, .int .i32 d2] 40)).cell? ⟨w.heap.size, 1, none⟩ = some (.int .i32 a1) := hp0.cell 1
      have f2 : (w3.alloc (.cells #[.int .i32 d0, .int .i32 d1, .int .i32 d2] 40)).cell? ⟨w.heap.size, 2, none⟩ = some (.int .i32 a2) := hp0.cell 2
      have f3 : (w3.alloc (.cells #[.int .i32 d0, .int .i32 d1, .int .i32 d2] 40)).cell? ⟨w.heap.size + 1, 0, none⟩ = some (.int .i32 b0) := hp1.cell 0
      have f4 : (w3.alloc (.cells #[.int .i32 d0, .int .i32 d1, .int .i32 d2] 40)).cell? ⟨w.heap.size + 1, 1, none⟩ = some (.int .i32 b1) := hp1.cell 1
      have f5 : (w3.alloc (.cells #[.int .i32 d0, .int .i32 d1, .int .i32 d2] 40)).cell? ⟨w.heap.size + 1, 2, none⟩ = some (.int .i32 b2) := hp1.cell 2
      have f6 : (w3.alloc (.cells #[.int .i32 d0, .int .i32 d1, .int .i32 d2] 40)).cell? ⟨w3.heap.size, 0, none⟩ = some (.int .i32 d0) := hn3.cell 0
      have f7 : (w3.alloc (.cells #[.int .i32 d0, .int .i32 d1, .int .i32 d2] 40)).cell? ⟨w3.heap.size, 1, none⟩ = some (.int .i32 d1) := hn3.cell 1
      have f8 : (w3.alloc (.cells #[.int .i32 d0, .int .i32 d1, .int .i32 d2] 40)).cell? ⟨w3.heap.size, 2, none⟩ = some (.int .i32 d2) := hn3.cell 2
      go_wp2_with fail
      clear f0 f1 f2 f3 f4 f5 f6 f7 f8
      generalize w3.alloc (.cells #[.int .i32 d0, .int .i32 d1, .int .i32 d2] 40) = W3 at *
      refine (H4.out _).mono ?_
      rintro e w4 ⟨rfl, b4⟩
      replace hp0 := hp0.below b4 hp0.lt
      replace hp1 := hp1.below b4 hp1.lt
      replace hn3 := hn3.below b4 hn3.lt
      replace hb := hb.on b4
      clear b4
      have o4hp0 := hp0.lt
      have o4hp1 := hp1.lt
      have o4hn3 := hn3.lt
      replace hp0 := hp0.alloc (.cells #[.int .i32 ee0, .int .i32 ee1, .int .i32 ee2] 40)
      replace hp1 := hp1.alloc (.cells #[.int .i32 ee0, .int .i32 ee1, .int .i32 ee2] 40)
      replace hn3 := hn3.alloc (.cells #[.int .i32 ee0, .int .i32 ee1, .int .i32 ee2] 40)
      have ob4 := hb.size
      have hn4 : Blk (w4.alloc (.cells #[.int .i32 ee0, .int .i32 ee1, .int .i32 ee2] 40)) w4.heap.size 40 #[.int .i32 ee0, .int .i32 ee1, .int .i32 ee2] := Blk.new w4 _ _
      replace hb := hb.alloc hb.size (.cells #[.int .i32 ee0, .int .i32 ee1, .int .i32 ee2] 40)
      have f0 : (w4.alloc (.cells #[.int .i32 ee0, .int .i32 ee1, .int .i32 ee2] 40)).cell? ⟨w.heap.size, 0, none⟩ = some (.int .i32 a0) := hp0.cell 0
      have f1 : (w4.alloc (.cells #[.int .i32 ee0, .int .i32 ee1, .int .i32 ee2] 40)).cell? ⟨w.heap.size, 1, none⟩ = some (.int .i32 a1) := hp0.cell 1
      have f2 : (w4.alloc (.cells #[.int .i32 ee0, .int .i32 ee1, .int .i32 ee2] 40)).cell? ⟨w.heap.size, 2, none⟩ = some (.int .i32 a2) := hp0.cell 2
      have f3 : (w4.alloc (.cells #[.int .i32 ee0, .int .i32 ee1, .int .i32 ee2] 40)).cell? ⟨w.heap.size + 1, 0, none⟩ = some (.int .i32 b0) := hp1.cell 0
      have f4 : (w4.alloc (.cells #[.int .i32 ee0, .int .i32 ee1, .int .i32 ee2] 40)).cell? ⟨w.heap.size + 1, 1, none⟩ = some (.int .i32 b1) := hp1.cell 1
      have f5 : (w4.alloc (.cells #[.int .i32 ee0, .int .i32 ee1, .int .i32 ee2] 40)).cell? ⟨w.heap.size + 1, 2, none⟩ = some (.int .i32 b2) := hp1.cell 2
      have f6 : (w4.alloc (.cells #[.int .i32 ee0, .int .i32 ee1, .int .i32 ee2] 40)).cell? ⟨w3.heap.size, 0, none⟩ = some (.int .i32 d0) := hn3.cell 0
      have f7 : (w4.alloc (.cells #[.int .i32 ee0, .int .i32 ee1, .int .i32 ee2] 40)).cell? ⟨w3.heap.size, 1, none⟩ = some (.int .i32 d1) := hn3.cell 1
      have f8 : (w4.alloc (.cells #[.int .i32 ee0, .int .i32 ee1, .int .i32 ee2] 40)).cell? ⟨w3.heap.size, 2, none⟩ = some (.int .i32 d2) := hn3.cell 2
      have f9 : (w4.alloc (.cells #[.int .i32 ee0, .int .i32 ee1, .int .i32 ee2] 40)).cell? ⟨w4.heap.size, 0, none⟩ = some (.int .i32 ee0) := hn4.cell 0
      have f10 : (w4.alloc (.cells #[.int .i32 ee0, .int .i32 ee1, .int .i32 ee2] 40)).cell? ⟨w4.heap.size, 1, none⟩ = some (.int .i32 ee1) := hn4.cell 1
      have f11 : (w4.alloc (.cells #[.int .i32 ee0, .int .i32 ee1, .int .i32 ee2] 40)).cell? ⟨w4.heap.size, 2, none⟩ = some (.int .i32 ee2) := hn4.cell 2
      go_wp2_with fail
      clear f0 f1 f2 f3 f4 f5 f6 f7 f8 f9 f10 f11
      generalize w4.alloc (.cells #[.int .i32 ee0, .int .i32 ee1, .int .i32 ee2] 40) = W4 at *
      refine (H5.out _).mono ?_
      rintro e w5 ⟨rfl, b5⟩
      replace hp0 := hp0.below b5 hp0.lt
      replace hp1 := hp1.below b5 hp1.lt
      replace hn3 := hn3.below b5 hn3.lt
      replace hn4 := hn4.below b5 hn4.lt
      replace hb := hb.on b5
      clear b5
      have o5hp0 := hp0.lt
      have o5hp1 := hp1.lt
      have o5hn3 := hn3.lt
      have o5hn4 := hn4.lt
      replace hp0 := hp0.alloc (.cells #[.int .i32 s0, .int .i32 s1, .int .i32 s2] 40)
      replace hp1 := hp1.alloc (.cells #[.int .i32 s0, .int .i32 s1, .int .i32 s2] 40)
      replace hn3 := hn3.alloc (.cells #[.int .i32 s0, .int .i32 s1, .int .i32 s2] 40)
      replace hn4 := hn4.alloc (.cells #[.int .i32 s0, .int .i32 s1, .int .i32 s2] 40)
      have ob5 := hb.size
      have hn5 : Blk (w5.alloc (.cells #[.int .i32 s0, .int .i32 s1, .int .i32 s2] 40)) w5.heap.size 40 #[.int .i32 s0, .int .i32 s1, .int .i32 s2] := Blk.new w5 _ _
      replace hb := hb.alloc hb.size (.cells #[.int .i32 s0, .int .i32 s1, .int .i32 s2] 40)
      have f0 : (w5.alloc (.cells #[.int .i32 s0, .int .i32 s1, .int .i32 s2] 40)).cell? ⟨w.heap.size, 0, none⟩ = some (.int .i32 a0) := hp0.cell 0
      have f1 : (w5.alloc (.cells #[.int .i32 s0, .int .i32 s1, .int .i32 s2] 40)).cell? ⟨w.heap.size, 1, none⟩ = some (.int .i32 a1) := hp0.cell 1
      have f2 : (w5.alloc (.cells #[.int .i32 s0, .int .i32 s1, .int .i32 s2] 40)).cell? ⟨w.heap.size, 2, none⟩ = some (.int .i32 a2) := hp0.cell 2
      have f3 : (w5.alloc (.cells #[.int .i32 s0, .int .i32 s1, .int .i32 s2] 40)).cell? ⟨w.heap.size + 1, 0, none⟩ = some (.int .i32 b0) := hp1.cell 0
      have f4 : (w5.alloc (.cells #[.int .i32 s0, .int .i32 s1, .int .i32 s2] 40)).cell? ⟨w.heap.size + 1, 1, none⟩ = some (.int .i32 b1) := hp1.cell 1
      have f5 : (w5.alloc (.cells #[.int .i32 s0, .int .i32 s1, .int .i32 s2] 40)).cell? ⟨w.heap.size + 1, 2, none⟩ = some (.int .i32 b2) := hp1.cell 2
      have f6 : (w5.alloc (.cells #[.int .i32 s0, .int .i32 s1, .int .i32 s2] 40)).cell? ⟨w3.heap.size, 0, none⟩ = some (.int .i32 d0) := hn3.cell 0
      have f7 : (w5.alloc (.cells #[.int .i32 s0, .int .i32 s1, .int .i32 s2] 40)).cell? ⟨w3.heap.size, 1, none⟩ = some (.int .i32 d1) := hn3.cell 1
      have f8 : (w5.alloc (.cells #[.int .i32 s0, .int .i32 s1, .int .i32 s2] 40)).cell? ⟨w3.heap.size, 2, none⟩ = some (.int .i32 d2) := hn3.cell 2
      have f9 : (w5.alloc (.cells #[.int .i32 s0, .int .i32 s1, .int .i32 s2] 40)).cell? ⟨w4.heap.size, 0, none⟩ = some (.int .i32 ee0) := hn4.cell 0
      have f10 : (w5.alloc (.cells #[.int .i32 s0, .int .i32 s1, .int .i32 s2] 40)).cell? ⟨w4.heap.size, 1, none⟩ = some (.int .i32 ee1) := hn4.cell 1
      have f11 : (w5.alloc (.cells #[.int .i32 s0, .int .i32 s1, .int .i32 s2] 40)).cell? ⟨w4.heap.size, 2, none⟩ = some (.int .i32 ee2) := hn4.cell 2
      have f12 : (w5.alloc (.cells #[.int .i32 s0, .int .i32 s1, .int .i32 s2] 40)).cell? ⟨w5.heap.size, 0, none⟩ = some (.int .i32 s0) := hn5.cell 0
      have f13 : (w5.alloc (.cells #[.int .i32 s0, .int .i32 s1, .int .i32 s2] 40)).cell? ⟨w5.heap.size, 1, none⟩ = some (.int .i32 s1) := hn5.cell 1
      have f14 : (w5.alloc (.cells #[.int .i32 s0, .int .i32 s1, .int .i32 s2] 40)).cell? ⟨w5.heap.size, 2, none⟩ = some (.int .i32 s2) := hn5.cell 2
      go_wp2_with fail
      clear f0 f1 f2 f3 f4 f5 f6 f7 f8 f9 f10 f11 f12 f13 f14
      generalize w5.alloc (.cells #[.int .i32 s0, .int .i32 s1, .int .i32 s2] 40) = W5 at *
      refine (H6.out _).mono ?_
      rintro e w6 ⟨rfl, b6⟩
      replace hp0 := hp0.below b6 hp0.lt
      replace hp1 := hp1.below b6 hp1.lt
      replace hn3 := hn3.below b6 hn3.lt
      replace hn4 := hn4.below b6 hn4.lt
      replace hn5 := hn5.below b6 hn5.lt
      replace hb := hb.on b6
      clear b6
      have o6hp0 := hp0.lt
      have o6hp1 := hp1.lt
      have o6hn3 := hn3.lt
      have o6hn4 := hn4.lt
      have o6hn5 := hn5.lt
      replace hp0 := hp0.alloc (.cells #[.int .i32 t0, .int .i32 t1, .int .i32 t2] 40)
      replace hp1 := hp1.alloc (.cells #[.int .i32 t0, .int .i32 t1, .int .i32 t2] 40)
      replace hn3 := hn3.alloc (.cells #[.int .i32 t0, .int .i32 t1, .int .i32 t2] 40)
      replace hn4 := hn4.alloc (.cells #[.int .i32 t0, .int .i32 t1, .int .i32 t2] 40)
      replace hn5 := hn5.alloc (.cells #[.int .i32 t0, .int .i32 t1, .int .i32 t2] 40)
      have ob6 := hb.size
      have hn6 : Blk (w6.alloc (.cells #[.int .i32 t0, .int .i32 t1, .int .i32 t2] 40)) w6.heap.size 40 #[.int .i32 t0, .int .i32 t1, .int .i32 t2] := Blk.new w6 _ _
      replace hb := hb.alloc hb.size (.cells #[.int .i32 t0, .int .i32 t1, .int .i32 t2] 40)
      have f0 : (w6.alloc (.cells #[.int .i32 t0, .int .i32 t1, .int .i32 t2] 40)).cell? ⟨w.heap.size, 0, none⟩ = some (.int .i32 a0) := hp0.cell 0
      have f1 : (w6.alloc (.cells #[.int .i32 t0, .int .i32 t1, .int .i32 t2] 40)).cell? ⟨w.heap.size, 1, none⟩ = some (.int .i32 a1) := hp0.cell 1
      have f2 : (w6.alloc (.cells #[.int .i32 t0, .int .i32 t1, .int .i32 t2] 40)).cell? ⟨w.heap.size, 2, none⟩ = some (.int .i32 a2) := hp0.cell 2
      have f3 : (w6.alloc (.cells #[.int .i32 t0, .int .i32 t1, .int .i32 t2] 40)).cell? ⟨w.heap.size + 1, 0, none⟩ = some (.int .i32 b0) := hp1.cell 0
      have f4 : (w6.alloc (.cells #[.int .i32 t0, .int .i32 t1, .int .i32 t2] 40)).cell? ⟨w.heap.size + 1, 1, none⟩ = some (.int .i32 b1) := hp1.cell 1
      have f5 : (w6.alloc (.cells #[.int .i32 t0, .int .i32 t1, .int .i32 t2] 40)).cell? ⟨w.heap.size + 1, 2, none⟩ = some (.int .i32 b2) := hp1.cell 2
      have f6 : (w6.alloc (.cells #[.int .i32 t0, .int .i32 t1, .int .i32 t2] 40)).cell? ⟨w3.heap.size, 0, none⟩ = some (.int .i32 d0) := hn3.cell 0
      have f7 : (w6.alloc (.cells #[.int .i32 t0, .int .i32 t1, .int .i32 t2] 40)).cell? ⟨w3.heap.size, 1, none⟩ = some (.int .i32 d1) := hn3.cell 1
      have f8 : (w6.alloc (.cells #[.int .i32 t0, .int .i32 t1, .int .i32 t2] 40)).cell? ⟨w3.heap.size, 2, none⟩ = some (.int .i32 d2) := hn3.cell 2
      have f9 : (w6.alloc (.cells #[.int .i32 t0, .int .i32 t1, .int .i32 t2] 40)).cell? ⟨w4.heap.size, 0, none⟩ = some (.int .i32 ee0) := hn4.cell 0
      have f10 : (w6.alloc (.cells #[.int .i32 t0, .int .i32 t1, .int .i32 t2] 40)).cell? ⟨w4.heap.size, 1, none⟩ = some (.int .i32 ee1) := hn4.cell 1
      have f11 : (w6.alloc (.cells #[.int .i32 t0, .int .i32 t1, .int .i32 t2] 40)).cell? ⟨w4.heap.size, 2, none⟩ = some (.int .i32 ee2) := hn4.cell 2
      have f12 : (w6.alloc (.cells #[.int .i32 t0, .int .i32 t1, .int .i32 t2] 40)).cell? ⟨w5.heap.size, 0, none⟩ = some (.int .i32 s0) := hn5.cell 0
      have f13 : (w6.alloc (.cells #[.int .i32 t0, .int .i32 t1, .int .i32 t2] 40)).cell? ⟨w5.heap.size, 1, none⟩ = some (.int .i32 s1) := hn5.cell 1
      have f14 : (w6.alloc (.cells #[.int .i32 t0, .int .i32 t1, .int .i32 t2] 40)).cell? ⟨w5.heap.size, 2, none⟩ = some (.int .i32 s2) := hn5.cell 2
      have f15 : (w6.alloc (.cells #[.int .i32 t0, .int .i32 t1, .int .i32 t2] 40)).cell? ⟨w6.heap.size, 0, none⟩ = some (.int .i32 t0) := hn6.cell 0
      have f16 : (w6.alloc (.cells #[.int .i32 t0, .int .i32 t1, .int .i32 t2] 40)).cell? ⟨w6.heap.size, 1, none⟩ = some (.int .i32 t1) := hn6.cell 1
      have f17 : (w6.alloc (.cells #[.int .i32 t0, .int .i32 t1, .int .i32 t2] 40)).cell? ⟨w6.heap.size, 2, none⟩ = some (.int .i32 t2) := hn6.cell 2
      go_wp2_with fail
      clear f0 f1 f2 f3 f4 f5 f6 f7 f8 f9 f10 f11 f12 f13 f14 f15 f16 f17
      generalize w6.alloc (.cells #[.int .i32 t0, .int .i32 t1, .int .i32 t2] 40) = W6 at *
      refine (HK.out _).mono ?_
      rintro e w7 ⟨rfl, b7⟩
      replace hp0 := hp0.below b7 hp0.lt
      replace hp1 := hp1.below b7 hp1.lt
      replace hn3 := hn3.below b7 hn3.lt
      replace hn4 := hn4.below b7 hn4.lt
      replace hn5 := hn5.below b7 hn5.lt
      replace hn6 := hn6.below b7 hn6.lt
      replace hb := hb.on b7
      clear b7
      go_wp2
      go_ret
      exact ⟨rfl, hb⟩

end Go.Proofs.Ytlcikfnhgldonaa
