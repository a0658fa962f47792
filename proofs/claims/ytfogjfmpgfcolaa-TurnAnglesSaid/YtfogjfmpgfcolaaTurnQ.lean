/- Chapter 13: the walk of TurnAngles. -/
import Derived.Test.YtfogjfmpgfcolaaTurnP
namespace Go.Proofs.Ytfogjfmpgfcolaa
open Go.RowKit
set_option linter.unusedVariables false
set_option linter.unusedSimpArgs false

set_option maxHeartbeats 8000000 in
theorem turnAngles_walk (y x a q0 q1 q2 q3 : Int) (w : World) (vy : (Lit.int .i32 y).wf = true) (vx : (Lit.int .i32 x).wf = true) (va : (Lit.int .i32 a).wf = true) (vq0 : (Lit.int .i32 q0).wf = true) (vq1 : (Lit.int .i32 q1).wf = true) (vq2 : (Lit.int .i32 q2).wf = true) (vq3 : (Lit.int .i32 q3).wf = true) :
    Calls Try.prog 6 #[.int .i32 y, .int .i32 x, .int .i32 a, .agg #[.int .i32 q0, .int .i32 q1, .int .i32 q2, .int .i32 q3]] w fun e w' => e = .returned (.bool true) ∧ Below w.heap.size w w' := by
  have iy : I32 y := bounds_i32 vy
  have ix : I32 x := bounds_i32 vx
  have ia : I32 a := bounds_i32 va
  have iq0 : I32 q0 := bounds_i32 vq0
  have iq1 : I32 q1 := bounds_i32 vq1
  have iq2 : I32 q2 := bounds_i32 vq2
  have iq3 : I32 q3 := bounds_i32 vq3
  clear vy vx va vq0 vq1 vq2 vq3
  have h1 := fun w => t_Circle a w ia
  have h2 := fun w => r13_Circle a w ia
  have h3 := fun w => t_Angles q0 q1 q2 q3 w iq0 iq1 iq2 iq3
  have h4 := fun w => r13_Angles q0 q1 q2 q3 w iq0 iq1 iq2 iq3
  have H5 := hid fun w => t_Atan y x w iy ix
  have H6 := hid fun w => r13_Atan y x w iy ix
  have HK := hid fun w => law13_knows w
  clear iq0 iq1 iq2 iq3 iy ix ia
  unfold Angs at h3 h4
  generalize (circP a).1 = c1 at *
  generalize (circP a).2 = c2 at *
  generalize atanP y x = t at *
  generalize atanP (clampP (upY q0 q1 q2 q3)) (clampP (upZ q0 q1 q2 q3)) = r1 at *
  generalize atanP (clampP (-clampP (upX q0 q1 q2 q3))) (anL (clampP (upY q0 q1 q2 q3)) (clampP (upZ q0 q1 q2 q3))) = r2 at *
  generalize atanP (anY q0 q1 q2 q3) (anX q0 q1 q2 q3) = r3 at *
  have H1 := hid h1
  have H2 := hid h2
  have H3 := hid h3
  have H4 := hid h4
  clear h1 h2 h3 h4
  go_enter Try.func6, Try.ntmps6
  have hp0 : Blk (w.alloc (.cells #[.int .i32 q0, .int .i32 q1, .int .i32 q2, .int .i32 q3] 23)) w.heap.size 23 #[.int .i32 q0, .int .i32 q1, .int .i32 q2, .int .i32 q3] := Blk.new w _ _
  have hb : Below w.heap.size w (w.alloc (.cells #[.int .i32 q0, .int .i32 q1, .int .i32 q2, .int .i32 q3] 23)) := (Below.refl _ w).alloc (Nat.le_refl _) _
  go_wp2_with fail
  generalize w.alloc (.cells #[.int .i32 q0, .int .i32 q1, .int .i32 q2, .int .i32 q3] 23) = W0 at *
  refine (H1.out _).mono ?_
  rintro e w1 ⟨rfl, b1⟩
  replace hp0 := hp0.below b1 hp0.lt
  replace hb := below_on hb b1
  clear b1
  go_wp2_with fail
  generalize w1 = W1 at *
  refine (H2.out _).mono ?_
  rintro e w2 ⟨rfl, b2⟩
  replace hp0 := hp0.below b2 hp0.lt
  replace hb := below_on hb b2
  clear b2
  have f0 : (w2).cell? ⟨w.heap.size, 0, none⟩ = some (.int .i32 q0) := hp0.cell 0
  have f1 : (w2).cell? ⟨w.heap.size, 1, none⟩ = some (.int .i32 q1) := hp0.cell 1
  have f2 : (w2).cell? ⟨w.heap.size, 2, none⟩ = some (.int .i32 q2) := hp0.cell 2
  have f3 : (w2).cell? ⟨w.heap.size, 3, none⟩ = some (.int .i32 q3) := hp0.cell 3
  go_wp2_with fail
  clear f0 f1 f2 f3
  generalize w2 = W2 at *
  refine (H3.out _).mono ?_
  rintro e w3 ⟨rfl, b3⟩
  replace hp0 := hp0.below b3 hp0.lt
  replace hb := below_on hb b3
  clear b3
  have f0 : (w3).cell? ⟨w.heap.size, 0, none⟩ = some (.int .i32 q0) := hp0.cell 0
  have f1 : (w3).cell? ⟨w.heap.size, 1, none⟩ = some (.int .i32 q1) := hp0.cell 1
  have f2 : (w3).cell? ⟨w.heap.size, 2, none⟩ = some (.int .i32 q2) := hp0.cell 2
  have f3 : (w3).cell? ⟨w.heap.size, 3, none⟩ = some (.int .i32 q3) := hp0.cell 3
  go_wp2_with fail
  clear f0 f1 f2 f3
  generalize w3 = W3 at *
  refine (H4.out _).mono ?_
  rintro e w4 ⟨rfl, b4⟩
  replace hp0 := hp0.below b4 hp0.lt
  replace hb := below_on hb b4
  clear b4
  go_wp2_with fail
  generalize w4 = W4 at *
  refine (H5.out _).mono ?_
  rintro e w5 ⟨rfl, b5⟩
  replace hp0 := hp0.below b5 hp0.lt
  replace hb := below_on hb b5
  clear b5
  go_wp2_with fail
  generalize w5 = W5 at *
  refine (H6.out _).mono ?_
  rintro e w6 ⟨rfl, b6⟩
  replace hp0 := hp0.below b6 hp0.lt
  replace hb := below_on hb b6
  clear b6
  go_wp2_with fail
  generalize w6 = W6 at *
  refine (HK.out _).mono ?_
  rintro e w7 ⟨rfl, b7⟩
  replace hp0 := hp0.below b7 hp0.lt
  replace hb := below_on hb b7
  clear b7
  go_wp2
  go_ret
  exact ⟨rfl, hb⟩
end Go.Proofs.Ytfogjfmpgfcolaa
