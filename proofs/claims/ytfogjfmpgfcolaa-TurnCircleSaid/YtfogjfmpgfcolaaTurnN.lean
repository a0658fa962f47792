/- Chapter 13: what must come; the walk of TurnRotates. -/
import Derived.Test.YtfogjfmpgfcolaaTurnE
import Derived.Test.YtfogjfmpgfcolaaTurnF
import Derived.Test.YtfogjfmpgfcolaaTurnG
import Derived.Test.YtfogjfmpgfcolaaTurnK
import Derived.Laws.StructEq
namespace Go.Proofs.Ytfogjfmpgfcolaa
open Go.RowKit
set_option linter.unusedVariables false
set_option linter.unusedSimpArgs false

theorem below_on {w0 w w' : World} (h : Below w0.heap.size w0 w) (k : Below w.heap.size w w') : Below w0.heap.size w0 w' := h.trans (k.mono h.size)
theorem law13_knows (w : World) :
    Calls Try.prog 17 #[] w fun e w' => e = .returned (.bool true) ∧ Below w.heap.size w w' := by
  have z : I32 0 := by unfold I32; omega
  have k1 : I32 65536 := by unfold I32; omega
  have k2 : I32 759250125 := by unfold I32; omega
  have k3 : I32 1073741824 := by unfold I32; omega
  have h1 := fun w => t_Rotate 759250125 0 0 759250125 65536 0 0 w k2 z z k2 k1 z z
  have h2 := fun w => t_Up 1073741824 0 0 0 w k3 z z z
  have H3 := hid fun w => t_Atan 0 (-1) w z (by unfold I32; omega)
  have e3 : atanP 0 (-1) = -2147483648 := by decide +kernel
  unfold Rots at h1
  unfold Ups at h2
  obtain ⟨n, hn⟩ : ∃ n, (cutC (rtT0 0 0 759250125 65536 0 0) + cutC (rtT1 0 0 759250125 65536 0 0) + cutC (rtT2 0 0 759250125 65536 0 0) + (cutC (rtR0 759250125 0 0 759250125 65536 0 0 (clampP (rtT0 0 0 759250125 65536 0 0)) (clampP (rtT1 0 0 759250125 65536 0 0)) (clampP (rtT2 0 0 759250125 65536 0 0))) + cutC (rtR1 759250125 0 0 759250125 65536 0 0 (clampP (rtT0 0 0 759250125 65536 0 0)) (clampP (rtT1 0 0 759250125 65536 0 0)) (clampP (rtT2 0 0 759250125 65536 0 0))) + cutC (rtR2 759250125 0 0 759250125 65536 0 0 (clampP (rtT0 0 0 759250125 65536 0 0)) (clampP (rtT1 0 0 759250125 65536 0 0)) (clampP (rtT2 0 0 759250125 65536 0 0))))) = n := ⟨_, rfl⟩
  rw [hn] at h1
  clear hn
  have a0 : clampP (rtR0 759250125 0 0 759250125 65536 0 0 (clampP (rtT0 0 0 759250125 65536 0 0)) (clampP (rtT1 0 0 759250125 65536 0 0)) (clampP (rtT2 0 0 759250125 65536 0 0))) = 0 := by decide +kernel
  have a1 : clampP (rtR1 759250125 0 0 759250125 65536 0 0 (clampP (rtT0 0 0 759250125 65536 0 0)) (clampP (rtT1 0 0 759250125 65536 0 0)) (clampP (rtT2 0 0 759250125 65536 0 0))) = 65536 := by decide +kernel
  have a2 : clampP (rtR2 759250125 0 0 759250125 65536 0 0 (clampP (rtT0 0 0 759250125 65536 0 0)) (clampP (rtT1 0 0 759250125 65536 0 0)) (clampP (rtT2 0 0 759250125 65536 0 0))) = 0 := by decide +kernel
  rw [a0, a1, a2] at h1
  have b0 : clampP (upX 1073741824 0 0 0) = 0 := by decide +kernel
  have b1 : clampP (upY 1073741824 0 0 0) = 0 := by decide +kernel
  have b2 : clampP (upZ 1073741824 0 0 0) = 1073741824 := by decide +kernel
  rw [b0, b1, b2] at h2
  rw [e3] at H3
  have H1 := hid h1
  have H2 := hid h2
  clear h1 h2 a0 a1 a2 b0 b1 b2 z k1 k2 k3 e3
  go_enter Try.func17, Try.ntmps17
  go_wp2_with fail
  refine (H1.out _).mono ?_
  rintro e w1 ⟨rfl, b1⟩
  have hA := Blk.new w1 25 #[.int .i32 0, .int .i32 65536, .int .i32 0]
  replace b1 := b1.alloc b1.size (.cells #[.int .i32 0, .int .i32 65536, .int .i32 0] 25)
  go_wp2_with fail
  generalize w1.alloc (.cells #[.int .i32 0, .int .i32 65536, .int .i32 0] 25) = W1 at *
  generalize w1.heap.size = g1 at *
  refine (H3.out _).mono ?_
  rintro e w2 ⟨rfl, b2⟩
  replace hA := hA.below b2 hA.lt
  have c0 : w2.cell? ⟨g1, 0, none⟩ = some (.int .i32 0) := hA.cell 0
  have c1 : w2.cell? ⟨g1, 1, none⟩ = some (.int .i32 65536) := hA.cell 1
  have c2 : w2.cell? ⟨g1, 2, none⟩ = some (.int .i32 0) := hA.cell 2
  go_wp2_with fail
  refine (H2.out _).mono ?_
  rintro e w3 ⟨rfl, b3⟩
  go_wp2
  go_ret
  exact ⟨rfl, below_on (below_on b1 b2) b3⟩

set_option maxHeartbeats 8000000 in
theorem turnRotates_walk (q0 q1 q2 q3 v0 v1 v2 : Int) (w : World) (vq0 : (Lit.int .i32 q0).wf = true) (vq1 : (Lit.int .i32 q1).wf = true) (vq2 : (Lit.int .i32 q2).wf = true) (vq3 : (Lit.int .i32 q3).wf = true) (vv0 : (Lit.int .i32 v0).wf = true) (vv1 : (Lit.int .i32 v1).wf = true) (vv2 : (Lit.int .i32 v2).wf = true) :
    Calls Try.prog 3 #[.agg #[.int .i32 q0, .int .i32 q1, .int .i32 q2, .int .i32 q3], .agg #[.int .i32 v0, .int .i32 v1, .int .i32 v2]] w fun e w' => e = .returned (.bool true) ∧ Below w.heap.size w w' := by
  have iq0 : I32 q0 := bounds_i32 vq0
  have iq1 : I32 q1 := bounds_i32 vq1
  have iq2 : I32 q2 := bounds_i32 vq2
  have iq3 : I32 q3 := bounds_i32 vq3
  have iv0 : I32 v0 := bounds_i32 vv0
  have iv1 : I32 v1 := bounds_i32 vv1
  have iv2 : I32 v2 := bounds_i32 vv2
  clear vq0 vq1 vq2 vq3 vv0 vv1 vv2
  have h1 := fun w => t_Rotate q0 q1 q2 q3 v0 v1 v2 w iq0 iq1 iq2 iq3 iv0 iv1 iv2
  have h2 := fun w => r13_Rotate q0 q1 q2 q3 v0 v1 v2 w iq0 iq1 iq2 iq3 iv0 iv1 iv2
  have h3 := fun w => t_Up q0 q1 q2 q3 w iq0 iq1 iq2 iq3
  have h4 := fun w => r13_Up q0 q1 q2 q3 w iq0 iq1 iq2 iq3
  have HK := hid fun w => law13_knows w
  clear iq0 iq1 iq2 iq3 iv0 iv1 iv2
  unfold Rots at h1 h2
  unfold Ups at h3 h4
  generalize clampP (rtR0 q0 q1 q2 q3 v0 v1 v2 (clampP (rtT0 q1 q2 q3 v0 v1 v2)) (clampP (rtT1 q1 q2 q3 v0 v1 v2)) (clampP (rtT2 q1 q2 q3 v0 v1 v2))) = x0 at *
  generalize clampP (rtR1 q0 q1 q2 q3 v0 v1 v2 (clampP (rtT0 q1 q2 q3 v0 v1 v2)) (clampP (rtT1 q1 q2 q3 v0 v1 v2)) (clampP (rtT2 q1 q2 q3 v0 v1 v2))) = x1 at *
  generalize clampP (rtR2 q0 q1 q2 q3 v0 v1 v2 (clampP (rtT0 q1 q2 q3 v0 v1 v2)) (clampP (rtT1 q1 q2 q3 v0 v1 v2)) (clampP (rtT2 q1 q2 q3 v0 v1 v2))) = x2 at *
  generalize cutC (rtT0 q1 q2 q3 v0 v1 v2) + cutC (rtT1 q1 q2 q3 v0 v1 v2) + cutC (rtT2 q1 q2 q3 v0 v1 v2) + (cutC (rtR0 q0 q1 q2 q3 v0 v1 v2 (clampP (rtT0 q1 q2 q3 v0 v1 v2)) (clampP (rtT1 q1 q2 q3 v0 v1 v2)) (clampP (rtT2 q1 q2 q3 v0 v1 v2))) + cutC (rtR1 q0 q1 q2 q3 v0 v1 v2 (clampP (rtT0 q1 q2 q3 v0 v1 v2)) (clampP (rtT1 q1 q2 q3 v0 v1 v2)) (clampP (rtT2 q1 q2 q3 v0 v1 v2))) + cutC (rtR2 q0 q1 q2 q3 v0 v1 v2 (clampP (rtT0 q1 q2 q3 v0 v1 v2)) (clampP (rtT1 q1 q2 q3 v0 v1 v2)) (clampP (rtT2 q1 q2 q3 v0 v1 v2)))) = N at *
  generalize clampP (upX q0 q1 q2 q3) = y0 at *
  generalize clampP (upY q0 q1 q2 q3) = y1 at *
  generalize clampP (upZ q0 q1 q2 q3) = y2 at *
  have H1 := hid h1
  have H2 := hid h2
  have H3 := hid h3
  have H4 := hid h4
  clear h1 h2 h3 h4
  go_enter Try.func3, Try.ntmps3
  have hp0 : Blk (w.alloc (.cells #[.int .i32 q0, .int .i32 q1, .int .i32 q2, .int .i32 q3] 23)) w.heap.size 23 #[.int .i32 q0, .int .i32 q1, .int .i32 q2, .int .i32 q3] := Blk.new w _ _
  have hb : Below w.heap.size w (w.alloc (.cells #[.int .i32 q0, .int .i32 q1, .int .i32 q2, .int .i32 q3] 23)) := (Below.refl _ w).alloc (Nat.le_refl _) _
  replace hp0 := hp0.alloc (.cells #[.int .i32 v0, .int .i32 v1, .int .i32 v2] 25)
  have hp1 : Blk ((w.alloc (.cells #[.int .i32 q0, .int .i32 q1, .int .i32 q2, .int .i32 q3] 23)).alloc (.cells #[.int .i32 v0, .int .i32 v1, .int .i32 v2] 25)) (w.heap.size + 1) 25 #[.int .i32 v0, .int .i32 v1, .int .i32 v2] := by have := Blk.new (w.alloc (.cells #[.int .i32 q0, .int .i32 q1, .int .i32 q2, .int .i32 q3] 23)) 25 #[.int .i32 v0, .int .i32 v1, .int .i32 v2]; simpa using this
  replace hb := hb.alloc hb.size (.cells #[.int .i32 v0, .int .i32 v1, .int .i32 v2] 25)
  go_wp2_with fail
  generalize (w.alloc (.cells #[.int .i32 q0, .int .i32 q1, .int .i32 q2, .int .i32 q3] 23)).alloc (.cells #[.int .i32 v0, .int .i32 v1, .int .i32 v2] 25) = W0 at *
  refine (H1.out _).mono ?_
  rintro e w1 ⟨rfl, b1⟩
  replace hp0 := hp0.below b1 hp0.lt
  replace hp1 := hp1.below b1 hp1.lt
  replace hb := below_on hb b1
  clear b1
  have o1hp0 := hp0.lt
  have o1hp1 := hp1.lt
  replace hp0 := hp0.alloc (.cells #[.int .i32 x0, .int .i32 x1, .int .i32 x2] 25)
  replace hp1 := hp1.alloc (.cells #[.int .i32 x0, .int .i32 x1, .int .i32 x2] 25)
  have ob1 := hb.size
  have hn1 : Blk (w1.alloc (.cells #[.int .i32 x0, .int .i32 x1, .int .i32 x2] 25)) w1.heap.size 25 #[.int .i32 x0, .int .i32 x1, .int .i32 x2] := Blk.new w1 _ _
  replace hb := hb.alloc hb.size (.cells #[.int .i32 x0, .int .i32 x1, .int .i32 x2] 25)
  have f0 : (w1.alloc (.cells #[.int .i32 x0, .int .i32 x1, .int .i32 x2] 25)).cell? ⟨w.heap.size, 0, none⟩ = some (.int .i32 q0) := hp0.cell 0
  have f1 : (w1.alloc (.cells #[.int .i32 x0, .int .i32 x1, .int .i32 x2] 25)).cell? ⟨w.heap.size, 1, none⟩ = some (.int .i32 q1) := hp0.cell 1
  have f2 : (w1.alloc (.cells #[.int .i32 x0, .int .i32 x1, .int .i32 x2] 25)).cell? ⟨w.heap.size, 2, none⟩ = some (.int .i32 q2) := hp0.cell 2
  have f3 : (w1.alloc (.cells #[.int .i32 x0, .int .i32 x1, .int .i32 x2] 25)).cell? ⟨w.heap.size, 3, none⟩ = some (.int .i32 q3) := hp0.cell 3
  have f4 : (w1.alloc (.cells #[.int .i32 x0, .int .i32 x1, .int .i32 x2] 25)).cell? ⟨w.heap.size + 1, 0, none⟩ = some (.int .i32 v0) := hp1.cell 0
  have f5 : (w1.alloc (.cells #[.int .i32 x0, .int .i32 x1, .int .i32 x2] 25)).cell? ⟨w.heap.size + 1, 1, none⟩ = some (.int .i32 v1) := hp1.cell 1
  have f6 : (w1.alloc (.cells #[.int .i32 x0, .int .i32 x1, .int .i32 x2] 25)).cell? ⟨w.heap.size + 1, 2, none⟩ = some (.int .i32 v2) := hp1.cell 2
  have f7 : (w1.alloc (.cells #[.int .i32 x0, .int .i32 x1, .int .i32 x2] 25)).cell? ⟨w1.heap.size, 0, none⟩ = some (.int .i32 x0) := hn1.cell 0
  have f8 : (w1.alloc (.cells #[.int .i32 x0, .int .i32 x1, .int .i32 x2] 25)).cell? ⟨w1.heap.size, 1, none⟩ = some (.int .i32 x1) := hn1.cell 1
  have f9 : (w1.alloc (.cells #[.int .i32 x0, .int .i32 x1, .int .i32 x2] 25)).cell? ⟨w1.heap.size, 2, none⟩ = some (.int .i32 x2) := hn1.cell 2
  go_wp2_with fail
  clear f0 f1 f2 f3 f4 f5 f6 f7 f8 f9
  generalize w1.alloc (.cells #[.int .i32 x0, .int .i32 x1, .int .i32 x2] 25) = W1 at *
  refine (H2.out _).mono ?_
  rintro e w2 ⟨rfl, b2⟩
  replace hp0 := hp0.below b2 hp0.lt
  replace hp1 := hp1.below b2 hp1.lt
  replace hn1 := hn1.below b2 hn1.lt
  replace hb := below_on hb b2
  clear b2
  have o2hp0 := hp0.lt
  have o2hp1 := hp1.lt
  have o2hn1 := hn1.lt
  replace hp0 := hp0.alloc (.cells #[.int .i32 x0, .int .i32 x1, .int .i32 x2] 25)
  replace hp1 := hp1.alloc (.cells #[.int .i32 x0, .int .i32 x1, .int .i32 x2] 25)
  replace hn1 := hn1.alloc (.cells #[.int .i32 x0, .int .i32 x1, .int .i32 x2] 25)
  have ob2 := hb.size
  have hn2 : Blk (w2.alloc (.cells #[.int .i32 x0, .int .i32 x1, .int .i32 x2] 25)) w2.heap.size 25 #[.int .i32 x0, .int .i32 x1, .int .i32 x2] := Blk.new w2 _ _
  replace hb := hb.alloc hb.size (.cells #[.int .i32 x0, .int .i32 x1, .int .i32 x2] 25)
  have f0 : (w2.alloc (.cells #[.int .i32 x0, .int .i32 x1, .int .i32 x2] 25)).cell? ⟨w.heap.size, 0, none⟩ = some (.int .i32 q0) := hp0.cell 0
  have f1 : (w2.alloc (.cells #[.int .i32 x0, .int .i32 x1, .int .i32 x2] 25)).cell? ⟨w.heap.size, 1, none⟩ = some (.int .i32 q1) := hp0.cell 1
  have f2 : (w2.alloc (.cells #[.int .i32 x0, .int .i32 x1, .int .i32 x2] 25)).cell? ⟨w.heap.size, 2, none⟩ = some (.int .i32 q2) := hp0.cell 2
  have f3 : (w2.alloc (.cells #[.int .i32 x0, .int .i32 x1, .int .i32 x2] 25)).cell? ⟨w.heap.size, 3, none⟩ = some (.int .i32 q3) := hp0.cell 3
  have f4 : (w2.alloc (.cells #[.int .i32 x0, .int .i32 x1, .int .i32 x2] 25)).cell? ⟨w.heap.size + 1, 0, none⟩ = some (.int .i32 v0) := hp1.cell 0
  have f5 : (w2.alloc (.cells #[.int .i32 x0, .int .i32 x1, .int .i32 x2] 25)).cell? ⟨w.heap.size + 1, 1, none⟩ = some (.int .i32 v1) := hp1.cell 1
  have f6 : (w2.alloc (.cells #[.int .i32 x0, .int .i32 x1, .int .i32 x2] 25)).cell? ⟨w.heap.size + 1, 2, none⟩ = some (.int .i32 v2) := hp1.cell 2
  have f7 : (w2.alloc (.cells #[.int .i32 x0, .int .i32 x1, .int .i32 x2] 25)).cell? ⟨w1.heap.size, 0, none⟩ = some (.int .i32 x0) := hn1.cell 0
  have f8 : (w2.alloc (.cells #[.int .i32 x0, .int .i32 x1, .int .i32 x2] 25)).cell? ⟨w1.heap.size, 1, none⟩ = some (.int .i32 x1) := hn1.cell 1
  have f9 : (w2.alloc (.cells #[.int .i32 x0, .int .i32 x1, .int .i32 x2] 25)).cell? ⟨w1.heap.size, 2, none⟩ = some (.int .i32 x2) := hn1.cell 2
  have f10 : (w2.alloc (.cells #[.int .i32 x0, .int .i32 x1, .int .i32 x2] 25)).cell? ⟨w2.heap.size, 0, none⟩ = some (.int .i32 x0) := hn2.cell 0
  have f11 : (w2.alloc (.cells #[.int .i32 x0, .int .i32 x1, .int .i32 x2] 25)).cell? ⟨w2.heap.size, 1, none⟩ = some (.int .i32 x1) := hn2.cell 1
  have f12 : (w2.alloc (.cells #[.int .i32 x0, .int .i32 x1, .int .i32 x2] 25)).cell? ⟨w2.heap.size, 2, none⟩ = some (.int .i32 x2) := hn2.cell 2
  go_upto_region 3 with fail
  clear f0 f1 f2 f3 f4 f5 f6 f7 f8 f9 f10 f11 f12
  generalize w2.alloc (.cells #[.int .i32 x0, .int .i32 x1, .int .i32 x2] 25) = W2 at *
  refine wp_region_noPanic ?_
  refine wp_region_held_drew (S := (fun w' : World => w'.cell? ⟨w.heap.size, 0, none⟩ = some (.int .i32 q0) ∧ w'.cell? ⟨w.heap.size, 1, none⟩ = some (.int .i32 q1) ∧ w'.cell? ⟨w.heap.size, 2, none⟩ = some (.int .i32 q2) ∧ w'.cell? ⟨w.heap.size, 3, none⟩ = some (.int .i32 q3) ∧ w'.cell? ⟨w.heap.size + 1, 0, none⟩ = some (.int .i32 v0) ∧ w'.cell? ⟨w.heap.size + 1, 1, none⟩ = some (.int .i32 v1) ∧ w'.cell? ⟨w.heap.size + 1, 2, none⟩ = some (.int .i32 v2) ∧ w'.cell? ⟨w1.heap.size, 0, none⟩ = some (.int .i32 x0) ∧ w'.cell? ⟨w1.heap.size, 1, none⟩ = some (.int .i32 x1) ∧ w'.cell? ⟨w1.heap.size, 2, none⟩ = some (.int .i32 x2) ∧ w'.cell? ⟨w2.heap.size, 0, none⟩ = some (.int .i32 x0) ∧ w'.cell? ⟨w2.heap.size, 1, none⟩ = some (.int .i32 x1) ∧ w'.cell? ⟨w2.heap.size, 2, none⟩ = some (.int .i32 x2))) (by kernel_rfl) ⟨hp0.cell 0, hp0.cell 1, hp0.cell 2, hp0.cell 3, hp1.cell 0, hp1.cell 1, hp1.cell 2, hn1.cell 0, hn1.cell 1, hn1.cell 2, hn2.cell 0, hn2.cell 1, hn2.cell 2⟩ (fun hHeld => ?_)
  refine (show wpAnyH _ _ _ _ _ 19 _ _ _ from ?_)
  try (simp only [Act.put, List.setIfInBounds_toArray, List.set_cons_zero, List.set_cons_succ])
  replace hp0 := hp0.drew
  replace hp1 := hp1.drew
  replace hn1 := hn1.drew
  replace hn2 := hn2.drew
  replace hb := hb.drew
  generalize W2.drew = W1 at *
  refine tk 0 hHeld ?_
  refine tk 1 hHeld ?_
  refine tk 2 hHeld ?_
  refine tk 3 hHeld ?_
  refine tk 4 hHeld ?_
  refine tk 5 hHeld ?_
  refine tk 6 hHeld ?_
  refine tk 7 hHeld ?_
  refine tk 8 hHeld ?_
  refine tk 9 hHeld ?_
  refine tk 11 hHeld ?_
  refine rd1 10 (fun K hK => ?_)
  go_simp
  refine (H3.out _).mono ?_
  rintro e w2x ⟨rfl, b2x⟩
  go_wp2_with fail
  refine hK.out _ _ ⟨(hp0.below b2x hp0.lt).cell 0, (hp0.below b2x hp0.lt).cell 1, (hp0.below b2x hp0.lt).cell 2, (hp0.below b2x hp0.lt).cell 3, (hp1.below b2x hp1.lt).cell 0, (hp1.below b2x hp1.lt).cell 1, (hp1.below b2x hp1.lt).cell 2, (hn1.below b2x hn1.lt).cell 0, (hn1.below b2x hn1.lt).cell 1, (hn1.below b2x hn1.lt).cell 2, (hn2.below b2x hn2.lt).cell 0, (hn2.below b2x hn2.lt).cell 1, (hn2.below b2x hn2.lt).cell 2⟩ (fun hHeld => ?_)
  clear hK K
  try (simp only [Act.put, List.setIfInBounds_toArray, List.set_cons_zero, List.set_cons_succ])
  refine rd1 12 (fun K hK => ?_)
  go_simp
  refine (H4.out _).mono ?_
  rintro e w3x ⟨rfl, b3x⟩
  go_wp2_with fail
  have B3x := below_on b2x b3x
  refine hK.out _ _ ⟨(hp0.below B3x hp0.lt).cell 0, (hp0.below B3x hp0.lt).cell 1, (hp0.below B3x hp0.lt).cell 2, (hp0.below B3x hp0.lt).cell 3, (hp1.below B3x hp1.lt).cell 0, (hp1.below B3x hp1.lt).cell 1, (hp1.below B3x hp1.lt).cell 2, (hn1.below B3x hn1.lt).cell 0, (hn1.below B3x hn1.lt).cell 1, (hn1.below B3x hn1.lt).cell 2, (hn2.below B3x hn2.lt).cell 0, (hn2.below B3x hn2.lt).cell 1, (hn2.below B3x hn2.lt).cell 2⟩ (fun hHeld => ?_)
  clear hK K
  try (simp only [Act.put, List.setIfInBounds_toArray, List.set_cons_zero, List.set_cons_succ])
  refine tk 13 hHeld ?_
  refine tk 14 hHeld ?_
  refine tk 15 hHeld ?_
  refine rd1 16 (fun K hK => ?_)
  go_simp
  refine (HK.out _).mono ?_
  rintro e w4x ⟨rfl, b4x⟩
  go_wp2_with fail
  have B4x := B3x.on b4x
  refine hK.out _ _ ⟨(hp0.below B4x hp0.lt).cell 0, (hp0.below B4x hp0.lt).cell 1, (hp0.below B4x hp0.lt).cell 2, (hp0.below B4x hp0.lt).cell 3, (hp1.below B4x hp1.lt).cell 0, (hp1.below B4x hp1.lt).cell 1, (hp1.below B4x hp1.lt).cell 2, (hn1.below B4x hn1.lt).cell 0, (hn1.below B4x hn1.lt).cell 1, (hn1.below B4x hn1.lt).cell 2, (hn2.below B4x hn2.lt).cell 0, (hn2.below B4x hn2.lt).cell 1, (hn2.below B4x hn2.lt).cell 2⟩ (fun hHeld => ?_)
  clear hK K
  try (simp only [Act.put, List.setIfInBounds_toArray, List.set_cons_zero, List.set_cons_succ])
  refine tk 17 hHeld ?_
  refine tk 18 hHeld ?_
  refine wpAnyH_done ?hru5 ?hqu5 _
  case hru5 => kernel_rfl
  refine NoPanic.normal ?_
  go_wp2
  go_ret
  exact ⟨rfl, below_on hb B4x⟩
end Go.Proofs.Ytfogjfmpgfcolaa
