/- Chapter 09: what must come; the walk of VecOps. -/
import Derived.Test.YtlcikfnhgldonaaVecI
import Derived.Test.YtlcikfnhgldonaaUnitF
import Derived.Laws.StructEq
namespace Go.Proofs.Ytlcikfnhgldonaa
open Go.RowKit
set_option linter.unusedVariables false
set_option linter.unusedSimpArgs false

theorem law09_knows (w : World) :
    Calls Try.prog 36 #[] w fun e w' => e = .returned (.bool true) ∧ Below w.heap.size w w' := by
  have z : I32 0 := by unfold I32; omega
  have k1 : I32 65536 := by unfold I32; omega
  have h1 := fun w => v_Cross 65536 0 0 0 65536 0 w k1 z z z k1 z
  have h2 := fun w => v_Unit 0 0 5 w z z (by unfold I32; omega)
  have t0 : clampP (tvP 0 0 - tvP 0 65536) = 0 := by decide +kernel
  have t1 : clampP (tvP 0 0 - tvP 65536 0) = 0 := by decide +kernel
  have t2 : clampP (tvP 65536 65536 - tvP 0 0) = 65536 := by decide +kernel
  have t3 : cutC (tvP 0 0 - tvP 0 65536) + cutC (tvP 0 0 - tvP 65536 0) + cutC (tvP 65536 65536 - tvP 0 0) = 0 := by decide +kernel
  have m0 : ¬ farP [0, 0, 5] = 0 := by decide +kernel
  have m1 : upN [0, 0, 5] = 28 := by decide +kernel
  have m2 : sqP (upL [0, 0, 5]) = 1801439850948198400 := by decide +kernel
  have m3 : lenP [0, 0, 5] = 1342177280 := by unfold lenP; rw [m2]; exact root_is _ _ (by omega) (by omega) (by decide +kernel) (by decide +kernel)
  have e0 : makeP [0, 0, 5] 0 = 0 := by unfold makeP oneP; rw [if_neg m0, m3, m1]; decide +kernel
  have e1 : makeP [0, 0, 5] 5 = 1073741824 := by unfold makeP oneP; rw [if_neg m0, m3, m1]; decide +kernel
  have e2 : decide (0 < farP [0, 0, 5]) = true := by decide +kernel
  unfold Makes3 at h2
  simp only [e0, e1, e2] at h2
  simp only [t0, t1, t2, t3] at h1
  have H1 := hid h1
  have H2 := hid h2
  clear h1 h2 t0 t1 t2 t3 m0 m1 m2 m3 e0 e1 e2 z k1
  go_enter Try.func36, Try.ntmps36
  go_wp2_with fail
  refine (H1.out _).mono ?_
  rintro e w1 ⟨rfl, b1⟩
  have hA := Blk.new w1 40 #[.int .i32 0, .int .i32 0, .int .i32 65536]
  replace b1 := b1.alloc b1.size (.cells #[.int .i32 0, .int .i32 0, .int .i32 65536] 40)
  go_wp2_with fail
  generalize w1.alloc (.cells #[.int .i32 0, .int .i32 0, .int .i32 65536] 40) = W1 at *
  generalize w1.heap.size = g1 at *
  refine (H2.out _).mono ?_
  rintro e w2 ⟨rfl, b2⟩
  replace hA := (hA.below b2 hA.lt).alloc (.cells #[.int .i32 0, .int .i32 0, .int .i32 1073741824] 40)
  have f0 : (w2.alloc (.cells #[.int .i32 0, .int .i32 0, .int .i32 1073741824] 40)).cell? ⟨g1, 0, none⟩ = some (.int .i32 0) := hA.cell 0
  have f1 : (w2.alloc (.cells #[.int .i32 0, .int .i32 0, .int .i32 1073741824] 40)).cell? ⟨g1, 1, none⟩ = some (.int .i32 0) := hA.cell 1
  have f2 : (w2.alloc (.cells #[.int .i32 0, .int .i32 0, .int .i32 1073741824] 40)).cell? ⟨g1, 2, none⟩ = some (.int .i32 65536) := hA.cell 2
  go_wp2
  go_ret
  exact ⟨rfl, (b1.on b2).alloc (b1.on b2).size _⟩

set_option maxHeartbeats 16000000 in
theorem vecOps_walk (a0 a1 a2 b0 b1 b2 k : Int) (w : World) (va0 : (Lit.int .i32 a0).wf = true) (va1 : (Lit.int .i32 a1).wf = true) (va2 : (Lit.int .i32 a2).wf = true) (vb0 : (Lit.int .i32 b0).wf = true) (vb1 : (Lit.int .i32 b1).wf = true) (vb2 : (Lit.int .i32 b2).wf = true) (vk : (Lit.int .i32 k).wf = true) :
    Calls Try.prog 11 #[.agg #[.int .i32 a0, .int .i32 a1, .int .i32 a2], .agg #[.int .i32 b0, .int .i32 b1, .int .i32 b2], .int .i32 k] w fun e w' => e = .returned (.bool true) ∧ Below w.heap.size w w' := by
  have ia0 : I32 a0 := bounds_i32 va0
  have ia1 : I32 a1 := bounds_i32 va1
  have ia2 : I32 a2 := bounds_i32 va2
  have ib0 : I32 b0 := bounds_i32 vb0
  have ib1 : I32 b1 := bounds_i32 vb1
  have ib2 : I32 b2 := bounds_i32 vb2
  have ik : I32 k := bounds_i32 vk
  clear va0 va1 va2 vb0 vb1 vb2 vk
  have h1 := fun w => v_Add a0 a1 a2 b0 b1 b2 w ia0 ia1 ia2 ib0 ib1 ib2
  have h2 := fun w => r9_Add a0 a1 a2 b0 b1 b2 w ia0 ia1 ia2 ib0 ib1 ib2
  have h3 := fun w => v_Sub a0 a1 a2 b0 b1 b2 w ia0 ia1 ia2 ib0 ib1 ib2
  have h4 := fun w => r9_Sub a0 a1 a2 b0 b1 b2 w ia0 ia1 ia2 ib0 ib1 ib2
  have h5 := fun w => v_Scale a0 a1 a2 k w ia0 ia1 ia2 ik
  have h6 := fun w => r9_Scale a0 a1 a2 k w ia0 ia1 ia2 ik
  have HK := hid fun w => law09_knows w
  clear ia0 ia1 ia2 ib0 ib1 ib2 ik
  generalize clampP (a0 + b0) = x0 at *
  generalize clampP (a1 + b1) = x1 at *
  generalize clampP (a2 + b2) = x2 at *
  generalize cutC (a0 + b0) + cutC (a1 + b1) + cutC (a2 + b2) = nx at *
  generalize clampP (a0 - b0) = y0 at *
  generalize clampP (a1 - b1) = y1 at *
  generalize clampP (a2 - b2) = y2 at *
  generalize cutC (a0 - b0) + cutC (a1 - b1) + cutC (a2 - b2) = ny at *
  generalize clampP (tvP a0 k) = z0 at *
  generalize clampP (tvP a1 k) = z1 at *
  generalize clampP (tvP a2 k) = z2 at *
  generalize cutC (tvP a0 k) + cutC (tvP a1 k) + cutC (tvP a2 k) = nz at *
  have H1 := hid h1
  have H2 := hid h2
  have H3 := hid h3
  have H4 := hid h4
  have H5 := hid h5
  have H6 := hid h6
  clear h1 h2 h3 h4 h5 h6
  go_enter Try.func11, Try.ntmps11
  have hp0 : Blk (w.alloc (.cells #[.int .i32 a0, .int .i32 a1, .int .i32 a2] 40)) w.heap.size 40 #[.int .i32 a0, .int .i32 a1, .int .i32 a2] := Blk.new w _ _
  have hb : Below w.heap.size w (w.alloc (.cells #[.int .i32 a0, .int .i32 a1, .int .i32 a2] 40)) := (Below.refl _ w).alloc (Nat.le_refl _) _
  replace hp0 := hp0.alloc (.cells #[.int .i32 b0, .int .i32 b1, .int .i32 b2] 40)
  have hp1 : Blk ((w.alloc (.cells #[.int .i32 a0, .int .i32 a1, .int .i32 a2] 40)).alloc (.cells #[.int .i32 b0, .int .i32 b1, .int .i32 b2] 40)) (w.heap.size + 1) 40 #[.int .i32 b0, .int .i32 b1, .int .i32 b2] := by have := Blk.new (w.alloc (.cells #[.int .i32 a0, .int .i32 a1, .int .i32 a2] 40)) 40 #[.int .i32 b0, .int .i32 b1, .int .i32 b2]; simpa using this
  replace hb := hb.alloc hb.size (.cells #[.int .i32 b0, .int .i32 b1, .int .i32 b2] 40)
  go_wp2_with fail
  generalize (w.alloc (.cells #[.int .i32 a0, .int .i32 a1, .int .i32 a2] 40)).alloc (.cells #[.int .i32 b0, .int .i32 b1, .int .i32 b2] 40) = W0 at *
  refine (H1.out _).mono ?_
  rintro e w1 ⟨rfl, b1⟩
  replace hp0 := hp0.below b1 hp0.lt
  replace hp1 := hp1.below b1 hp1.lt
  replace hb := hb.on b1
  clear b1
  have o1hp0 := hp0.lt
  have o1hp1 := hp1.lt
  replace hp0 := hp0.alloc (.cells #[.int .i32 x0, .int .i32 x1, .int .i32 x2] 40)
  replace hp1 := hp1.alloc (.cells #[.int .i32 x0, .int .i32 x1, .int .i32 x2] 40)
  have ob1 := hb.size
  have hn1 : Blk (w1.alloc (.cells #[.int .i32 x0, .int .i32 x1, .int .i32 x2] 40)) w1.heap.size 40 #[.int .i32 x0, .int .i32 x1, .int .i32 x2] := Blk.new w1 _ _
  replace hb := hb.alloc hb.size (.cells #[.int .i32 x0, .int .i32 x1, .int .i32 x2] 40)
  have f0 : (w1.alloc (.cells #[.int .i32 x0, .int .i32 x1, .int .i32 x2] 40)).cell? ⟨w.heap.size, 0, none⟩ = some (.int .i32 a0) := hp0.cell 0
  have f1 : (w1.alloc (.cells #[.int .i32 x0, .int .i32 x1, .int .i32 x2] 40)).cell? ⟨w.heap.size, 1, none⟩ = some (.int .i32 a1) := hp0.cell 1
  have f2 : (w1.alloc (.cells #[.int .i32 x0, .int .i32 x1, .int .i32 x2] 40)).cell? ⟨w.heap.size, 2, none⟩ = some (.int .i32 a2) := hp0.cell 2
  have f3 : (w1.alloc (.cells #[.int .i32 x0, .int .i32 x1, .int .i32 x2] 40)).cell? ⟨w.heap.size + 1, 0, none⟩ = some (.int .i32 b0) := hp1.cell 0
  have f4 : (w1.alloc (.cells #[.int .i32 x0, .int .i32 x1, .int .i32 x2] 40)).cell? ⟨w.heap.size + 1, 1, none⟩ = some (.int .i32 b1) := hp1.cell 1
  have f5 : (w1.alloc (.cells #[.int .i32 x0, .int .i32 x1, .int .i32 x2] 40)).cell? ⟨w.heap.size + 1, 2, none⟩ = some (.int .i32 b2) := hp1.cell 2
  have f6 : (w1.alloc (.cells #[.int .i32 x0, .int .i32 x1, .int .i32 x2] 40)).cell? ⟨w1.heap.size, 0, none⟩ = some (.int .i32 x0) := hn1.cell 0
  have f7 : (w1.alloc (.cells #[.int .i32 x0, .int .i32 x1, .int .i32 x2] 40)).cell? ⟨w1.heap.size, 1, none⟩ = some (.int .i32 x1) := hn1.cell 1
  have f8 : (w1.alloc (.cells #[.int .i32 x0, .int .i32 x1, .int .i32 x2] 40)).cell? ⟨w1.heap.size, 2, none⟩ = some (.int .i32 x2) := hn1.cell 2
  go_wp2_with fail
  clear f0 f1 f2 f3 f4 f5 f6 f7 f8
  generalize w1.alloc (.cells #[.int .i32 x0, .int .i32 x1, .int .i32 x2] 40) = W1 at *
  refine (H2.out _).mono ?_
  rintro e w2 ⟨rfl, b2⟩
  replace hp0 := hp0.below b2 hp0.lt
  replace hp1 := hp1.below b2 hp1.lt
  replace hn1 := hn1.below b2 hn1.lt
  replace hb := hb.on b2
  clear b2
  have o2hp0 := hp0.lt
  have o2hp1 := hp1.lt
  have o2hn1 := hn1.lt
  replace hp0 := hp0.alloc (.cells #[.int .i32 x0, .int .i32 x1, .int .i32 x2] 40)
  replace hp1 := hp1.alloc (.cells #[.int .i32 x0, .int .i32 x1, .int .i32 x2] 40)
  replace hn1 := hn1.alloc (.cells #[.int .i32 x0, .int .i32 x1, .int .i32 x2] 40)
  have ob2 := hb.size
  have hn2 : Blk (w2.alloc (.cells #[.int .i32 x0, .int .i32 x1, .int .i32 x2] 40)) w2.heap.size 40 #[.int .i32 x0, .int .i32 x1, .int .i32 x2] := Blk.new w2 _ _
  replace hb := hb.alloc hb.size (.cells #[.int .i32 x0, .int .i32 x1, .int .i32 x2] 40)
  have f0 : (w2.alloc (.cells #[.int .i32 x0, .int .i32 x1, .int .i32 x2] 40)).cell? ⟨w.heap.size, 0, none⟩ = some (.int .i32 a0) := hp0.cell 0
  have f1 : (w2.alloc (.cells #[.int .i32 x0, .int .i32 x1, .int .i32 x2] 40)).cell? ⟨w.heap.size, 1, none⟩ = some (.int .i32 a1) := hp0.cell 1
  have f2 : (w2.alloc (.cells #[.int .i32 x0, .int .i32 x1, .int .i32 x2] 40)).cell? ⟨w.heap.size, 2, none⟩ = some (.int .i32 a2) := hp0.cell 2
  have f3 : (w2.alloc (.cells #[.int .i32 x0, .int .i32 x1, .int .i32 x2] 40)).cell? ⟨w.heap.size + 1, 0, none⟩ = some (.int .i32 b0) := hp1.cell 0
  have f4 : (w2.alloc (.cells #[.int .i32 x0, .int .i32 x1, .int .i32 x2] 40)).cell? ⟨w.heap.size + 1, 1, none⟩ = some (.int .i32 b1) := hp1.cell 1
  have f5 : (w2.alloc (.cells #[.int .i32 x0, .int .i32 x1, .int .i32 x2] 40)).cell? ⟨w.heap.size + 1, 2, none⟩ = some (.int .i32 b2) := hp1.cell 2
  have f6 : (w2.alloc (.cells #[.int .i32 x0, .int .i32 x1, .int .i32 x2] 40)).cell? ⟨w1.heap.size, 0, none⟩ = some (.int .i32 x0) := hn1.cell 0
  have f7 : (w2.alloc (.cells #[.int .i32 x0, .int .i32 x1, .int .i32 x2] 40)).cell? ⟨w1.heap.size, 1, none⟩ = some (.int .i32 x1) := hn1.cell 1
  have f8 : (w2.alloc (.cells #[.int .i32 x0, .int .i32 x1, .int .i32 x2] 40)).cell? ⟨w1.heap.size, 2, none⟩ = some (.int .i32 x2) := hn1.cell 2
  have f9 : (w2.alloc (.cells #[.int .i32 x0, .int .i32 x1, .int .i32 x2] 40)).cell? ⟨w2.heap.size, 0, none⟩ = some (.int .i32 x0) := hn2.cell 0
  have f10 : (w2.alloc (.cells #[.int .i32 x0, .int .i32 x1, .int .i32 x2] 40)).cell? ⟨w2.heap.size, 1, none⟩ = some (.int .i32 x1) := hn2.cell 1
  have f11 : (w2.alloc (.cells #[.int .i32 x0, .int .i32 x1, .int .i32 x2] 40)).cell? ⟨w2.heap.size, 2, none⟩ = some (.int .i32 x2) := hn2.cell 2
  go_wp2_with fail
  clear f0 f1 f2 f3 f4 f5 f6 f7 f8 f9 f10 f11
  generalize w2.alloc (.cells #[.int .i32 x0, .int .i32 x1, .int .i32 x2] 40) = W2 at *
  refine (H3.out _).mono ?_
  rintro e w3 ⟨rfl, b3⟩
  replace hp0 := hp0.below b3 hp0.lt
  replace hp1 := hp1.below b3 hp1.lt
  replace hn1 := hn1.below b3 hn1.lt
  replace hn2 := hn2.below b3 hn2.lt
  replace hb := hb.on b3
  clear b3
  have sd0 : w3.cell? ⟨w1.heap.size, 0, none⟩ = some (.int .i32 x0) := hn1.cell 0
  have sz0 := hn1.frozen 0
  have sd1 : w3.cell? ⟨w1.heap.size, 1, none⟩ = some (.int .i32 x1) := hn1.cell 1
  have sz1 := hn1.frozen 1
  have sd2 : w3.cell? ⟨w1.heap.size, 2, none⟩ = some (.int .i32 x2) := hn1.cell 2
  have sz2 := hn1.frozen 2
  have thp0 := (((hp0.far (p := ⟨w1.heap.size, 0, none⟩) (by dsimp only; omega) (.int .i32 y0)).far (p := ⟨w1.heap.size, 1, none⟩) (by dsimp only; omega) (.int .i32 y1)).far (p := ⟨w1.heap.size, 2, none⟩) (by dsimp only; omega) (.int .i32 y2))
  have thp1 := (((hp1.far (p := ⟨w1.heap.size, 0, none⟩) (by dsimp only; omega) (.int .i32 y0)).far (p := ⟨w1.heap.size, 1, none⟩) (by dsimp only; omega) (.int .i32 y1)).far (p := ⟨w1.heap.size, 2, none⟩) (by dsimp only; omega) (.int .i32 y2))
  have thn2 := (((hn2.far (p := ⟨w1.heap.size, 0, none⟩) (by dsimp only; omega) (.int .i32 y0)).far (p := ⟨w1.heap.size, 1, none⟩) (by dsimp only; omega) (.int .i32 y1)).far (p := ⟨w1.heap.size, 2, none⟩) (by dsimp only; omega) (.int .i32 y2))
  have thn1 := (((hn1.set_ 0 (.int .i32 y0)).set_ 1 (.int .i32 y1)).set_ 2 (.int .i32 y2))
  have thb := (((hb.setCell (p := ⟨w1.heap.size, 0, none⟩) (by dsimp only; omega) (.int .i32 y0)).setCell (p := ⟨w1.heap.size, 1, none⟩) (by dsimp only; omega) (.int .i32 y1)).setCell (p := ⟨w1.heap.size, 2, none⟩) (by dsimp only; omega) (.int .i32 y2))
  have f0 : (w3).cell? ⟨w.heap.size, 0, none⟩ = some (.int .i32 a0) := hp0.cell 0
  have f1 : (w3).cell? ⟨w.heap.size, 1, none⟩ = some (.int .i32 a1) := hp0.cell 1
  have f2 : (w3).cell? ⟨w.heap.size, 2, none⟩ = some (.int .i32 a2) := hp0.cell 2
  have f3 : (w3).cell? ⟨w.heap.size + 1, 0, none⟩ = some (.int .i32 b0) := hp1.cell 0
  have f4 : (w3).cell? ⟨w.heap.size + 1, 1, none⟩ = some (.int .i32 b1) := hp1.cell 1
  have f5 : (w3).cell? ⟨w.heap.size + 1, 2, none⟩ = some (.int .i32 b2) := hp1.cell 2
  have f6 : (w3).cell? ⟨w1.heap.size, 0, none⟩ = some (.int .i32 x0) := hn1.cell 0
  have f7 : (w3).cell? ⟨w1.heap.size, 1, none⟩ = some (.int .i32 x1) := hn1.cell 1
  have f8 : (w3).cell? ⟨w1.heap.size, 2, none⟩ = some (.int .i32 x2) := hn1.cell 2
  have f9 : (w3).cell? ⟨w2.heap.size, 0, none⟩ = some (.int .i32 x0) := hn2.cell 0
  have f10 : (w3).cell? ⟨w2.heap.size, 1, none⟩ = some (.int .i32 x1) := hn2.cell 1
  have f11 : (w3).cell? ⟨w2.heap.size, 2, none⟩ = some (.int .i32 x2) := hn2.cell 2
  go_upto_region 6 with fail
  clear f0 f1 f2 f3 f4 f5 f6 f7 f8 f9 f10 f11
  clear sd0 sz0 sd1 sz1 sd2 sz2
  clear hb hp0 hp1 hn1 hn2
  generalize (((w3.setCell ⟨w1.heap.size, 0, none⟩ (.int .i32 y0)).setCell ⟨w1.heap.size, 1, none⟩ (.int .i32 y1)).setCell ⟨w1.heap.size, 2, none⟩ (.int .i32 y2)) = W3s at *
  have hb := thb
  clear thb
  have hp0 : Blk W3s (w.heap.size) 40 #[.int .i32 a0, .int .i32 a1, .int .i32 a2] := thp0
  clear thp0
  have hp1 : Blk W3s (w.heap.size + 1) 40 #[.int .i32 b0, .int .i32 b1, .int .i32 b2] := thp1
  clear thp1
  have hn1 : Blk W3s (w1.heap.size) 40 #[.int .i32 y0, .int .i32 y1, .int .i32 y2] := thn1
  clear thn1
  have hn2 : Blk W3s (w2.heap.size) 40 #[.int .i32 x0, .int .i32 x1, .int .i32 x2] := thn2
  clear thn2
  have f0 : (W3s).cell? ⟨w.heap.size, 0, none⟩ = some (.int .i32 a0) := hp0.cell 0
  have f1 : (W3s).cell? ⟨w.heap.size, 1, none⟩ = some (.int .i32 a1) := hp0.cell 1
  have f2 : (W3s).cell? ⟨w.heap.size, 2, none⟩ = some (.int .i32 a2) := hp0.cell 2
  have f3 : (W3s).cell? ⟨w.heap.size + 1, 0, none⟩ = some (.int .i32 b0) := hp1.cell 0
  have f4 : (W3s).cell? ⟨w.heap.size + 1, 1, none⟩ = some (.int .i32 b1) := hp1.cell 1
  have f5 : (W3s).cell? ⟨w.heap.size + 1, 2, none⟩ = some (.int .i32 b2) := hp1.cell 2
  have f6 : (W3s).cell? ⟨w1.heap.size, 0, none⟩ = some (.int .i32 y0) := hn1.cell 0
  have f7 : (W3s).cell? ⟨w1.heap.size, 1, none⟩ = some (.int .i32 y1) := hn1.cell 1
  have f8 : (W3s).cell? ⟨w1.heap.size, 2, none⟩ = some (.int .i32 y2) := hn1.cell 2
  have f9 : (W3s).cell? ⟨w2.heap.size, 0, none⟩ = some (.int .i32 x0) := hn2.cell 0
  have f10 : (W3s).cell? ⟨w2.heap.size, 1, none⟩ = some (.int .i32 x1) := hn2.cell 1
  have f11 : (W3s).cell? ⟨w2.heap.size, 2, none⟩ = some (.int .i32 x2) := hn2.cell 2
  go_wp2_with fail
  clear f0 f1 f2 f3 f4 f5 f6 f7 f8 f9 f10 f11
  generalize W3s = W3 at *
  refine (H4.out _).mono ?_
  rintro e w4 ⟨rfl, b4⟩
  replace hp0 := hp0.below b4 hp0.lt
  replace hp1 := hp1.below b4 hp1.lt
  replace hn1 := hn1.below b4 hn1.lt
  replace hn2 := hn2.below b4 hn2.lt
  replace hb := hb.on b4
  clear b4
  have sd0 : w4.cell? ⟨w2.heap.size, 0, none⟩ = some (.int .i32 x0) := hn2.cell 0
  have sz0 := hn2.frozen 0
  have sd1 : w4.cell? ⟨w2.heap.size, 1, none⟩ = some (.int .i32 x1) := hn2.cell 1
  have sz1 := hn2.frozen 1
  have sd2 : w4.cell? ⟨w2.heap.size, 2, none⟩ = some (.int .i32 x2) := hn2.cell 2
  have sz2 := hn2.frozen 2
  have thp0 := (((hp0.far (p := ⟨w2.heap.size, 0, none⟩) (by dsimp only; omega) (.int .i32 y0)).far (p := ⟨w2.heap.size, 1, none⟩) (by dsimp only; omega) (.int .i32 y1)).far (p := ⟨w2.heap.size, 2, none⟩) (by dsimp only; omega) (.int .i32 y2))
  have thp1 := (((hp1.far (p := ⟨w2.heap.size, 0, none⟩) (by dsimp only; omega) (.int .i32 y0)).far (p := ⟨w2.heap.size, 1, none⟩) (by dsimp only; omega) (.int .i32 y1)).far (p := ⟨w2.heap.size, 2, none⟩) (by dsimp only; omega) (.int .i32 y2))
  have thn1 := (((hn1.far (p := ⟨w2.heap.size, 0, none⟩) (by dsimp only; omega) (.int .i32 y0)).far (p := ⟨w2.heap.size, 1, none⟩) (by dsimp only; omega) (.int .i32 y1)).far (p := ⟨w2.heap.size, 2, none⟩) (by dsimp only; omega) (.int .i32 y2))
  have thn2 := (((hn2.set_ 0 (.int .i32 y0)).set_ 1 (.int .i32 y1)).set_ 2 (.int .i32 y2))
  have thb := (((hb.setCell (p := ⟨w2.heap.size, 0, none⟩) (by dsimp only; omega) (.int .i32 y0)).setCell (p := ⟨w2.heap.size, 1, none⟩) (by dsimp only; omega) (.int .i32 y1)).setCell (p := ⟨w2.heap.size, 2, none⟩) (by dsimp only; omega) (.int .i32 y2))
  have f0 : (w4).cell? ⟨w.heap.size, 0, none⟩ = some (.int .i32 a0) := hp0.cell 0
  have f1 : (w4).cell? ⟨w.heap.size, 1, none⟩ = some (.int .i32 a1) := hp0.cell 1
  have f2 : (w4).cell? ⟨w.heap.size, 2, none⟩ = some (.int .i32 a2) := hp0.cell 2
  have f3 : (w4).cell? ⟨w.heap.size + 1, 0, none⟩ = some (.int .i32 b0) := hp1.cell 0
  have f4 : (w4).cell? ⟨w.heap.size + 1, 1, none⟩ = some (.int .i32 b1) := hp1.cell 1
  have f5 : (w4).cell? ⟨w.heap.size + 1, 2, none⟩ = some (.int .i32 b2) := hp1.cell 2
  have f6 : (w4).cell? ⟨w1.heap.size, 0, none⟩ = some (.int .i32 y0) := hn1.cell 0
  have f7 : (w4).cell? ⟨w1.heap.size, 1, none⟩ = some (.int .i32 y1) := hn1.cell 1
  have f8 : (w4).cell? ⟨w1.heap.size, 2, none⟩ = some (.int .i32 y2) := hn1.cell 2
  have f9 : (w4).cell? ⟨w2.heap.size, 0, none⟩ = some (.int .i32 x0) := hn2.cell 0
  have f10 : (w4).cell? ⟨w2.heap.size, 1, none⟩ = some (.int .i32 x1) := hn2.cell 1
  have f11 : (w4).cell? ⟨w2.heap.size, 2, none⟩ = some (.int .i32 x2) := hn2.cell 2
  go_upto_region 7 with fail
  clear f0 f1 f2 f3 f4 f5 f6 f7 f8 f9 f10 f11
  clear sd0 sz0 sd1 sz1 sd2 sz2
  clear hb hp0 hp1 hn1 hn2
  generalize (((w4.setCell ⟨w2.heap.size, 0, none⟩ (.int .i32 y0)).setCell ⟨w2.heap.size, 1, none⟩ (.int .i32 y1)).setCell ⟨w2.heap.size, 2, none⟩ (.int .i32 y2)) = W4s at *
  have hb := thb
  clear thb
  have hp0 : Blk W4s (w.heap.size) 40 #[.int .i32 a0, .int .i32 a1, .int .i32 a2] := thp0
  clear thp0
  have hp1 : Blk W4s (w.heap.size + 1) 40 #[.int .i32 b0, .int .i32 b1, .int .i32 b2] := thp1
  clear thp1
  have hn1 : Blk W4s (w1.heap.size) 40 #[.int .i32 y0, .int .i32 y1, .int .i32 y2] := thn1
  clear thn1
  have hn2 : Blk W4s (w2.heap.size) 40 #[.int .i32 y0, .int .i32 y1, .int .i32 y2] := thn2
  clear thn2
  have f0 : (W4s).cell? ⟨w.heap.size, 0, none⟩ = some (.int .i32 a0) := hp0.cell 0
  have f1 : (W4s).cell? ⟨w.heap.size, 1, none⟩ = some (.int .i32 a1) := hp0.cell 1
  have f2 : (W4s).cell? ⟨w.heap.size, 2, none⟩ = some (.int .i32 a2) := hp0.cell 2
  have f3 : (W4s).cell? ⟨w.heap.size + 1, 0, none⟩ = some (.int .i32 b0) := hp1.cell 0
  have f4 : (W4s).cell? ⟨w.heap.size + 1, 1, none⟩ = some (.int .i32 b1) := hp1.cell 1
  have f5 : (W4s).cell? ⟨w.heap.size + 1, 2, none⟩ = some (.int .i32 b2) := hp1.cell 2
  have f6 : (W4s).cell? ⟨w1.heap.size, 0, none⟩ = some (.int .i32 y0) := hn1.cell 0
  have f7 : (W4s).cell? ⟨w1.heap.size, 1, none⟩ = some (.int .i32 y1) := hn1.cell 1
  have f8 : (W4s).cell? ⟨w1.heap.size, 2, none⟩ = some (.int .i32 y2) := hn1.cell 2
  have f9 : (W4s).cell? ⟨w2.heap.size, 0, none⟩ = some (.int .i32 y0) := hn2.cell 0
  have f10 : (W4s).cell? ⟨w2.heap.size, 1, none⟩ = some (.int .i32 y1) := hn2.cell 1
  have f11 : (W4s).cell? ⟨w2.heap.size, 2, none⟩ = some (.int .i32 y2) := hn2.cell 2
  go_wp2_with fail
  clear f0 f1 f2 f3 f4 f5 f6 f7 f8 f9 f10 f11
  generalize W4s = W4 at *
  refine (H5.out _).mono ?_
  rintro e w5 ⟨rfl, b5⟩
  replace hp0 := hp0.below b5 hp0.lt
  replace hp1 := hp1.below b5 hp1.lt
  replace hn1 := hn1.below b5 hn1.lt
  replace hn2 := hn2.below b5 hn2.lt
  replace hb := hb.on b5
  clear b5
  have sd0 : w5.cell? ⟨w1.heap.size, 0, none⟩ = some (.int .i32 y0) := hn1.cell 0
  have sz0 := hn1.frozen 0
  have sd1 : w5.cell? ⟨w1.heap.size, 1, none⟩ = some (.int .i32 y1) := hn1.cell 1
  have sz1 := hn1.frozen 1
  have sd2 : w5.cell? ⟨w1.heap.size, 2, none⟩ = some (.int .i32 y2) := hn1.cell 2
  have sz2 := hn1.frozen 2
  have thp0 := (((hp0.far (p := ⟨w1.heap.size, 0, none⟩) (by dsimp only; omega) (.int .i32 z0)).far (p := ⟨w1.heap.size, 1, none⟩) (by dsimp only; omega) (.int .i32 z1)).far (p := ⟨w1.heap.size, 2, none⟩) (by dsimp only; omega) (.int .i32 z2))
  have thp1 := (((hp1.far (p := ⟨w1.heap.size, 0, none⟩) (by dsimp only; omega) (.int .i32 z0)).far (p := ⟨w1.heap.size, 1, none⟩) (by dsimp only; omega) (.int .i32 z1)).far (p := ⟨w1.heap.size, 2, none⟩) (by dsimp only; omega) (.int .i32 z2))
  have thn2 := (((hn2.far (p := ⟨w1.heap.size, 0, none⟩) (by dsimp only; omega) (.int .i32 z0)).far (p := ⟨w1.heap.size, 1, none⟩) (by dsimp only; omega) (.int .i32 z1)).far (p := ⟨w1.heap.size, 2, none⟩) (by dsimp only; omega) (.int .i32 z2))
  have thn1 := (((hn1.set_ 0 (.int .i32 z0)).set_ 1 (.int .i32 z1)).set_ 2 (.int .i32 z2))
  have thb := (((hb.setCell (p := ⟨w1.heap.size, 0, none⟩) (by dsimp only; omega) (.int .i32 z0)).setCell (p := ⟨w1.heap.size, 1, none⟩) (by dsimp only; omega) (.int .i32 z1)).setCell (p := ⟨w1.heap.size, 2, none⟩) (by dsimp only; omega) (.int .i32 z2))
  have f0 : (w5).cell? ⟨w.heap.size, 0, none⟩ = some (.int .i32 a0) := hp0.cell 0
  have f1 : (w5).cell? ⟨w.heap.size, 1, none⟩ = some (.int .i32 a1) := hp0.cell 1
  have f2 : (w5).cell? ⟨w.heap.size, 2, none⟩ = some (.int .i32 a2) := hp0.cell 2
  have f3 : (w5).cell? ⟨w.heap.size + 1, 0, none⟩ = some (.int .i32 b0) := hp1.cell 0
  have f4 : (w5).cell? ⟨w.heap.size + 1, 1, none⟩ = some (.int .i32 b1) := hp1.cell 1
  have f5 : (w5).cell? ⟨w.heap.size + 1, 2, none⟩ = some (.int .i32 b2) := hp1.cell 2
  have f6 : (w5).cell? ⟨w1.heap.size, 0, none⟩ = some (.int .i32 y0) := hn1.cell 0
  have f7 : (w5).cell? ⟨w1.heap.size, 1, none⟩ = some (.int .i32 y1) := hn1.cell 1
  have f8 : (w5).cell? ⟨w1.heap.size, 2, none⟩ = some (.int .i32 y2) := hn1.cell 2
  have f9 : (w5).cell? ⟨w2.heap.size, 0, none⟩ = some (.int .i32 y0) := hn2.cell 0
  have f10 : (w5).cell? ⟨w2.heap.size, 1, none⟩ = some (.int .i32 y1) := hn2.cell 1
  have f11 : (w5).cell? ⟨w2.heap.size, 2, none⟩ = some (.int .i32 y2) := hn2.cell 2
  go_upto_region 10 with fail
  clear f0 f1 f2 f3 f4 f5 f6 f7 f8 f9 f10 f11
  clear sd0 sz0 sd1 sz1 sd2 sz2
  clear hb hp0 hp1 hn1 hn2
  generalize (((w5.setCell ⟨w1.heap.size, 0, none⟩ (.int .i32 z0)).setCell ⟨w1.heap.size, 1, none⟩ (.int .i32 z1)).setCell ⟨w1.heap.size, 2, none⟩ (.int .i32 z2)) = W5s at *
  have hb := thb
  clear thb
  have hp0 : Blk W5s (w.heap.size) 40 #[.int .i32 a0, .int .i32 a1, .int .i32 a2] := thp0
  clear thp0
  have hp1 : Blk W5s (w.heap.size + 1) 40 #[.int .i32 b0, .int .i32 b1, .int .i32 b2] := thp1
  clear thp1
  have hn1 : Blk W5s (w1.heap.size) 40 #[.int .i32 z0, .int .i32 z1, .int .i32 z2] := thn1
  clear thn1
  have hn2 : Blk W5s (w2.heap.size) 40 #[.int .i32 y0, .int .i32 y1, .int .i32 y2] := thn2
  clear thn2
  have f0 : (W5s).cell? ⟨w.heap.size, 0, none⟩ = some (.int .i32 a0) := hp0.cell 0
  have f1 : (W5s).cell? ⟨w.heap.size, 1, none⟩ = some (.int .i32 a1) := hp0.cell 1
  have f2 : (W5s).cell? ⟨w.heap.size, 2, none⟩ = some (.int .i32 a2) := hp0.cell 2
  have f3 : (W5s).cell? ⟨w.heap.size + 1, 0, none⟩ = some (.int .i32 b0) := hp1.cell 0
  have f4 : (W5s).cell? ⟨w.heap.size + 1, 1, none⟩ = some (.int .i32 b1) := hp1.cell 1
  have f5 : (W5s).cell? ⟨w.heap.size + 1, 2, none⟩ = some (.int .i32 b2) := hp1.cell 2
  have f6 : (W5s).cell? ⟨w1.heap.size, 0, none⟩ = some (.int .i32 z0) := hn1.cell 0
  have f7 : (W5s).cell? ⟨w1.heap.size, 1, none⟩ = some (.int .i32 z1) := hn1.cell 1
  have f8 : (W5s).cell? ⟨w1.heap.size, 2, none⟩ = some (.int .i32 z2) := hn1.cell 2
  have f9 : (W5s).cell? ⟨w2.heap.size, 0, none⟩ = some (.int .i32 y0) := hn2.cell 0
  have f10 : (W5s).cell? ⟨w2.heap.size, 1, none⟩ = some (.int .i32 y1) := hn2.cell 1
  have f11 : (W5s).cell? ⟨w2.heap.size, 2, none⟩ = some (.int .i32 y2) := hn2.cell 2
  go_wp2_with fail
  clear f0 f1 f2 f3 f4 f5 f6 f7 f8 f9 f10 f11
  generalize W5s = W5 at *
  refine (H6.out _).mono ?_
  rintro e w6 ⟨rfl, b6⟩
  replace hp0 := hp0.below b6 hp0.lt
  replace hp1 := hp1.below b6 hp1.lt
  replace hn1 := hn1.below b6 hn1.lt
  replace hn2 := hn2.below b6 hn2.lt
  replace hb := hb.on b6
  clear b6
  have sd0 : w6.cell? ⟨w2.heap.size, 0, none⟩ = some (.int .i32 y0) := hn2.cell 0
  have sz0 := hn2.frozen 0
  have sd1 : w6.cell? ⟨w2.heap.size, 1, none⟩ = some (.int .i32 y1) := hn2.cell 1
  have sz1 := hn2.frozen 1
  have sd2 : w6.cell? ⟨w2.heap.size, 2, none⟩ = some (.int .i32 y2) := hn2.cell 2
  have sz2 := hn2.frozen 2
  have thp0 := (((hp0.far (p := ⟨w2.heap.size, 0, none⟩) (by dsimp only; omega) (.int .i32 z0)).far (p := ⟨w2.heap.size, 1, none⟩) (by dsimp only; omega) (.int .i32 z1)).far (p := ⟨w2.heap.size, 2, none⟩) (by dsimp only; omega) (.int .i32 z2))
  have thp1 := (((hp1.far (p := ⟨w2.heap.size, 0, none⟩) (by dsimp only; omega) (.int .i32 z0)).far (p := ⟨w2.heap.size, 1, none⟩) (by dsimp only; omega) (.int .i32 z1)).far (p := ⟨w2.heap.size, 2, none⟩) (by dsimp only; omega) (.int .i32 z2))
  have thn1 := (((hn1.far (p := ⟨w2.heap.size, 0, none⟩) (by dsimp only; omega) (.int .i32 z0)).far (p := ⟨w2.heap.size, 1, none⟩) (by dsimp only; omega) (.int .i32 z1)).far (p := ⟨w2.heap.size, 2, none⟩) (by dsimp only; omega) (.int .i32 z2))
  have thn2 := (((hn2.set_ 0 (.int .i32 z0)).set_ 1 (.int .i32 z1)).set_ 2 (.int .i32 z2))
  have thb := (((hb.setCell (p := ⟨w2.heap.size, 0, none⟩) (by dsimp only; omega) (.int .i32 z0)).setCell (p := ⟨w2.heap.size, 1, none⟩) (by dsimp only; omega) (.int .i32 z1)).setCell (p := ⟨w2.heap.size, 2, none⟩) (by dsimp only; omega) (.int .i32 z2))
  have f0 : (w6).cell? ⟨w.heap.size, 0, none⟩ = some (.int .i32 a0) := hp0.cell 0
  have f1 : (w6).cell? ⟨w.heap.size, 1, none⟩ = some (.int .i32 a1) := hp0.cell 1
  have f2 : (w6).cell? ⟨w.heap.size, 2, none⟩ = some (.int .i32 a2) := hp0.cell 2
  have f3 : (w6).cell? ⟨w.heap.size + 1, 0, none⟩ = some (.int .i32 b0) := hp1.cell 0
  have f4 : (w6).cell? ⟨w.heap.size + 1, 1, none⟩ = some (.int .i32 b1) := hp1.cell 1
  have f5 : (w6).cell? ⟨w.heap.size + 1, 2, none⟩ = some (.int .i32 b2) := hp1.cell 2
  have f6 : (w6).cell? ⟨w1.heap.size, 0, none⟩ = some (.int .i32 z0) := hn1.cell 0
  have f7 : (w6).cell? ⟨w1.heap.size, 1, none⟩ = some (.int .i32 z1) := hn1.cell 1
  have f8 : (w6).cell? ⟨w1.heap.size, 2, none⟩ = some (.int .i32 z2) := hn1.cell 2
  have f9 : (w6).cell? ⟨w2.heap.size, 0, none⟩ = some (.int .i32 y0) := hn2.cell 0
  have f10 : (w6).cell? ⟨w2.heap.size, 1, none⟩ = some (.int .i32 y1) := hn2.cell 1
  have f11 : (w6).cell? ⟨w2.heap.size, 2, none⟩ = some (.int .i32 y2) := hn2.cell 2
  go_upto_region 11 with fail
  clear f0 f1 f2 f3 f4 f5 f6 f7 f8 f9 f10 f11
  clear sd0 sz0 sd1 sz1 sd2 sz2
  clear hb hp0 hp1 hn1 hn2
  generalize (((w6.setCell ⟨w2.heap.size, 0, none⟩ (.int .i32 z0)).setCell ⟨w2.heap.size, 1, none⟩ (.int .i32 z1)).setCell ⟨w2.heap.size, 2, none⟩ (.int .i32 z2)) = W6s at *
  have hb := thb
  clear thb
  have hp0 : Blk W6s (w.heap.size) 40 #[.int .i32 a0, .int .i32 a1, .int .i32 a2] := thp0
  clear thp0
  have hp1 : Blk W6s (w.heap.size + 1) 40 #[.int .i32 b0, .int .i32 b1, .int .i32 b2] := thp1
  clear thp1
  have hn1 : Blk W6s (w1.heap.size) 40 #[.int .i32 z0, .int .i32 z1, .int .i32 z2] := thn1
  clear thn1
  have hn2 : Blk W6s (w2.heap.size) 40 #[.int .i32 z0, .int .i32 z1, .int .i32 z2] := thn2
  clear thn2
  have f0 : (W6s).cell? ⟨w.heap.size, 0, none⟩ = some (.int .i32 a0) := hp0.cell 0
  have f1 : (W6s).cell? ⟨w.heap.size, 1, none⟩ = some (.int .i32 a1) := hp0.cell 1
  have f2 : (W6s).cell? ⟨w.heap.size, 2, none⟩ = some (.int .i32 a2) := hp0.cell 2
  have f3 : (W6s).cell? ⟨w.heap.size + 1, 0, none⟩ = some (.int .i32 b0) := hp1.cell 0
  have f4 : (W6s).cell? ⟨w.heap.size + 1, 1, none⟩ = some (.int .i32 b1) := hp1.cell 1
  have f5 : (W6s).cell? ⟨w.heap.size + 1, 2, none⟩ = some (.int .i32 b2) := hp1.cell 2
  have f6 : (W6s).cell? ⟨w1.heap.size, 0, none⟩ = some (.int .i32 z0) := hn1.cell 0
  have f7 : (W6s).cell? ⟨w1.heap.size, 1, none⟩ = some (.int .i32 z1) := hn1.cell 1
  have f8 : (W6s).cell? ⟨w1.heap.size, 2, none⟩ = some (.int .i32 z2) := hn1.cell 2
  have f9 : (W6s).cell? ⟨w2.heap.size, 0, none⟩ = some (.int .i32 z0) := hn2.cell 0
  have f10 : (W6s).cell? ⟨w2.heap.size, 1, none⟩ = some (.int .i32 z1) := hn2.cell 1
  have f11 : (W6s).cell? ⟨w2.heap.size, 2, none⟩ = some (.int .i32 z2) := hn2.cell 2
  go_wp2_with fail
  clear f0 f1 f2 f3 f4 f5 f6 f7 f8 f9 f10 f11
  generalize W6s = W6 at *
  refine (HK.out _).mono ?_
  rintro e w7 ⟨rfl, b7⟩
  replace hp0 := hp0.below b7 hp0.lt
  replace hp1 := hp1.below b7 hp1.lt
  replace hn1 := hn1.below b7 hn1.lt
  replace hn2 := hn2.below b7 hn2.lt
  replace hb := hb.on b7
  clear b7
  go_wp2
  go_ret
  exact ⟨rfl, hb⟩
end Go.Proofs.Ytlcikfnhgldonaa
