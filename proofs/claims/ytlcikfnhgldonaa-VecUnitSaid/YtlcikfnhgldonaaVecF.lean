/- Chapter 09: vectors: what the reference says. -/
import Derived.Test.YtlcikfnhgldonaaVecE
import Derived.Test.YtlcikfnhgldonaaQuatE
namespace Go.Proofs.Ytlcikfnhgldonaa
open Go.RowKit
set_option linter.unusedVariables false
set_option linter.unusedSimpArgs false

theorem r9_tv (a b : Int) (w : World) (ha : I32 a) (hb : I32 b) :
    Calls Try.prog 74 #[.int .i32 a, .int .i32 b, .int .i64 16] w fun e w' => e = .returned (.int .i64 (tvP a b)) ∧ w = w' := r9_Times a b 16 w ha hb (by unfold I64; omega)
set_option maxHeartbeats 4000000 in
theorem r9_Add (a0 a1 a2 b0 b1 b2 : Int) (w : World) (ia0 : I32 a0) (ia1 : I32 a1) (ia2 : I32 a2) (ib0 : I32 b0) (ib1 : I32 b1) (ib2 : I32 b2) :
    Calls Try.prog 39 #[.agg #[.int .i32 a0, .int .i32 a1, .int .i32 a2], .agg #[.int .i32 b0, .int .i32 b1, .int .i32 b2]] w fun e w' => e = .returned (.tuple #[.agg #[.int .i32 (clampP (a0 + b0)), .int .i32 (clampP (a1 + b1)), .int .i32 (clampP (a2 + b2))], .int .i64 (cutC (a0 + b0) + cutC (a1 + b1) + cutC (a2 + b2))]) ∧ Below w.heap.size w w' := by
  have HE := fun w => r9_Cut (a0 + b0) (a1 + b1) (a2 + b2) w (by unfold I32 I64 at *; omega) (by unfold I32 I64 at *; omega) (by unfold I32 I64 at *; omega)
  have u0 : IntKind.i64.wrap (a0 + b0) = a0 + b0 := IntWalk.i64_in _ (by unfold I32 at *; omega)
  have s0 : IntKind.i64.wrap a0 = a0 := IntWalk.i64_in _ (by unfold I32 at *; omega)
  have t0 : IntKind.i64.wrap b0 = b0 := IntWalk.i64_in _ (by unfold I32 at *; omega)
  have u1 : IntKind.i64.wrap (a1 + b1) = a1 + b1 := IntWalk.i64_in _ (by unfold I32 at *; omega)
  have s1 : IntKind.i64.wrap a1 = a1 := IntWalk.i64_in _ (by unfold I32 at *; omega)
  have t1 : IntKind.i64.wrap b1 = b1 := IntWalk.i64_in _ (by unfold I32 at *; omega)
  have u2 : IntKind.i64.wrap (a2 + b2) = a2 + b2 := IntWalk.i64_in _ (by unfold I32 at *; omega)
  have s2 : IntKind.i64.wrap a2 = a2 := IntWalk.i64_in _ (by unfold I32 at *; omega)
  have t2 : IntKind.i64.wrap b2 = b2 := IntWalk.i64_in _ (by unfold I32 at *; omega)
  generalize hy0 : clampP (a0 + b0) = y0 at HE
  generalize hy1 : clampP (a1 + b1) = y1 at HE
  generalize hy2 : clampP (a2 + b2) = y2 at HE
  generalize hN : cutC (a0 + b0) + cutC (a1 + b1) + cutC (a2 + b2) = N at HE
  have HY := hid (show _ ∧ _ ∧ _ ∧ _ from ⟨hy0, hy1, hy2, hN⟩)
  clear hy0 hy1 hy2 hN
  have HE2 := hid HE
  clear HE
  have hp0 : Blk (((w.alloc (.cells #[.int .i32 a0, .int .i32 a1, .int .i32 a2] 40)).alloc (.cells #[.int .i32 b0, .int .i32 b1, .int .i32 b2] 40)).alloc (.cells #[.int .i32 0, .int .i32 0, .int .i32 0] 40)) w.heap.size 40 #[.int .i32 a0, .int .i32 a1, .int .i32 a2] := ((Blk.new w _ _).alloc _).alloc _
  have hp1 : Blk (((w.alloc (.cells #[.int .i32 a0, .int .i32 a1, .int .i32 a2] 40)).alloc (.cells #[.int .i32 b0, .int .i32 b1, .int .i32 b2] 40)).alloc (.cells #[.int .i32 0, .int .i32 0, .int .i32 0] 40)) (w.heap.size + 1) 40 #[.int .i32 b0, .int .i32 b1, .int .i32 b2] := by have := (Blk.new (w.alloc (.cells #[.int .i32 a0, .int .i32 a1, .int .i32 a2] 40)) 40 #[.int .i32 b0, .int .i32 b1, .int .i32 b2]).alloc (.cells #[.int .i32 0, .int .i32 0, .int .i32 0] 40); simpa using this
  have hb : Below w.heap.size w (((w.alloc (.cells #[.int .i32 a0, .int .i32 a1, .int .i32 a2] 40)).alloc (.cells #[.int .i32 b0, .int .i32 b1, .int .i32 b2] 40)).alloc (.cells #[.int .i32 0, .int .i32 0, .int .i32 0] 40)) := (((Below.refl _ w).alloc (Nat.le_refl _) _).alloc (by simp) _).alloc (by simp; omega) _
  have hr : Blk (((w.alloc (.cells #[.int .i32 a0, .int .i32 a1, .int .i32 a2] 40)).alloc (.cells #[.int .i32 b0, .int .i32 b1, .int .i32 b2] 40)).alloc (.cells #[.int .i32 0, .int .i32 0, .int .i32 0] 40)) (w.heap.size + 1 + 1) 40 #[.int .i32 0, .int .i32 0, .int .i32 0] := by have := Blk.new ((w.alloc (.cells #[.int .i32 a0, .int .i32 a1, .int .i32 a2] 40)).alloc (.cells #[.int .i32 b0, .int .i32 b1, .int .i32 b2] 40)) 40 #[.int .i32 0, .int .i32 0, .int .i32 0]; simpa using this
  go_enter Try.func39, Try.ntmps39
  go_wp2_with fail
  generalize ((w.alloc (.cells #[.int .i32 a0, .int .i32 a1, .int .i32 a2] 40)).alloc (.cells #[.int .i32 b0, .int .i32 b1, .int .i32 b2] 40)).alloc (.cells #[.int .i32 0, .int .i32 0, .int .i32 0] 40) = W0 at *
  refine (HE2.out _).mono ?_
  rintro e w1 ⟨rfl, bb⟩
  replace hr := (hr.below bb hr.lt).alloc (.cells #[.int .i32 y0, .int .i32 y1, .int .i32 y2] 40)
  have hY := Blk.new w1 40 #[.int .i32 y0, .int .i32 y1, .int .i32 y2]
  replace hb := (hb.on bb).alloc (hb.on bb).size (.cells #[.int .i32 y0, .int .i32 y1, .int .i32 y2] 40)
  have d0 : (w1.alloc (.cells #[.int .i32 y0, .int .i32 y1, .int .i32 y2] 40)).cell? ⟨w.heap.size + 1 + 1, 0, none⟩ = some (.int .i32 0) := hr.cell 0
  have z0 := hr.frozen 0
  have x0 : (w1.alloc (.cells #[.int .i32 y0, .int .i32 y1, .int .i32 y2] 40)).cell? ⟨w1.heap.size, 0, none⟩ = some (.int .i32 y0) := hY.cell 0
  have d1 : (w1.alloc (.cells #[.int .i32 y0, .int .i32 y1, .int .i32 y2] 40)).cell? ⟨w.heap.size + 1 + 1, 1, none⟩ = some (.int .i32 0) := hr.cell 1
  have z1 := hr.frozen 1
  have x1 : (w1.alloc (.cells #[.int .i32 y0, .int .i32 y1, .int .i32 y2] 40)).cell? ⟨w1.heap.size, 1, none⟩ = some (.int .i32 y1) := hY.cell 1
  have d2 : (w1.alloc (.cells #[.int .i32 y0, .int .i32 y1, .int .i32 y2] 40)).cell? ⟨w.heap.size + 1 + 1, 2, none⟩ = some (.int .i32 0) := hr.cell 2
  have z2 := hr.frozen 2
  have x2 : (w1.alloc (.cells #[.int .i32 y0, .int .i32 y1, .int .i32 y2] 40)).cell? ⟨w1.heap.size, 2, none⟩ = some (.int .i32 y2) := hY.cell 2
  have hf : Blk ((((w1.alloc (.cells #[.int .i32 y0, .int .i32 y1, .int .i32 y2] 40)).setCell ⟨w.heap.size + 1 + 1, 0, none⟩ (.int .i32 y0)).setCell ⟨w.heap.size + 1 + 1, 1, none⟩ (.int .i32 y1)).setCell ⟨w.heap.size + 1 + 1, 2, none⟩ (.int .i32 y2)) (w.heap.size + 1 + 1) 40 #[.int .i32 y0, .int .i32 y1, .int .i32 y2] := (((hr.set_ 0 (.int .i32 y0)).set_ 1 (.int .i32 y1)).set_ 2 (.int .i32 y2))
  have hbf : Below w.heap.size w ((((w1.alloc (.cells #[.int .i32 y0, .int .i32 y1, .int .i32 y2] 40)).setCell ⟨w.heap.size + 1 + 1, 0, none⟩ (.int .i32 y0)).setCell ⟨w.heap.size + 1 + 1, 1, none⟩ (.int .i32 y1)).setCell ⟨w.heap.size + 1 + 1, 2, none⟩ (.int .i32 y2)) := (((hb.setCell (p := ⟨w.heap.size + 1 + 1, 0, none⟩) (by dsimp only; omega) (.int .i32 y0)).setCell (p := ⟨w.heap.size + 1 + 1, 1, none⟩) (by dsimp only; omega) (.int .i32 y1)).setCell (p := ⟨w.heap.size + 1 + 1, 2, none⟩) (by dsimp only; omega) (.int .i32 y2))
  go_wp2
  generalize ((((w1.alloc (.cells #[.int .i32 y0, .int .i32 y1, .int .i32 y2] 40)).setCell ⟨w.heap.size + 1 + 1, 0, none⟩ (.int .i32 y0)).setCell ⟨w.heap.size + 1 + 1, 1, none⟩ (.int .i32 y1)).setCell ⟨w.heap.size + 1 + 1, 2, none⟩ (.int .i32 y2)) = wf at *
  have f0 : wf.cell? ⟨w.heap.size + 1 + 1, 0, none⟩ = some (.int .i32 y0) := hf.cell 0
  have f1 : wf.cell? ⟨w.heap.size + 1 + 1, 1, none⟩ = some (.int .i32 y1) := hf.cell 1
  have f2 : wf.cell? ⟨w.heap.size + 1 + 1, 2, none⟩ = some (.int .i32 y2) := hf.cell 2
  simp [bodyPost, results, Try.results39, go_sem, f0, f1, f2]
  first | exact hbf | exact ⟨by rw [HY.out.1, HY.out.2.1, HY.out.2.2.1, HY.out.2.2.2], hbf⟩ | exact ⟨⟨⟨HY.out.1.symm, HY.out.2.1.symm, HY.out.2.2.1.symm⟩, HY.out.2.2.2.symm⟩, hbf⟩ | exact ⟨⟨HY.out.1.symm, HY.out.2.1.symm, HY.out.2.2.1.symm, HY.out.2.2.2.symm⟩, hbf⟩ | exact ⟨HY.out.1.symm, HY.out.2.1.symm, HY.out.2.2.1.symm, HY.out.2.2.2.symm, hbf⟩ | exact ⟨⟨HY.out.1.symm, HY.out.2.1.symm, HY.out.2.2.1.symm⟩, HY.out.2.2.2.symm, hbf⟩

set_option maxHeartbeats 4000000 in
theorem r9_Sub (a0 a1 a2 b0 b1 b2 : Int) (w : World) (ia0 : I32 a0) (ia1 : I32 a1) (ia2 : I32 a2) (ib0 : I32 b0) (ib1 : I32 b1) (ib2 : I32 b2) :
    Calls Try.prog 41 #[.agg #[.int .i32 a0, .int .i32 a1, .int .i32 a2], .agg #[.int .i32 b0, .int .i32 b1, .int .i32 b2]] w fun e w' => e = .returned (.tuple #[.agg #[.int .i32 (clampP (a0 - b0)), .int .i32 (clampP (a1 - b1)), .int .i32 (clampP (a2 - b2))], .int .i64 (cutC (a0 - b0) + cutC (a1 - b1) + cutC (a2 - b2))]) ∧ Below w.heap.size w w' := by
  have HE := fun w => r9_Cut (a0 - b0) (a1 - b1) (a2 - b2) w (by unfold I32 I64 at *; omega) (by unfold I32 I64 at *; omega) (by unfold I32 I64 at *; omega)
  have u0 : IntKind.i64.wrap (a0 - b0) = a0 - b0 := IntWalk.i64_in _ (by unfold I32 at *; omega)
  have s0 : IntKind.i64.wrap a0 = a0 := IntWalk.i64_in _ (by unfold I32 at *; omega)
  have t0 : IntKind.i64.wrap b0 = b0 := IntWalk.i64_in _ (by unfold I32 at *; omega)
  have u1 : IntKind.i64.wrap (a1 - b1) = a1 - b1 := IntWalk.i64_in _ (by unfold I32 at *; omega)
  have s1 : IntKind.i64.wrap a1 = a1 := IntWalk.i64_in _ (by unfold I32 at *; omega)
  have t1 : IntKind.i64.wrap b1 = b1 := IntWalk.i64_in _ (by unfold I32 at *; omega)
  have u2 : IntKind.i64.wrap (a2 - b2) = a2 - b2 := IntWalk.i64_in _ (by unfold I32 at *; omega)
  have s2 : IntKind.i64.wrap a2 = a2 := IntWalk.i64_in _ (by unfold I32 at *; omega)
  have t2 : IntKind.i64.wrap b2 = b2 := IntWalk.i64_in _ (by unfold I32 at *; omega)
  generalize hy0 : clampP (a0 - b0) = y0 at HE
  generalize hy1 : clampP (a1 - b1) = y1 at HE
  generalize hy2 : clampP (a2 - b2) = y2 at HE
  generalize hN : cutC (a0 - b0) + cutC (a1 - b1) + cutC (a2 - b2) = N at HE
  have HY := hid (show _ ∧ _ ∧ _ ∧ _ from ⟨hy0, hy1, hy2, hN⟩)
  clear hy0 hy1 hy2 hN
  have HE2 := hid HE
  clear HE
  have hp0 : Blk (((w.alloc (.cells #[.int .i32 a0, .int .i32 a1, .int .i32 a2] 40)).alloc (.cells #[.int .i32 b0, .int .i32 b1, .int .i32 b2] 40)).alloc (.cells #[.int .i32 0, .int .i32 0, .int .i32 0] 40)) w.heap.size 40 #[.int .i32 a0, .int .i32 a1, .int .i32 a2] := ((Blk.new w _ _).alloc _).alloc _
  have hp1 : Blk (((w.alloc (.cells #[.int .i32 a0, .int .i32 a1, .int .i32 a2] 40)).alloc (.cells #[.int .i32 b0, .int .i32 b1, .int .i32 b2] 40)).alloc (.cells #[.int .i32 0, .int .i32 0, .int .i32 0] 40)) (w.heap.size + 1) 40 #[.int .i32 b0, .int .i32 b1, .int .i32 b2] := by have := (Blk.new (w.alloc (.cells #[.int .i32 a0, .int .i32 a1, .int .i32 a2] 40)) 40 #[.int .i32 b0, .int .i32 b1, .int .i32 b2]).alloc (.cells #[.int .i32 0, .int .i32 0, .int .i32 0] 40); simpa using this
  have hb : Below w.heap.size w (((w.alloc (.cells #[.int .i32 a0, .int .i32 a1, .int .i32 a2] 40)).alloc (.cells #[.int .i32 b0, .int .i32 b1, .int .i32 b2] 40)).alloc (.cells #[.int .i32 0, .int .i32 0, .int .i32 0] 40)) := (((Below.refl _ w).alloc (Nat.le_refl _) _).alloc (by simp) _).alloc (by simp; omega) _
  have hr : Blk (((w.alloc (.cells #[.int .i32 a0, .int .i32 a1, .int .i32 a2] 40)).alloc (.cells #[.int .i32 b0, .int .i32 b1, .int .i32 b2] 40)).alloc (.cells #[.int .i32 0, .int .i32 0, .int .i32 0] 40)) (w.heap.size + 1 + 1) 40 #[.int .i32 0, .int .i32 0, .int .i32 0] := by have := Blk.new ((w.alloc (.cells #[.int .i32 a0, .int .i32 a1, .int .i32 a2] 40)).alloc (.cells #[.int .i32 b0, .int .i32 b1, .int .i32 b2] 40)) 40 #[.int .i32 0, .int .i32 0, .int .i32 0]; simpa using this
  go_enter Try.func41, Try.ntmps41
  go_wp2_with fail
  generalize ((w.alloc (.cells #[.int .i32 a0, .int .i32 a1, .int .i32 a2] 40)).alloc (.cells #[.int .i32 b0, .int .i32 b1, .int .i32 b2] 40)).alloc (.cells #[.int .i32 0, .int .i32 0, .int .i32 0] 40) = W0 at *
  refine (HE2.out _).mono ?_
  rintro e w1 ⟨rfl, bb⟩
  replace hr := (hr.below bb hr.lt).alloc (.cells #[.int .i32 y0, .int .i32 y1, .int .i32 y2] 40)
  have hY := Blk.new w1 40 #[.int .i32 y0, .int .i32 y1, .int .i32 y2]
  replace hb := (hb.on bb).alloc (hb.on bb).size (.cells #[.int .i32 y0, .int .i32 y1, .int .i32 y2] 40)
  have d0 : (w1.alloc (.cells #[.int .i32 y0, .int .i32 y1, .int .i32 y2] 40)).cell? ⟨w.heap.size + 1 + 1, 0, none⟩ = some (.int .i32 0) := hr.cell 0
  have z0 := hr.frozen 0
  have x0 : (w1.alloc (.cells #[.int .i32 y0, .int .i32 y1, .int .i32 y2] 40)).cell? ⟨w1.heap.size, 0, none⟩ = some (.int .i32 y0) := hY.cell 0
  have d1 : (w1.alloc (.cells #[.int .i32 y0, .int .i32 y1, .int .i32 y2] 40)).cell? ⟨w.heap.size + 1 + 1, 1, none⟩ = some (.int .i32 0) := hr.cell 1
  have z1 := hr.frozen 1
  have x1 : (w1.alloc (.cells #[.int .i32 y0, .int .i32 y1, .int .i32 y2] 40)).cell? ⟨w1.heap.size, 1, none⟩ = some (.int .i32 y1) := hY.cell 1
  have d2 : (w1.alloc (.cells #[.int .i32 y0, .int .i32 y1, .int .i32 y2] 40)).cell? ⟨w.heap.size + 1 + 1, 2, none⟩ = some (.int .i32 0) := hr.cell 2
  have z2 := hr.frozen 2
  have x2 : (w1.alloc (.cells #[.int .i32 y0, .int .i32 y1, .int .i32 y2] 40)).cell? ⟨w1.heap.size, 2, none⟩ = some (.int .i32 y2) := hY.cell 2
  have hf : Blk ((((w1.alloc (.cells #[.int .i32 y0, .int .i32 y1, .int .i32 y2] 40)).setCell ⟨w.heap.size + 1 + 1, 0, none⟩ (.int .i32 y0)).setCell ⟨w.heap.size + 1 + 1, 1, none⟩ (.int .i32 y1)).setCell ⟨w.heap.size + 1 + 1, 2, none⟩ (.int .i32 y2)) (w.heap.size + 1 + 1) 40 #[.int .i32 y0, .int .i32 y1, .int .i32 y2] := (((hr.set_ 0 (.int .i32 y0)).set_ 1 (.int .i32 y1)).set_ 2 (.int .i32 y2))
  have hbf : Below w.heap.size w ((((w1.alloc (.cells #[.int .i32 y0, .int .i32 y1, .int .i32 y2] 40)).setCell ⟨w.heap.size + 1 + 1, 0, none⟩ (.int .i32 y0)).setCell ⟨w.heap.size + 1 + 1, 1, none⟩ (.int .i32 y1)).setCell ⟨w.heap.size + 1 + 1, 2, none⟩ (.int .i32 y2)) := (((hb.setCell (p := ⟨w.heap.size + 1 + 1, 0, none⟩) (by dsimp only; omega) (.int .i32 y0)).setCell (p := ⟨w.heap.size + 1 + 1, 1, none⟩) (by dsimp only; omega) (.int .i32 y1)).setCell (p := ⟨w.heap.size + 1 + 1, 2, none⟩) (by dsimp only; omega) (.int .i32 y2))
  go_wp2
  generalize ((((w1.alloc (.cells #[.int .i32 y0, .int .i32 y1, .int .i32 y2] 40)).setCell ⟨w.heap.size + 1 + 1, 0, none⟩ (.int .i32 y0)).setCell ⟨w.heap.size + 1 + 1, 1, none⟩ (.int .i32 y1)).setCell ⟨w.heap.size + 1 + 1, 2, none⟩ (.int .i32 y2)) = wf at *
  have f0 : wf.cell? ⟨w.heap.size + 1 + 1, 0, none⟩ = some (.int .i32 y0) := hf.cell 0
  have f1 : wf.cell? ⟨w.heap.size + 1 + 1, 1, none⟩ = some (.int .i32 y1) := hf.cell 1
  have f2 : wf.cell? ⟨w.heap.size + 1 + 1, 2, none⟩ = some (.int .i32 y2) := hf.cell 2
  simp [bodyPost, results, Try.results41, go_sem, f0, f1, f2]
  first | exact hbf | exact ⟨by rw [HY.out.1, HY.out.2.1, HY.out.2.2.1, HY.out.2.2.2], hbf⟩ | exact ⟨⟨⟨HY.out.1.symm, HY.out.2.1.symm, HY.out.2.2.1.symm⟩, HY.out.2.2.2.symm⟩, hbf⟩ | exact ⟨⟨HY.out.1.symm, HY.out.2.1.symm, HY.out.2.2.1.symm, HY.out.2.2.2.symm⟩, hbf⟩ | exact ⟨HY.out.1.symm, HY.out.2.1.symm, HY.out.2.2.1.symm, HY.out.2.2.2.symm, hbf⟩ | exact ⟨⟨HY.out.1.symm, HY.out.2.1.symm, HY.out.2.2.1.symm⟩, HY.out.2.2.2.symm, hbf⟩

set_option maxHeartbeats 16000000 in
theorem r9_Cross (a0 a1 a2 b0 b1 b2 : Int) (w : World) (ia0 : I32 a0) (ia1 : I32 a1) (ia2 : I32 a2) (ib0 : I32 b0) (ib1 : I32 b1) (ib2 : I32 b2) :
    Calls Try.prog 47 #[.agg #[.int .i32 a0, .int .i32 a1, .int .i32 a2], .agg #[.int .i32 b0, .int .i32 b1, .int .i32 b2], .int .i64 16] w fun e w' => e = .returned (.tuple #[.agg #[.int .i32 (clampP (tvP a1 b2 - tvP a2 b1)), .int .i32 (clampP (tvP a2 b0 - tvP a0 b2)), .int .i32 (clampP (tvP a0 b1 - tvP a1 b0))], .int .i64 (cutC (tvP a1 b2 - tvP a2 b1) + cutC (tvP a2 b0 - tvP a0 b2) + cutC (tvP a0 b1 - tvP a1 b0))]) ∧ Below w.heap.size w w' := by
  have q0 := tv_bd a1 b2 ia1 ib2
  have p0 := tv_bd a2 b1 ia2 ib1
  have H0 := hid fun w => r9_tv a1 b2 w ia1 ib2
  have G0 := hid fun w => r9_tv a2 b1 w ia2 ib1
  have u0 : IntKind.i64.wrap (tvP a1 b2 - tvP a2 b1) = tvP a1 b2 - tvP a2 b1 := IntWalk.i64_in _ (by omega)
  have q1 := tv_bd a2 b0 ia2 ib0
  have p1 := tv_bd a0 b2 ia0 ib2
  have H1 := hid fun w => r9_tv a2 b0 w ia2 ib0
  have G1 := hid fun w => r9_tv a0 b2 w ia0 ib2
  have u1 : IntKind.i64.wrap (tvP a2 b0 - tvP a0 b2) = tvP a2 b0 - tvP a0 b2 := IntWalk.i64_in _ (by omega)
  have q2 := tv_bd a0 b1 ia0 ib1
  have p2 := tv_bd a1 b0 ia1 ib0
  have H2 := hid fun w => r9_tv a0 b1 w ia0 ib1
  have G2 := hid fun w => r9_tv a1 b0 w ia1 ib0
  have u2 : IntKind.i64.wrap (tvP a0 b1 - tvP a1 b0) = tvP a0 b1 - tvP a1 b0 := IntWalk.i64_in _ (by omega)
  have HE := fun w => r9_Cut (tvP a1 b2 - tvP a2 b1) (tvP a2 b0 - tvP a0 b2) (tvP a0 b1 - tvP a1 b0) w (by unfold I64; omega) (by unfold I64; omega) (by unfold I64; omega)
  clear q0 q1 q2 p0 p1 p2
  generalize hy0 : clampP (tvP a1 b2 - tvP a2 b1) = y0 at HE
  generalize hy1 : clampP (tvP a2 b0 - tvP a0 b2) = y1 at HE
  generalize hy2 : clampP (tvP a0 b1 - tvP a1 b0) = y2 at HE
  generalize hN : cutC (tvP a1 b2 - tvP a2 b1) + cutC (tvP a2 b0 - tvP a0 b2) + cutC (tvP a0 b1 - tvP a1 b0) = N at HE
  have HY := hid (show _ ∧ _ ∧ _ ∧ _ from ⟨hy0, hy1, hy2, hN⟩)
  clear hy0 hy1 hy2 hN
  have HE2 := hid HE
  clear HE
  have hp0 : Blk (((w.alloc (.cells #[.int .i32 a0, .int .i32 a1, .int .i32 a2] 40)).alloc (.cells #[.int .i32 b0, .int .i32 b1, .int .i32 b2] 40)).alloc (.cells #[.int .i32 0, .int .i32 0, .int .i32 0] 40)) w.heap.size 40 #[.int .i32 a0, .int .i32 a1, .int .i32 a2] := ((Blk.new w _ _).alloc _).alloc _
  have hp1 : Blk (((w.alloc (.cells #[.int .i32 a0, .int .i32 a1, .int .i32 a2] 40)).alloc (.cells #[.int .i32 b0, .int .i32 b1, .int .i32 b2] 40)).alloc (.cells #[.int .i32 0, .int .i32 0, .int .i32 0] 40)) (w.heap.size + 1) 40 #[.int .i32 b0, .int .i32 b1, .int .i32 b2] := by have := (Blk.new (w.alloc (.cells #[.int .i32 a0, .int .i32 a1, .int .i32 a2] 40)) 40 #[.int .i32 b0, .int .i32 b1, .int .i32 b2]).alloc (.cells #[.int .i32 0, .int .i32 0, .int .i32 0] 40); simpa using this
  have hb : Below w.heap.size w (((w.alloc (.cells #[.int .i32 a0, .int .i32 a1, .int .i32 a2] 40)).alloc (.cells #[.int .i32 b0, .int .i32 b1, .int .i32 b2] 40)).alloc (.cells #[.int .i32 0, .int .i32 0, .int .i32 0] 40)) := (((Below.refl _ w).alloc (Nat.le_refl _) _).alloc (by simp) _).alloc (by simp; omega) _
  have hr : Blk (((w.alloc (.cells #[.int .i32 a0, .int .i32 a1, .int .i32 a2] 40)).alloc (.cells #[.int .i32 b0, .int .i32 b1, .int .i32 b2] 40)).alloc (.cells #[.int .i32 0, .int .i32 0, .int .i32 0] 40)) (w.heap.size + 1 + 1) 40 #[.int .i32 0, .int .i32 0, .int .i32 0] := by have := Blk.new ((w.alloc (.cells #[.int .i32 a0, .int .i32 a1, .int .i32 a2] 40)).alloc (.cells #[.int .i32 b0, .int .i32 b1, .int .i32 b2] 40)) 40 #[.int .i32 0, .int .i32 0, .int .i32 0]; simpa using this
  go_enter Try.func47, Try.ntmps47
  go_upto_region 1 with fail
  generalize ((w.alloc (.cells #[.int .i32 a0, .int .i32 a1, .int .i32 a2] 40)).alloc (.cells #[.int .i32 b0, .int .i32 b1, .int .i32 b2] 40)).alloc (.cells #[.int .i32 0, .int .i32 0, .int .i32 0] 40) = W0 at *
  refine wp_region_noPanic ?_
  refine wp_region_held_drew (S := (fun w' : World => w'.cell? ⟨w.heap.size, 0, none⟩ = some (.int .i32 a0) ∧ w'.cell? ⟨w.heap.size, 1, none⟩ = some (.int .i32 a1) ∧ w'.cell? ⟨w.heap.size, 2, none⟩ = some (.int .i32 a2) ∧ w'.cell? ⟨w.heap.size + 1, 0, none⟩ = some (.int .i32 b0) ∧ w'.cell? ⟨w.heap.size + 1, 1, none⟩ = some (.int .i32 b1) ∧ w'.cell? ⟨w.heap.size + 1, 2, none⟩ = some (.int .i32 b2))) (by kernel_rfl) ⟨hp0.cell 0, hp0.cell 1, hp0.cell 2, hp1.cell 0, hp1.cell 1, hp1.cell 2⟩ (fun hHeld => ?_)
  refine (show wpAnyH _ _ _ _ _ 14 _ _ _ from ?_)
  try (simp only [Act.put, List.setIfInBounds_toArray, List.set_cons_zero, List.set_cons_succ])
  replace hp0 := hp0.drew
  replace hp1 := hp1.drew
  replace hb := hb.drew
  replace hr := hr.drew
  generalize W0.drew = W1 at *
  refine tk 0 hHeld ?_
  refine tk 1 hHeld ?_
  refine tk 2 hHeld ?_
  refine tk 3 hHeld ?_
  refine tk 4 hHeld ?_
  refine tk 6 hHeld ?_
  refine tk 7 hHeld ?_
  refine tk 8 hHeld ?_
  refine tk 9 hHeld ?_
  refine tk 10 hHeld ?_
  refine rd1 5 (fun K hK => ?_)
  go_simp
  refine (H0.out _).mono ?_
  rintro e w' ⟨rfl, rfl⟩
  go_wp2_with fail
  refine hK.out _ _ ⟨hp0.cell 0, hp0.cell 1, hp0.cell 2, hp1.cell 0, hp1.cell 1, hp1.cell 2⟩ (fun hHeld => ?_)
  clear hK K
  try (simp only [Act.put, List.setIfInBounds_toArray, List.set_cons_zero, List.set_cons_succ])
  refine rd1 11 (fun K hK => ?_)
  go_simp
  refine (G0.out _).mono ?_
  rintro e w' ⟨rfl, rfl⟩
  go_wp2_with fail
  refine hK.out _ _ ⟨hp0.cell 0, hp0.cell 1, hp0.cell 2, hp1.cell 0, hp1.cell 1, hp1.cell 2⟩ (fun hHeld => ?_)
  clear hK K
  try (simp only [Act.put, List.setIfInBounds_toArray, List.set_cons_zero, List.set_cons_succ])
  refine tk 12 hHeld ?_
  refine tk 13 hHeld ?_
  refine wpAnyH_done ?hru4 ?hqu4 _
  case hru4 => kernel_rfl
  refine NoPanic.normal ?_
  go_upto_region 2 with fail
  refine wp_region_noPanic ?_
  refine wp_region_held_drew (S := (fun w' : World => w'.cell? ⟨w.heap.size, 0, none⟩ = some (.int .i32 a0) ∧ w'.cell? ⟨w.heap.size, 1, none⟩ = some (.int .i32 a1) ∧ w'.cell? ⟨w.heap.size, 2, none⟩ = some (.int .i32 a2) ∧ w'.cell? ⟨w.heap.size + 1, 0, none⟩ = some (.int .i32 b0) ∧ w'.cell? ⟨w.heap.size + 1, 1, none⟩ = some (.int .i32 b1) ∧ w'.cell? ⟨w.heap.size + 1, 2, none⟩ = some (.int .i32 b2))) (by kernel_rfl) ⟨hp0.cell 0, hp0.cell 1, hp0.cell 2, hp1.cell 0, hp1.cell 1, hp1.cell 2⟩ (fun hHeld => ?_)
  refine (show wpAnyH _ _ _ _ _ 14 _ _ _ from ?_)
  try (simp only [Act.put, List.setIfInBounds_toArray, List.set_cons_zero, List.set_cons_succ])
  replace hp0 := hp0.drew
  replace hp1 := hp1.drew
  replace hb := hb.drew
  replace hr := hr.drew
  generalize W1.drew = W5 at *
  refine tk 0 hHeld ?_
  refine tk 1 hHeld ?_
  refine tk 2 hHeld ?_
  refine tk 3 hHeld ?_
  refine tk 4 hHeld ?_
  refine tk 6 hHeld ?_
  refine tk 7 hHeld ?_
  refine tk 8 hHeld ?_
  refine tk 9 hHeld ?_
  refine tk 10 hHeld ?_
  refine rd1 5 (fun K hK => ?_)
  go_simp
  refine (H1.out _).mono ?_
  rintro e w' ⟨rfl, rfl⟩
  go_wp2_with fail
  refine hK.out _ _ ⟨hp0.cell 0, hp0.cell 1, hp0.cell 2, hp1.cell 0, hp1.cell 1, hp1.cell 2⟩ (fun hHeld => ?_)
  clear hK K
  try (simp only [Act.put, List.setIfInBounds_toArray, List.set_cons_zero, List.set_cons_succ])
  refine rd1 11 (fun K hK => ?_)
  go_simp
  refine (G1.out _).mono ?_
  rintro e w' ⟨rfl, rfl⟩
  go_wp2_with fail
  refine hK.out _ _ ⟨hp0.cell 0, hp0.cell 1, hp0.cell 2, hp1.cell 0, hp1.cell 1, hp1.cell 2⟩ (fun hHeld => ?_)
  clear hK K
  try (simp only [Act.put, List.setIfInBounds_toArray, List.set_cons_zero, List.set_cons_succ])
  refine tk 12 hHeld ?_
  refine tk 13 hHeld ?_
  refine wpAnyH_done ?hru8 ?hqu8 _
  case hru8 => kernel_rfl
  refine NoPanic.normal ?_
  go_upto_region 3 with fail
  refine wp_region_noPanic ?_
  refine wp_region_held_drew (S := (fun w' : World => w'.cell? ⟨w.heap.size, 0, none⟩ = some (.int .i32 a0) ∧ w'.cell? ⟨w.heap.size, 1, none⟩ = some (.int .i32 a1) ∧ w'.cell? ⟨w.heap.size, 2, none⟩ = some (.int .i32 a2) ∧ w'.cell? ⟨w.heap.size + 1, 0, none⟩ = some (.int .i32 b0) ∧ w'.cell? ⟨w.heap.size + 1, 1, none⟩ = some (.int .i32 b1) ∧ w'.cell? ⟨w.heap.size + 1, 2, none⟩ = some (.int .i32 b2))) (by kernel_rfl) ⟨hp0.cell 0, hp0.cell 1, hp0.cell 2, hp1.cell 0, hp1.cell 1, hp1.cell 2⟩ (fun hHeld => ?_)
  refine (show wpAnyH _ _ _ _ _ 14 _ _ _ from ?_)
  try (simp only [Act.put, List.setIfInBounds_toArray, List.set_cons_zero, List.set_cons_succ])
  replace hp0 := hp0.drew
  replace hp1 := hp1.drew
  replace hb := hb.drew
  replace hr := hr.drew
  generalize W5.drew = W9 at *
  refine tk 0 hHeld ?_
  refine tk 1 hHeld ?_
  refine tk 2 hHeld ?_
  refine tk 3 hHeld ?_
  refine tk 4 hHeld ?_
  refine tk 6 hHeld ?_
  refine tk 7 hHeld ?_
  refine tk 8 hHeld ?_
  refine tk 9 hHeld ?_
  refine tk 10 hHeld ?_
  refine rd1 5 (fun K hK => ?_)
  go_simp
  refine (H2.out _).mono ?_
  rintro e w' ⟨rfl, rfl⟩
  go_wp2_with fail
  refine hK.out _ _ ⟨hp0.cell 0, hp0.cell 1, hp0.cell 2, hp1.cell 0, hp1.cell 1, hp1.cell 2⟩ (fun hHeld => ?_)
  clear hK K
  try (simp only [Act.put, List.setIfInBounds_toArray, List.set_cons_zero, List.set_cons_succ])
  refine rd1 11 (fun K hK => ?_)
  go_simp
  refine (G2.out _).mono ?_
  rintro e w' ⟨rfl, rfl⟩
  go_wp2_with fail
  refine hK.out _ _ ⟨hp0.cell 0, hp0.cell 1, hp0.cell 2, hp1.cell 0, hp1.cell 1, hp1.cell 2⟩ (fun hHeld => ?_)
  clear hK K
  try (simp only [Act.put, List.setIfInBounds_toArray, List.set_cons_zero, List.set_cons_succ])
  refine tk 12 hHeld ?_
  refine tk 13 hHeld ?_
  refine wpAnyH_done ?hru12 ?hqu12 _
  case hru12 => kernel_rfl
  refine NoPanic.normal ?_
  go_upto_region 4 with fail
  go_wp2_with fail
  refine (HE2.out _).mono ?_
  rintro e w1 ⟨rfl, bb⟩
  replace hr := (hr.below bb hr.lt).alloc (.cells #[.int .i32 y0, .int .i32 y1, .int .i32 y2] 40)
  have hY := Blk.new w1 40 #[.int .i32 y0, .int .i32 y1, .int .i32 y2]
  replace hb := (hb.on bb).alloc (hb.on bb).size (.cells #[.int .i32 y0, .int .i32 y1, .int .i32 y2] 40)
  have d0 : (w1.alloc (.cells #[.int .i32 y0, .int .i32 y1, .int .i32 y2] 40)).cell? ⟨w.heap.size + 1 + 1, 0, none⟩ = some (.int .i32 0) := hr.cell 0
  have z0 := hr.frozen 0
  have x0 : (w1.alloc (.cells #[.int .i32 y0, .int .i32 y1, .int .i32 y2] 40)).cell? ⟨w1.heap.size, 0, none⟩ = some (.int .i32 y0) := hY.cell 0
  have d1 : (w1.alloc (.cells #[.int .i32 y0, .int .i32 y1, .int .i32 y2] 40)).cell? ⟨w.heap.size + 1 + 1, 1, none⟩ = some (.int .i32 0) := hr.cell 1
  have z1 := hr.frozen 1
  have x1 : (w1.alloc (.cells #[.int .i32 y0, .int .i32 y1, .int .i32 y2] 40)).cell? ⟨w1.heap.size, 1, none⟩ = some (.int .i32 y1) := hY.cell 1
  have d2 : (w1.alloc (.cells #[.int .i32 y0, .int .i32 y1, .int .i32 y2] 40)).cell? ⟨w.heap.size + 1 + 1, 2, none⟩ = some (.int .i32 0) := hr.cell 2
  have z2 := hr.frozen 2
  have x2 : (w1.alloc (.cells #[.int .i32 y0, .int .i32 y1, .int .i32 y2] 40)).cell? ⟨w1.heap.size, 2, none⟩ = some (.int .i32 y2) := hY.cell 2
  have hf : Blk ((((w1.alloc (.cells #[.int .i32 y0, .int .i32 y1, .int .i32 y2] 40)).setCell ⟨w.heap.size + 1 + 1, 0, none⟩ (.int .i32 y0)).setCell ⟨w.heap.size + 1 + 1, 1, none⟩ (.int .i32 y1)).setCell ⟨w.heap.size + 1 + 1, 2, none⟩ (.int .i32 y2)) (w.heap.size + 1 + 1) 40 #[.int .i32 y0, .int .i32 y1, .int .i32 y2] := (((hr.set_ 0 (.int .i32 y0)).set_ 1 (.int .i32 y1)).set_ 2 (.int .i32 y2))
  have hbf : Below w.heap.size w ((((w1.alloc (.cells #[.int .i32 y0, .int .i32 y1, .int .i32 y2] 40)).setCell ⟨w.heap.size + 1 + 1, 0, none⟩ (.int .i32 y0)).setCell ⟨w.heap.size + 1 + 1, 1, none⟩ (.int .i32 y1)).setCell ⟨w.heap.size + 1 + 1, 2, none⟩ (.int .i32 y2)) := (((hb.setCell (p := ⟨w.heap.size + 1 + 1, 0, none⟩) (by dsimp only; omega) (.int .i32 y0)).setCell (p := ⟨w.heap.size + 1 + 1, 1, none⟩) (by dsimp only; omega) (.int .i32 y1)).setCell (p := ⟨w.heap.size + 1 + 1, 2, none⟩) (by dsimp only; omega) (.int .i32 y2))
  go_wp2
  generalize ((((w1.alloc (.cells #[.int .i32 y0, .int .i32 y1, .int .i32 y2] 40)).setCell ⟨w.heap.size + 1 + 1, 0, none⟩ (.int .i32 y0)).setCell ⟨w.heap.size + 1 + 1, 1, none⟩ (.int .i32 y1)).setCell ⟨w.heap.size + 1 + 1, 2, none⟩ (.int .i32 y2)) = wf at *
  have f0 : wf.cell? ⟨w.heap.size + 1 + 1, 0, none⟩ = some (.int .i32 y0) := hf.cell 0
  have f1 : wf.cell? ⟨w.heap.size + 1 + 1, 1, none⟩ = some (.int .i32 y1) := hf.cell 1
  have f2 : wf.cell? ⟨w.heap.size + 1 + 1, 2, none⟩ = some (.int .i32 y2) := hf.cell 2
  simp [bodyPost, results, Try.results47, go_sem, f0, f1, f2]
  first | exact hbf | exact ⟨by rw [HY.out.1, HY.out.2.1, HY.out.2.2.1, HY.out.2.2.2], hbf⟩ | exact ⟨⟨⟨HY.out.1.symm, HY.out.2.1.symm, HY.out.2.2.1.symm⟩, HY.out.2.2.2.symm⟩, hbf⟩ | exact ⟨⟨HY.out.1.symm, HY.out.2.1.symm, HY.out.2.2.1.symm, HY.out.2.2.2.symm⟩, hbf⟩ | exact ⟨HY.out.1.symm, HY.out.2.1.symm, HY.out.2.2.1.symm, HY.out.2.2.2.symm, hbf⟩ | exact ⟨⟨HY.out.1.symm, HY.out.2.1.symm, HY.out.2.2.1.symm⟩, HY.out.2.2.2.symm, hbf⟩

set_option maxHeartbeats 16000000 in
theorem r9_Scale (a0 a1 a2 k : Int) (w : World) (ia0 : I32 a0) (ia1 : I32 a1) (ia2 : I32 a2) (ik : I32 k) :
    Calls Try.prog 43 #[.agg #[.int .i32 a0, .int .i32 a1, .int .i32 a2], .int .i32 k] w fun e w' => e = .returned (.tuple #[.agg #[.int .i32 (clampP (tvP a0 k)), .int .i32 (clampP (tvP a1 k)), .int .i32 (clampP (tvP a2 k))], .int .i64 (cutC (tvP a0 k) + cutC (tvP a1 k) + cutC (tvP a2 k))]) ∧ Below w.heap.size w w' := by
  have q0 := tv_bd a0 k ia0 ik
  have H0 := hid fun w => r9_tv a0 k w ia0 ik
  have q1 := tv_bd a1 k ia1 ik
  have H1 := hid fun w => r9_tv a1 k w ia1 ik
  have q2 := tv_bd a2 k ia2 ik
  have H2 := hid fun w => r9_tv a2 k w ia2 ik
  have HE := fun w => r9_Cut (tvP a0 k) (tvP a1 k) (tvP a2 k) w (by unfold I64; omega) (by unfold I64; omega) (by unfold I64; omega)
  clear q0 q1 q2
  generalize hy0 : clampP (tvP a0 k) = y0 at HE
  generalize hy1 : clampP (tvP a1 k) = y1 at HE
  generalize hy2 : clampP (tvP a2 k) = y2 at HE
  generalize hN : cutC (tvP a0 k) + cutC (tvP a1 k) + cutC (tvP a2 k) = N at HE
  have HY := hid (show _ ∧ _ ∧ _ ∧ _ from ⟨hy0, hy1, hy2, hN⟩)
  clear hy0 hy1 hy2 hN
  have HE2 := hid HE
  clear HE
  have hp0 : Blk ((w.alloc (.cells #[.int .i32 a0, .int .i32 a1, .int .i32 a2] 40)).alloc (.cells #[.int .i32 0, .int .i32 0, .int .i32 0] 40)) w.heap.size 40 #[.int .i32 a0, .int .i32 a1, .int .i32 a2] := (Blk.new w _ _).alloc _
  have hr : Blk ((w.alloc (.cells #[.int .i32 a0, .int .i32 a1, .int .i32 a2] 40)).alloc (.cells #[.int .i32 0, .int .i32 0, .int .i32 0] 40)) (w.heap.size + 1) 40 #[.int .i32 0, .int .i32 0, .int .i32 0] := by have := Blk.new (w.alloc (.cells #[.int .i32 a0, .int .i32 a1, .int .i32 a2] 40)) 40 #[.int .i32 0, .int .i32 0, .int .i32 0]; simpa using this
  have hb : Below w.heap.size w ((w.alloc (.cells #[.int .i32 a0, .int .i32 a1, .int .i32 a2] 40)).alloc (.cells #[.int .i32 0, .int .i32 0, .int .i32 0] 40)) := ((Below.refl _ w).alloc (Nat.le_refl _) _).alloc (by simp) _
  go_enter Try.func43, Try.ntmps43
  go_upto_region 1 with fail
  generalize (w.alloc (.cells #[.int .i32 a0, .int .i32 a1, .int .i32 a2] 40)).alloc (.cells #[.int .i32 0, .int .i32 0, .int .i32 0] 40) = W0 at *
  go_cut [6, 7] from 8 to 23 (fun x y wx => ∃ g : Nat, x = .pointer (some ⟨g, 0, none⟩) ∧ y = .int .i64 N ∧ Blk wx g 40 #[.int .i32 y0, .int .i32 y1, .int .i32 y2] ∧ Blk wx (w.heap.size + 1) 40 #[.int .i32 0, .int .i32 0, .int .i32 0] ∧ Below w.heap.size w wx)
  case first =>
    refine wp_region_noPanic ?_
    refine wp_region_held_drew (S := (fun w' : World => w'.cell? ⟨w.heap.size, 0, none⟩ = some (.int .i32 a0) ∧ w'.cell? ⟨w.heap.size, 1, none⟩ = some (.int .i32 a1) ∧ w'.cell? ⟨w.heap.size, 2, none⟩ = some (.int .i32 a2) ∧ w'.cell? ⟨w.heap.size + 1, 0, none⟩ = some (.int .i32 0) ∧ w'.cell? ⟨w.heap.size + 1, 1, none⟩ = some (.int .i32 0) ∧ w'.cell? ⟨w.heap.size + 1, 2, none⟩ = some (.int .i32 0))) (by kernel_rfl) ⟨hp0.cell 0, hp0.cell 1, hp0.cell 2, hr.cell 0, hr.cell 1, hr.cell 2⟩ (fun hHeld => ?_)
    refine (show wpAnyH _ _ _ _ _ 19 _ _ _ from ?_)
    try (simp only [Act.put, List.setIfInBounds_toArray, List.set_cons_zero, List.set_cons_succ])
    replace hp0 := hp0.drew
    replace hr := hr.drew
    replace hb := hb.drew
    generalize W0.drew = W13 at *
    refine tk 0 hHeld ?_
    refine tk 1 hHeld ?_
    refine tk 2 hHeld ?_
    refine tk 4 hHeld ?_
    refine tk 5 hHeld ?_
    refine tk 6 hHeld ?_
    refine tk 8 hHeld ?_
    refine tk 9 hHeld ?_
    refine tk 10 hHeld ?_
    refine rd2 3 16 (fun K hK => ?hc14q3) (fun K hK => ?hc14q16)
    case hc14q3 =>
      go_simp
      refine (H0.out _).mono ?_
      rintro e w' ⟨rfl, rfl⟩
      go_wp2_with fail
      refine hK.out _ _ ⟨hp0.cell 0, hp0.cell 1, hp0.cell 2, hr.cell 0, hr.cell 1, hr.cell 2⟩ (fun hHeld => ?_)
      clear hK K
      try (simp only [Act.put, List.setIfInBounds_toArray, List.set_cons_zero, List.set_cons_succ])
      refine rd2 7 16 (fun K hK => ?hc16q7) (fun K hK => ?hc16q16)
      case hc16q7 =>
        go_simp
        refine (H1.out _).mono ?_
        rintro e w' ⟨rfl, rfl⟩
        go_wp2_with fail
        refine hK.out _ _ ⟨hp0.cell 0, hp0.cell 1, hp0.cell 2, hr.cell 0, hr.cell 1, hr.cell 2⟩ (fun hHeld => ?_)
        clear hK K
        try (simp only [Act.put, List.setIfInBounds_toArray, List.set_cons_zero, List.set_cons_succ])
        refine rd2 11 16 (fun K hK => ?hc18q11) (fun K hK => ?hc18q16)
        case hc18q11 =>
          go_simp
          refine (H2.out _).mono ?_
          rintro e w' ⟨rfl, rfl⟩
          go_wp2_with fail
          refine hK.out _ _ ⟨hp0.cell 0, hp0.cell 1, hp0.cell 2, hr.cell 0, hr.cell 1, hr.cell 2⟩ (fun hHeld => ?_)
          clear hK K
          try (simp only [Act.put, List.setIfInBounds_toArray, List.set_cons_zero, List.set_cons_succ])
          refine rd2 12 16 (fun K hK => ?hc20q12) (fun K hK => ?hc20q16)
          case hc20q12 =>
            go_simp
            refine (HE2.out _).mono ?_
            rintro e v21 ⟨rfl, bb⟩
            go_wp2_with fail
            replace hp0 := hp0.below bb hp0.lt
            replace hr := hr.below bb hr.lt
            replace hb := hb.on bb
            clear bb
            refine hK.out _ _ ⟨hp0.cell 0, hp0.cell 1, hp0.cell 2, hr.cell 0, hr.cell 1, hr.cell 2⟩ (fun hHeld => ?_)
            clear hK K
            try (simp only [Act.put, List.setIfInBounds_toArray, List.set_cons_zero, List.set_cons_succ])
            refine tk 13 hHeld ?_
            refine tk 14 hHeld ?_
            refine tk 15 hHeld ?_
            refine rd1 16 (fun K hK => ?_)
            go_simp
            try go_wp2_with fail
            have lb23 := hb.size
            have l23hp0 := hp0.lt
            have l23hr := hr.lt
            replace hp0 := hp0.alloc (.cells #[.int .i32 0, .int .i32 0, .int .i32 0] 40)
            replace hr := hr.alloc (.cells #[.int .i32 0, .int .i32 0, .int .i32 0] 40)
            have n23 := Blk.new v21 40 #[.int .i32 0, .int .i32 0, .int .i32 0]
            replace hb := hb.alloc hb.size (.cells #[.int .i32 0, .int .i32 0, .int .i32 0] 40)
            generalize v21.alloc (.cells #[.int .i32 0, .int .i32 0, .int .i32 0] 40) = v23 at *
            generalize v21.heap.size = g23 at *
            refine hK.out _ _ ⟨hp0.cell 0, hp0.cell 1, hp0.cell 2, hr.cell 0, hr.cell 1, hr.cell 2⟩ (fun hHeld => ?_)
            clear hK K
            try (simp only [Act.put, List.setIfInBounds_toArray, List.set_cons_zero, List.set_cons_succ])
            refine rd1 17 (fun K hK => ?_)
            have c0 : v23.cell? ⟨g23, 0, none⟩ = some (.int .i32 0) := n23.cell 0
            have z0 := n23.frozen 0
            have c1 : v23.cell? ⟨g23, 1, none⟩ = some (.int .i32 0) := n23.cell 1
            have z1 := n23.frozen 1
            have c2 : v23.cell? ⟨g23, 2, none⟩ = some (.int .i32 0) := n23.cell 2
            have z2 := n23.frozen 2
            go_simp
            try go_wp2_with fail
            replace hp0 := (((hp0.far (p := ⟨g23, 0, none⟩) (by dsimp only; omega) (.int .i32 y0)).far (p := ⟨g23, 1, none⟩) (by dsimp only; omega) (.int .i32 y1)).far (p := ⟨g23, 2, none⟩) (by dsimp only; omega) (.int .i32 y2))
            replace hr := (((hr.far (p := ⟨g23, 0, none⟩) (by dsimp only; omega) (.int .i32 y0)).far (p := ⟨g23, 1, none⟩) (by dsimp only; omega) (.int .i32 y1)).far (p := ⟨g23, 2, none⟩) (by dsimp only; omega) (.int .i32 y2))
            replace n23 := (((n23.set_ 0 (.int .i32 y0)).set_ 1 (.int .i32 y1)).set_ 2 (.int .i32 y2))
            replace hb := (((hb.setCell (p := ⟨g23, 0, none⟩) (by dsimp only; omega) (.int .i32 y0)).setCell (p := ⟨g23, 1, none⟩) (by dsimp only; omega) (.int .i32 y1)).setCell (p := ⟨g23, 2, none⟩) (by dsimp only; omega) (.int .i32 y2))
            clear c0 z0 c1 z1 c2 z2
            generalize (((v23.setCell ⟨g23, 0, none⟩ (.int .i32 y0)).setCell ⟨g23, 1, none⟩ (.int .i32 y1)).setCell ⟨g23, 2, none⟩ (.int .i32 y2)) = v25 at *
            refine hK.out _ _ ⟨hp0.cell 0, hp0.cell 1, hp0.cell 2, hr.cell 0, hr.cell 1, hr.cell 2⟩ (fun hHeld => ?_)
            clear hK K
            try (simp only [Act.put, List.setIfInBounds_toArray, List.set_cons_zero, List.set_cons_succ])
            refine tk 18 hHeld ?_
            refine wpAnyH_done ?hru26 ?hqu26 _
            case hru26 => kernel_rfl
            refine NoPanic.normal ?_
            try go_wp2_with fail
            go_meet
            exact ⟨g23, rfl, rfl, n23, hr, hb⟩
          case hc20q16 =>
            go_simp
            try go_wp2_with fail
            have lb27 := hb.size
            have l27hp0 := hp0.lt
            have l27hr := hr.lt
            replace hp0 := hp0.alloc (.cells #[.int .i32 0, .int .i32 0, .int .i32 0] 40)
            replace hr := hr.alloc (.cells #[.int .i32 0, .int .i32 0, .int .i32 0] 40)
            have n27 := Blk.new W13 40 #[.int .i32 0, .int .i32 0, .int .i32 0]
            replace hb := hb.alloc hb.size (.cells #[.int .i32 0, .int .i32 0, .int .i32 0] 40)
            generalize W13.alloc (.cells #[.int .i32 0, .int .i32 0, .int .i32 0] 40) = v27 at *
            generalize W13.heap.size = g27 at *
            refine hK.out _ _ ⟨hp0.cell 0, hp0.cell 1, hp0.cell 2, hr.cell 0, hr.cell 1, hr.cell 2⟩ (fun hHeld => ?_)
            clear hK K
            try (simp only [Act.put, List.setIfInBounds_toArray, List.set_cons_zero, List.set_cons_succ])
            refine rd1 12 (fun K hK => ?_)
            go_simp
            refine (HE2.out _).mono ?_
            rintro e v29 ⟨rfl, bb⟩
            go_wp2_with fail
            replace hp0 := hp0.below bb hp0.lt
            replace hr := hr.below bb hr.lt
            replace n27 := n27.below bb n27.lt
            replace hb := hb.on bb
            clear bb
            refine hK.out _ _ ⟨hp0.cell 0, hp0.cell 1, hp0.cell 2, hr.cell 0, hr.cell 1, hr.cell 2⟩ (fun hHeld => ?_)
            clear hK K
            try (simp only [Act.put, List.setIfInBounds_toArray, List.set_cons_zero, List.set_cons_succ])
            refine tk 13 hHeld ?_
            refine tk 14 hHeld ?_
            refine tk 15 hHeld ?_
            refine rd1 17 (fun K hK => ?_)
            have c0 : v29.cell? ⟨g27, 0, none⟩ = some (.int .i32 0) := n27.cell 0
            have z0 := n27.frozen 0
            have c1 : v29.cell? ⟨g27, 1, none⟩ = some (.int .i32 0) := n27.cell 1
            have z1 := n27.frozen 1
            have c2 : v29.cell? ⟨g27, 2, none⟩ = some (.int .i32 0) := n27.cell 2
            have z2 := n27.frozen 2
            go_simp
            try go_wp2_with fail
            replace hp0 := (((hp0.far (p := ⟨g27, 0, none⟩) (by dsimp only; omega) (.int .i32 y0)).far (p := ⟨g27, 1, none⟩) (by dsimp only; omega) (.int .i32 y1)).far (p := ⟨g27, 2, none⟩) (by dsimp only; omega) (.int .i32 y2))
            replace hr := (((hr.far (p := ⟨g27, 0, none⟩) (by dsimp only; omega) (.int .i32 y0)).far (p := ⟨g27, 1, none⟩) (by dsimp only; omega) (.int .i32 y1)).far (p := ⟨g27, 2, none⟩) (by dsimp only; omega) (.int .i32 y2))
            replace n27 := (((n27.set_ 0 (.int .i32 y0)).set_ 1 (.int .i32 y1)).set_ 2 (.int .i32 y2))
            replace hb := (((hb.setCell (p := ⟨g27, 0, none⟩) (by dsimp only; omega) (.int .i32 y0)).setCell (p := ⟨g27, 1, none⟩) (by dsimp only; omega) (.int .i32 y1)).setCell (p := ⟨g27, 2, none⟩) (by dsimp only; omega) (.int .i32 y2))
            clear c0 z0 c1 z1 c2 z2
            generalize (((v29.setCell ⟨g27, 0, none⟩ (.int .i32 y0)).setCell ⟨g27, 1, none⟩ (.int .i32 y1)).setCell ⟨g27, 2, none⟩ (.int .i32 y2)) = v31 at *
            refine hK.out _ _ ⟨hp0.cell 0, hp0.cell 1, hp0.cell 2, hr.cell 0, hr.cell 1, hr.cell 2⟩ (fun hHeld => ?_)
            clear hK K
            try (simp only [Act.put, List.setIfInBounds_toArray, List.set_cons_zero, List.set_cons_succ])
            refine tk 18 hHeld ?_
            refine wpAnyH_done ?hru32 ?hqu32 _
            case hru32 => kernel_rfl
            refine NoPanic.normal ?_
            try go_wp2_with fail
            go_meet
            exact ⟨g27, rfl, rfl, n27, hr, hb⟩
        case hc18q16 =>
          go_simp
          try go_wp2_with fail
          have lb33 := hb.size
          have l33hp0 := hp0.lt
          have l33hr := hr.lt
          replace hp0 := hp0.alloc (.cells #[.int .i32 0, .int .i32 0, .int .i32 0] 40)
          replace hr := hr.alloc (.cells #[.int .i32 0, .int .i32 0, .int .i32 0] 40)
          have n33 := Blk.new W13 40 #[.int .i32 0, .int .i32 0, .int .i32 0]
          replace hb := hb.alloc hb.size (.cells #[.int .i32 0, .int .i32 0, .int .i32 0] 40)
          generalize W13.alloc (.cells #[.int .i32 0, .int .i32 0, .int .i32 0] 40) = v33 at *
          generalize W13.heap.size = g33 at *
          refine hK.out _ _ ⟨hp0.cell 0, hp0.cell 1, hp0.cell 2, hr.cell 0, hr.cell 1, hr.cell 2⟩ (fun hHeld => ?_)
          clear hK K
          try (simp only [Act.put, List.setIfInBounds_toArray, List.set_cons_zero, List.set_cons_succ])
          refine rd1 11 (fun K hK => ?_)
          go_simp
          refine (H2.out _).mono ?_
          rintro e w' ⟨rfl, rfl⟩
          go_wp2_with fail
          refine hK.out _ _ ⟨hp0.cell 0, hp0.cell 1, hp0.cell 2, hr.cell 0, hr.cell 1, hr.cell 2⟩ (fun hHeld => ?_)
          clear hK K
          try (simp only [Act.put, List.setIfInBounds_toArray, List.set_cons_zero, List.set_cons_succ])
          refine rd1 12 (fun K hK => ?_)
          go_simp
          refine (HE2.out _).mono ?_
          rintro e v37 ⟨rfl, bb⟩
          go_wp2_with fail
          replace hp0 := hp0.below bb hp0.lt
          replace hr := hr.below bb hr.lt
          replace n33 := n33.below bb n33.lt
          replace hb := hb.on bb
          clear bb
          refine hK.out _ _ ⟨hp0.cell 0, hp0.cell 1, hp0.cell 2, hr.cell 0, hr.cell 1, hr.cell 2⟩ (fun hHeld => ?_)
          clear hK K
          try (simp only [Act.put, List.setIfInBounds_toArray, List.set_cons_zero, List.set_cons_succ])
          refine tk 13 hHeld ?_
          refine tk 14 hHeld ?_
          refine tk 15 hHeld ?_
          refine rd1 17 (fun K hK => ?_)
          have c0 : v37.cell? ⟨g33, 0, none⟩ = some (.int .i32 0) := n33.cell 0
          have z0 := n33.frozen 0
          have c1 : v37.cell? ⟨g33, 1, none⟩ = some (.int .i32 0) := n33.cell 1
          have z1 := n33.frozen 1
          have c2 : v37.cell? ⟨g33, 2, none⟩ = some (.int .i32 0) := n33.cell 2
          have z2 := n33.frozen 2
          go_simp
          try go_wp2_with fail
          replace hp0 := (((hp0.far (p := ⟨g33, 0, none⟩) (by dsimp only; omega) (.int .i32 y0)).far (p := ⟨g33, 1, none⟩) (by dsimp only; omega) (.int .i32 y1)).far (p := ⟨g33, 2, none⟩) (by dsimp only; omega) (.int .i32 y2))
          replace hr := (((hr.far (p := ⟨g33, 0, none⟩) (by dsimp only; omega) (.int .i32 y0)).far (p := ⟨g33, 1, none⟩) (by dsimp only; omega) (.int .i32 y1)).far (p := ⟨g33, 2, none⟩) (by dsimp only; omega) (.int .i32 y2))
          replace n33 := (((n33.set_ 0 (.int .i32 y0)).set_ 1 (.int .i32 y1)).set_ 2 (.int .i32 y2))
          replace hb := (((hb.setCell (p := ⟨g33, 0, none⟩) (by dsimp only; omega) (.int .i32 y0)).setCell (p := ⟨g33, 1, none⟩) (by dsimp only; omega) (.int .i32 y1)).setCell (p := ⟨g33, 2, none⟩) (by dsimp only; omega) (.int .i32 y2))
          clear c0 z0 c1 z1 c2 z2
          generalize (((v37.setCell ⟨g33, 0, none⟩ (.int .i32 y0)).setCell ⟨g33, 1, none⟩ (.int .i32 y1)).setCell ⟨g33, 2, none⟩ (.int .i32 y2)) = v39 at *
          refine hK.out _ _ ⟨hp0.cell 0, hp0.cell 1, hp0.cell 2, hr.cell 0, hr.cell 1, hr.cell 2⟩ (fun hHeld => ?_)
          clear hK K
          try (simp only [Act.put, List.setIfInBounds_toArray, List.set_cons_zero, List.set_cons_succ])
          refine tk 18 hHeld ?_
          refine wpAnyH_done ?hru40 ?hqu40 _
          case hru40 => kernel_rfl
          refine NoPanic.normal ?_
          try go_wp2_with fail
          go_meet
          exact ⟨g33, rfl, rfl, n33, hr, hb⟩
      case hc16q16 =>
        go_simp
        try go_wp2_with fail
        have lb41 := hb.size
        have l41hp0 := hp0.lt
        have l41hr := hr.lt
        replace hp0 := hp0.alloc (.cells #[.int .i32 0, .int .i32 0, .int .i32 0] 40)
        replace hr := hr.alloc (.cells #[.int .i32 0, .int .i32 0, .int .i32 0] 40)
        have n41 := Blk.new W13 40 #[.int .i32 0, .int .i32 0, .int .i32 0]
        replace hb := hb.alloc hb.size (.cells #[.int .i32 0, .int .i32 0, .int .i32 0] 40)
        generalize W13.alloc (.cells #[.int .i32 0, .int .i32 0, .int .i32 0] 40) = v41 at *
        generalize W13.heap.size = g41 at *
        refine hK.out _ _ ⟨hp0.cell 0, hp0.cell 1, hp0.cell 2, hr.cell 0, hr.cell 1, hr.cell 2⟩ (fun hHeld => ?_)
        clear hK K
        try (simp only [Act.put, List.setIfInBounds_toArray, List.set_cons_zero, List.set_cons_succ])
        refine rd1 7 (fun K hK => ?_)
        go_simp
        refine (H1.out _).mono ?_
        rintro e w' ⟨rfl, rfl⟩
        go_wp2_with fail
        refine hK.out _ _ ⟨hp0.cell 0, hp0.cell 1, hp0.cell 2, hr.cell 0, hr.cell 1, hr.cell 2⟩ (fun hHeld => ?_)
        clear hK K
        try (simp only [Act.put, List.setIfInBounds_toArray, List.set_cons_zero, List.set_cons_succ])
        refine rd1 11 (fun K hK => ?_)
        go_simp
        refine (H2.out _).mono ?_
        rintro e w' ⟨rfl, rfl⟩
        go_wp2_with fail
        refine hK.out _ _ ⟨hp0.cell 0, hp0.cell 1, hp0.cell 2, hr.cell 0, hr.cell 1, hr.cell 2⟩ (fun hHeld => ?_)
        clear hK K
        try (simp only [Act.put, List.setIfInBounds_toArray, List.set_cons_zero, List.set_cons_succ])
        refine rd1 12 (fun K hK => ?_)
        go_simp
        refine (HE2.out _).mono ?_
        rintro e v47 ⟨rfl, bb⟩
        go_wp2_with fail
        replace hp0 := hp0.below bb hp0.lt
        replace hr := hr.below bb hr.lt
        replace n41 := n41.below bb n41.lt
        replace hb := hb.on bb
        clear bb
        refine hK.out _ _ ⟨hp0.cell 0, hp0.cell 1, hp0.cell 2, hr.cell 0, hr.cell 1, hr.cell 2⟩ (fun hHeld => ?_)
        clear hK K
        try (simp only [Act.put, List.setIfInBounds_toArray, List.set_cons_zero, List.set_cons_succ])
        refine tk 13 hHeld ?_
        refine tk 14 hHeld ?_
        refine tk 15 hHeld ?_
        refine rd1 17 (fun K hK => ?_)
        have c0 : v47.cell? ⟨g41, 0, none⟩ = some (.int .i32 0) := n41.cell 0
        have z0 := n41.frozen 0
        have c1 : v47.cell? ⟨g41, 1, none⟩ = some (.int .i32 0) := n41.cell 1
        have z1 := n41.frozen 1
        have c2 : v47.cell? ⟨g41, 2, none⟩ = some (.int .i32 0) := n41.cell 2
        have z2 := n41.frozen 2
        go_simp
        try go_wp2_with fail
        replace hp0 := (((hp0.far (p := ⟨g41, 0, none⟩) (by dsimp only; omega) (.int .i32 y0)).far (p := ⟨g41, 1, none⟩) (by dsimp only; omega) (.int .i32 y1)).far (p := ⟨g41, 2, none⟩) (by dsimp only; omega) (.int .i32 y2))
        replace hr := (((hr.far (p := ⟨g41, 0, none⟩) (by dsimp only; omega) (.int .i32 y0)).far (p := ⟨g41, 1, none⟩) (by dsimp only; omega) (.int .i32 y1)).far (p := ⟨g41, 2, none⟩) (by dsimp only; omega) (.int .i32 y2))
        replace n41 := (((n41.set_ 0 (.int .i32 y0)).set_ 1 (.int .i32 y1)).set_ 2 (.int .i32 y2))
        replace hb := (((hb.setCell (p := ⟨g41, 0, none⟩) (by dsimp only; omega) (.int .i32 y0)).setCell (p := ⟨g41, 1, none⟩) (by dsimp only; omega) (.int .i32 y1)).setCell (p := ⟨g41, 2, none⟩) (by dsimp only; omega) (.int .i32 y2))
        clear c0 z0 c1 z1 c2 z2
        generalize (((v47.setCell ⟨g41, 0, none⟩ (.int .i32 y0)).setCell ⟨g41, 1, none⟩ (.int .i32 y1)).setCell ⟨g41, 2, none⟩ (.int .i32 y2)) = v49 at *
        refine hK.out _ _ ⟨hp0.cell 0, hp0.cell 1, hp0.cell 2, hr.cell 0, hr.cell 1, hr.cell 2⟩ (fun hHeld => ?_)
        clear hK K
        try (simp only [Act.put, List.setIfInBounds_toArray, List.set_cons_zero, List.set_cons_succ])
        refine tk 18 hHeld ?_
        refine wpAnyH_done ?hru50 ?hqu50 _
        case hru50 => kernel_rfl
        refine NoPanic.normal ?_
        try go_wp2_with fail
        go_meet
        exact ⟨g41, rfl, rfl, n41, hr, hb⟩
    case hc14q16 =>
      go_simp
      try go_wp2_with fail
      have lb51 := hb.size
      have l51hp0 := hp0.lt
      have l51hr := hr.lt
      replace hp0 := hp0.alloc (.cells #[.int .i32 0, .int .i32 0, .int .i32 0] 40)
      replace hr := hr.alloc (.cells #[.int .i32 0, .int .i32 0, .int .i32 0] 40)
      have n51 := Blk.new W13 40 #[.int .i32 0, .int .i32 0, .int .i32 0]
      replace hb := hb.alloc hb.size (.cells #[.int .i32 0, .int .i32 0, .int .i32 0] 40)
      generalize W13.alloc (.cells #[.int .i32 0, .int .i32 0, .int .i32 0] 40) = v51 at *
      generalize W13.heap.size = g51 at *
      refine hK.out _ _ ⟨hp0.cell 0, hp0.cell 1, hp0.cell 2, hr.cell 0, hr.cell 1, hr.cell 2⟩ (fun hHeld => ?_)
      clear hK K
      try (simp only [Act.put, List.setIfInBounds_toArray, List.set_cons_zero, List.set_cons_succ])
      refine rd1 3 (fun K hK => ?_)
      go_simp
      refine (H0.out _).mono ?_
      rintro e w' ⟨rfl, rfl⟩
      go_wp2_with fail
      refine hK.out _ _ ⟨hp0.cell 0, hp0.cell 1, hp0.cell 2, hr.cell 0, hr.cell 1, hr.cell 2⟩ (fun hHeld => ?_)
      clear hK K
      try (simp only [Act.put, List.setIfInBounds_toArray, List.set_cons_zero, List.set_cons_succ])
      refine rd1 7 (fun K hK => ?_)
      go_simp
      refine (H1.out _).mono ?_
      rintro e w' ⟨rfl, rfl⟩
      go_wp2_with fail
      refine hK.out _ _ ⟨hp0.cell 0, hp0.cell 1, hp0.cell 2, hr.cell 0, hr.cell 1, hr.cell 2⟩ (fun hHeld => ?_)
      clear hK K
      try (simp only [Act.put, List.setIfInBounds_toArray, List.set_cons_zero, List.set_cons_succ])
      refine rd1 11 (fun K hK => ?_)
      go_simp
      refine (H2.out _).mono ?_
      rintro e w' ⟨rfl, rfl⟩
      go_wp2_with fail
      refine hK.out _ _ ⟨hp0.cell 0, hp0.cell 1, hp0.cell 2, hr.cell 0, hr.cell 1, hr.cell 2⟩ (fun hHeld => ?_)
      clear hK K
      try (simp only [Act.put, List.setIfInBounds_toArray, List.set_cons_zero, List.set_cons_succ])
      refine rd1 12 (fun K hK => ?_)
      go_simp
      refine (HE2.out _).mono ?_
      rintro e v59 ⟨rfl, bb⟩
      go_wp2_with fail
      replace hp0 := hp0.below bb hp0.lt
      replace hr := hr.below bb hr.lt
      replace n51 := n51.below bb n51.lt
      replace hb := hb.on bb
      clear bb
      refine hK.out _ _ ⟨hp0.cell 0, hp0.cell 1, hp0.cell 2, hr.cell 0, hr.cell 1, hr.cell 2⟩ (fun hHeld => ?_)
      clear hK K
      try (simp only [Act.put, List.setIfInBounds_toArray, List.set_cons_zero, List.set_cons_succ])
      refine tk 13 hHeld ?_
      refine tk 14 hHeld ?_
      refine tk 15 hHeld ?_
      refine rd1 17 (fun K hK => ?_)
      have c0 : v59.cell? ⟨g51, 0, none⟩ = some (.int .i32 0) := n51.cell 0
      have z0 := n51.frozen 0
      have c1 : v59.cell? ⟨g51, 1, none⟩ = some (.int .i32 0) := n51.cell 1
      have z1 := n51.frozen 1
      have c2 : v59.cell? ⟨g51, 2, none⟩ = some (.int .i32 0) := n51.cell 2
      have z2 := n51.frozen 2
      go_simp
      try go_wp2_with fail
      replace hp0 := (((hp0.far (p := ⟨g51, 0, none⟩) (by dsimp only; omega) (.int .i32 y0)).far (p := ⟨g51, 1, none⟩) (by dsimp only; omega) (.int .i32 y1)).far (p := ⟨g51, 2, none⟩) (by dsimp only; omega) (.int .i32 y2))
      replace hr := (((hr.far (p := ⟨g51, 0, none⟩) (by dsimp only; omega) (.int .i32 y0)).far (p := ⟨g51, 1, none⟩) (by dsimp only; omega) (.int .i32 y1)).far (p := ⟨g51, 2, none⟩) (by dsimp only; omega) (.int .i32 y2))
      replace n51 := (((n51.set_ 0 (.int .i32 y0)).set_ 1 (.int .i32 y1)).set_ 2 (.int .i32 y2))
      replace hb := (((hb.setCell (p := ⟨g51, 0, none⟩) (by dsimp only; omega) (.int .i32 y0)).setCell (p := ⟨g51, 1, none⟩) (by dsimp only; omega) (.int .i32 y1)).setCell (p := ⟨g51, 2, none⟩) (by dsimp only; omega) (.int .i32 y2))
      clear c0 z0 c1 z1 c2 z2
      generalize (((v59.setCell ⟨g51, 0, none⟩ (.int .i32 y0)).setCell ⟨g51, 1, none⟩ (.int .i32 y1)).setCell ⟨g51, 2, none⟩ (.int .i32 y2)) = v61 at *
      refine hK.out _ _ ⟨hp0.cell 0, hp0.cell 1, hp0.cell 2, hr.cell 0, hr.cell 1, hr.cell 2⟩ (fun hHeld => ?_)
      clear hK K
      try (simp only [Act.put, List.setIfInBounds_toArray, List.set_cons_zero, List.set_cons_succ])
      refine tk 18 hHeld ?_
      refine wpAnyH_done ?hru62 ?hqu62 _
      case hru62 => kernel_rfl
      refine NoPanic.normal ?_
      try go_wp2_with fail
      go_meet
      exact ⟨g51, rfl, rfl, n51, hr, hb⟩
  case rest =>
    clear hp0 hr hb
    obtain ⟨g, rfl, rfl, hY, hr, hb⟩ := hcut
    have d0 : wc.cell? ⟨w.heap.size + 1, 0, none⟩ = some (.int .i32 0) := hr.cell 0
    have z0 := hr.frozen 0
    have x0 : wc.cell? ⟨g, 0, none⟩ = some (.int .i32 y0) := hY.cell 0
    have d1 : wc.cell? ⟨w.heap.size + 1, 1, none⟩ = some (.int .i32 0) := hr.cell 1
    have z1 := hr.frozen 1
    have x1 : wc.cell? ⟨g, 1, none⟩ = some (.int .i32 y1) := hY.cell 1
    have d2 : wc.cell? ⟨w.heap.size + 1, 2, none⟩ = some (.int .i32 0) := hr.cell 2
    have z2 := hr.frozen 2
    have x2 : wc.cell? ⟨g, 2, none⟩ = some (.int .i32 y2) := hY.cell 2
    have hf : Blk (((wc.setCell ⟨w.heap.size + 1, 0, none⟩ (.int .i32 y0)).setCell ⟨w.heap.size + 1, 1, none⟩ (.int .i32 y1)).setCell ⟨w.heap.size + 1, 2, none⟩ (.int .i32 y2)) (w.heap.size + 1) 40 #[.int .i32 y0, .int .i32 y1, .int .i32 y2] := (((hr.set_ 0 (.int .i32 y0)).set_ 1 (.int .i32 y1)).set_ 2 (.int .i32 y2))
    have hbf : Below w.heap.size w (((wc.setCell ⟨w.heap.size + 1, 0, none⟩ (.int .i32 y0)).setCell ⟨w.heap.size + 1, 1, none⟩ (.int .i32 y1)).setCell ⟨w.heap.size + 1, 2, none⟩ (.int .i32 y2)) := (((hb.setCell (p := ⟨w.heap.size + 1, 0, none⟩) (by dsimp only; omega) (.int .i32 y0)).setCell (p := ⟨w.heap.size + 1, 1, none⟩) (by dsimp only; omega) (.int .i32 y1)).setCell (p := ⟨w.heap.size + 1, 2, none⟩) (by dsimp only; omega) (.int .i32 y2))
    go_wp2
    generalize (((wc.setCell ⟨w.heap.size + 1, 0, none⟩ (.int .i32 y0)).setCell ⟨w.heap.size + 1, 1, none⟩ (.int .i32 y1)).setCell ⟨w.heap.size + 1, 2, none⟩ (.int .i32 y2)) = wf at *
    have f0 : wf.cell? ⟨w.heap.size + 1, 0, none⟩ = some (.int .i32 y0) := hf.cell 0
    have f1 : wf.cell? ⟨w.heap.size + 1, 1, none⟩ = some (.int .i32 y1) := hf.cell 1
    have f2 : wf.cell? ⟨w.heap.size + 1, 2, none⟩ = some (.int .i32 y2) := hf.cell 2
    simp [bodyPost, results, Try.results43, go_sem, f0, f1, f2]
    first | exact hbf | exact ⟨by rw [HY.out.1, HY.out.2.1, HY.out.2.2.1, HY.out.2.2.2], hbf⟩ | exact ⟨⟨⟨HY.out.1.symm, HY.out.2.1.symm, HY.out.2.2.1.symm⟩, HY.out.2.2.2.symm⟩, hbf⟩ | exact ⟨⟨HY.out.1.symm, HY.out.2.1.symm, HY.out.2.2.1.symm, HY.out.2.2.2.symm⟩, hbf⟩ | exact ⟨HY.out.1.symm, HY.out.2.1.symm, HY.out.2.2.1.symm, HY.out.2.2.2.symm, hbf⟩ | exact ⟨⟨HY.out.1.symm, HY.out.2.1.symm, HY.out.2.2.1.symm⟩, HY.out.2.2.2.symm, hbf⟩

def dotV (a0 a1 a2 b0 b1 b2 : Int) : Int := tvP a0 b0 + tvP a1 b1 + tvP a2 b2
set_option maxHeartbeats 8000000 in
theorem r9_Dot (a0 a1 a2 b0 b1 b2 : Int) (w : World) (ia0 : I32 a0) (ia1 : I32 a1) (ia2 : I32 a2) (ib0 : I32 b0) (ib1 : I32 b1) (ib2 : I32 b2) :
    Calls Try.prog 45 #[.agg #[.int .i32 a0, .int .i32 a1, .int .i32 a2], .agg #[.int .i32 b0, .int .i32 b1, .int .i32 b2]] w fun e w' => e = .returned (.tuple #[.int .i32 (clampP (dotV a0 a1 a2 b0 b1 b2)), .bool (clampP (dotV a0 a1 a2 b0 b1 b2) != dotV a0 a1 a2 b0 b1 b2)]) ∧ Below w.heap.size w w' := by
  have q0 := tv_bd a0 b0 ia0 ib0
  have H0 := hid fun w => r9_tv a0 b0 w ia0 ib0
  have q1 := tv_bd a1 b1 ia1 ib1
  have H1 := hid fun w => r9_tv a1 b1 w ia1 ib1
  have q2 := tv_bd a2 b2 ia2 ib2
  have H2 := hid fun w => r9_tv a2 b2 w ia2 ib2
  have u1 : IntKind.i64.wrap (tvP a0 b0 + tvP a1 b1) = tvP a0 b0 + tvP a1 b1 := IntWalk.i64_in _ (by omega)
  have u2 : IntKind.i64.wrap (tvP a0 b0 + tvP a1 b1 + tvP a2 b2) = tvP a0 b0 + tvP a1 b1 + tvP a2 b2 := IntWalk.i64_in _ (by omega)
  have HC := hid fun w => fxr_Clamp (tvP a0 b0 + tvP a1 b1 + tvP a2 b2) w (by unfold I64; omega)
  unfold dotV
  clear q0 q1 q2
  have hp0 : Blk ((w.alloc (.cells #[.int .i32 a0, .int .i32 a1, .int .i32 a2] 40)).alloc (.cells #[.int .i32 b0, .int .i32 b1, .int .i32 b2] 40)) w.heap.size 40 #[.int .i32 a0, .int .i32 a1, .int .i32 a2] := ((Blk.new w _ _).alloc _)
  have hp1 : Blk ((w.alloc (.cells #[.int .i32 a0, .int .i32 a1, .int .i32 a2] 40)).alloc (.cells #[.int .i32 b0, .int .i32 b1, .int .i32 b2] 40)) (w.heap.size + 1) 40 #[.int .i32 b0, .int .i32 b1, .int .i32 b2] := by have := Blk.new (w.alloc (.cells #[.int .i32 a0, .int .i32 a1, .int .i32 a2] 40)) 40 #[.int .i32 b0, .int .i32 b1, .int .i32 b2]; simpa using this
  have hb : Below w.heap.size w ((w.alloc (.cells #[.int .i32 a0, .int .i32 a1, .int .i32 a2] 40)).alloc (.cells #[.int .i32 b0, .int .i32 b1, .int .i32 b2] 40)) := ((Below.refl _ w).alloc (Nat.le_refl _) _).alloc (by simp) _
  go_enter Try.func45, Try.ntmps45
  go_upto_region 1 with fail
  generalize (w.alloc (.cells #[.int .i32 a0, .int .i32 a1, .int .i32 a2] 40)).alloc (.cells #[.int .i32 b0, .int .i32 b1, .int .i32 b2] 40) = W0 at *
  refine wp_region_noPanic ?_
  refine wp_region_held_drew (S := (fun w' : World => w'.cell? ⟨w.heap.size, 0, none⟩ = some (.int .i32 a0) ∧ w'.cell? ⟨w.heap.size, 1, none⟩ = some (.int .i32 a1) ∧ w'.cell? ⟨w.heap.size, 2, none⟩ = some (.int .i32 a2) ∧ w'.cell? ⟨w.heap.size + 1, 0, none⟩ = some (.int .i32 b0) ∧ w'.cell? ⟨w.heap.size + 1, 1, none⟩ = some (.int .i32 b1) ∧ w'.cell? ⟨w.heap.size + 1, 2, none⟩ = some (.int .i32 b2))) (by kernel_rfl) ⟨hp0.cell 0, hp0.cell 1, hp0.cell 2, hp1.cell 0, hp1.cell 1, hp1.cell 2⟩ (fun hHeld => ?_)
  refine (show wpAnyH _ _ _ _ _ 22 _ _ _ from ?_)
  try (simp only [Act.put, List.setIfInBounds_toArray, List.set_cons_zero, List.set_cons_succ])
  replace hp0 := hp0.drew
  replace hp1 := hp1.drew
  replace hb := hb.drew
  generalize W0.drew = W63 at *
  refine tk 0 hHeld ?_
  refine tk 1 hHeld ?_
  refine tk 2 hHeld ?_
  refine tk 3 hHeld ?_
  refine tk 5 hHeld ?_
  refine tk 6 hHeld ?_
  refine tk 7 hHeld ?_
  refine tk 8 hHeld ?_
  refine tk 11 hHeld ?_
  refine tk 12 hHeld ?_
  refine tk 13 hHeld ?_
  refine tk 14 hHeld ?_
  refine rd1 4 (fun K hK => ?_)
  go_simp
  refine (H0.out _).mono ?_
  rintro e w' ⟨rfl, rfl⟩
  go_wp2_with fail
  refine hK.out _ _ ⟨hp0.cell 0, hp0.cell 1, hp0.cell 2, hp1.cell 0, hp1.cell 1, hp1.cell 2⟩ (fun hHeld => ?_)
  clear hK K
  try (simp only [Act.put, List.setIfInBounds_toArray, List.set_cons_zero, List.set_cons_succ])
  refine rd1 9 (fun K hK => ?_)
  go_simp
  refine (H1.out _).mono ?_
  rintro e w' ⟨rfl, rfl⟩
  go_wp2_with fail
  refine hK.out _ _ ⟨hp0.cell 0, hp0.cell 1, hp0.cell 2, hp1.cell 0, hp1.cell 1, hp1.cell 2⟩ (fun hHeld => ?_)
  clear hK K
  try (simp only [Act.put, List.setIfInBounds_toArray, List.set_cons_zero, List.set_cons_succ])
  refine tk 10 hHeld ?_
  refine rd1 15 (fun K hK => ?_)
  go_simp
  refine (H2.out _).mono ?_
  rintro e w' ⟨rfl, rfl⟩
  go_wp2_with fail
  refine hK.out _ _ ⟨hp0.cell 0, hp0.cell 1, hp0.cell 2, hp1.cell 0, hp1.cell 1, hp1.cell 2⟩ (fun hHeld => ?_)
  clear hK K
  try (simp only [Act.put, List.setIfInBounds_toArray, List.set_cons_zero, List.set_cons_succ])
  refine tk 16 hHeld ?_
  refine rd1 17 (fun K hK => ?_)
  go_simp
  refine (HC.out _).mono ?_
  rintro e w' ⟨rfl, rfl⟩
  go_wp2_with fail
  refine hK.out _ _ ⟨hp0.cell 0, hp0.cell 1, hp0.cell 2, hp1.cell 0, hp1.cell 1, hp1.cell 2⟩ (fun hHeld => ?_)
  clear hK K
  try (simp only [Act.put, List.setIfInBounds_toArray, List.set_cons_zero, List.set_cons_succ])
  refine tk 18 hHeld ?_
  refine tk 19 hHeld ?_
  refine tk 20 hHeld ?_
  refine tk 21 hHeld ?_
  refine wpAnyH_done ?hru68 ?hqu68 _
  case hru68 => kernel_rfl
  refine NoPanic.normal ?_
  go_wp2
  go_ret2
  exact ⟨rfl, hb⟩

theorem r9_Length (a0 a1 a2 : Int) (w : World) (ia0 : I32 a0) (ia1 : I32 a1) (ia2 : I32 a2) :
    Calls Try.prog 50 #[.agg #[.int .i32 a0, .int .i32 a1, .int .i32 a2]] w fun e w' => e = .returned (.int .u32 (rootP (sqP [a0, a1, a2]))) ∧ Below w.heap.size w w' := by
  have HL := hid fun (g : Nat) w h => ref_Length (some ⟨g, 0, none⟩) 3 3 [a0, a1, a2] w h (by unfold I32 at *; simp; omega) (by omega)
  generalize rootP (sqP [a0, a1, a2]) = r at *
  have hA : Blk ((w.alloc (.cells #[.int .i32 a0, .int .i32 a1, .int .i32 a2] 40)).alloc (.cells #[.int .i32 a0, .int .i32 a1, .int .i32 a2] 21)) (w.heap.size + 1) 21 #[.int .i32 a0, .int .i32 a1, .int .i32 a2] := by have := Blk.new (w.alloc (.cells #[.int .i32 a0, .int .i32 a1, .int .i32 a2] 40)) 21 #[.int .i32 a0, .int .i32 a1, .int .i32 a2]; simpa using this
  have hb : Below w.heap.size w ((w.alloc (.cells #[.int .i32 a0, .int .i32 a1, .int .i32 a2] 40)).alloc (.cells #[.int .i32 a0, .int .i32 a1, .int .i32 a2] 21)) := ((Below.refl _ w).alloc (Nat.le_refl _) _).alloc (by simp) _
  go_enter Try.func50, Try.ntmps50
  go_wp2_with fail
  refine (HL.out _ _ (Row.blk hA rfl hA.lt)).mono ?_
  rintro e w1 ⟨rfl, b1⟩
  go_wp2
  go_ret
  exact ⟨rfl, hb.on b1⟩
end Go.Proofs.Ytlcikfnhgldonaa
