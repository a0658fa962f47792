/- Chapter 09: vectors: across both; by a number. -/
import Derived.Test.YtgmepohfkpncmaaGreatVecD
import Derived.Test.YtgmepohfkpncmaaGreatQuatE
namespace Go.Proofs.YtgmepohfkpncmaaGreat
open Go.RowKit
set_option linter.unusedVariables false
set_option linter.unusedSimpArgs false

set_option maxHeartbeats 16000000 in
theorem v_Scale (a0 a1 a2 k : Int) (w : World) (ia0 : I32 a0) (ia1 : I32 a1) (ia2 : I32 a2) (ik : I32 k) :
  Calls Tryz.prog 60 #[.agg #[.int .i32 a0, .int .i32 a1, .int .i32 a2], .int .i32 k] w fun e w' => e = .returned (.tuple #[.agg #[.int .i32 (clampP (tvP a0 k)), .int .i32 (clampP (tvP a1 k)), .int .i32 (clampP (tvP a2 k))], .int .i64 (cutC (tvP a0 k) + cutC (tvP a1 k) + cutC (tvP a2 k))]) ∧ Below w.heap.size w w' := by
 have HP := hid fun w => v_parts a0 a1 a2 w
 have hmf : ∀ (fn : Fn) (first cap : Array Value) (w : World), (Instr.makeFunc fn first cap).run Tryz.prog w = .ok (.func fn first cap) w := fun _ _ _ _ => rfl
 have hp0 : Blk (((w.alloc (.cells #[.int .i32 a0, .int .i32 a1, .int .i32 a2] 25)).alloc (.cells #[.int .i32 k] 21)).alloc (.cells #[.int .i32 0, .int .i32 0, .int .i32 0] 25)) w.heap.size 25 #[.int .i32 a0, .int .i32 a1, .int .i32 a2] := ((Blk.new w _ _).alloc _).alloc _
 have hk : Blk (((w.alloc (.cells #[.int .i32 a0, .int .i32 a1, .int .i32 a2] 25)).alloc (.cells #[.int .i32 k] 21)).alloc (.cells #[.int .i32 0, .int .i32 0, .int .i32 0] 25)) (w.heap.size + 1) 21 #[.int .i32 k] := by have := (Blk.new (w.alloc (.cells #[.int .i32 a0, .int .i32 a1, .int .i32 a2] 25)) 21 #[.int .i32 k]).alloc (.cells #[.int .i32 0, .int .i32 0, .int .i32 0] 25); simpa using this
 have hr : Blk (((w.alloc (.cells #[.int .i32 a0, .int .i32 a1, .int .i32 a2] 25)).alloc (.cells #[.int .i32 k] 21)).alloc (.cells #[.int .i32 0, .int .i32 0, .int .i32 0] 25)) (w.heap.size + 1 + 1) 25 #[.int .i32 0, .int .i32 0, .int .i32 0] := by have := Blk.new ((w.alloc (.cells #[.int .i32 a0, .int .i32 a1, .int .i32 a2] 25)).alloc (.cells #[.int .i32 k] 21)) 25 #[.int .i32 0, .int .i32 0, .int .i32 0]; simpa using this
 have hb : Below w.heap.size w (((w.alloc (.cells #[.int .i32 a0, .int .i32 a1, .int .i32 a2] 25)).alloc (.cells #[.int .i32 k] 21)).alloc (.cells #[.int .i32 0, .int .i32 0, .int .i32 0] 25)) := (((Below.refl _ w).alloc (Nat.le_refl _) _).alloc (by simp) _).alloc (by simp; omega) _
 have f0 : (((w.alloc (.cells #[.int .i32 a0, .int .i32 a1, .int .i32 a2] 25)).alloc (.cells #[.int .i32 k] 21)).alloc (.cells #[.int .i32 0, .int .i32 0, .int .i32 0] 25)).cell? ⟨w.heap.size, 0, none⟩ = some (.int .i32 a0) := hp0.cell 0
 have f1 : (((w.alloc (.cells #[.int .i32 a0, .int .i32 a1, .int .i32 a2] 25)).alloc (.cells #[.int .i32 k] 21)).alloc (.cells #[.int .i32 0, .int .i32 0, .int .i32 0] 25)).cell? ⟨w.heap.size, 1, none⟩ = some (.int .i32 a1) := hp0.cell 1
 have f2 : (((w.alloc (.cells #[.int .i32 a0, .int .i32 a1, .int .i32 a2] 25)).alloc (.cells #[.int .i32 k] 21)).alloc (.cells #[.int .i32 0, .int .i32 0, .int .i32 0] 25)).cell? ⟨w.heap.size, 2, none⟩ = some (.int .i32 a2) := hp0.cell 2
 go_enter Tryz.func60, Tryz.ntmps60
 go_wp2_with fail
 clear f0 f1 f2
 generalize ((w.alloc (.cells #[.int .i32 a0, .int .i32 a1, .int .i32 a2] 25)).alloc (.cells #[.int .i32 k] 21)).alloc (.cells #[.int .i32 0, .int .i32 0, .int .i32 0] 25) = W0 at *
 refine (HP.out _).mono ?_
 rintro e w1 ⟨rfl, b1⟩
 replace hk := hk.below b1 hk.lt
 replace hr := hr.below b1 hr.lt
 replace hb := hb.on b1
 have hA := Blk.new w1 69 #[.int .i32 a0, .int .i32 a1, .int .i32 a2]
 replace hk := hk.alloc (.cells #[.int .i32 a0, .int .i32 a1, .int .i32 a2] 69)
 replace hr := hr.alloc (.cells #[.int .i32 a0, .int .i32 a1, .int .i32 a2] 69)
 replace hb := hb.alloc hb.size (.cells #[.int .i32 a0, .int .i32 a1, .int .i32 a2] 69)
 generalize hwc : w1.alloc (.cells #[.int .i32 a0, .int .i32 a1, .int .i32 a2] 69) = wc at *
 generalize hg : w1.heap.size = g at *
 have HE := v_each_Scale (.pointer (some ⟨g, 0, none⟩)) (.pointer (some ⟨w.heap.size + 1, 0, none⟩)) (tvP a0 k) (tvP a1 k) (tvP a2 k) wc (by have := tv_bd a0 k ia0 ik; unfold I64; omega) (by have := tv_bd a1 k ia1 ik; unfold I64; omega) (by have := tv_bd a2 k ia2 ik; unfold I64; omega) (by
  intro i V hi w' hw
  rcases hi with ⟨rfl, rfl⟩ | ⟨rfl, rfl⟩ | ⟨rfl, rfl⟩
  ·exact c_Scale0 g (w.heap.size + 1) a0 a1 a2 k w' ia0 ia1 ia2 ik (hA.below hw hA.lt) (hk.below hw hk.lt)
  ·exact c_Scale1 g (w.heap.size + 1) a0 a1 a2 k w' ia0 ia1 ia2 ik (hA.below hw hA.lt) (hk.below hw hk.lt)
  ·exact c_Scale2 g (w.heap.size + 1) a0 a1 a2 k w' ia0 ia1 ia2 ik (hA.below hw hA.lt) (hk.below hw hk.lt))
 generalize hy0 : clampP (tvP a0 k) = y0 at HE
 generalize hy1 : clampP (tvP a1 k) = y1 at HE
 generalize hy2 : clampP (tvP a2 k) = y2 at HE
 generalize hN : cutC (tvP a0 k) + cutC (tvP a1 k) + cutC (tvP a2 k) = N at HE
 have HY := hid (show _ ∧ _ ∧ _ ∧ _ from ⟨hy0, hy1, hy2, hN⟩)
 clear hy0 hy1 hy2 hN
 have HE2 := hid HE
 clear HE
 go_wp2_with fail
 refine (HE2.out).mono ?_
 rintro e w2 ⟨rfl, bb2⟩
 replace hr := hr.below bb2 hr.lt
 replace hb := hb.on bb2
 have d0 : w2.cell? ⟨w.heap.size + 1 + 1, 0, none⟩ = some (.int .i32 0) := hr.cell 0
 have z0 := hr.frozen 0
 have d1 : w2.cell? ⟨w.heap.size + 1 + 1, 1, none⟩ = some (.int .i32 0) := hr.cell 1
 have z1 := hr.frozen 1
 have d2 : w2.cell? ⟨w.heap.size + 1 + 1, 2, none⟩ = some (.int .i32 0) := hr.cell 2
 have z2 := hr.frozen 2
 have hf : Blk (((w2.setCell ⟨w.heap.size + 1 + 1, 0, none⟩ (.int .i32 y0)).setCell ⟨w.heap.size + 1 + 1, 1, none⟩ (.int .i32 y1)).setCell ⟨w.heap.size + 1 + 1, 2, none⟩ (.int .i32 y2)) (w.heap.size + 1 + 1) 25 #[.int .i32 y0, .int .i32 y1, .int .i32 y2] := (((hr.set_ 0 (.int .i32 y0)).set_ 1 (.int .i32 y1)).set_ 2 (.int .i32 y2))
 have hbf : Below w.heap.size w (((w2.setCell ⟨w.heap.size + 1 + 1, 0, none⟩ (.int .i32 y0)).setCell ⟨w.heap.size + 1 + 1, 1, none⟩ (.int .i32 y1)).setCell ⟨w.heap.size + 1 + 1, 2, none⟩ (.int .i32 y2)) := (((hb.sc (w.heap.size + 1 + 1) 0 (by omega) (.int .i32 y0)).sc (w.heap.size + 1 + 1) 1 (by omega) (.int .i32 y1)).sc (w.heap.size + 1 + 1) 2 (by omega) (.int .i32 y2))
 go_wp2
 generalize (((w2.setCell ⟨w.heap.size + 1 + 1, 0, none⟩ (.int .i32 y0)).setCell ⟨w.heap.size + 1 + 1, 1, none⟩ (.int .i32 y1)).setCell ⟨w.heap.size + 1 + 1, 2, none⟩ (.int .i32 y2)) = wf at *
 have f0 : wf.cell? ⟨w.heap.size + 1 + 1, 0, none⟩ = some (.int .i32 y0) := hf.cell 0
 have f1 : wf.cell? ⟨w.heap.size + 1 + 1, 1, none⟩ = some (.int .i32 y1) := hf.cell 1
 have f2 : wf.cell? ⟨w.heap.size + 1 + 1, 2, none⟩ = some (.int .i32 y2) := hf.cell 2
 simp [bodyPost, results, Tryz.results60, go_sem, f0, f1, f2]
 exact ⟨⟨⟨HY.out.1.symm, HY.out.2.1.symm, HY.out.2.2.1.symm⟩, HY.out.2.2.2.symm⟩, hbf⟩
end Go.Proofs.YtgmepohfkpncmaaGreat
namespace Go.Proofs.YtgmepohfkpncmaaGreat
open Go.RowKit
set_option linter.unusedVariables false
set_option linter.unusedSimpArgs false

theorem r9_tv (a b : Int) (w : World) (ha : I32 a) (hb : I32 b) :
  Calls Tryz.prog 56 #[.int .i32 a, .int .i32 b, .int .i64 16] w fun e w' => e = .returned (.int .i64 (tvP a b)) ∧ w = w' := r9_Times a b 16 w ha hb (by unfold I64; omega)
set_option maxHeartbeats 4000000 in
theorem r9_Add (a0 a1 a2 b0 b1 b2 : Int) (w : World) (ia0 : I32 a0) (ia1 : I32 a1) (ia2 : I32 a2) (ib0 : I32 b0) (ib1 : I32 b1) (ib2 : I32 b2) :
  Calls Tryz.prog 32 #[.agg #[.int .i32 a0, .int .i32 a1, .int .i32 a2], .agg #[.int .i32 b0, .int .i32 b1, .int .i32 b2]] w fun e w' => e = .returned (.tuple #[.agg #[.int .i32 (clampP (a0 + b0)), .int .i32 (clampP (a1 + b1)), .int .i32 (clampP (a2 + b2))], .int .i64 (cutC (a0 + b0) + cutC (a1 + b1) + cutC (a2 + b2))]) ∧ Below w.heap.size w w' := by
 have HE := fun w => r9_Cut (a0 + b0) (a1 + b1) (a2 + b2) w (by unfold I32 I64 at *; omega) (by unfold I32 I64 at *; omega) (by unfold I32 I64 at *; omega)
 have u0 : IntKind.i64.wrap (a0 + b0) = a0 + b0 := IntWalk.i64_in _ (by unfold I32 at *; omega)
 have s0 : IntKind.i64.wrap a0 = a0 := IntWalk.i64_in _ (by unfold I32 at *; omega)
 have t0 : IntKind.i64.wrap b0 = b0 := IntWalk.i64_in _ (by unfold I32 at *; omega)
 have u1 : IntKind.i64.wrap (a1 + b1) = a1 + b1 := IntWalk.i64_in _ (by unfold I32 at *; omega)
 have s1 : IntKind.i64.wrap a1 = a1 := IntWalk.i64_in _ (by unfold I32 at *; omega)
 have t1 : IntKind.i64.wrap b1 = b1 := IntWalk.i64_in _ (by unfold I32 at *; omega)
 have u2 : IntKind.i64.wrap (a2 + b2) = a2 + b2 := IntWalk.i64_in _ (by unfold I32 at *; omega)
 have s2 : IntKind.i64.wrap a2 = a2 := IntWalk.i64_in _ (by unfold I32 at *; omega)
 have t2 : IntKind.i64.wrap b2 = b2 := IntWalk.i64_in _ (by unfold I32 at *; omega)
 generalize hy0 : clampP (a0 + b0) = y0 at HE
 generalize hy1 : clampP (a1 + b1) = y1 at HE
 generalize hy2 : clampP (a2 + b2) = y2 at HE
 generalize hN : cutC (a0 + b0) + cutC (a1 + b1) + cutC (a2 + b2) = N at HE
 have HY := hid (show _ ∧ _ ∧ _ ∧ _ from ⟨hy0, hy1, hy2, hN⟩)
 clear hy0 hy1 hy2 hN
 have HE2 := hid HE
 clear HE
 have hp0 : Blk (((w.alloc (.cells #[.int .i32 a0, .int .i32 a1, .int .i32 a2] 25)).alloc (.cells #[.int .i32 b0, .int .i32 b1, .int .i32 b2] 25)).alloc (.cells #[.int .i32 0, .int .i32 0, .int .i32 0] 25)) w.heap.size 25 #[.int .i32 a0, .int .i32 a1, .int .i32 a2] := ((Blk.new w _ _).alloc _).alloc _
 have hp1 : Blk (((w.alloc (.cells #[.int .i32 a0, .int .i32 a1, .int .i32 a2] 25)).alloc (.cells #[.int .i32 b0, .int .i32 b1, .int .i32 b2] 25)).alloc (.cells #[.int .i32 0, .int .i32 0, .int .i32 0] 25)) (w.heap.size + 1) 25 #[.int .i32 b0, .int .i32 b1, .int .i32 b2] := by have := (Blk.new (w.alloc (.cells #[.int .i32 a0, .int .i32 a1, .int .i32 a2] 25)) 25 #[.int .i32 b0, .int .i32 b1, .int .i32 b2]).alloc (.cells #[.int .i32 0, .int .i32 0, .int .i32 0] 25); simpa using this
 have hb : Below w.heap.size w (((w.alloc (.cells #[.int .i32 a0, .int .i32 a1, .int .i32 a2] 25)).alloc (.cells #[.int .i32 b0, .int .i32 b1, .int .i32 b2] 25)).alloc (.cells #[.int .i32 0, .int .i32 0, .int .i32 0] 25)) := (((Below.refl _ w).alloc (Nat.le_refl _) _).alloc (by simp) _).alloc (by simp; omega) _
 have hr : Blk (((w.alloc (.cells #[.int .i32 a0, .int .i32 a1, .int .i32 a2] 25)).alloc (.cells #[.int .i32 b0, .int .i32 b1, .int .i32 b2] 25)).alloc (.cells #[.int .i32 0, .int .i32 0, .int .i32 0] 25)) (w.heap.size + 1 + 1) 25 #[.int .i32 0, .int .i32 0, .int .i32 0] := by have := Blk.new ((w.alloc (.cells #[.int .i32 a0, .int .i32 a1, .int .i32 a2] 25)).alloc (.cells #[.int .i32 b0, .int .i32 b1, .int .i32 b2] 25)) 25 #[.int .i32 0, .int .i32 0, .int .i32 0]; simpa using this
 go_enter Tryz.func32, Tryz.ntmps32
 go_wp2_with fail
 generalize ((w.alloc (.cells #[.int .i32 a0, .int .i32 a1, .int .i32 a2] 25)).alloc (.cells #[.int .i32 b0, .int .i32 b1, .int .i32 b2] 25)).alloc (.cells #[.int .i32 0, .int .i32 0, .int .i32 0] 25) = W0 at *
 refine (HE2.out _).mono ?_
 rintro e w1 ⟨rfl, bb⟩
 replace hr := (hr.below bb hr.lt).alloc (.cells #[.int .i32 y0, .int .i32 y1, .int .i32 y2] 25)
 have hY := Blk.new w1 25 #[.int .i32 y0, .int .i32 y1, .int .i32 y2]
 replace hb := (hb.on bb).alloc (hb.on bb).size (.cells #[.int .i32 y0, .int .i32 y1, .int .i32 y2] 25)
 have d0 : (w1.alloc (.cells #[.int .i32 y0, .int .i32 y1, .int .i32 y2] 25)).cell? ⟨w.heap.size + 1 + 1, 0, none⟩ = some (.int .i32 0) := hr.cell 0
 have z0 := hr.frozen 0
 have x0 : (w1.alloc (.cells #[.int .i32 y0, .int .i32 y1, .int .i32 y2] 25)).cell? ⟨w1.heap.size, 0, none⟩ = some (.int .i32 y0) := hY.cell 0
 have d1 : (w1.alloc (.cells #[.int .i32 y0, .int .i32 y1, .int .i32 y2] 25)).cell? ⟨w.heap.size + 1 + 1, 1, none⟩ = some (.int .i32 0) := hr.cell 1
 have z1 := hr.frozen 1
 have x1 : (w1.alloc (.cells #[.int .i32 y0, .int .i32 y1, .int .i32 y2] 25)).cell? ⟨w1.heap.size, 1, none⟩ = some (.int .i32 y1) := hY.cell 1
 have d2 : (w1.alloc (.cells #[.int .i32 y0, .int .i32 y1, .int .i32 y2] 25)).cell? ⟨w.heap.size + 1 + 1, 2, none⟩ = some (.int .i32 0) := hr.cell 2
 have z2 := hr.frozen 2
 have x2 : (w1.alloc (.cells #[.int .i32 y0, .int .i32 y1, .int .i32 y2] 25)).cell? ⟨w1.heap.size, 2, none⟩ = some (.int .i32 y2) := hY.cell 2
 have hf : Blk ((((w1.alloc (.cells #[.int .i32 y0, .int .i32 y1, .int .i32 y2] 25)).setCell ⟨w.heap.size + 1 + 1, 0, none⟩ (.int .i32 y0)).setCell ⟨w.heap.size + 1 + 1, 1, none⟩ (.int .i32 y1)).setCell ⟨w.heap.size + 1 + 1, 2, none⟩ (.int .i32 y2)) (w.heap.size + 1 + 1) 25 #[.int .i32 y0, .int .i32 y1, .int .i32 y2] := (((hr.set_ 0 (.int .i32 y0)).set_ 1 (.int .i32 y1)).set_ 2 (.int .i32 y2))
 have hbf : Below w.heap.size w ((((w1.alloc (.cells #[.int .i32 y0, .int .i32 y1, .int .i32 y2] 25)).setCell ⟨w.heap.size + 1 + 1, 0, none⟩ (.int .i32 y0)).setCell ⟨w.heap.size + 1 + 1, 1, none⟩ (.int .i32 y1)).setCell ⟨w.heap.size + 1 + 1, 2, none⟩ (.int .i32 y2)) := (((hb.sc (w.heap.size + 1 + 1) 0 (by omega) (.int .i32 y0)).sc (w.heap.size + 1 + 1) 1 (by omega) (.int .i32 y1)).sc (w.heap.size + 1 + 1) 2 (by omega) (.int .i32 y2))
 go_wp2
 generalize ((((w1.alloc (.cells #[.int .i32 y0, .int .i32 y1, .int .i32 y2] 25)).setCell ⟨w.heap.size + 1 + 1, 0, none⟩ (.int .i32 y0)).setCell ⟨w.heap.size + 1 + 1, 1, none⟩ (.int .i32 y1)).setCell ⟨w.heap.size + 1 + 1, 2, none⟩ (.int .i32 y2)) = wf at *
 have f0 : wf.cell? ⟨w.heap.size + 1 + 1, 0, none⟩ = some (.int .i32 y0) := hf.cell 0
 have f1 : wf.cell? ⟨w.heap.size + 1 + 1, 1, none⟩ = some (.int .i32 y1) := hf.cell 1
 have f2 : wf.cell? ⟨w.heap.size + 1 + 1, 2, none⟩ = some (.int .i32 y2) := hf.cell 2
 simp [bodyPost, results, Tryz.results32, go_sem, f0, f1, f2]
 first | exact hbf | exact ⟨by rw [HY.out.1, HY.out.2.1, HY.out.2.2.1, HY.out.2.2.2], hbf⟩ | exact ⟨⟨⟨HY.out.1.symm, HY.out.2.1.symm, HY.out.2.2.1.symm⟩, HY.out.2.2.2.symm⟩, hbf⟩ | exact ⟨⟨HY.out.1.symm, HY.out.2.1.symm, HY.out.2.2.1.symm, HY.out.2.2.2.symm⟩, hbf⟩ | exact ⟨HY.out.1.symm, HY.out.2.1.symm, HY.out.2.2.1.symm, HY.out.2.2.2.symm, hbf⟩ | exact ⟨⟨HY.out.1.symm, HY.out.2.1.symm, HY.out.2.2.1.symm⟩, HY.out.2.2.2.symm, hbf⟩

set_option maxHeartbeats 4000000 in
theorem r9_Sub (a0 a1 a2 b0 b1 b2 : Int) (w : World) (ia0 : I32 a0) (ia1 : I32 a1) (ia2 : I32 a2) (ib0 : I32 b0) (ib1 : I32 b1) (ib2 : I32 b2) :
  Calls Tryz.prog 30 #[.agg #[.int .i32 a0, .int .i32 a1, .int .i32 a2], .agg #[.int .i32 b0, .int .i32 b1, .int .i32 b2]] w fun e w' => e = .returned (.tuple #[.agg #[.int .i32 (clampP (a0 - b0)), .int .i32 (clampP (a1 - b1)), .int .i32 (clampP (a2 - b2))], .int .i64 (cutC (a0 - b0) + cutC (a1 - b1) + cutC (a2 - b2))]) ∧ Below w.heap.size w w' := by
 have HE := fun w => r9_Cut (a0 - b0) (a1 - b1) (a2 - b2) w (by unfold I32 I64 at *; omega) (by unfold I32 I64 at *; omega) (by unfold I32 I64 at *; omega)
 have u0 : IntKind.i64.wrap (a0 - b0) = a0 - b0 := IntWalk.i64_in _ (by unfold I32 at *; omega)
 have s0 : IntKind.i64.wrap a0 = a0 := IntWalk.i64_in _ (by unfold I32 at *; omega)
 have t0 : IntKind.i64.wrap b0 = b0 := IntWalk.i64_in _ (by unfold I32 at *; omega)
 have u1 : IntKind.i64.wrap (a1 - b1) = a1 - b1 := IntWalk.i64_in _ (by unfold I32 at *; omega)
 have s1 : IntKind.i64.wrap a1 = a1 := IntWalk.i64_in _ (by unfold I32 at *; omega)
 have t1 : IntKind.i64.wrap b1 = b1 := IntWalk.i64_in _ (by unfold I32 at *; omega)
 have u2 : IntKind.i64.wrap (a2 - b2) = a2 - b2 := IntWalk.i64_in _ (by unfold I32 at *; omega)
 have s2 : IntKind.i64.wrap a2 = a2 := IntWalk.i64_in _ (by unfold I32 at *; omega)
 have t2 : IntKind.i64.wrap b2 = b2 := IntWalk.i64_in _ (by unfold I32 at *; omega)
 generalize hy0 : clampP (a0 - b0) = y0 at HE
 generalize hy1 : clampP (a1 - b1) = y1 at HE
 generalize hy2 : clampP (a2 - b2) = y2 at HE
 generalize hN : cutC (a0 - b0) + cutC (a1 - b1) + cutC (a2 - b2) = N at HE
 have HY := hid (show _ ∧ _ ∧ _ ∧ _ from ⟨hy0, hy1, hy2, hN⟩)
 clear hy0 hy1 hy2 hN
 have HE2 := hid HE
 clear HE
 have hp0 : Blk (((w.alloc (.cells #[.int .i32 a0, .int .i32 a1, .int .i32 a2] 25)).alloc (.cells #[.int .i32 b0, .int .i32 b1, .int .i32 b2] 25)).alloc (.cells #[.int .i32 0, .int .i32 0, .int .i32 0] 25)) w.heap.size 25 #[.int .i32 a0, .int .i32 a1, .int .i32 a2] := ((Blk.new w _ _).alloc _).alloc _
 have hp1 : Blk (((w.alloc (.cells #[.int .i32 a0, .int .i32 a1, .int .i32 a2] 25)).alloc (.cells #[.int .i32 b0, .int .i32 b1, .int .i32 b2] 25)).alloc (.cells #[.int .i32 0, .int .i32 0, .int .i32 0] 25)) (w.heap.size + 1) 25 #[.int .i32 b0, .int .i32 b1, .int .i32 b2] := by have := (Blk.new (w.alloc (.cells #[.int .i32 a0, .int .i32 a1, .int .i32 a2] 25)) 25 #[.int .i32 b0, .int .i32 b1, .int .i32 b2]).alloc (.cells #[.int .i32 0, .int .i32 0, .int .i32 0] 25); simpa using this
 have hb : Below w.heap.size w (((w.alloc (.cells #[.int .i32 a0, .int .i32 a1, .int .i32 a2] 25)).alloc (.cells #[.int .i32 b0, .int .i32 b1, .int .i32 b2] 25)).alloc (.cells #[.int .i32 0, .int .i32 0, .int .i32 0] 25)) := (((Below.refl _ w).alloc (Nat.le_refl _) _).alloc (by simp) _).alloc (by simp; omega) _
 have hr : Blk (((w.alloc (.cells #[.int .i32 a0, .int .i32 a1, .int .i32 a2] 25)).alloc (.cells #[.int .i32 b0, .int .i32 b1, .int .i32 b2] 25)).alloc (.cells #[.int .i32 0, .int .i32 0, .int .i32 0] 25)) (w.heap.size + 1 + 1) 25 #[.int .i32 0, .int .i32 0, .int .i32 0] := by have := Blk.new ((w.alloc (.cells #[.int .i32 a0, .int .i32 a1, .int .i32 a2] 25)).alloc (.cells #[.int .i32 b0, .int .i32 b1, .int .i32 b2] 25)) 25 #[.int .i32 0, .int .i32 0, .int .i32 0]; simpa using this
 go_enter Tryz.func30, Tryz.ntmps30
 go_wp2_with fail
 generalize ((w.alloc (.cells #[.int .i32 a0, .int .i32 a1, .int .i32 a2] 25)).alloc (.cells #[.int .i32 b0, .int .i32 b1, .int .i32 b2] 25)).alloc (.cells #[.int .i32 0, .int .i32 0, .int .i32 0] 25) = W0 at *
 refine (HE2.out _).mono ?_
 rintro e w1 ⟨rfl, bb⟩
 replace hr := (hr.below bb hr.lt).alloc (.cells #[.int .i32 y0, .int .i32 y1, .int .i32 y2] 25)
 have hY := Blk.new w1 25 #[.int .i32 y0, .int .i32 y1, .int .i32 y2]
 replace hb := (hb.on bb).alloc (hb.on bb).size (.cells #[.int .i32 y0, .int .i32 y1, .int .i32 y2] 25)
 have d0 : (w1.alloc (.cells #[.int .i32 y0, .int .i32 y1, .int .i32 y2] 25)).cell? ⟨w.heap.size + 1 + 1, 0, none⟩ = some (.int .i32 0) := hr.cell 0
 have z0 := hr.frozen 0
 have x0 : (w1.alloc (.cells #[.int .i32 y0, .int .i32 y1, .int .i32 y2] 25)).cell? ⟨w1.heap.size, 0, none⟩ = some (.int .i32 y0) := hY.cell 0
 have d1 : (w1.alloc (.cells #[.int .i32 y0, .int .i32 y1, .int .i32 y2] 25)).cell? ⟨w.heap.size + 1 + 1, 1, none⟩ = some (.int .i32 0) := hr.cell 1
 have z1 := hr.frozen 1
 have x1 : (w1.alloc (.cells #[.int .i32 y0, .int .i32 y1, .int .i32 y2] 25)).cell? ⟨w1.heap.size, 1, none⟩ = some (.int .i32 y1) := hY.cell 1
 have d2 : (w1.alloc (.cells #[.int .i32 y0, .int .i32 y1, .int .i32 y2] 25)).cell? ⟨w.heap.size + 1 + 1, 2, none⟩ = some (.int .i32 0) := hr.cell 2
 have z2 := hr.frozen 2
 have x2 : (w1.alloc (.cells #[.int .i32 y0, .int .i32 y1, .int .i32 y2] 25)).cell? ⟨w1.heap.size, 2, none⟩ = some (.int .i32 y2) := hY.cell 2
 have hf : Blk ((((w1.alloc (.cells #[.int .i32 y0, .int .i32 y1, .int .i32 y2] 25)).setCell ⟨w.heap.size + 1 + 1, 0, none⟩ (.int .i32 y0)).setCell ⟨w.heap.size + 1 + 1, 1, none⟩ (.int .i32 y1)).setCell ⟨w.heap.size + 1 + 1, 2, none⟩ (.int .i32 y2)) (w.heap.size + 1 + 1) 25 #[.int .i32 y0, .int .i32 y1, .int .i32 y2] := (((hr.set_ 0 (.int .i32 y0)).set_ 1 (.int .i32 y1)).set_ 2 (.int .i32 y2))
 have hbf : Below w.heap.size w ((((w1.alloc (.cells #[.int .i32 y0, .int .i32 y1, .int .i32 y2] 25)).setCell ⟨w.heap.size + 1 + 1, 0, none⟩ (.int .i32 y0)).setCell ⟨w.heap.size + 1 + 1, 1, none⟩ (.int .i32 y1)).setCell ⟨w.heap.size + 1 + 1, 2, none⟩ (.int .i32 y2)) := (((hb.sc (w.heap.size + 1 + 1) 0 (by omega) (.int .i32 y0)).sc (w.heap.size + 1 + 1) 1 (by omega) (.int .i32 y1)).sc (w.heap.size + 1 + 1) 2 (by omega) (.int .i32 y2))
 go_wp2
 generalize ((((w1.alloc (.cells #[.int .i32 y0, .int .i32 y1, .int .i32 y2] 25)).setCell ⟨w.heap.size + 1 + 1, 0, none⟩ (.int .i32 y0)).setCell ⟨w.heap.size + 1 + 1, 1, none⟩ (.int .i32 y1)).setCell ⟨w.heap.size + 1 + 1, 2, none⟩ (.int .i32 y2)) = wf at *
 have f0 : wf.cell? ⟨w.heap.size + 1 + 1, 0, none⟩ = some (.int .i32 y0) := hf.cell 0
 have f1 : wf.cell? ⟨w.heap.size + 1 + 1, 1, none⟩ = some (.int .i32 y1) := hf.cell 1
 have f2 : wf.cell? ⟨w.heap.size + 1 + 1, 2, none⟩ = some (.int .i32 y2) := hf.cell 2
 simp [bodyPost, results, Tryz.results30, go_sem, f0, f1, f2]
 first | exact hbf | exact ⟨by rw [HY.out.1, HY.out.2.1, HY.out.2.2.1, HY.out.2.2.2], hbf⟩ | exact ⟨⟨⟨HY.out.1.symm, HY.out.2.1.symm, HY.out.2.2.1.symm⟩, HY.out.2.2.2.symm⟩, hbf⟩ | exact ⟨⟨HY.out.1.symm, HY.out.2.1.symm, HY.out.2.2.1.symm, HY.out.2.2.2.symm⟩, hbf⟩ | exact ⟨HY.out.1.symm, HY.out.2.1.symm, HY.out.2.2.1.symm, HY.out.2.2.2.symm, hbf⟩ | exact ⟨⟨HY.out.1.symm, HY.out.2.1.symm, HY.out.2.2.1.symm⟩, HY.out.2.2.2.symm, hbf⟩

set_option maxHeartbeats 16000000 in
theorem r9_Scale (a0 a1 a2 k : Int) (w : World) (ia0 : I32 a0) (ia1 : I32 a1) (ia2 : I32 a2) (ik : I32 k) :
  Calls Tryz.prog 31 #[.agg #[.int .i32 a0, .int .i32 a1, .int .i32 a2], .int .i32 k] w fun e w' => e = .returned (.tuple #[.agg #[.int .i32 (clampP (tvP a0 k)), .int .i32 (clampP (tvP a1 k)), .int .i32 (clampP (tvP a2 k))], .int .i64 (cutC (tvP a0 k) + cutC (tvP a1 k) + cutC (tvP a2 k))]) ∧ Below w.heap.size w w' := by
 have q0 := tv_bd a0 k ia0 ik
 have H0 := hid fun w => r9_tv a0 k w ia0 ik
 have q1 := tv_bd a1 k ia1 ik
 have H1 := hid fun w => r9_tv a1 k w ia1 ik
 have q2 := tv_bd a2 k ia2 ik
 have H2 := hid fun w => r9_tv a2 k w ia2 ik
 have HE := fun w => r9_Cut (tvP a0 k) (tvP a1 k) (tvP a2 k) w (by unfold I64; omega) (by unfold I64; omega) (by unfold I64; omega)
 clear q0 q1 q2
 generalize hy0 : clampP (tvP a0 k) = y0 at HE
 generalize hy1 : clampP (tvP a1 k) = y1 at HE
 generalize hy2 : clampP (tvP a2 k) = y2 at HE
 generalize hN : cutC (tvP a0 k) + cutC (tvP a1 k) + cutC (tvP a2 k) = N at HE
 have HY := hid (show _ ∧ _ ∧ _ ∧ _ from ⟨hy0, hy1, hy2, hN⟩)
 clear hy0 hy1 hy2 hN
 have HE2 := hid HE
 clear HE
 have hp0 : Blk ((w.alloc (.cells #[.int .i32 a0, .int .i32 a1, .int .i32 a2] 25)).alloc (.cells #[.int .i32 0, .int .i32 0, .int .i32 0] 25)) w.heap.size 25 #[.int .i32 a0, .int .i32 a1, .int .i32 a2] := (Blk.new w _ _).alloc _
 have hr : Blk ((w.alloc (.cells #[.int .i32 a0, .int .i32 a1, .int .i32 a2] 25)).alloc (.cells #[.int .i32 0, .int .i32 0, .int .i32 0] 25)) (w.heap.size + 1) 25 #[.int .i32 0, .int .i32 0, .int .i32 0] := by have := Blk.new (w.alloc (.cells #[.int .i32 a0, .int .i32 a1, .int .i32 a2] 25)) 25 #[.int .i32 0, .int .i32 0, .int .i32 0]; simpa using this
 have hb : Below w.heap.size w ((w.alloc (.cells #[.int .i32 a0, .int .i32 a1, .int .i32 a2] 25)).alloc (.cells #[.int .i32 0, .int .i32 0, .int .i32 0] 25)) := ((Below.refl _ w).alloc (Nat.le_refl _) _).alloc (by simp) _
 go_enter Tryz.func31, Tryz.ntmps31
 go_upto_region 1 with fail
 generalize (w.alloc (.cells #[.int .i32 a0, .int .i32 a1, .int .i32 a2] 25)).alloc (.cells #[.int .i32 0, .int .i32 0, .int .i32 0] 25) = W0 at *
 go_cut [6, 7] from 8 to 23 (fun x y wx => ∃ g : Nat, x = .pointer (some ⟨g, 0, none⟩) ∧ y = .int .i64 N ∧ Blk wx g 25 #[.int .i32 y0, .int .i32 y1, .int .i32 y2] ∧ Blk wx (w.heap.size + 1) 25 #[.int .i32 0, .int .i32 0, .int .i32 0] ∧ Below w.heap.size w wx)
 case first =>
  refine wp_region_noPanic ?_
  refine wp_region_held_drew (S := (fun w' : World => w'.cell? ⟨w.heap.size, 0, none⟩ = some (.int .i32 a0) ∧ w'.cell? ⟨w.heap.size, 1, none⟩ = some (.int .i32 a1) ∧ w'.cell? ⟨w.heap.size, 2, none⟩ = some (.int .i32 a2) ∧ w'.cell? ⟨w.heap.size + 1, 0, none⟩ = some (.int .i32 0) ∧ w'.cell? ⟨w.heap.size + 1, 1, none⟩ = some (.int .i32 0) ∧ w'.cell? ⟨w.heap.size + 1, 2, none⟩ = some (.int .i32 0))) (by kernel_rfl) ⟨hp0.cell 0, hp0.cell 1, hp0.cell 2, hr.cell 0, hr.cell 1, hr.cell 2⟩ (fun hH => ?_)
  refine (show wpAnyH _ _ _ _ _ 19 _ _ _ from ?_)
  try (simp only [Act.put, List.setIfInBounds_toArray, List.set_cons_zero, List.set_cons_succ])
  replace hp0 := hp0.drew
  replace hr := hr.drew
  replace hb := hb.drew
  generalize W0.drew = W13 at *
  refine tk 0 hH ?_
  refine tk 1 hH ?_
  refine tk 2 hH ?_
  refine tk 4 hH ?_
  refine tk 5 hH ?_
  refine tk 6 hH ?_
  refine tk 8 hH ?_
  refine tk 9 hH ?_
  refine tk 10 hH ?_
  refine rd2 3 16 (fun K hK => ?hc14q3) (fun K hK => ?hc14q16)
  case hc14q3 =>
   go_simp
   refine (H0.out _).mono ?_
   rintro e w' ⟨rfl, rfl⟩
   go_wp2_with fail
   refine hK.out _ _ ⟨hp0.cell 0, hp0.cell 1, hp0.cell 2, hr.cell 0, hr.cell 1, hr.cell 2⟩ (fun hH => ?_)
   clear hK K
   try (simp only [Act.put, List.setIfInBounds_toArray, List.set_cons_zero, List.set_cons_succ])
   refine rd2 7 16 (fun K hK => ?hc16q7) (fun K hK => ?hc16q16)
   case hc16q7 =>
    go_simp
    refine (H1.out _).mono ?_
    rintro e w' ⟨rfl, rfl⟩
    go_wp2_with fail
    refine hK.out _ _ ⟨hp0.cell 0, hp0.cell 1, hp0.cell 2, hr.cell 0, hr.cell 1, hr.cell 2⟩ (fun hH => ?_)
    clear hK K
    try (simp only [Act.put, List.setIfInBounds_toArray, List.set_cons_zero, List.set_cons_succ])
    refine rd2 11 16 (fun K hK => ?hc18q11) (fun K hK => ?hc18q16)
    case hc18q11 =>
     go_simp
     refine (H2.out _).mono ?_
     rintro e w' ⟨rfl, rfl⟩
     go_wp2_with fail
     refine hK.out _ _ ⟨hp0.cell 0, hp0.cell 1, hp0.cell 2, hr.cell 0, hr.cell 1, hr.cell 2⟩ (fun hH => ?_)
     clear hK K
     try (simp only [Act.put, List.setIfInBounds_toArray, List.set_cons_zero, List.set_cons_succ])
     refine rd2 12 16 (fun K hK => ?hc20q12) (fun K hK => ?hc20q16)
     case hc20q12 =>
      go_simp
      refine (HE2.out _).mono ?_
      rintro e v21 ⟨rfl, bb⟩
      go_wp2_with fail
      replace hp0 := hp0.below bb hp0.lt
      replace hr := hr.below bb hr.lt
      replace hb := hb.on bb
      clear bb
      refine hK.out _ _ ⟨hp0.cell 0, hp0.cell 1, hp0.cell 2, hr.cell 0, hr.cell 1, hr.cell 2⟩ (fun hH => ?_)
      clear hK K
      try (simp only [Act.put, List.setIfInBounds_toArray, List.set_cons_zero, List.set_cons_succ])
      refine tk 13 hH ?_
      refine tk 14 hH ?_
      refine tk 15 hH ?_
      refine rd1 16 (fun K hK => ?_)
      go_simp
      try go_wp2_with fail
      have lb23 := hb.size
      have l23hp0 := hp0.lt
      have l23hr := hr.lt
      replace hp0 := hp0.alloc (.cells #[.int .i32 0, .int .i32 0, .int .i32 0] 25)
      replace hr := hr.alloc (.cells #[.int .i32 0, .int .i32 0, .int .i32 0] 25)
      have n23 := Blk.new v21 25 #[.int .i32 0, .int .i32 0, .int .i32 0]
      replace hb := hb.alloc hb.size (.cells #[.int .i32 0, .int .i32 0, .int .i32 0] 25)
      generalize v21.alloc (.cells #[.int .i32 0, .int .i32 0, .int .i32 0] 25) = v23 at *
      generalize v21.heap.size = g23 at *
      refine hK.out _ _ ⟨hp0.cell 0, hp0.cell 1, hp0.cell 2, hr.cell 0, hr.cell 1, hr.cell 2⟩ (fun hH => ?_)
      clear hK K
      try (simp only [Act.put, List.setIfInBounds_toArray, List.set_cons_zero, List.set_cons_succ])
      refine rd1 17 (fun K hK => ?_)
      have c0 : v23.cell? ⟨g23, 0, none⟩ = some (.int .i32 0) := n23.cell 0
      have z0 := n23.frozen 0
      have c1 : v23.cell? ⟨g23, 1, none⟩ = some (.int .i32 0) := n23.cell 1
      have z1 := n23.frozen 1
      have c2 : v23.cell? ⟨g23, 2, none⟩ = some (.int .i32 0) := n23.cell 2
      have z2 := n23.frozen 2
      go_simp
      try go_wp2_with fail
      replace hp0 := (((hp0.fr g23 0 (by omega) (.int .i32 y0)).fr g23 1 (by omega) (.int .i32 y1)).fr g23 2 (by omega) (.int .i32 y2))
      replace hr := (((hr.fr g23 0 (by omega) (.int .i32 y0)).fr g23 1 (by omega) (.int .i32 y1)).fr g23 2 (by omega) (.int .i32 y2))
      replace n23 := (((n23.set_ 0 (.int .i32 y0)).set_ 1 (.int .i32 y1)).set_ 2 (.int .i32 y2))
      replace hb := (((hb.sc g23 0 (by omega) (.int .i32 y0)).sc g23 1 (by omega) (.int .i32 y1)).sc g23 2 (by omega) (.int .i32 y2))
      clear c0 z0 c1 z1 c2 z2
      generalize (((v23.setCell ⟨g23, 0, none⟩ (.int .i32 y0)).setCell ⟨g23, 1, none⟩ (.int .i32 y1)).setCell ⟨g23, 2, none⟩ (.int .i32 y2)) = v25 at *
      refine hK.out _ _ ⟨hp0.cell 0, hp0.cell 1, hp0.cell 2, hr.cell 0, hr.cell 1, hr.cell 2⟩ (fun hH => ?_)
      clear hK K
      try (simp only [Act.put, List.setIfInBounds_toArray, List.set_cons_zero, List.set_cons_succ])
      refine tk 18 hH ?_
      refine wpAnyH_done ?hru26 ?hqu26 _
      case hru26 => kernel_rfl
      refine NoPanic.normal ?_
      try go_wp2_with fail
      go_meet
      exact ⟨g23, rfl, rfl, n23, hr, hb⟩
     case hc20q16 =>
      go_simp
      try go_wp2_with fail
      have lb27 := hb.size
      have l27hp0 := hp0.lt
      have l27hr := hr.lt
      replace hp0 := hp0.alloc (.cells #[.int .i32 0, .int .i32 0, .int .i32 0] 25)
      replace hr := hr.alloc (.cells #[.int .i32 0, .int .i32 0, .int .i32 0] 25)
      have n27 := Blk.new W13 25 #[.int .i32 0, .int .i32 0, .int .i32 0]
      replace hb := hb.alloc hb.size (.cells #[.int .i32 0, .int .i32 0, .int .i32 0] 25)
      generalize W13.alloc (.cells #[.int .i32 0, .int .i32 0, .int .i32 0] 25) = v27 at *
      generalize W13.heap.size = g27 at *
      refine hK.out _ _ ⟨hp0.cell 0, hp0.cell 1, hp0.cell 2, hr.cell 0, hr.cell 1, hr.cell 2⟩ (fun hH => ?_)
      clear hK K
      try (simp only [Act.put, List.setIfInBounds_toArray, List.set_cons_zero, List.set_cons_succ])
      refine rd1 12 (fun K hK => ?_)
      go_simp
      refine (HE2.out _).mono ?_
      rintro e v29 ⟨rfl, bb⟩
      go_wp2_with fail
      replace hp0 := hp0.below bb hp0.lt
      replace hr := hr.below bb hr.lt
      replace n27 := n27.below bb n27.lt
      replace hb := hb.on bb
      clear bb
      refine hK.out _ _ ⟨hp0.cell 0, hp0.cell 1, hp0.cell 2, hr.cell 0, hr.cell 1, hr.cell 2⟩ (fun hH => ?_)
      clear hK K
      try (simp only [Act.put, List.setIfInBounds_toArray, List.set_cons_zero, List.set_cons_succ])
      refine tk 13 hH ?_
      refine tk 14 hH ?_
      refine tk 15 hH ?_
      refine rd1 17 (fun K hK => ?_)
      have c0 : v29.cell? ⟨g27, 0, none⟩ = some (.int .i32 0) := n27.cell 0
      have z0 := n27.frozen 0
      have c1 : v29.cell? ⟨g27, 1, none⟩ = some (.int .i32 0) := n27.cell 1
      have z1 := n27.frozen 1
      have c2 : v29.cell? ⟨g27, 2, none⟩ = some (.int .i32 0) := n27.cell 2
      have z2 := n27.frozen 2
      go_simp
      try go_wp2_with fail
      replace hp0 := (((hp0.fr g27 0 (by omega) (.int .i32 y0)).fr g27 1 (by omega) (.int .i32 y1)).fr g27 2 (by omega) (.int .i32 y2))
      replace hr := (((hr.fr g27 0 (by omega) (.int .i32 y0)).fr g27 1 (by omega) (.int .i32 y1)).fr g27 2 (by omega) (.int .i32 y2))
      replace n27 := (((n27.set_ 0 (.int .i32 y0)).set_ 1 (.int .i32 y1)).set_ 2 (.int .i32 y2))
      replace hb := (((hb.sc g27 0 (by omega) (.int .i32 y0)).sc g27 1 (by omega) (.int .i32 y1)).sc g27 2 (by omega) (.int .i32 y2))
      clear c0 z0 c1 z1 c2 z2
      generalize (((v29.setCell ⟨g27, 0, none⟩ (.int .i32 y0)).setCell ⟨g27, 1, none⟩ (.int .i32 y1)).setCell ⟨g27, 2, none⟩ (.int .i32 y2)) = v31 at *
      refine hK.out _ _ ⟨hp0.cell 0, hp0.cell 1, hp0.cell 2, hr.cell 0, hr.cell 1, hr.cell 2⟩ (fun hH => ?_)
      clear hK K
      try (simp only [Act.put, List.setIfInBounds_toArray, List.set_cons_zero, List.set_cons_succ])
      refine tk 18 hH ?_
      refine wpAnyH_done ?hru32 ?hqu32 _
      case hru32 => kernel_rfl
      refine NoPanic.normal ?_
      try go_wp2_with fail
      go_meet
      exact ⟨g27, rfl, rfl, n27, hr, hb⟩
    case hc18q16 =>
     go_simp
     try go_wp2_with fail
     have lb33 := hb.size
     have l33hp0 := hp0.lt
     have l33hr := hr.lt
     replace hp0 := hp0.alloc (.cells #[.int .i32 0, .int .i32 0, .int .i32 0] 25)
     replace hr := hr.alloc (.cells #[.int .i32 0, .int .i32 0, .int .i32 0] 25)
     have n33 := Blk.new W13 25 #[.int .i32 0, .int .i32 0, .int .i32 0]
     replace hb := hb.alloc hb.size (.cells #[.int .i32 0, .int .i32 0, .int .i32 0] 25)
     generalize W13.alloc (.cells #[.int .i32 0, .int .i32 0, .int .i32 0] 25) = v33 at *
     generalize W13.heap.size = g33 at *
     refine hK.out _ _ ⟨hp0.cell 0, hp0.cell 1, hp0.cell 2, hr.cell 0, hr.cell 1, hr.cell 2⟩ (fun hH => ?_)
     clear hK K
     try (simp only [Act.put, List.setIfInBounds_toArray, List.set_cons_zero, List.set_cons_succ])
     refine rd1 11 (fun K hK => ?_)
     go_simp
     refine (H2.out _).mono ?_
     rintro e w' ⟨rfl, rfl⟩
     go_wp2_with fail
     refine hK.out _ _ ⟨hp0.cell 0, hp0.cell 1, hp0.cell 2, hr.cell 0, hr.cell 1, hr.cell 2⟩ (fun hH => ?_)
     clear hK K
     try (simp only [Act.put, List.setIfInBounds_toArray, List.set_cons_zero, List.set_cons_succ])
     refine rd1 12 (fun K hK => ?_)
     go_simp
     refine (HE2.out _).mono ?_
     rintro e v37 ⟨rfl, bb⟩
     go_wp2_with fail
     replace hp0 := hp0.below bb hp0.lt
     replace hr := hr.below bb hr.lt
     replace n33 := n33.below bb n33.lt
     replace hb := hb.on bb
     clear bb
     refine hK.out _ _ ⟨hp0.cell 0, hp0.cell 1, hp0.cell 2, hr.cell 0, hr.cell 1, hr.cell 2⟩ (fun hH => ?_)
     clear hK K
     try (simp only [Act.put, List.setIfInBounds_toArray, List.set_cons_zero, List.set_cons_succ])
     refine tk 13 hH ?_
     refine tk 14 hH ?_
     refine tk 15 hH ?_
     refine rd1 17 (fun K hK => ?_)
     have c0 : v37.cell? ⟨g33, 0, none⟩ = some (.int .i32 0) := n33.cell 0
     have z0 := n33.frozen 0
     have c1 : v37.cell? ⟨g33, 1, none⟩ = some (.int .i32 0) := n33.cell 1
     have z1 := n33.frozen 1
     have c2 : v37.cell? ⟨g33, 2, none⟩ = some (.int .i32 0) := n33.cell 2
     have z2 := n33.frozen 2
     go_simp
     try go_wp2_with fail
     replace hp0 := (((hp0.fr g33 0 (by omega) (.int .i32 y0)).fr g33 1 (by omega) (.int .i32 y1)).fr g33 2 (by omega) (.int .i32 y2))
     replace hr := (((hr.fr g33 0 (by omega) (.int .i32 y0)).fr g33 1 (by omega) (.int .i32 y1)).fr g33 2 (by omega) (.int .i32 y2))
     replace n33 := (((n33.set_ 0 (.int .i32 y0)).set_ 1 (.int .i32 y1)).set_ 2 (.int .i32 y2))
     replace hb := (((hb.sc g33 0 (by omega) (.int .i32 y0)).sc g33 1 (by omega) (.int .i32 y1)).sc g33 2 (by omega) (.int .i32 y2))
     clear c0 z0 c1 z1 c2 z2
     generalize (((v37.setCell ⟨g33, 0, none⟩ (.int .i32 y0)).setCell ⟨g33, 1, none⟩ (.int .i32 y1)).setCell ⟨g33, 2, none⟩ (.int .i32 y2)) = v39 at *
     refine hK.out _ _ ⟨hp0.cell 0, hp0.cell 1, hp0.cell 2, hr.cell 0, hr.cell 1, hr.cell 2⟩ (fun hH => ?_)
     clear hK K
     try (simp only [Act.put, List.setIfInBounds_toArray, List.set_cons_zero, List.set_cons_succ])
     refine tk 18 hH ?_
     refine wpAnyH_done ?hru40 ?hqu40 _
     case hru40 => kernel_rfl
     refine NoPanic.normal ?_
     try go_wp2_with fail
     go_meet
     exact ⟨g33, rfl, rfl, n33, hr, hb⟩
   case hc16q16 =>
    go_simp
    try go_wp2_with fail
    have lb41 := hb.size
    have l41hp0 := hp0.lt
    have l41hr := hr.lt
    replace hp0 := hp0.alloc (.cells #[.int .i32 0, .int .i32 0, .int .i32 0] 25)
    replace hr := hr.alloc (.cells #[.int .i32 0, .int .i32 0, .int .i32 0] 25)
    have n41 := Blk.new W13 25 #[.int .i32 0, .int .i32 0, .int .i32 0]
    replace hb := hb.alloc hb.size (.cells #[.int .i32 0, .int .i32 0, .int .i32 0] 25)
    generalize W13.alloc (.cells #[.int .i32 0, .int .i32 0, .int .i32 0] 25) = v41 at *
    generalize W13.heap.size = g41 at *
    refine hK.out _ _ ⟨hp0.cell 0, hp0.cell 1, hp0.cell 2, hr.cell 0, hr.cell 1, hr.cell 2⟩ (fun hH => ?_)
    clear hK K
    try (simp only [Act.put, List.setIfInBounds_toArray, List.set_cons_zero, List.set_cons_succ])
    refine rd1 7 (fun K hK => ?_)
    go_simp
    refine (H1.out _).mono ?_
    rintro e w' ⟨rfl, rfl⟩
    go_wp2_with fail
    refine hK.out _ _ ⟨hp0.cell 0, hp0.cell 1, hp0.cell 2, hr.cell 0, hr.cell 1, hr.cell 2⟩ (fun hH => ?_)
    clear hK K
    try (simp only [Act.put, List.setIfInBounds_toArray, List.set_cons_zero, List.set_cons_succ])
    refine rd1 11 (fun K hK => ?_)
    go_simp
    refine (H2.out _).mono ?_
    rintro e w' ⟨rfl, rfl⟩
    go_wp2_with fail
    refine hK.out _ _ ⟨hp0.cell 0, hp0.cell 1, hp0.cell 2, hr.cell 0, hr.cell 1, hr.cell 2⟩ (fun hH => ?_)
    clear hK K
    try (simp only [Act.put, List.setIfInBounds_toArray, List.set_cons_zero, List.set_cons_succ])
    refine rd1 12 (fun K hK => ?_)
    go_simp
    refine (HE2.out _).mono ?_
    rintro e v47 ⟨rfl, bb⟩
    go_wp2_with fail
    replace hp0 := hp0.below bb hp0.lt
    replace hr := hr.below bb hr.lt
    replace n41 := n41.below bb n41.lt
    replace hb := hb.on bb
    clear bb
    refine hK.out _ _ ⟨hp0.cell 0, hp0.cell 1, hp0.cell 2, hr.cell 0, hr.cell 1, hr.cell 2⟩ (fun hH => ?_)
    clear hK K
    try (simp only [Act.put, List.setIfInBounds_toArray, List.set_cons_zero, List.set_cons_succ])
    refine tk 13 hH ?_
    refine tk 14 hH ?_
    refine tk 15 hH ?_
    refine rd1 17 (fun K hK => ?_)
    have c0 : v47.cell? ⟨g41, 0, none⟩ = some (.int .i32 0) := n41.cell 0
    have z0 := n41.frozen 0
    have c1 : v47.cell? ⟨g41, 1, none⟩ = some (.int .i32 0) := n41.cell 1
    have z1 := n41.frozen 1
    have c2 : v47.cell? ⟨g41, 2, none⟩ = some (.int .i32 0) := n41.cell 2
    have z2 := n41.frozen 2
    go_simp
    try go_wp2_with fail
    replace hp0 := (((hp0.fr g41 0 (by omega) (.int .i32 y0)).fr g41 1 (by omega) (.int .i32 y1)).fr g41 2 (by omega) (.int .i32 y2))
    replace hr := (((hr.fr g41 0 (by omega) (.int .i32 y0)).fr g41 1 (by omega) (.int .i32 y1)).fr g41 2 (by omega) (.int .i32 y2))
    replace n41 := (((n41.set_ 0 (.int .i32 y0)).set_ 1 (.int .i32 y1)).set_ 2 (.int .i32 y2))
    replace hb := (((hb.sc g41 0 (by omega) (.int .i32 y0)).sc g41 1 (by omega) (.int .i32 y1)).sc g41 2 (by omega) (.int .i32 y2))
    clear c0 z0 c1 z1 c2 z2
    generalize (((v47.setCell ⟨g41, 0, none⟩ (.int .i32 y0)).setCell ⟨g41, 1, none⟩ (.int .i32 y1)).setCell ⟨g41, 2, none⟩ (.int .i32 y2)) = v49 at *
    refine hK.out _ _ ⟨hp0.cell 0, hp0.cell 1, hp0.cell 2, hr.cell 0, hr.cell 1, hr.cell 2⟩ (fun hH => ?_)
    clear hK K
    try (simp only [Act.put, List.setIfInBounds_toArray, List.set_cons_zero, List.set_cons_succ])
    refine tk 18 hH ?_
    refine wpAnyH_done ?hru50 ?hqu50 _
    case hru50 => kernel_rfl
    refine NoPanic.normal ?_
    try go_wp2_with fail
    go_meet
    exact ⟨g41, rfl, rfl, n41, hr, hb⟩
  case hc14q16 =>
   go_simp
   try go_wp2_with fail
   have lb51 := hb.size
   have l51hp0 := hp0.lt
   have l51hr := hr.lt
   replace hp0 := hp0.alloc (.cells #[.int .i32 0, .int .i32 0, .int .i32 0] 25)
   replace hr := hr.alloc (.cells #[.int .i32 0, .int .i32 0, .int .i32 0] 25)
   have n51 := Blk.new W13 25 #[.int .i32 0, .int .i32 0, .int .i32 0]
   replace hb := hb.alloc hb.size (.cells #[.int .i32 0, .int .i32 0, .int .i32 0] 25)
   generalize W13.alloc (.cells #[.int .i32 0, .int .i32 0, .int .i32 0] 25) = v51 at *
   generalize W13.heap.size = g51 at *
   refine hK.out _ _ ⟨hp0.cell 0, hp0.cell 1, hp0.cell 2, hr.cell 0, hr.cell 1, hr.cell 2⟩ (fun hH => ?_)
   clear hK K
   try (simp only [Act.put, List.setIfInBounds_toArray, List.set_cons_zero, List.set_cons_succ])
   refine rd1 3 (fun K hK => ?_)
   go_simp
   refine (H0.out _).mono ?_
   rintro e w' ⟨rfl, rfl⟩
   go_wp2_with fail
   refine hK.out _ _ ⟨hp0.cell 0, hp0.cell 1, hp0.cell 2, hr.cell 0, hr.cell 1, hr.cell 2⟩ (fun hH => ?_)
   clear hK K
   try (simp only [Act.put, List.setIfInBounds_toArray, List.set_cons_zero, List.set_cons_succ])
   refine rd1 7 (fun K hK => ?_)
   go_simp
   refine (H1.out _).mono ?_
   rintro e w' ⟨rfl, rfl⟩
   go_wp2_with fail
   refine hK.out _ _ ⟨hp0.cell 0, hp0.cell 1, hp0.cell 2, hr.cell 0, hr.cell 1, hr.cell 2⟩ (fun hH => ?_)
   clear hK K
   try (simp only [Act.put, List.setIfInBounds_toArray, List.set_cons_zero, List.set_cons_succ])
   refine rd1 11 (fun K hK => ?_)
   go_simp
   refine (H2.out _).mono ?_
   rintro e w' ⟨rfl, rfl⟩
   go_wp2_with fail
   refine hK.out _ _ ⟨hp0.cell 0, hp0.cell 1, hp0.cell 2, hr.cell 0, hr.cell 1, hr.cell 2⟩ (fun hH => ?_)
   clear hK K
   try (simp only [Act.put, List.setIfInBounds_toArray, List.set_cons_zero, List.set_cons_succ])
   refine rd1 12 (fun K hK => ?_)
   go_simp
   refine (HE2.out _).mono ?_
   rintro e v59 ⟨rfl, bb⟩
   go_wp2_with fail
   replace hp0 := hp0.below bb hp0.lt
   replace hr := hr.below bb hr.lt
   replace n51 := n51.below bb n51.lt
   replace hb := hb.on bb
   clear bb
   refine hK.out _ _ ⟨hp0.cell 0, hp0.cell 1, hp0.cell 2, hr.cell 0, hr.cell 1, hr.cell 2⟩ (fun hH => ?_)
   clear hK K
   try (simp only [Act.put, List.setIfInBounds_toArray, List.set_cons_zero, List.set_cons_succ])
   refine tk 13 hH ?_
   refine tk 14 hH ?_
   refine tk 15 hH ?_
   refine rd1 17 (fun K hK => ?_)
   have c0 : v59.cell? ⟨g51, 0, none⟩ = some (.int .i32 0) := n51.cell 0
   have z0 := n51.frozen 0
   have c1 : v59.cell? ⟨g51, 1, none⟩ = some (.int .i32 0) := n51.cell 1
   have z1 := n51.frozen 1
   have c2 : v59.cell? ⟨g51, 2, none⟩ = some (.int .i32 0) := n51.cell 2
   have z2 := n51.frozen 2
   go_simp
   try go_wp2_with fail
   replace hp0 := (((hp0.fr g51 0 (by omega) (.int .i32 y0)).fr g51 1 (by omega) (.int .i32 y1)).fr g51 2 (by omega) (.int .i32 y2))
   replace hr := (((hr.fr g51 0 (by omega) (.int .i32 y0)).fr g51 1 (by omega) (.int .i32 y1)).fr g51 2 (by omega) (.int .i32 y2))
   replace n51 := (((n51.set_ 0 (.int .i32 y0)).set_ 1 (.int .i32 y1)).set_ 2 (.int .i32 y2))
   replace hb := (((hb.sc g51 0 (by omega) (.int .i32 y0)).sc g51 1 (by omega) (.int .i32 y1)).sc g51 2 (by omega) (.int .i32 y2))
   clear c0 z0 c1 z1 c2 z2
   generalize (((v59.setCell ⟨g51, 0, none⟩ (.int .i32 y0)).setCell ⟨g51, 1, none⟩ (.int .i32 y1)).setCell ⟨g51, 2, none⟩ (.int .i32 y2)) = v61 at *
   refine hK.out _ _ ⟨hp0.cell 0, hp0.cell 1, hp0.cell 2, hr.cell 0, hr.cell 1, hr.cell 2⟩ (fun hH => ?_)
   clear hK K
   try (simp only [Act.put, List.setIfInBounds_toArray, List.set_cons_zero, List.set_cons_succ])
   refine tk 18 hH ?_
   refine wpAnyH_done ?hru62 ?hqu62 _
   case hru62 => kernel_rfl
   refine NoPanic.normal ?_
   try go_wp2_with fail
   go_meet
   exact ⟨g51, rfl, rfl, n51, hr, hb⟩
 case rest =>
  clear hp0 hr hb
  obtain ⟨g, rfl, rfl, hY, hr, hb⟩ := hcut
  have d0 : wc.cell? ⟨w.heap.size + 1, 0, none⟩ = some (.int .i32 0) := hr.cell 0
  have z0 := hr.frozen 0
  have x0 : wc.cell? ⟨g, 0, none⟩ = some (.int .i32 y0) := hY.cell 0
  have d1 : wc.cell? ⟨w.heap.size + 1, 1, none⟩ = some (.int .i32 0) := hr.cell 1
  have z1 := hr.frozen 1
  have x1 : wc.cell? ⟨g, 1, none⟩ = some (.int .i32 y1) := hY.cell 1
  have d2 : wc.cell? ⟨w.heap.size + 1, 2, none⟩ = some (.int .i32 0) := hr.cell 2
  have z2 := hr.frozen 2
  have x2 : wc.cell? ⟨g, 2, none⟩ = some (.int .i32 y2) := hY.cell 2
  have hf : Blk (((wc.setCell ⟨w.heap.size + 1, 0, none⟩ (.int .i32 y0)).setCell ⟨w.heap.size + 1, 1, none⟩ (.int .i32 y1)).setCell ⟨w.heap.size + 1, 2, none⟩ (.int .i32 y2)) (w.heap.size + 1) 25 #[.int .i32 y0, .int .i32 y1, .int .i32 y2] := (((hr.set_ 0 (.int .i32 y0)).set_ 1 (.int .i32 y1)).set_ 2 (.int .i32 y2))
  have hbf : Below w.heap.size w (((wc.setCell ⟨w.heap.size + 1, 0, none⟩ (.int .i32 y0)).setCell ⟨w.heap.size + 1, 1, none⟩ (.int .i32 y1)).setCell ⟨w.heap.size + 1, 2, none⟩ (.int .i32 y2)) := (((hb.sc (w.heap.size + 1) 0 (by omega) (.int .i32 y0)).sc (w.heap.size + 1) 1 (by omega) (.int .i32 y1)).sc (w.heap.size + 1) 2 (by omega) (.int .i32 y2))
  go_wp2
  generalize (((wc.setCell ⟨w.heap.size + 1, 0, none⟩ (.int .i32 y0)).setCell ⟨w.heap.size + 1, 1, none⟩ (.int .i32 y1)).setCell ⟨w.heap.size + 1, 2, none⟩ (.int .i32 y2)) = wf at *
  have f0 : wf.cell? ⟨w.heap.size + 1, 0, none⟩ = some (.int .i32 y0) := hf.cell 0
  have f1 : wf.cell? ⟨w.heap.size + 1, 1, none⟩ = some (.int .i32 y1) := hf.cell 1
  have f2 : wf.cell? ⟨w.heap.size + 1, 2, none⟩ = some (.int .i32 y2) := hf.cell 2
  simp [bodyPost, results, Tryz.results31, go_sem, f0, f1, f2]
  first | exact hbf | exact ⟨by rw [HY.out.1, HY.out.2.1, HY.out.2.2.1, HY.out.2.2.2], hbf⟩ | exact ⟨⟨⟨HY.out.1.symm, HY.out.2.1.symm, HY.out.2.2.1.symm⟩, HY.out.2.2.2.symm⟩, hbf⟩ | exact ⟨⟨HY.out.1.symm, HY.out.2.1.symm, HY.out.2.2.1.symm, HY.out.2.2.2.symm⟩, hbf⟩ | exact ⟨HY.out.1.symm, HY.out.2.1.symm, HY.out.2.2.1.symm, HY.out.2.2.2.symm, hbf⟩ | exact ⟨⟨HY.out.1.symm, HY.out.2.1.symm, HY.out.2.2.1.symm⟩, HY.out.2.2.2.symm, hbf⟩

theorem r9_Length (a0 a1 a2 : Int) (w : World) (ia0 : I32 a0) (ia1 : I32 a1) (ia2 : I32 a2) :
  Calls Tryz.prog 21 #[.agg #[.int .i32 a0, .int .i32 a1, .int .i32 a2]] w fun e w' => e = .returned (.int .u32 (rootP (sqP [a0, a1, a2]))) ∧ Below w.heap.size w w' := by
 have HL := hid fun (g : Nat) w h => ref_Length (some ⟨g, 0, none⟩) 3 3 [a0, a1, a2] w h (by unfold I32 at *; simp; omega) (by omega)
 generalize rootP (sqP [a0, a1, a2]) = r at *
 have hA : Blk ((w.alloc (.cells #[.int .i32 a0, .int .i32 a1, .int .i32 a2] 25)).alloc (.cells #[.int .i32 a0, .int .i32 a1, .int .i32 a2] 21)) (w.heap.size + 1) 21 #[.int .i32 a0, .int .i32 a1, .int .i32 a2] := by have := Blk.new (w.alloc (.cells #[.int .i32 a0, .int .i32 a1, .int .i32 a2] 25)) 21 #[.int .i32 a0, .int .i32 a1, .int .i32 a2]; simpa using this
 have hb : Below w.heap.size w ((w.alloc (.cells #[.int .i32 a0, .int .i32 a1, .int .i32 a2] 25)).alloc (.cells #[.int .i32 a0, .int .i32 a1, .int .i32 a2] 21)) := ((Below.refl _ w).alloc (Nat.le_refl _) _).alloc (by simp) _
 go_enter Tryz.func21, Tryz.ntmps21
 go_wp2_with fail
 refine (HL.out _ _ (Row.blk hA rfl hA.lt)).mono ?_
 rintro e w1 ⟨rfl, b1⟩
 go_wp2
 go_ret
 exact ⟨rfl, hb.on b1⟩
end Go.Proofs.YtgmepohfkpncmaaGreat
