/- Chapter 09: vectors: across both; by a number. -/
import Derived.Test.YtgmepohfkpncmaaVecD
import Derived.Test.YtgmepohfkpncmaaQuatE
namespace Go.Proofs.Ytgmepohfkpncmaa
open Go.RowKit
set_option linter.unusedVariables false
set_option linter.unusedSimpArgs false

set_option maxHeartbeats 16000000 in
theorem v_Scale (a0 a1 a2 k : Int) (w : World) (ia0 : I32 a0) (ia1 : I32 a1) (ia2 : I32 a2) (ik : I32 k) :
    Calls Try.prog 25 #[.agg #[.int .i32 a0, .int .i32 a1, .int .i32 a2], .int .i32 k] w fun e w' => e = .returned (.tuple #[.agg #[.int .i32 (clampP (tvP a0 k)), .int .i32 (clampP (tvP a1 k)), .int .i32 (clampP (tvP a2 k))], .int .i64 (cutC (tvP a0 k) + cutC (tvP a1 k) + cutC (tvP a2 k))]) ∧ Below w.heap.size w w' := by
  have HP := hid fun w => v_parts a0 a1 a2 w
  have hmf : ∀ (fn : Fn) (first cap : Array Value) (w : World), (Instr.makeFunc fn first cap).run Try.prog w = .ok (.func fn first cap) w := fun _ _ _ _ => rfl
  have hp0 : Blk (((w.alloc (.cells #[.int .i32 a0, .int .i32 a1, .int .i32 a2] 25)).alloc (.cells #[.int .i32 k] 21)).alloc (.cells #[.int .i32 0, .int .i32 0, .int .i32 0] 25)) w.heap.size 25 #[.int .i32 a0, .int .i32 a1, .int .i32 a2] := ((Blk.new w _ _).alloc _).alloc _
  have hk : Blk (((w.alloc (.cells #[.int .i32 a0, .int .i32 a1, .int .i32 a2] 25)).alloc (.cells #[.int .i32 k] 21)).alloc (.cells #[.int .i32 0, .int .i32 0, .int .i32 0] 25)) (w.heap.size + 1) 21 #[.int .i32 k] := by have := (Blk.new (w.alloc (.cells #[.int .i32 a0, .int .i32 a1, .int .i32 a2] 25)) 21 #[.int .i32 k]).alloc (.cells #[.int .i32 0, .int .i32 0, .int .i32 0] 25); simpa using this
  have hr : Blk (((w.alloc (.cells #[.int .i32 a0, .int .i32 a1, .int .i32 a2] 25)).alloc (.cells #[.int .i32 k] 21)).alloc (.cells #[.int .i32 0, .int .i32 0, .int .i32 0] 25)) (w.heap.size + 1 + 1) 25 #[.int .i32 0, .int .i32 0, .int .i32 0] := by have := Blk.new ((w.alloc (.cells #[.int .i32 a0, .int .i32 a1, .int .i32 a2] 25)).alloc (.cells #[.int .i32 k] 21)) 25 #[.int .i32 0, .int .i32 0, .int .i32 0]; simpa using this
  have hb : Below w.heap.size w (((w.alloc (.cells #[.int .i32 a0, .int .i32 a1, .int .i32 a2] 25)).alloc (.cells #[.int .i32 k] 21)).alloc (.cells #[.int .i32 0, .int .i32 0, .int .i32 0] 25)) := (((Below.refl _ w).alloc (Nat.le_refl _) _).alloc (by simp) _).alloc (by simp; omega) _
  have f0 : (((w.alloc (.cells #[.int .i32 a0, .int .i32 a1, .int .i32 a2] 25)).alloc (.cells #[.int .i32 k] 21)).alloc (.cells #[.int .i32 0, .int .i32 0, .int .i32 0] 25)).cell? ⟨w.heap.size, 0, none⟩ = some (.int .i32 a0) := hp0.cell 0
  have f1 : (((w.alloc (.cells #[.int .i32 a0, .int .i32 a1, .int .i32 a2] 25)).alloc (.cells #[.int .i32 k] 21)).alloc (.cells #[.int .i32 0, .int .i32 0, .int .i32 0] 25)).cell? ⟨w.heap.size, 1, none⟩ = some (.int .i32 a1) := hp0.cell 1
  have f2 : (((w.alloc (.cells #[.int .i32 a0, .int .i32 a1, .int .i32 a2] 25)).alloc (.cells #[.int .i32 k] 21)).alloc (.cells #[.int .i32 0, .int .i32 0, .int .i32 0] 25)).cell? ⟨w.heap.size, 2, none⟩ = some (.int .i32 a2) := hp0.cell 2
  go_enter Try.func25, Try.ntmps25
  go_wp2_with fail
  clear f0 f1 f2
  generalize ((w.alloc (.cells #[.int .i32 a0, .int .i32 a1, .int .i32 a2] 25)).alloc (.cells #[.int .i32 k] 21)).alloc (.cells #[.int .i32 0, .int .i32 0, .int .i32 0] 25) = W0 at *
  refine (HP.out _).mono ?_
  rintro e w1 ⟨rfl, b1⟩
  replace hk := hk.below b1 hk.lt
  replace hr := hr.below b1 hr.lt
  replace hb := hb.on b1
  have hA := Blk.new w1 77 #[.int .i32 a0, .int .i32 a1, .int .i32 a2]
  replace hk := hk.alloc (.cells #[.int .i32 a0, .int .i32 a1, .int .i32 a2] 77)
  replace hr := hr.alloc (.cells #[.int .i32 a0, .int .i32 a1, .int .i32 a2] 77)
  replace hb := hb.alloc hb.size (.cells #[.int .i32 a0, .int .i32 a1, .int .i32 a2] 77)
  generalize hwc : w1.alloc (.cells #[.int .i32 a0, .int .i32 a1, .int .i32 a2] 77) = wc at *
  generalize hg : w1.heap.size = g at *
  have HE := v_each_Scale (.pointer (some ⟨g, 0, none⟩)) (.pointer (some ⟨w.heap.size + 1, 0, none⟩)) (tvP a0 k) (tvP a1 k) (tvP a2 k) wc (by have := tv_bd a0 k ia0 ik; unfold I64; omega) (by have := tv_bd a1 k ia1 ik; unfold I64; omega) (by have := tv_bd a2 k ia2 ik; unfold I64; omega) (by
    intro i V hi w' hw
    rcases hi with ⟨rfl, rfl⟩ | ⟨rfl, rfl⟩ | ⟨rfl, rfl⟩
    · exact c_Scale0 g (w.heap.size + 1) a0 a1 a2 k w' ia0 ia1 ia2 ik (hA.below hw hA.lt) (hk.below hw hk.lt)
    · exact c_Scale1 g (w.heap.size + 1) a0 a1 a2 k w' ia0 ia1 ia2 ik (hA.below hw hA.lt) (hk.below hw hk.lt)
    · exact c_Scale2 g (w.heap.size + 1) a0 a1 a2 k w' ia0 ia1 ia2 ik (hA.below hw hA.lt) (hk.below hw hk.lt))
  generalize hy0 : clampP (tvP a0 k) = y0 at HE
  generalize hy1 : clampP (tvP a1 k) = y1 at HE
  generalize hy2 : clampP (tvP a2 k) = y2 at HE
  generalize hN : cutC (tvP a0 k) + cutC (tvP a1 k) + cutC (tvP a2 k) = N at HE
  have HY := hid (show _ ∧ _ ∧ _ ∧ _ from ⟨hy0, hy1, hy2, hN⟩)
  clear hy0 hy1 hy2 hN
  have HE2 := hid HE
  clear HE
  go_wp2_with fail
  refine (HE2.out).mono ?_
  rintro e w2 ⟨rfl, bb2⟩
  replace hr := hr.below bb2 hr.lt
  replace hb := hb.on bb2
  have d0 : w2.cell? ⟨w.heap.size + 1 + 1, 0, none⟩ = some (.int .i32 0) := hr.cell 0
  have z0 := hr.frozen 0
  have d1 : w2.cell? ⟨w.heap.size + 1 + 1, 1, none⟩ = some (.int .i32 0) := hr.cell 1
  have z1 := hr.frozen 1
  have d2 : w2.cell? ⟨w.heap.size + 1 + 1, 2, none⟩ = some (.int .i32 0) := hr.cell 2
  have z2 := hr.frozen 2
  have hf : Blk (((w2.setCell ⟨w.heap.size + 1 + 1, 0, none⟩ (.int .i32 y0)).setCell ⟨w.heap.size + 1 + 1, 1, none⟩ (.int .i32 y1)).setCell ⟨w.heap.size + 1 + 1, 2, none⟩ (.int .i32 y2)) (w.heap.size + 1 + 1) 25 #[.int .i32 y0, .int .i32 y1, .int .i32 y2] := (((hr.set_ 0 (.int .i32 y0)).set_ 1 (.int .i32 y1)).set_ 2 (.int .i32 y2))
  have hbf : Below w.heap.size w (((w2.setCell ⟨w.heap.size + 1 + 1, 0, none⟩ (.int .i32 y0)).setCell ⟨w.heap.size + 1 + 1, 1, none⟩ (.int .i32 y1)).setCell ⟨w.heap.size + 1 + 1, 2, none⟩ (.int .i32 y2)) := (((hb.setCell (p := ⟨w.heap.size + 1 + 1, 0, none⟩) (by dsimp only; omega) (.int .i32 y0)).setCell (p := ⟨w.heap.size + 1 + 1, 1, none⟩) (by dsimp only; omega) (.int .i32 y1)).setCell (p := ⟨w.heap.size + 1 + 1, 2, none⟩) (by dsimp only; omega) (.int .i32 y2))
  go_wp2
  generalize (((w2.setCell ⟨w.heap.size + 1 + 1, 0, none⟩ (.int .i32 y0)).setCell ⟨w.heap.size + 1 + 1, 1, none⟩ (.int .i32 y1)).setCell ⟨w.heap.size + 1 + 1, 2, none⟩ (.int .i32 y2)) = wf at *
  have f0 : wf.cell? ⟨w.heap.size + 1 + 1, 0, none⟩ = some (.int .i32 y0) := hf.cell 0
  have f1 : wf.cell? ⟨w.heap.size + 1 + 1, 1, none⟩ = some (.int .i32 y1) := hf.cell 1
  have f2 : wf.cell? ⟨w.heap.size + 1 + 1, 2, none⟩ = some (.int .i32 y2) := hf.cell 2
  simp [bodyPost, results, Try.results25, go_sem, f0, f1, f2]
  exact ⟨⟨⟨HY.out.1.symm, HY.out.2.1.symm, HY.out.2.2.1.symm⟩, HY.out.2.2.2.symm⟩, hbf⟩
end Go.Proofs.Ytgmepohfkpncmaa
namespace Go.Proofs.Ytgmepohfkpncmaa
open Go.RowKit
set_option linter.unusedVariables false
set_option linter.unusedSimpArgs false

def dotV (a0 a1 a2 b0 b1 b2 : Int) : Int := tvP a0 b0 + tvP a1 b1 + tvP a2 b2
theorem r9_Length (a0 a1 a2 : Int) (w : World) (ia0 : I32 a0) (ia1 : I32 a1) (ia2 : I32 a2) :
    Calls Try.prog 11 #[.agg #[.int .i32 a0, .int .i32 a1, .int .i32 a2]] w fun e w' => e = .returned (.int .u32 (rootP (sqP [a0, a1, a2]))) ∧ Below w.heap.size w w' := by
  have HL := hid fun (g : Nat) w h => ref_Length (some ⟨g, 0, none⟩) 3 3 [a0, a1, a2] w h (by unfold I32 at *; simp; omega) (by omega)
  generalize rootP (sqP [a0, a1, a2]) = r at *
  have hA : Blk ((w.alloc (.cells #[.int .i32 a0, .int .i32 a1, .int .i32 a2] 25)).alloc (.cells #[.int .i32 a0, .int .i32 a1, .int .i32 a2] 21)) (w.heap.size + 1) 21 #[.int .i32 a0, .int .i32 a1, .int .i32 a2] := by have := Blk.new (w.alloc (.cells #[.int .i32 a0, .int .i32 a1, .int .i32 a2] 25)) 21 #[.int .i32 a0, .int .i32 a1, .int .i32 a2]; simpa using this
  have hb : Below w.heap.size w ((w.alloc (.cells #[.int .i32 a0, .int .i32 a1, .int .i32 a2] 25)).alloc (.cells #[.int .i32 a0, .int .i32 a1, .int .i32 a2] 21)) := ((Below.refl _ w).alloc (Nat.le_refl _) _).alloc (by simp) _
  go_enter Try.func11, Try.ntmps11
  go_wp2_with fail
  refine (HL.out _ _ (Row.blk hA rfl hA.lt)).mono ?_
  rintro e w1 ⟨rfl, b1⟩
  go_wp2
  go_ret
  exact ⟨rfl, hb.on b1⟩
end Go.Proofs.Ytgmepohfkpncmaa
