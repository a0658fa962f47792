/- Chapter 10: quaternions: the reference's Conj, Neg, Norm. -/
import Derived.Test.YtlcikfnhgldonaaQuatE
namespace Go.Proofs.Ytlcikfnhgldonaa
open Go.RowKit

theorem r10_Norm (a b c d : Int) (w : World) (ha : I32 a) (hb : I32 b) (hc : I32 c) (hd : I32 d) :
    Calls Try.prog 22 #[.agg #[.int .i32 a, .int .i32 b, .int .i32 c, .int .i32 d]] w fun e w' => e = .returned (.int .u64 (sqP [a, b, c, d])) ∧ Below w.heap.size w w' := by
  have H2 := hid fun (f : Nat) (w : World) (g : Nat) (h : Row .i32 w w.heap.size (some ⟨g, 0, none⟩) 4 [a, b, c, d]) => ref_Squares (some ⟨g, 0, none⟩) 4 f [a, b, c, d] w h (by unfold I32 at *; simp; omega) (by omega)
  clear ha hb hc hd
  generalize sqP [a, b, c, d] = n at *
  go_enter Try.func22, Try.ntmps22
  go_wp2_with fail
  refine (H2.out _ _ _ (by have := Row.blk (k := .i32) (xs := [a, b, c, d]) (Blk.new (w.alloc (.cells #[.int .i32 a, .int .i32 b, .int .i32 c, .int .i32 d] 23)) 21 #[.int .i32 a, .int .i32 b, .int .i32 c, .int .i32 d]) rfl (B := ((w.alloc (.cells #[.int .i32 a, .int .i32 b, .int .i32 c, .int .i32 d] 23)).alloc (.cells #[.int .i32 a, .int .i32 b, .int .i32 c, .int .i32 d] 21)).heap.size) (by simp); simpa using this)).mono ?_
  rintro e w2 ⟨rfl, b2⟩
  go_wp2
  go_ret
  exact ⟨rfl, (((Below.refl _ w).alloc (Nat.le_refl _) _).alloc (by simp) _).trans (b2.mono (by simp; omega))⟩
theorem r10_Conj (a b c d : Int) (w : World) (ha : I32 a) (hb : I32 b) (hc : I32 c) (hd : I32 d) :
    Calls Try.prog 24 #[.agg #[.int .i32 a, .int .i32 b, .int .i32 c, .int .i32 d]] w fun e w' => e = .returned (.tuple #[.agg #[.int .i32 (clampP a), .int .i32 (clampP (-b)), .int .i32 (clampP (-c)), .int .i32 (clampP (-d))], .int .i64 (cutC a + cutC (-b) + cutC (-c) + cutC (-d))]) ∧ Below w.heap.size w w' := by
  have H2 := hid fun w => r10_Cut a (-b) (-c) (-d) w (by unfold I32 I64 at *; omega) (by unfold I32 I64 at *; omega) (by unfold I32 I64 at *; omega) (by unfold I32 I64 at *; omega)
  generalize clampP a = x0 at *
  generalize clampP (-b) = x1 at *
  generalize clampP (-c) = x2 at *
  generalize clampP (-d) = x3 at *
  generalize cutC a + cutC (-b) + cutC (-c) + cutC (-d) = n at *
  obtain ⟨a1, a2⟩ := ha
  obtain ⟨b1, b2⟩ := hb
  obtain ⟨c1, c2⟩ := hc
  obtain ⟨d1, d2⟩ := hd
  go_enter Try.func24, Try.ntmps24
  go_wp2_with fail
  refine (H2.out _).mono ?_
  rintro e w2 ⟨rfl, b2⟩
  have hr : Blk w2 (w.heap.size + 1) 23 #[.int .i32 0, .int .i32 0, .int .i32 0, .int .i32 0] := by
    have := (Blk.new (w.alloc (.cells #[.int .i32 a, .int .i32 b, .int .i32 c, .int .i32 d] 23)) 23 #[.int .i32 0, .int .i32 0, .int .i32 0, .int .i32 0]).below b2 (by simp)
    simpa using this
  have hbe : Below w.heap.size w w2 := (((Below.refl _ w).alloc (Nat.le_refl _) _).alloc (by simp) _).trans (b2.mono (by simp; omega))
  clear b2
  replace hr := hr.alloc (.cells #[.int .i32 x0, .int .i32 x1, .int .i32 x2, .int .i32 x3] 23)
  replace hbe := hbe.alloc hbe.size (.cells #[.int .i32 x0, .int .i32 x1, .int .i32 x2, .int .i32 x3] 23)
  have y0 : (w2.alloc (.cells #[.int .i32 x0, .int .i32 x1, .int .i32 x2, .int .i32 x3] 23)).cell? ⟨w.heap.size + 1, 0, none⟩ = some (.int .i32 0) := hr.cell 0
  have v0 := hr.frozen 0
  have y1 : (w2.alloc (.cells #[.int .i32 x0, .int .i32 x1, .int .i32 x2, .int .i32 x3] 23)).cell? ⟨w.heap.size + 1, 1, none⟩ = some (.int .i32 0) := hr.cell 1
  have v1 := hr.frozen 1
  have y2 : (w2.alloc (.cells #[.int .i32 x0, .int .i32 x1, .int .i32 x2, .int .i32 x3] 23)).cell? ⟨w.heap.size + 1, 2, none⟩ = some (.int .i32 0) := hr.cell 2
  have v2 := hr.frozen 2
  have y3 : (w2.alloc (.cells #[.int .i32 x0, .int .i32 x1, .int .i32 x2, .int .i32 x3] 23)).cell? ⟨w.heap.size + 1, 3, none⟩ = some (.int .i32 0) := hr.cell 3
  have v3 := hr.frozen 3
  go_wp2
  have hb9 := ((((hr.set_ 0 (.int .i32 x0)).set_ 1 (.int .i32 x1)).set_ 2 (.int .i32 x2)).set_ 3 (.int .i32 x3))
  have hbf : Below w.heap.size w (((((w2.alloc (.cells #[.int .i32 x0, .int .i32 x1, .int .i32 x2, .int .i32 x3] 23)).setCell ⟨w.heap.size + 1, 0, none⟩ (.int .i32 x0)).setCell ⟨w.heap.size + 1, 1, none⟩ (.int .i32 x1)).setCell ⟨w.heap.size + 1, 2, none⟩ (.int .i32 x2)).setCell ⟨w.heap.size + 1, 3, none⟩ (.int .i32 x3)) := ((((hbe.setCell (by dsimp only; omega) _).setCell (by dsimp only; omega) _).setCell (by dsimp only; omega) _).setCell (by dsimp only; omega) _)
  generalize (((((w2.alloc (.cells #[.int .i32 x0, .int .i32 x1, .int .i32 x2, .int .i32 x3] 23)).setCell ⟨w.heap.size + 1, 0, none⟩ (.int .i32 x0)).setCell ⟨w.heap.size + 1, 1, none⟩ (.int .i32 x1)).setCell ⟨w.heap.size + 1, 2, none⟩ (.int .i32 x2)).setCell ⟨w.heap.size + 1, 3, none⟩ (.int .i32 x3)) = W at *
  have e0 : W.cell? ⟨w.heap.size + 1, 0, none⟩ = some (.int .i32 x0) := hb9.cell 0
  have e1 : W.cell? ⟨w.heap.size + 1, 1, none⟩ = some (.int .i32 x1) := hb9.cell 1
  have e2 : W.cell? ⟨w.heap.size + 1, 2, none⟩ = some (.int .i32 x2) := hb9.cell 2
  have e3 : W.cell? ⟨w.heap.size + 1, 3, none⟩ = some (.int .i32 x3) := hb9.cell 3
  clear hb9 hr y0 y1 y2 y3
  simp [bodyPost, results, Try.results24, go_sem, e0, e1, e2, e3]
  exact hbf
theorem r10_Neg (a b c d : Int) (w : World) (ha : I32 a) (hb : I32 b) (hc : I32 c) (hd : I32 d) :
    Calls Try.prog 26 #[.agg #[.int .i32 a, .int .i32 b, .int .i32 c, .int .i32 d]] w fun e w' => e = .returned (.tuple #[.agg #[.int .i32 (clampP (-a)), .int .i32 (clampP (-b)), .int .i32 (clampP (-c)), .int .i32 (clampP (-d))], .int .i64 (cutC (-a) + cutC (-b) + cutC (-c) + cutC (-d))]) ∧ Below w.heap.size w w' := by
  have H2 := hid fun w => r10_Cut (-a) (-b) (-c) (-d) w (by unfold I32 I64 at *; omega) (by unfold I32 I64 at *; omega) (by unfold I32 I64 at *; omega) (by unfold I32 I64 at *; omega)
  generalize clampP (-a) = x0 at *
  generalize clampP (-b) = x1 at *
  generalize clampP (-c) = x2 at *
  generalize clampP (-d) = x3 at *
  generalize cutC (-a) + cutC (-b) + cutC (-c) + cutC (-d) = n at *
  obtain ⟨a1, a2⟩ := ha
  obtain ⟨b1, b2⟩ := hb
  obtain ⟨c1, c2⟩ := hc
  obtain ⟨d1, d2⟩ := hd
  go_enter Try.func26, Try.ntmps26
  go_wp2_with fail
  refine (H2.out _).mono ?_
  rintro e w2 ⟨rfl, b2⟩
  have hr : Blk w2 (w.heap.size + 1) 23 #[.int .i32 0, .int .i32 0, .int .i32 0, .int .i32 0] := by
    have := (Blk.new (w.alloc (.cells #[.int .i32 a, .int .i32 b, .int .i32 c, .int .i32 d] 23)) 23 #[.int .i32 0, .int .i32 0, .int .i32 0, .int .i32 0]).below b2 (by simp)
    simpa using this
  have hbe : Below w.heap.size w w2 := (((Below.refl _ w).alloc (Nat.le_refl _) _).alloc (by simp) _).trans (b2.mono (by simp; omega))
  clear b2
  replace hr := hr.alloc (.cells #[.int .i32 x0, .int .i32 x1, .int .i32 x2, .int .i32 x3] 23)
  replace hbe := hbe.alloc hbe.size (.cells #[.int .i32 x0, .int .i32 x1, .int .i32 x2, .int .i32 x3] 23)
  have y0 : (w2.alloc (.cells #[.int .i32 x0, .int .i32 x1, .int .i32 x2, .int .i32 x3] 23)).cell? ⟨w.heap.size + 1, 0, none⟩ = some (.int .i32 0) := hr.cell 0
  have v0 := hr.frozen 0
  have y1 : (w2.alloc (.cells #[.int .i32 x0, .int .i32 x1, .int .i32 x2, .int .i32 x3] 23)).cell? ⟨w.heap.size + 1, 1, none⟩ = some (.int .i32 0) := hr.cell 1
  have v1 := hr.frozen 1
  have y2 : (w2.alloc (.cells #[.int .i32 x0, .int .i32 x1, .int .i32 x2, .int .i32 x3] 23)).cell? ⟨w.heap.size + 1, 2, none⟩ = some (.int .i32 0) := hr.cell 2
  have v2 := hr.frozen 2
  have y3 : (w2.alloc (.cells #[.int .i32 x0, .int .i32 x1, .int .i32 x2, .int .i32 x3] 23)).cell? ⟨w.heap.size + 1, 3, none⟩ = some (.int .i32 0) := hr.cell 3
  have v3 := hr.frozen 3
  go_wp2
  have hb9 := ((((hr.set_ 0 (.int .i32 x0)).set_ 1 (.int .i32 x1)).set_ 2 (.int .i32 x2)).set_ 3 (.int .i32 x3))
  have hbf : Below w.heap.size w (((((w2.alloc (.cells #[.int .i32 x0, .int .i32 x1, .int .i32 x2, .int .i32 x3] 23)).setCell ⟨w.heap.size + 1, 0, none⟩ (.int .i32 x0)).setCell ⟨w.heap.size + 1, 1, none⟩ (.int .i32 x1)).setCell ⟨w.heap.size + 1, 2, none⟩ (.int .i32 x2)).setCell ⟨w.heap.size + 1, 3, none⟩ (.int .i32 x3)) := ((((hbe.setCell (by dsimp only; omega) _).setCell (by dsimp only; omega) _).setCell (by dsimp only; omega) _).setCell (by dsimp only; omega) _)
  generalize (((((w2.alloc (.cells #[.int .i32 x0, .int .i32 x1, .int .i32 x2, .int .i32 x3] 23)).setCell ⟨w.heap.size + 1, 0, none⟩ (.int .i32 x0)).setCell ⟨w.heap.size + 1, 1, none⟩ (.int .i32 x1)).setCell ⟨w.heap.size + 1, 2, none⟩ (.int .i32 x2)).setCell ⟨w.heap.size + 1, 3, none⟩ (.int .i32 x3)) = W at *
  have e0 : W.cell? ⟨w.heap.size + 1, 0, none⟩ = some (.int .i32 x0) := hb9.cell 0
  have e1 : W.cell? ⟨w.heap.size + 1, 1, none⟩ = some (.int .i32 x1) := hb9.cell 1
  have e2 : W.cell? ⟨w.heap.size + 1, 2, none⟩ = some (.int .i32 x2) := hb9.cell 2
  have e3 : W.cell? ⟨w.heap.size + 1, 3, none⟩ = some (.int .i32 x3) := hb9.cell 3
  clear hb9 hr y0 y1 y2 y3
  simp [bodyPost, results, Try.results26, go_sem, e0, e1, e2, e3]
  exact hbf
end Go.Proofs.Ytlcikfnhgldonaa
