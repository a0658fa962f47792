/- Chapter 13: the walk of TurnLength. -/
import Derived.Test.YtfogjfmpgfcolaaTurnN
import Derived.Test.YtfogjfmpgfcolaaTurnV
import Derived.Test.YtfogjfmpgfcolaaUnitD
namespace Go.Proofs.Ytfogjfmpgfcolaa
open Go.RowKit
set_option linter.unusedVariables false
set_option linter.unusedSimpArgs false

theorem r9_LengthB (a0 a1 a2 : Int) (w : World) (ia0 : I32 a0) (ia1 : I32 a1) (ia2 : I32 a2) :
    Calls Try.prog 19 #[.agg #[.int .i32 a0, .int .i32 a1, .int .i32 a2]] w fun e w' => e = .returned (.int .u32 (rootP (sqP [a0, a1, a2]))) ∧ Below w.heap.size w w' := by
  have HL := hid fun (g : Nat) w h => ref_Length (some ⟨g, 0, none⟩) 3 3 [a0, a1, a2] w h (by unfold I32 at *; simp; omega) (by omega)
  generalize rootP (sqP [a0, a1, a2]) = r at *
  have hA : Blk ((w.alloc (.cells #[.int .i32 a0, .int .i32 a1, .int .i32 a2] 25)).alloc (.cells #[.int .i32 a0, .int .i32 a1, .int .i32 a2] 21)) (w.heap.size + 1) 21 #[.int .i32 a0, .int .i32 a1, .int .i32 a2] := by have := Blk.new (w.alloc (.cells #[.int .i32 a0, .int .i32 a1, .int .i32 a2] 25)) 21 #[.int .i32 a0, .int .i32 a1, .int .i32 a2]; simpa using this
  have hb : Below w.heap.size w ((w.alloc (.cells #[.int .i32 a0, .int .i32 a1, .int .i32 a2] 25)).alloc (.cells #[.int .i32 a0, .int .i32 a1, .int .i32 a2] 21)) := ((Below.refl _ w).alloc (Nat.le_refl _) _).alloc (by simp) _
  go_enter Try.func19, Try.ntmps19
  go_wp2_with fail
  refine (HL.out _ _ (Row.blk hA rfl hA.lt)).mono ?_
  rintro e w1 ⟨rfl, b1⟩
  go_wp2
  go_ret
  exact ⟨rfl, below_on hb b1⟩
set_option maxRecDepth 20000 in
set_option maxHeartbeats 16000000 in
theorem turnLength_walk (q0 q1 q2 q3 v0 v1 v2 : Int) (w : World) (vq0 : (Lit.int .i32 q0).wf = true) (vq1 : (Lit.int .i32 q1).wf = true) (vq2 : (Lit.int .i32 q2).wf = true) (vq3 : (Lit.int .i32 q3).wf = true) (vv0 : (Lit.int .i32 v0).wf = true) (vv1 : (Lit.int .i32 v1).wf = true) (vv2 : (Lit.int .i32 v2).wf = true) :
    Calls Try.prog 4 #[.agg #[.int .i32 q0, .int .i32 q1, .int .i32 q2, .int .i32 q3], .agg #[.int .i32 v0, .int .i32 v1, .int .i32 v2]] w fun e w' => e = .returned (.bool true) ∧ Below w.heap.size w w' := by
  have iq0 : I32 q0 := bounds_i32 vq0
  have iq1 : I32 q1 := bounds_i32 vq1
  have iq2 : I32 q2 := bounds_i32 vq2
  have iq3 : I32 q3 := bounds_i32 vq3
  have iv0 : I32 v0 := bounds_i32 vv0
  have iv1 : I32 v1 := bounds_i32 vv1
  have iv2 : I32 v2 := bounds_i32 vv2
  clear vq0 vq1 vq2 vq3 vv0 vv1 vv2
  have HK := hid fun w => law13_knows w
  have HO := hid fun w => r11_Off q0 q1 q2 q3 w iq0 iq1 iq2 iq3
  obtain ⟨U, hU⟩ : ∃ U, offP (sqP [q0, q1, q2, q3]) = U := ⟨_, rfl⟩
  rw [hU] at HO
  have HU := hid hU
  clear hU
  by_cases g0 : 8589934592 < U
  · clear iq0 iq1 iq2 iq3 iv0 iv1 iv2
    go_enter Try.func4, Try.ntmps4
    have hp0 : Blk (w.alloc (.cells #[.int .i32 q0, .int .i32 q1, .int .i32 q2, .int .i32 q3] 23)) w.heap.size 23 #[.int .i32 q0, .int .i32 q1, .int .i32 q2, .int .i32 q3] := Blk.new w _ _
    have hb : Below w.heap.size w (w.alloc (.cells #[.int .i32 q0, .int .i32 q1, .int .i32 q2, .int .i32 q3] 23)) := (Below.refl _ w).alloc (Nat.le_refl _) _
    replace hp0 := hp0.alloc (.cells #[.int .i32 v0, .int .i32 v1, .int .i32 v2] 25)
    have hp1 : Blk ((w.alloc (.cells #[.int .i32 q0, .int .i32 q1, .int .i32 q2, .int .i32 q3] 23)).alloc (.cells #[.int .i32 v0, .int .i32 v1, .int .i32 v2] 25)) (w.heap.size + 1) 25 #[.int .i32 v0, .int .i32 v1, .int .i32 v2] := by have := Blk.new (w.alloc (.cells #[.int .i32 q0, .int .i32 q1, .int .i32 q2, .int .i32 q3] 23)) 25 #[.int .i32 v0, .int .i32 v1, .int .i32 v2]; simpa using this
    replace hb := hb.alloc hb.size (.cells #[.int .i32 v0, .int .i32 v1, .int .i32 v2] 25)
    go_wp2_with fail
    generalize (w.alloc (.cells #[.int .i32 q0, .int .i32 q1, .int .i32 q2, .int .i32 q3] 23)).alloc (.cells #[.int .i32 v0, .int .i32 v1, .int .i32 v2] 25) = W0 at *
    refine (HO.out _).mono ?_
    rintro e w1 ⟨rfl, b1⟩
    replace hp0 := hp0.below b1 hp0.lt
    replace hp1 := hp1.below b1 hp1.lt
    replace hb := below_on hb b1
    clear b1
    have f0 : (w1).cell? ⟨w.heap.size, 0, none⟩ = some (.int .i32 q0) := hp0.cell 0
    have f1 : (w1).cell? ⟨w.heap.size, 1, none⟩ = some (.int .i32 q1) := hp0.cell 1
    have f2 : (w1).cell? ⟨w.heap.size, 2, none⟩ = some (.int .i32 q2) := hp0.cell 2
    have f3 : (w1).cell? ⟨w.heap.size, 3, none⟩ = some (.int .i32 q3) := hp0.cell 3
    have f4 : (w1).cell? ⟨w.heap.size + 1, 0, none⟩ = some (.int .i32 v0) := hp1.cell 0
    have f5 : (w1).cell? ⟨w.heap.size + 1, 1, none⟩ = some (.int .i32 v1) := hp1.cell 1
    have f6 : (w1).cell? ⟨w.heap.size + 1, 2, none⟩ = some (.int .i32 v2) := hp1.cell 2
    go_wp2_with fail
    clear f0 f1 f2 f3 f4 f5 f6
    generalize w1 = W1 at *
    refine (HK.out _).mono ?_
    rintro e w2 ⟨rfl, b2⟩
    replace hp0 := hp0.below b2 hp0.lt
    replace hp1 := hp1.below b2 hp1.lt
    replace hb := below_on hb b2
    clear b2
    go_wp2
    go_ret
    exact ⟨rfl, hb⟩
  by_cases g1 : 16777216 < v0
  · clear iq0 iq1 iq2 iq3 iv0 iv1 iv2
    go_enter Try.func4, Try.ntmps4
    have hp0 : Blk (w.alloc (.cells #[.int .i32 q0, .int .i32 q1, .int .i32 q2, .int .i32 q3] 23)) w.heap.size 23 #[.int .i32 q0, .int .i32 q1, .int .i32 q2, .int .i32 q3] := Blk.new w _ _
    have hb : Below w.heap.size w (w.alloc (.cells #[.int .i32 q0, .int .i32 q1, .int .i32 q2, .int .i32 q3] 23)) := (Below.refl _ w).alloc (Nat.le_refl _) _
    replace hp0 := hp0.alloc (.cells #[.int .i32 v0, .int .i32 v1, .int .i32 v2] 25)
    have hp1 : Blk ((w.alloc (.cells #[.int .i32 q0, .int .i32 q1, .int .i32 q2, .int .i32 q3] 23)).alloc (.cells #[.int .i32 v0, .int .i32 v1, .int .i32 v2] 25)) (w.heap.size + 1) 25 #[.int .i32 v0, .int .i32 v1, .int .i32 v2] := by have := Blk.new (w.alloc (.cells #[.int .i32 q0, .int .i32 q1, .int .i32 q2, .int .i32 q3] 23)) 25 #[.int .i32 v0, .int .i32 v1, .int .i32 v2]; simpa using this
    replace hb := hb.alloc hb.size (.cells #[.int .i32 v0, .int .i32 v1, .int .i32 v2] 25)
    go_wp2_with fail
    generalize (w.alloc (.cells #[.int .i32 q0, .int .i32 q1, .int .i32 q2, .int .i32 q3] 23)).alloc (.cells #[.int .i32 v0, .int .i32 v1, .int .i32 v2] 25) = W0 at *
    refine (HO.out _).mono ?_
    rintro e w1 ⟨rfl, b1⟩
    replace hp0 := hp0.below b1 hp0.lt
    replace hp1 := hp1.below b1 hp1.lt
    replace hb := below_on hb b1
    clear b1
    have f0 : (w1).cell? ⟨w.heap.size, 0, none⟩ = some (.int .i32 q0) := hp0.cell 0
    have f1 : (w1).cell? ⟨w.heap.size, 1, none⟩ = some (.int .i32 q1) := hp0.cell 1
    have f2 : (w1).cell? ⟨w.heap.size, 2, none⟩ = some (.int .i32 q2) := hp0.cell 2
    have f3 : (w1).cell? ⟨w.heap.size, 3, none⟩ = some (.int .i32 q3) := hp0.cell 3
    have f4 : (w1).cell? ⟨w.heap.size + 1, 0, none⟩ = some (.int .i32 v0) := hp1.cell 0
    have f5 : (w1).cell? ⟨w.heap.size + 1, 1, none⟩ = some (.int .i32 v1) := hp1.cell 1
    have f6 : (w1).cell? ⟨w.heap.size + 1, 2, none⟩ = some (.int .i32 v2) := hp1.cell 2
    go_wp2_with fail
    clear f0 f1 f2 f3 f4 f5 f6
    generalize w1 = W1 at *
    refine (HK.out _).mono ?_
    rintro e w2 ⟨rfl, b2⟩
    replace hp0 := hp0.below b2 hp0.lt
    replace hp1 := hp1.below b2 hp1.lt
    replace hb := below_on hb b2
    clear b2
    go_wp2
    go_ret
    exact ⟨rfl, hb⟩
  by_cases g2 : v0 < -16777216
  · clear iq0 iq1 iq2 iq3 iv0 iv1 iv2
    go_enter Try.func4, Try.ntmps4
    have hp0 : Blk (w.alloc (.cells #[.int .i32 q0, .int .i32 q1, .int .i32 q2, .int .i32 q3] 23)) w.heap.size 23 #[.int .i32 q0, .int .i32 q1, .int .i32 q2, .int .i32 q3] := Blk.new w _ _
    have hb : Below w.heap.size w (w.alloc (.cells #[.int .i32 q0, .int .i32 q1, .int .i32 q2, .int .i32 q3] 23)) := (Below.refl _ w).alloc (Nat.le_refl _) _
    replace hp0 := hp0.alloc (.cells #[.int .i32 v0, .int .i32 v1, .int .i32 v2] 25)
    have hp1 : Blk ((w.alloc (.cells #[.int .i32 q0, .int .i32 q1, .int .i32 q2, .int .i32 q3] 23)).alloc (.cells #[.int .i32 v0, .int .i32 v1, .int .i32 v2] 25)) (w.heap.size + 1) 25 #[.int .i32 v0, .int .i32 v1, .int .i32 v2] := by have := Blk.new (w.alloc (.cells #[.int .i32 q0, .int .i32 q1, .int .i32 q2, .int .i32 q3] 23)) 25 #[.int .i32 v0, .int .i32 v1, .int .i32 v2]; simpa using this
    replace hb := hb.alloc hb.size (.cells #[.int .i32 v0, .int .i32 v1, .int .i32 v2] 25)
    go_wp2_with fail
    generalize (w.alloc (.cells #[.int .i32 q0, .int .i32 q1, .int .i32 q2, .int .i32 q3] 23)).alloc (.cells #[.int .i32 v0, .int .i32 v1, .int .i32 v2] 25) = W0 at *
    refine (HO.out _).mono ?_
    rintro e w1 ⟨rfl, b1⟩
    replace hp0 := hp0.below b1 hp0.lt
    replace hp1 := hp1.below b1 hp1.lt
    replace hb := below_on hb b1
    clear b1
    have f0 : (w1).cell? ⟨w.heap.size, 0, none⟩ = some (.int .i32 q0) := hp0.cell 0
    have f1 : (w1).cell? ⟨w.heap.size, 1, none⟩ = some (.int .i32 q1) := hp0.cell 1
    have f2 : (w1).cell? ⟨w.heap.size, 2, none⟩ = some (.int .i32 q2) := hp0.cell 2
    have f3 : (w1).cell? ⟨w.heap.size, 3, none⟩ = some (.int .i32 q3) := hp0.cell 3
    have f4 : (w1).cell? ⟨w.heap.size + 1, 0, none⟩ = some (.int .i32 v0) := hp1.cell 0
    have f5 : (w1).cell? ⟨w.heap.size + 1, 1, none⟩ = some (.int .i32 v1) := hp1.cell 1
    have f6 : (w1).cell? ⟨w.heap.size + 1, 2, none⟩ = some (.int .i32 v2) := hp1.cell 2
    go_wp2_with fail
    clear f0 f1 f2 f3 f4 f5 f6
    generalize w1 = W1 at *
    refine (HK.out _).mono ?_
    rintro e w2 ⟨rfl, b2⟩
    replace hp0 := hp0.below b2 hp0.lt
    replace hp1 := hp1.below b2 hp1.lt
    replace hb := below_on hb b2
    clear b2
    go_wp2
    go_ret
    exact ⟨rfl, hb⟩
  by_cases g3 : 16777216 < v1
  · clear iq0 iq1 iq2 iq3 iv0 iv1 iv2
    go_enter Try.func4, Try.ntmps4
    have hp0 : Blk (w.alloc (.cells #[.int .i32 q0, .int .i32 q1, .int .i32 q2, .int .i32 q3] 23)) w.heap.size 23 #[.int .i32 q0, .int .i32 q1, .int .i32 q2, .int .i32 q3] := Blk.new w _ _
    have hb : Below w.heap.size w (w.alloc (.cells #[.int .i32 q0, .int .i32 q1, .int .i32 q2, .int .i32 q3] 23)) := (Below.refl _ w).alloc (Nat.le_refl _) _
    replace hp0 := hp0.alloc (.cells #[.int .i32 v0, .int .i32 v1, .int .i32 v2] 25)
    have hp1 : Blk ((w.alloc (.cells #[.int .i32 q0, .int .i32 q1, .int .i32 q2, .int .i32 q3] 23)).alloc (.cells #[.int .i32 v0, .int .i32 v1, .int .i32 v2] 25)) (w.heap.size + 1) 25 #[.int .i32 v0, .int .i32 v1, .int .i32 v2] := by have := Blk.new (w.alloc (.cells #[.int .i32 q0, .int .i32 q1, .int .i32 q2, .int .i32 q3] 23)) 25 #[.int .i32 v0, .int .i32 v1, .int .i32 v2]; simpa using this
    replace hb := hb.alloc hb.size (.cells #[.int .i32 v0, .int .i32 v1, .int .i32 v2] 25)
    go_wp2_with fail
    generalize (w.alloc (.cells #[.int .i32 q0, .int .i32 q1, .int .i32 q2, .int .i32 q3] 23)).alloc (.cells #[.int .i32 v0, .int .i32 v1, .int .i32 v2] 25) = W0 at *
    refine (HO.out _).mono ?_
    rintro e w1 ⟨rfl, b1⟩
    replace hp0 := hp0.below b1 hp0.lt
    replace hp1 := hp1.below b1 hp1.lt
    replace hb := below_on hb b1
    clear b1
    have f0 : (w1).cell? ⟨w.heap.size, 0, none⟩ = some (.int .i32 q0) := hp0.cell 0
    have f1 : (w1).cell? ⟨w.heap.size, 1, none⟩ = some (.int .i32 q1) := hp0.cell 1
    have f2 : (w1).cell? ⟨w.heap.size, 2, none⟩ = some (.int .i32 q2) := hp0.cell 2
    have f3 : (w1).cell? ⟨w.heap.size, 3, none⟩ = some (.int .i32 q3) := hp0.cell 3
    have f4 : (w1).cell? ⟨w.heap.size + 1, 0, none⟩ = some (.int .i32 v0) := hp1.cell 0
    have f5 : (w1).cell? ⟨w.heap.size + 1, 1, none⟩ = some (.int .i32 v1) := hp1.cell 1
    have f6 : (w1).cell? ⟨w.heap.size + 1, 2, none⟩ = some (.int .i32 v2) := hp1.cell 2
    go_wp2_with fail
    clear f0 f1 f2 f3 f4 f5 f6
    generalize w1 = W1 at *
    refine (HK.out _).mono ?_
    rintro e w2 ⟨rfl, b2⟩
    replace hp0 := hp0.below b2 hp0.lt
    replace hp1 := hp1.below b2 hp1.lt
    replace hb := below_on hb b2
    clear b2
    go_wp2
    go_ret
    exact ⟨rfl, hb⟩
  by_cases g4 : v1 < -16777216
  · clear iq0 iq1 iq2 iq3 iv0 iv1 iv2
    go_enter Try.func4, Try.ntmps4
    have hp0 : Blk (w.alloc (.cells #[.int .i32 q0, .int .i32 q1, .int .i32 q2, .int .i32 q3] 23)) w.heap.size 23 #[.int .i32 q0, .int .i32 q1, .int .i32 q2, .int .i32 q3] := Blk.new w _ _
    have hb : Below w.heap.size w (w.alloc (.cells #[.int .i32 q0, .int .i32 q1, .int .i32 q2, .int .i32 q3] 23)) := (Below.refl _ w).alloc (Nat.le_refl _) _
    replace hp0 := hp0.alloc (.cells #[.int .i32 v0, .int .i32 v1, .int .i32 v2] 25)
    have hp1 : Blk ((w.alloc (.cells #[.int .i32 q0, .int .i32 q1, .int .i32 q2, .int .i32 q3] 23)).alloc (.cells #[.int .i32 v0, .int .i32 v1, .int .i32 v2] 25)) (w.heap.size + 1) 25 #[.int .i32 v0, .int .i32 v1, .int .i32 v2] := by have := Blk.new (w.alloc (.cells #[.int .i32 q0, .int .i32 q1, .int .i32 q2, .int .i32 q3] 23)) 25 #[.int .i32 v0, .int .i32 v1, .int .i32 v2]; simpa using this
    replace hb := hb.alloc hb.size (.cells #[.int .i32 v0, .int .i32 v1, .int .i32 v2] 25)
    go_wp2_with fail
    generalize (w.alloc (.cells #[.int .i32 q0, .int .i32 q1, .int .i32 q2, .int .i32 q3] 23)).alloc (.cells #[.int .i32 v0, .int .i32 v1, .int .i32 v2] 25) = W0 at *
    refine (HO.out _).mono ?_
    rintro e w1 ⟨rfl, b1⟩
    replace hp0 := hp0.below b1 hp0.lt
    replace hp1 := hp1.below b1 hp1.lt
    replace hb := below_on hb b1
    clear b1
    have f0 : (w1).cell? ⟨w.heap.size, 0, none⟩ = some (.int .i32 q0) := hp0.cell 0
    have f1 : (w1).cell? ⟨w.heap.size, 1, none⟩ = some (.int .i32 q1) := hp0.cell 1
    have f2 : (w1).cell? ⟨w.heap.size, 2, none⟩ = some (.int .i32 q2) := hp0.cell 2
    have f3 : (w1).cell? ⟨w.heap.size, 3, none⟩ = some (.int .i32 q3) := hp0.cell 3
    have f4 : (w1).cell? ⟨w.heap.size + 1, 0, none⟩ = some (.int .i32 v0) := hp1.cell 0
    have f5 : (w1).cell? ⟨w.heap.size + 1, 1, none⟩ = some (.int .i32 v1) := hp1.cell 1
    have f6 : (w1).cell? ⟨w.heap.size + 1, 2, none⟩ = some (.int .i32 v2) := hp1.cell 2
    go_wp2_with fail
    clear f0 f1 f2 f3 f4 f5 f6
    generalize w1 = W1 at *
    refine (HK.out _).mono ?_
    rintro e w2 ⟨rfl, b2⟩
    replace hp0 := hp0.below b2 hp0.lt
    replace hp1 := hp1.below b2 hp1.lt
    replace hb := below_on hb b2
    clear b2
    go_wp2
    go_ret
    exact ⟨rfl, hb⟩
  by_cases g5 : 16777216 < v2
  · clear iq0 iq1 iq2 iq3 iv0 iv1 iv2
    go_enter Try.func4, Try.ntmps4
    have hp0 : Blk (w.alloc (.cells #[.int .i32 q0, .int .i32 q1, .int .i32 q2, .int .i32 q3] 23)) w.heap.size 23 #[.int .i32 q0, .int .i32 q1, .int .i32 q2, .int .i32 q3] := Blk.new w _ _
    have hb : Below w.heap.size w (w.alloc (.cells #[.int .i32 q0, .int .i32 q1, .int .i32 q2, .int .i32 q3] 23)) := (Below.refl _ w).alloc (Nat.le_refl _) _
    replace hp0 := hp0.alloc (.cells #[.int .i32 v0, .int .i32 v1, .int .i32 v2] 25)
    have hp1 : Blk ((w.alloc (.cells #[.int .i32 q0, .int .i32 q1, .int .i32 q2, .int .i32 q3] 23)).alloc (.cells #[.int .i32 v0, .int .i32 v1, .int .i32 v2] 25)) (w.heap.size + 1) 25 #[.int .i32 v0, .int .i32 v1, .int .i32 v2] := by have := Blk.new (w.alloc (.cells #[.int .i32 q0, .int .i32 q1, .int .i32 q2, .int .i32 q3] 23)) 25 #[.int .i32 v0, .int .i32 v1, .int .i32 v2]; simpa using this
    replace hb := hb.alloc hb.size (.cells #[.int .i32 v0, .int .i32 v1, .int .i32 v2] 25)
    go_wp2_with fail
    generalize (w.alloc (.cells #[.int .i32 q0, .int .i32 q1, .int .i32 q2, .int .i32 q3] 23)).alloc (.cells #[.int .i32 v0, .int .i32 v1, .int .i32 v2] 25) = W0 at *
    refine (HO.out _).mono ?_
    rintro e w1 ⟨rfl, b1⟩
    replace hp0 := hp0.below b1 hp0.lt
    replace hp1 := hp1.below b1 hp1.lt
    replace hb := below_on hb b1
    clear b1
    have f0 : (w1).cell? ⟨w.heap.size, 0, none⟩ = some (.int .i32 q0) := hp0.cell 0
    have f1 : (w1).cell? ⟨w.heap.size, 1, none⟩ = some (.int .i32 q1) := hp0.cell 1
    have f2 : (w1).cell? ⟨w.heap.size, 2, none⟩ = some (.int .i32 q2) := hp0.cell 2
    have f3 : (w1).cell? ⟨w.heap.size, 3, none⟩ = some (.int .i32 q3) := hp0.cell 3
    have f4 : (w1).cell? ⟨w.heap.size + 1, 0, none⟩ = some (.int .i32 v0) := hp1.cell 0
    have f5 : (w1).cell? ⟨w.heap.size + 1, 1, none⟩ = some (.int .i32 v1) := hp1.cell 1
    have f6 : (w1).cell? ⟨w.heap.size + 1, 2, none⟩ = some (.int .i32 v2) := hp1.cell 2
    go_wp2_with fail
    clear f0 f1 f2 f3 f4 f5 f6
    generalize w1 = W1 at *
    refine (HK.out _).mono ?_
    rintro e w2 ⟨rfl, b2⟩
    replace hp0 := hp0.below b2 hp0.lt
    replace hp1 := hp1.below b2 hp1.lt
    replace hb := below_on hb b2
    clear b2
    go_wp2
    go_ret
    exact ⟨rfl, hb⟩
  by_cases g6 : v2 < -16777216
  · clear iq0 iq1 iq2 iq3 iv0 iv1 iv2
    go_enter Try.func4, Try.ntmps4
    have hp0 : Blk (w.alloc (.cells #[.int .i32 q0, .int .i32 q1, .int .i32 q2, .int .i32 q3] 23)) w.heap.size 23 #[.int .i32 q0, .int .i32 q1, .int .i32 q2, .int .i32 q3] := Blk.new w _ _
    have hb : Below w.heap.size w (w.alloc (.cells #[.int .i32 q0, .int .i32 q1, .int .i32 q2, .int .i32 q3] 23)) := (Below.refl _ w).alloc (Nat.le_refl _) _
    replace hp0 := hp0.alloc (.cells #[.int .i32 v0, .int .i32 v1, .int .i32 v2] 25)
    have hp1 : Blk ((w.alloc (.cells #[.int .i32 q0, .int .i32 q1, .int .i32 q2, .int .i32 q3] 23)).alloc (.cells #[.int .i32 v0, .int .i32 v1, .int .i32 v2] 25)) (w.heap.size + 1) 25 #[.int .i32 v0, .int .i32 v1, .int .i32 v2] := by have := Blk.new (w.alloc (.cells #[.int .i32 q0, .int .i32 q1, .int .i32 q2, .int .i32 q3] 23)) 25 #[.int .i32 v0, .int .i32 v1, .int .i32 v2]; simpa using this
    replace hb := hb.alloc hb.size (.cells #[.int .i32 v0, .int .i32 v1, .int .i32 v2] 25)
    go_wp2_with fail
    generalize (w.alloc (.cells #[.int .i32 q0, .int .i32 q1, .int .i32 q2, .int .i32 q3] 23)).alloc (.cells #[.int .i32 v0, .int .i32 v1, .int .i32 v2] 25) = W0 at *
    refine (HO.out _).mono ?_
    rintro e w1 ⟨rfl, b1⟩
    replace hp0 := hp0.below b1 hp0.lt
    replace hp1 := hp1.below b1 hp1.lt
    replace hb := below_on hb b1
    clear b1
    have f0 : (w1).cell? ⟨w.heap.size, 0, none⟩ = some (.int .i32 q0) := hp0.cell 0
    have f1 : (w1).cell? ⟨w.heap.size, 1, none⟩ = some (.int .i32 q1) := hp0.cell 1
    have f2 : (w1).cell? ⟨w.heap.size, 2, none⟩ = some (.int .i32 q2) := hp0.cell 2
    have f3 : (w1).cell? ⟨w.heap.size, 3, none⟩ = some (.int .i32 q3) := hp0.cell 3
    have f4 : (w1).cell? ⟨w.heap.size + 1, 0, none⟩ = some (.int .i32 v0) := hp1.cell 0
    have f5 : (w1).cell? ⟨w.heap.size + 1, 1, none⟩ = some (.int .i32 v1) := hp1.cell 1
    have f6 : (w1).cell? ⟨w.heap.size + 1, 2, none⟩ = some (.int .i32 v2) := hp1.cell 2
    go_wp2_with fail
    clear f0 f1 f2 f3 f4 f5 f6
    generalize w1 = W1 at *
    refine (HK.out _).mono ?_
    rintro e w2 ⟨rfl, b2⟩
    replace hp0 := hp0.below b2 hp0.lt
    replace hp1 := hp1.below b2 hp1.lt
    replace hb := below_on hb b2
    clear b2
    go_wp2
    go_ret
    exact ⟨rfl, hb⟩
  have hsq : 1152921496016912384 ≤ q0 * q0 + q1 * q1 + q2 * q2 + q3 * q3 ∧ q0 * q0 + q1 * q1 + q2 * q2 + q3 * q3 ≤ 1152921513196781568 := by
    have h := HU.out
    have s0 := sq_nn q0
    have s1 := sq_nn q1
    have s2 := sq_nn q2
    have s3 := sq_nn q3
    have e : sqP [q0, q1, q2, q3] = min (q0 * q0 + (q1 * q1 + (q2 * q2 + (q3 * q3 + 0)))) 18446744073709551615 := rfl
    unfold offP at h
    rw [e] at h
    split at h <;> omega
  obtain ⟨⟨c0, c1, c2⟩, hlen⟩ := length_law q0 q1 q2 q3 v0 v1 v2 iq0 iq1 iq2 iq3 hsq.1 hsq.2 (by omega) (by omega) (by omega)
  have h1 := fun w => t_Rotate q0 q1 q2 q3 v0 v1 v2 w iq0 iq1 iq2 iq3 iv0 iv1 iv2
  unfold Rots at h1
  have k0 : cutC (rtT0 q1 q2 q3 v0 v1 v2) = 0 := by unfold cutC; rw [clampP_in _ c0]; simp
  rw [clampP_in _ c0] at h1
  have k1 : cutC (rtT1 q1 q2 q3 v0 v1 v2) = 0 := by unfold cutC; rw [clampP_in _ c1]; simp
  rw [clampP_in _ c1] at h1
  have k2 : cutC (rtT2 q1 q2 q3 v0 v1 v2) = 0 := by unfold cutC; rw [clampP_in _ c2]; simp
  rw [clampP_in _ c2] at h1
  obtain ⟨⟨j0, j1, j2⟩, l1, l2⟩ := hlen _ _ _ rfl rfl rfl
  have n0 : cutC (rtR0 q0 q1 q2 q3 v0 v1 v2 (rtT0 q1 q2 q3 v0 v1 v2) (rtT1 q1 q2 q3 v0 v1 v2) (rtT2 q1 q2 q3 v0 v1 v2)) = 0 := by unfold cutC; rw [clampP_in _ j0]; simp
  rw [clampP_in _ j0] at h1
  have n1 : cutC (rtR1 q0 q1 q2 q3 v0 v1 v2 (rtT0 q1 q2 q3 v0 v1 v2) (rtT1 q1 q2 q3 v0 v1 v2) (rtT2 q1 q2 q3 v0 v1 v2)) = 0 := by unfold cutC; rw [clampP_in _ j1]; simp
  rw [clampP_in _ j1] at h1
  have n2 : cutC (rtR2 q0 q1 q2 q3 v0 v1 v2 (rtT0 q1 q2 q3 v0 v1 v2) (rtT1 q1 q2 q3 v0 v1 v2) (rtT2 q1 q2 q3 v0 v1 v2)) = 0 := by unfold cutC; rw [clampP_in _ j2]; simp
  rw [clampP_in _ j2] at h1
  rw [k0, k1, k2, n0, n1, n2] at h1
  generalize rtR0 q0 q1 q2 q3 v0 v1 v2 (rtT0 q1 q2 q3 v0 v1 v2) (rtT1 q1 q2 q3 v0 v1 v2) (rtT2 q1 q2 q3 v0 v1 v2) = x0 at *
  generalize rtR1 q0 q1 q2 q3 v0 v1 v2 (rtT0 q1 q2 q3 v0 v1 v2) (rtT1 q1 q2 q3 v0 v1 v2) (rtT2 q1 q2 q3 v0 v1 v2) = x1 at *
  generalize rtR2 q0 q1 q2 q3 v0 v1 v2 (rtT0 q1 q2 q3 v0 v1 v2) (rtT1 q1 q2 q3 v0 v1 v2) (rtT2 q1 q2 q3 v0 v1 v2) = x2 at *
  simp only [Int.add_zero] at h1
  have H1 := hid h1
  clear h1 k0 k1 k2 n0 n1 n2 c0 c1 c2 hsq HU
  have HL1 := hid fun w => r9_LengthB x0 x1 x2 w j0 j1 j2
  have HL2 := hid fun w => r9_LengthB v0 v1 v2 w iv0 iv1 iv2
  have rb1 := root_bd _ (sqP_bd [x0, x1, x2]).1 (sqP_bd [x0, x1, x2]).2
  have rb2 := root_bd _ (sqP_bd [v0, v1, v2]).1 (sqP_bd [v0, v1, v2]).2
  generalize rootP (sqP [x0, x1, x2]) = R at *
  generalize rootP (sqP [v0, v1, v2]) = V at *
  have w1 : IntKind.i64.wrap R = R := IntWalk.i64_in _ (by omega)
  have w2 : IntKind.i64.wrap V = V := IntWalk.i64_in _ (by omega)
  have w3 : IntKind.i64.wrap (R - V) = R - V := IntWalk.i64_in _ (by omega)
  obtain ⟨D, hD⟩ : ∃ D, R - V = D := ⟨_, rfl⟩
  have hD1 : D ≤ 16 := by omega
  have hD2 : -16 ≤ D := by omega
  clear iq0 iq1 iq2 iq3 iv0 iv1 iv2 j0 j1 j2 rb1 rb2 l1 l2
  go_enter Try.func4, Try.ntmps4
  have hp0 : Blk (w.alloc (.cells #[.int .i32 q0, .int .i32 q1, .int .i32 q2, .int .i32 q3] 23)) w.heap.size 23 #[.int .i32 q0, .int .i32 q1, .int .i32 q2, .int .i32 q3] := Blk.new w _ _
  have hb : Below w.heap.size w (w.alloc (.cells #[.int .i32 q0, .int .i32 q1, .int .i32 q2, .int .i32 q3] 23)) := (Below.refl _ w).alloc (Nat.le_refl _) _
  replace hp0 := hp0.alloc (.cells #[.int .i32 v0, .int .i32 v1, .int .i32 v2] 25)
  have hp1 : Blk ((w.alloc (.cells #[.int .i32 q0, .int .i32 q1, .int .i32 q2, .int .i32 q3] 23)).alloc (.cells #[.int .i32 v0, .int .i32 v1, .int .i32 v2] 25)) (w.heap.size + 1) 25 #[.int .i32 v0, .int .i32 v1, .int .i32 v2] := by have := Blk.new (w.alloc (.cells #[.int .i32 q0, .int .i32 q1, .int .i32 q2, .int .i32 q3] 23)) 25 #[.int .i32 v0, .int .i32 v1, .int .i32 v2]; simpa using this
  replace hb := hb.alloc hb.size (.cells #[.int .i32 v0, .int .i32 v1, .int .i32 v2] 25)
  go_wp2_with fail
  generalize (w.alloc (.cells #[.int .i32 q0, .int .i32 q1, .int .i32 q2, .int .i32 q3] 23)).alloc (.cells #[.int .i32 v0, .int .i32 v1, .int .i32 v2] 25) = W0 at *
  refine (HO.out _).mono ?_
  rintro e w1 ⟨rfl, b1⟩
  replace hp0 := hp0.below b1 hp0.lt
  replace hp1 := hp1.below b1 hp1.lt
  replace hb := below_on hb b1
  clear b1
  have f0 : (w1).cell? ⟨w.heap.size, 0, none⟩ = some (.int .i32 q0) := hp0.cell 0
  have f1 : (w1).cell? ⟨w.heap.size, 1, none⟩ = some (.int .i32 q1) := hp0.cell 1
  have f2 : (w1).cell? ⟨w.heap.size, 2, none⟩ = some (.int .i32 q2) := hp0.cell 2
  have f3 : (w1).cell? ⟨w.heap.size, 3, none⟩ = some (.int .i32 q3) := hp0.cell 3
  have f4 : (w1).cell? ⟨w.heap.size + 1, 0, none⟩ = some (.int .i32 v0) := hp1.cell 0
  have f5 : (w1).cell? ⟨w.heap.size + 1, 1, none⟩ = some (.int .i32 v1) := hp1.cell 1
  have f6 : (w1).cell? ⟨w.heap.size + 1, 2, none⟩ = some (.int .i32 v2) := hp1.cell 2
  go_wp2_with fail
  clear f0 f1 f2 f3 f4 f5 f6
  generalize w1 = W1 at *
  refine (HK.out _).mono ?_
  rintro e w2 ⟨rfl, b2⟩
  replace hp0 := hp0.below b2 hp0.lt
  replace hp1 := hp1.below b2 hp1.lt
  replace hb := below_on hb b2
  clear b2
  have f0 : (w2).cell? ⟨w.heap.size, 0, none⟩ = some (.int .i32 q0) := hp0.cell 0
  have f1 : (w2).cell? ⟨w.heap.size, 1, none⟩ = some (.int .i32 q1) := hp0.cell 1
  have f2 : (w2).cell? ⟨w.heap.size, 2, none⟩ = some (.int .i32 q2) := hp0.cell 2
  have f3 : (w2).cell? ⟨w.heap.size, 3, none⟩ = some (.int .i32 q3) := hp0.cell 3
  have f4 : (w2).cell? ⟨w.heap.size + 1, 0, none⟩ = some (.int .i32 v0) := hp1.cell 0
  have f5 : (w2).cell? ⟨w.heap.size + 1, 1, none⟩ = some (.int .i32 v1) := hp1.cell 1
  have f6 : (w2).cell? ⟨w.heap.size + 1, 2, none⟩ = some (.int .i32 v2) := hp1.cell 2
  go_wp2_with fail
  clear f0 f1 f2 f3 f4 f5 f6
  generalize w2 = W2 at *
  refine (H1.out _).mono ?_
  rintro e w3 ⟨rfl, b3⟩
  replace hp0 := hp0.below b3 hp0.lt
  replace hp1 := hp1.below b3 hp1.lt
  replace hb := below_on hb b3
  clear b3
  have o3hp0 := hp0.lt
  have o3hp1 := hp1.lt
  replace hp0 := hp0.alloc (.cells #[.int .i32 x0, .int .i32 x1, .int .i32 x2] 25)
  replace hp1 := hp1.alloc (.cells #[.int .i32 x0, .int .i32 x1, .int .i32 x2] 25)
  have ob3 := hb.size
  have hn3 : Blk (w3.alloc (.cells #[.int .i32 x0, .int .i32 x1, .int .i32 x2] 25)) w3.heap.size 25 #[.int .i32 x0, .int .i32 x1, .int .i32 x2] := Blk.new w3 _ _
  replace hb := hb.alloc hb.size (.cells #[.int .i32 x0, .int .i32 x1, .int .i32 x2] 25)
  have f0 : (w3.alloc (.cells #[.int .i32 x0, .int .i32 x1, .int .i32 x2] 25)).cell? ⟨w.heap.size, 0, none⟩ = some (.int .i32 q0) := hp0.cell 0
  have f1 : (w3.alloc (.cells #[.int .i32 x0, .int .i32 x1, .int .i32 x2] 25)).cell? ⟨w.heap.size, 1, none⟩ = some (.int .i32 q1) := hp0.cell 1
  have f2 : (w3.alloc (.cells #[.int .i32 x0, .int .i32 x1, .int .i32 x2] 25)).cell? ⟨w.heap.size, 2, none⟩ = some (.int .i32 q2) := hp0.cell 2
  have f3 : (w3.alloc (.cells #[.int .i32 x0, .int .i32 x1, .int .i32 x2] 25)).cell? ⟨w.heap.size, 3, none⟩ = some (.int .i32 q3) := hp0.cell 3
  have f4 : (w3.alloc (.cells #[.int .i32 x0, .int .i32 x1, .int .i32 x2] 25)).cell? ⟨w.heap.size + 1, 0, none⟩ = some (.int .i32 v0) := hp1.cell 0
  have f5 : (w3.alloc (.cells #[.int .i32 x0, .int .i32 x1, .int .i32 x2] 25)).cell? ⟨w.heap.size + 1, 1, none⟩ = some (.int .i32 v1) := hp1.cell 1
  have f6 : (w3.alloc (.cells #[.int .i32 x0, .int .i32 x1, .int .i32 x2] 25)).cell? ⟨w.heap.size + 1, 2, none⟩ = some (.int .i32 v2) := hp1.cell 2
  have f7 : (w3.alloc (.cells #[.int .i32 x0, .int .i32 x1, .int .i32 x2] 25)).cell? ⟨w3.heap.size, 0, none⟩ = some (.int .i32 x0) := hn3.cell 0
  have f8 : (w3.alloc (.cells #[.int .i32 x0, .int .i32 x1, .int .i32 x2] 25)).cell? ⟨w3.heap.size, 1, none⟩ = some (.int .i32 x1) := hn3.cell 1
  have f9 : (w3.alloc (.cells #[.int .i32 x0, .int .i32 x1, .int .i32 x2] 25)).cell? ⟨w3.heap.size, 2, none⟩ = some (.int .i32 x2) := hn3.cell 2
  go_upto_region 4 with fail
  clear f0 f1 f2 f3 f4 f5 f6 f7 f8 f9
  generalize w3.alloc (.cells #[.int .i32 x0, .int .i32 x1, .int .i32 x2] 25) = W3 at *
  refine wp_region_noPanic ?_
  refine wp_region_held_drew (S := (fun w' : World => w'.cell? ⟨w.heap.size, 0, none⟩ = some (.int .i32 q0) ∧ w'.cell? ⟨w.heap.size, 1, none⟩ = some (.int .i32 q1) ∧ w'.cell? ⟨w.heap.size, 2, none⟩ = some (.int .i32 q2) ∧ w'.cell? ⟨w.heap.size, 3, none⟩ = some (.int .i32 q3) ∧ w'.cell? ⟨w.heap.size + 1, 0, none⟩ = some (.int .i32 v0) ∧ w'.cell? ⟨w.heap.size + 1, 1, none⟩ = some (.int .i32 v1) ∧ w'.cell? ⟨w.heap.size + 1, 2, none⟩ = some (.int .i32 v2) ∧ w'.cell? ⟨w3.heap.size, 0, none⟩ = some (.int .i32 x0) ∧ w'.cell? ⟨w3.heap.size, 1, none⟩ = some (.int .i32 x1) ∧ w'.cell? ⟨w3.heap.size, 2, none⟩ = some (.int .i32 x2))) (by kernel_rfl) ⟨hp0.cell 0, hp0.cell 1, hp0.cell 2, hp0.cell 3, hp1.cell 0, hp1.cell 1, hp1.cell 2, hn3.cell 0, hn3.cell 1, hn3.cell 2⟩ (fun hHeld => ?_)
  refine (show wpAnyH _ _ _ _ _ 8 _ _ _ from ?_)
  try (simp only [Act.put, List.setIfInBounds_toArray, List.set_cons_zero, List.set_cons_succ])
  replace hp0 := hp0.drew
  replace hp1 := hp1.drew
  replace hn3 := hn3.drew
  replace hb := hb.drew
  generalize W3.drew = W1 at *
  refine tk 0 hHeld ?_
  refine tk 3 hHeld ?_
  refine rd1 1 (fun K hK => ?_)
  go_simp
  refine (HL1.out _).mono ?_
  rintro e w2x ⟨rfl, b2x⟩
  go_wp2_with fail
  refine hK.out _ _ ⟨(hp0.below b2x hp0.lt).cell 0, (hp0.below b2x hp0.lt).cell 1, (hp0.below b2x hp0.lt).cell 2, (hp0.below b2x hp0.lt).cell 3, (hp1.below b2x hp1.lt).cell 0, (hp1.below b2x hp1.lt).cell 1, (hp1.below b2x hp1.lt).cell 2, (hn3.below b2x hn3.lt).cell 0, (hn3.below b2x hn3.lt).cell 1, (hn3.below b2x hn3.lt).cell 2⟩ (fun hHeld => ?_)
  clear hK K
  try (simp only [Act.put, List.setIfInBounds_toArray, List.set_cons_zero, List.set_cons_succ])
  refine tk 2 hHeld ?_
  refine rd1 4 (fun K hK => ?_)
  go_simp
  refine (HL2.out _).mono ?_
  rintro e w3x ⟨rfl, b3x⟩
  go_wp2_with fail
  have B3x := (below_on b2x b3x)
  refine hK.out _ _ ⟨(hp0.below B3x hp0.lt).cell 0, (hp0.below B3x hp0.lt).cell 1, (hp0.below B3x hp0.lt).cell 2, (hp0.below B3x hp0.lt).cell 3, (hp1.below B3x hp1.lt).cell 0, (hp1.below B3x hp1.lt).cell 1, (hp1.below B3x hp1.lt).cell 2, (hn3.below B3x hn3.lt).cell 0, (hn3.below B3x hn3.lt).cell 1, (hn3.below B3x hn3.lt).cell 2⟩ (fun hHeld => ?_)
  clear hK K
  try (simp only [Act.put, List.setIfInBounds_toArray, List.set_cons_zero, List.set_cons_succ])
  refine tk 5 hHeld ?_
  refine tk 6 hHeld ?_
  refine tk 7 hHeld ?_
  refine wpAnyH_done ?hru4 ?hqu4 _
  case hru4 => kernel_rfl
  refine NoPanic.normal ?_
  go_wp2
  go_ret
  exact ⟨rfl, below_on hb B3x⟩
end Go.Proofs.Ytfogjfmpgfcolaa
