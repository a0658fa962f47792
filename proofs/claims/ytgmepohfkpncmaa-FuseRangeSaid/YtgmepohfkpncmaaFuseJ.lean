/- Chapter 42: may it be a state; the walk of FuseRange. -/
import Derived.Test.YtgmepohfkpncmaaFuseH
import Derived.Test.YtgmepohfkpncmaaUnitD
namespace Go.Proofs.Ytgmepohfkpncmaa
open Go.RowKit
set_option linter.unusedVariables false
set_option linter.unusedSimpArgs false

theorem f_mayY (q0 q1 q2 q3 b0 b1 b2 n c : Int) (w : World) (g0 : 0 ≤ n) (g1 : n ≤ 1099511627776) (g2 : 0 ≤ c) (g3 : c ≤ 1099511627776) :
    Calls Try.prog 5 #[.agg #[.int .i32 q0, .int .i32 q1, .int .i32 q2, .int .i32 q3, .int .i32 b0, .int .i32 b1, .int .i32 b2, .int .i64 n, .int .i64 c]] w fun e w' => e = .returned (.bool true) ∧ Below w.heap.size w w' := by
  have e0 : decide (0 ≤ n) = true := decide_eq_true g0
  have e1 : decide (n ≤ 1099511627776) = true := decide_eq_true g1
  have e2 : decide (0 ≤ c) = true := decide_eq_true g2
  have e3 : decide (c ≤ 1099511627776) = true := decide_eq_true g3
  have hp := Blk.new w 27 #[.int .i32 q0, .int .i32 q1, .int .i32 q2, .int .i32 q3, .int .i32 b0, .int .i32 b1, .int .i32 b2, .int .i64 n, .int .i64 c]
  have hb : Below w.heap.size w (w.alloc (.cells #[.int .i32 q0, .int .i32 q1, .int .i32 q2, .int .i32 q3, .int .i32 b0, .int .i32 b1, .int .i32 b2, .int .i64 n, .int .i64 c] 27)) := (Below.refl _ w).alloc (Nat.le_refl _) _
  have f7 : (w.alloc (.cells #[.int .i32 q0, .int .i32 q1, .int .i32 q2, .int .i32 q3, .int .i32 b0, .int .i32 b1, .int .i32 b2, .int .i64 n, .int .i64 c] 27)).cell? ⟨w.heap.size, 7, none⟩ = some (.int .i64 n) := hp.cell 7
  have f8 : (w.alloc (.cells #[.int .i32 q0, .int .i32 q1, .int .i32 q2, .int .i32 q3, .int .i32 b0, .int .i32 b1, .int .i32 b2, .int .i64 n, .int .i64 c] 27)).cell? ⟨w.heap.size, 8, none⟩ = some (.int .i64 c) := hp.cell 8
  go_enter Try.func5, Try.ntmps5
  go_wp2
  go_ret
  exact ⟨rfl, hb⟩
theorem f_mayN (q0 q1 q2 q3 b0 b1 b2 n c : Int) (w : World) (g : ¬ (0 ≤ n ∧ n ≤ 1099511627776 ∧ 0 ≤ c ∧ c ≤ 1099511627776)) :
    Calls Try.prog 5 #[.agg #[.int .i32 q0, .int .i32 q1, .int .i32 q2, .int .i32 q3, .int .i32 b0, .int .i32 b1, .int .i32 b2, .int .i64 n, .int .i64 c]] w fun e w' => e = .returned (.bool false) ∧ Below w.heap.size w w' := by
  by_cases g0 : 0 ≤ n
  · have e0 : decide (0 ≤ n) = true := decide_eq_true g0
    by_cases g1 : n ≤ 1099511627776
    · have e1 : decide (n ≤ 1099511627776) = true := decide_eq_true g1
      by_cases g2 : 0 ≤ c
      · have e2 : decide (0 ≤ c) = true := decide_eq_true g2
        by_cases g3 : c ≤ 1099511627776
        · have e3 : decide (c ≤ 1099511627776) = true := decide_eq_true g3
          exact absurd ⟨g0, g1, g2, g3⟩ g
        · have e3 : decide (c ≤ 1099511627776) = false := decide_eq_false g3
          clear g
          have hp := Blk.new w 27 #[.int .i32 q0, .int .i32 q1, .int .i32 q2, .int .i32 q3, .int .i32 b0, .int .i32 b1, .int .i32 b2, .int .i64 n, .int .i64 c]
          have hb : Below w.heap.size w (w.alloc (.cells #[.int .i32 q0, .int .i32 q1, .int .i32 q2, .int .i32 q3, .int .i32 b0, .int .i32 b1, .int .i32 b2, .int .i64 n, .int .i64 c] 27)) := (Below.refl _ w).alloc (Nat.le_refl _) _
          have f7 : (w.alloc (.cells #[.int .i32 q0, .int .i32 q1, .int .i32 q2, .int .i32 q3, .int .i32 b0, .int .i32 b1, .int .i32 b2, .int .i64 n, .int .i64 c] 27)).cell? ⟨w.heap.size, 7, none⟩ = some (.int .i64 n) := hp.cell 7
          have f8 : (w.alloc (.cells #[.int .i32 q0, .int .i32 q1, .int .i32 q2, .int .i32 q3, .int .i32 b0, .int .i32 b1, .int .i32 b2, .int .i64 n, .int .i64 c] 27)).cell? ⟨w.heap.size, 8, none⟩ = some (.int .i64 c) := hp.cell 8
          go_enter Try.func5, Try.ntmps5
          go_wp2
          go_ret
          exact ⟨rfl, hb⟩
      · have e2 : decide (0 ≤ c) = false := decide_eq_false g2
        clear g
        have hp := Blk.new w 27 #[.int .i32 q0, .int .i32 q1, .int .i32 q2, .int .i32 q3, .int .i32 b0, .int .i32 b1, .int .i32 b2, .int .i64 n, .int .i64 c]
        have hb : Below w.heap.size w (w.alloc (.cells #[.int .i32 q0, .int .i32 q1, .int .i32 q2, .int .i32 q3, .int .i32 b0, .int .i32 b1, .int .i32 b2, .int .i64 n, .int .i64 c] 27)) := (Below.refl _ w).alloc (Nat.le_refl _) _
        have f7 : (w.alloc (.cells #[.int .i32 q0, .int .i32 q1, .int .i32 q2, .int .i32 q3, .int .i32 b0, .int .i32 b1, .int .i32 b2, .int .i64 n, .int .i64 c] 27)).cell? ⟨w.heap.size, 7, none⟩ = some (.int .i64 n) := hp.cell 7
        have f8 : (w.alloc (.cells #[.int .i32 q0, .int .i32 q1, .int .i32 q2, .int .i32 q3, .int .i32 b0, .int .i32 b1, .int .i32 b2, .int .i64 n, .int .i64 c] 27)).cell? ⟨w.heap.size, 8, none⟩ = some (.int .i64 c) := hp.cell 8
        go_enter Try.func5, Try.ntmps5
        go_wp2
        go_ret
        exact ⟨rfl, hb⟩
    · have e1 : decide (n ≤ 1099511627776) = false := decide_eq_false g1
      clear g
      have hp := Blk.new w 27 #[.int .i32 q0, .int .i32 q1, .int .i32 q2, .int .i32 q3, .int .i32 b0, .int .i32 b1, .int .i32 b2, .int .i64 n, .int .i64 c]
      have hb : Below w.heap.size w (w.alloc (.cells #[.int .i32 q0, .int .i32 q1, .int .i32 q2, .int .i32 q3, .int .i32 b0, .int .i32 b1, .int .i32 b2, .int .i64 n, .int .i64 c] 27)) := (Below.refl _ w).alloc (Nat.le_refl _) _
      have f7 : (w.alloc (.cells #[.int .i32 q0, .int .i32 q1, .int .i32 q2, .int .i32 q3, .int .i32 b0, .int .i32 b1, .int .i32 b2, .int .i64 n, .int .i64 c] 27)).cell? ⟨w.heap.size, 7, none⟩ = some (.int .i64 n) := hp.cell 7
      have f8 : (w.alloc (.cells #[.int .i32 q0, .int .i32 q1, .int .i32 q2, .int .i32 q3, .int .i32 b0, .int .i32 b1, .int .i32 b2, .int .i64 n, .int .i64 c] 27)).cell? ⟨w.heap.size, 8, none⟩ = some (.int .i64 c) := hp.cell 8
      go_enter Try.func5, Try.ntmps5
      go_wp2
      go_ret
      exact ⟨rfl, hb⟩
  · have e0 : decide (0 ≤ n) = false := decide_eq_false g0
    clear g
    have hp := Blk.new w 27 #[.int .i32 q0, .int .i32 q1, .int .i32 q2, .int .i32 q3, .int .i32 b0, .int .i32 b1, .int .i32 b2, .int .i64 n, .int .i64 c]
    have hb : Below w.heap.size w (w.alloc (.cells #[.int .i32 q0, .int .i32 q1, .int .i32 q2, .int .i32 q3, .int .i32 b0, .int .i32 b1, .int .i32 b2, .int .i64 n, .int .i64 c] 27)) := (Below.refl _ w).alloc (Nat.le_refl _) _
    have f7 : (w.alloc (.cells #[.int .i32 q0, .int .i32 q1, .int .i32 q2, .int .i32 q3, .int .i32 b0, .int .i32 b1, .int .i32 b2, .int .i64 n, .int .i64 c] 27)).cell? ⟨w.heap.size, 7, none⟩ = some (.int .i64 n) := hp.cell 7
    have f8 : (w.alloc (.cells #[.int .i32 q0, .int .i32 q1, .int .i32 q2, .int .i32 q3, .int .i32 b0, .int .i32 b1, .int .i32 b2, .int .i64 n, .int .i64 c] 27)).cell? ⟨w.heap.size, 8, none⟩ = some (.int .i64 c) := hp.cell 8
    go_enter Try.func5, Try.ntmps5
    go_wp2
    go_ret
    exact ⟨rfl, hb⟩
set_option maxRecDepth 20000 in
set_option maxHeartbeats 16000000 in
theorem fuseRange_walk (q0 q1 q2 q3 b0 b1 b2 n c y0 y1 y2 x0 x1 x2 d : Int) (w : World) (vq0 : (Lit.int .i32 q0).wf = true) (vq1 : (Lit.int .i32 q1).wf = true) (vq2 : (Lit.int .i32 q2).wf = true) (vq3 : (Lit.int .i32 q3).wf = true) (vb0 : (Lit.int .i32 b0).wf = true) (vb1 : (Lit.int .i32 b1).wf = true) (vb2 : (Lit.int .i32 b2).wf = true) (vn : (Lit.int .i64 n).wf = true) (vc : (Lit.int .i64 c).wf = true) (vy0 : (Lit.int .i32 y0).wf = true) (vy1 : (Lit.int .i32 y1).wf = true) (vy2 : (Lit.int .i32 y2).wf = true) (vx0 : (Lit.int .i32 x0).wf = true) (vx1 : (Lit.int .i32 x1).wf = true) (vx2 : (Lit.int .i32 x2).wf = true) (vd : (Lit.int .i32 d).wf = true) :
    Calls Try.prog 3 #[.agg #[.int .i32 q0, .int .i32 q1, .int .i32 q2, .int .i32 q3, .int .i32 b0, .int .i32 b1, .int .i32 b2, .int .i64 n, .int .i64 c], .agg #[.int .i32 y0, .int .i32 y1, .int .i32 y2, .int .i32 x0, .int .i32 x1, .int .i32 x2, .int .i32 d]] w fun e w' => e = .returned (.bool true) ∧ Below w.heap.size w w' := by
  have iq0_ : I32 q0 := bounds_i32 vq0
  have iq1_ : I32 q1 := bounds_i32 vq1
  have iq2_ : I32 q2 := bounds_i32 vq2
  have iq3_ : I32 q3 := bounds_i32 vq3
  have ib0_ : I32 b0 := bounds_i32 vb0
  have ib1_ : I32 b1 := bounds_i32 vb1
  have ib2_ : I32 b2 := bounds_i32 vb2
  have iy0_ : I32 y0 := bounds_i32 vy0
  have iy1_ : I32 y1 := bounds_i32 vy1
  have iy2_ : I32 y2 := bounds_i32 vy2
  have ix0_ : I32 x0 := bounds_i32 vx0
  have ix1_ : I32 x1 := bounds_i32 vx1
  have ix2_ : I32 x2 := bounds_i32 vx2
  have id_ : I32 d := bounds_i32 vd
  clear vq0 vq1 vq2 vq3 vb0 vb1 vb2 vn vc vy0 vy1 vy2 vx0 vx1 vx2 vd
  have HK := hid law42_knows
  have hp0 : Blk ((w.alloc (.cells #[.int .i32 q0, .int .i32 q1, .int .i32 q2, .int .i32 q3, .int .i32 b0, .int .i32 b1, .int .i32 b2, .int .i64 n, .int .i64 c] 27)).alloc (.cells #[.int .i32 y0, .int .i32 y1, .int .i32 y2, .int .i32 x0, .int .i32 x1, .int .i32 x2, .int .i32 d] 29)) w.heap.size 27 #[.int .i32 q0, .int .i32 q1, .int .i32 q2, .int .i32 q3, .int .i32 b0, .int .i32 b1, .int .i32 b2, .int .i64 n, .int .i64 c] := (Blk.new w _ _).alloc _
  have hp1 : Blk ((w.alloc (.cells #[.int .i32 q0, .int .i32 q1, .int .i32 q2, .int .i32 q3, .int .i32 b0, .int .i32 b1, .int .i32 b2, .int .i64 n, .int .i64 c] 27)).alloc (.cells #[.int .i32 y0, .int .i32 y1, .int .i32 y2, .int .i32 x0, .int .i32 x1, .int .i32 x2, .int .i32 d] 29)) (w.heap.size + 1) 29 #[.int .i32 y0, .int .i32 y1, .int .i32 y2, .int .i32 x0, .int .i32 x1, .int .i32 x2, .int .i32 d] := by have := Blk.new (w.alloc (.cells #[.int .i32 q0, .int .i32 q1, .int .i32 q2, .int .i32 q3, .int .i32 b0, .int .i32 b1, .int .i32 b2, .int .i64 n, .int .i64 c] 27)) 29 #[.int .i32 y0, .int .i32 y1, .int .i32 y2, .int .i32 x0, .int .i32 x1, .int .i32 x2, .int .i32 d]; simpa using this
  have hb : Below w.heap.size w ((w.alloc (.cells #[.int .i32 q0, .int .i32 q1, .int .i32 q2, .int .i32 q3, .int .i32 b0, .int .i32 b1, .int .i32 b2, .int .i64 n, .int .i64 c] 27)).alloc (.cells #[.int .i32 y0, .int .i32 y1, .int .i32 y2, .int .i32 x0, .int .i32 x1, .int .i32 x2, .int .i32 d] 29)) := ((Below.refl _ w).alloc (Nat.le_refl _) _).alloc (by simp) _
  by_cases g : 0 ≤ n ∧ n ≤ 1099511627776 ∧ 0 ≤ c ∧ c ≤ 1099511627776
  · obtain ⟨g0, g1, g2, g3⟩ := g
    have HM := hid fun w => f_mayY q0 q1 q2 q3 b0 b1 b2 n c w g0 g1 g2 g3
    have hs := fun w => f_Step n c q0 q1 q2 q3 b0 b1 b2 y0 y1 y2 x0 x1 x2 d w iq0_ iq1_ iq2_ iq3_ ib0_ ib1_ ib2_ iy0_ iy1_ iy2_ ix0_ ix1_ ix2_ id_ ⟨g0, g1⟩ ⟨g2, by omega⟩
    unfold Fused at hs
    have hu := step_unit q0 q1 q2 q3 b0 b1 b2 y0 y1 y2 x0 x1 x2 d
    have j0 : I32 (stepQ 0 1073741824 q0 q1 q2 q3 b0 b1 b2 y0 y1 y2 x0 x1 x2 d) := step_32 0 _ q0 q1 q2 q3 b0 b1 b2 y0 y1 y2 x0 x1 x2 d (by unfold I32; omega)
    have j1 : I32 (stepQ 1 0 q0 q1 q2 q3 b0 b1 b2 y0 y1 y2 x0 x1 x2 d) := step_32 1 _ q0 q1 q2 q3 b0 b1 b2 y0 y1 y2 x0 x1 x2 d (by unfold I32; omega)
    have j2 : I32 (stepQ 2 0 q0 q1 q2 q3 b0 b1 b2 y0 y1 y2 x0 x1 x2 d) := step_32 2 _ q0 q1 q2 q3 b0 b1 b2 y0 y1 y2 x0 x1 x2 d (by unfold I32; omega)
    have j3 : I32 (stepQ 3 0 q0 q1 q2 q3 b0 b1 b2 y0 y1 y2 x0 x1 x2 d) := step_32 3 _ q0 q1 q2 q3 b0 b1 b2 y0 y1 y2 x0 x1 x2 d (by unfold I32; omega)
    have kb0 : -16384 ≤ stepB 0 q0 q1 q2 q3 b0 b1 b2 y0 y1 y2 x0 x1 x2 d ∧ stepB 0 q0 q1 q2 q3 b0 b1 b2 y0 y1 y2 x0 x1 x2 d ≤ 16384 := liP_bd _
    have kb1 : -16384 ≤ stepB 1 q0 q1 q2 q3 b0 b1 b2 y0 y1 y2 x0 x1 x2 d ∧ stepB 1 q0 q1 q2 q3 b0 b1 b2 y0 y1 y2 x0 x1 x2 d ≤ 16384 := liP_bd _
    have kb2 : -16384 ≤ stepB 2 q0 q1 q2 q3 b0 b1 b2 y0 y1 y2 x0 x1 x2 d ∧ stepB 2 q0 q1 q2 q3 b0 b1 b2 y0 y1 y2 x0 x1 x2 d ≤ 16384 := liP_bd _
    have nb := stepN_bd q0 q1 q2 q3 b0 b1 b2 y0 y1 y2 x0 x1 x2 d
    have hw := fun w => f_Word (n + 1) (c + stepN q0 q1 q2 q3 b0 b1 b2 y0 y1 y2 x0 x1 x2 d) (stepQ 0 1073741824 q0 q1 q2 q3 b0 b1 b2 y0 y1 y2 x0 x1 x2 d) (stepQ 1 0 q0 q1 q2 q3 b0 b1 b2 y0 y1 y2 x0 x1 x2 d) (stepQ 2 0 q0 q1 q2 q3 b0 b1 b2 y0 y1 y2 x0 x1 x2 d) (stepQ 3 0 q0 q1 q2 q3 b0 b1 b2 y0 y1 y2 x0 x1 x2 d) (stepB 0 q0 q1 q2 q3 b0 b1 b2 y0 y1 y2 x0 x1 x2 d) (stepB 1 q0 q1 q2 q3 b0 b1 b2 y0 y1 y2 x0 x1 x2 d) (stepB 2 q0 q1 q2 q3 b0 b1 b2 y0 y1 y2 x0 x1 x2 d) w j0 j1 j2 j3 (off_is _ hu)
    have ho := fun w => r11_Off (stepQ 0 1073741824 q0 q1 q2 q3 b0 b1 b2 y0 y1 y2 x0 x1 x2 d) (stepQ 1 0 q0 q1 q2 q3 b0 b1 b2 y0 y1 y2 x0 x1 x2 d) (stepQ 2 0 q0 q1 q2 q3 b0 b1 b2 y0 y1 y2 x0 x1 x2 d) (stepQ 3 0 q0 q1 q2 q3 b0 b1 b2 y0 y1 y2 x0 x1 x2 d) w j0 j1 j2 j3
    have hp := word_pos (stepQ 0 1073741824 q0 q1 q2 q3 b0 b1 b2 y0 y1 y2 x0 x1 x2 d) (stepQ 1 0 q0 q1 q2 q3 b0 b1 b2 y0 y1 y2 x0 x1 x2 d) (stepQ 2 0 q0 q1 q2 q3 b0 b1 b2 y0 y1 y2 x0 x1 x2 d) (stepQ 3 0 q0 q1 q2 q3 b0 b1 b2 y0 y1 y2 x0 x1 x2 d)
    generalize stepQ 0 1073741824 q0 q1 q2 q3 b0 b1 b2 y0 y1 y2 x0 x1 x2 d = t0 at *
    generalize stepQ 1 0 q0 q1 q2 q3 b0 b1 b2 y0 y1 y2 x0 x1 x2 d = t1 at *
    generalize stepQ 2 0 q0 q1 q2 q3 b0 b1 b2 y0 y1 y2 x0 x1 x2 d = t2 at *
    generalize stepQ 3 0 q0 q1 q2 q3 b0 b1 b2 y0 y1 y2 x0 x1 x2 d = t3 at *
    generalize stepB 0 q0 q1 q2 q3 b0 b1 b2 y0 y1 y2 x0 x1 x2 d = k0 at *
    generalize stepB 1 q0 q1 q2 q3 b0 b1 b2 y0 y1 y2 x0 x1 x2 d = k1 at *
    generalize stepB 2 q0 q1 q2 q3 b0 b1 b2 y0 y1 y2 x0 x1 x2 d = k2 at *
    generalize joinV widL (packL t0 t1 t2 t3 (farI t0 t1 t2 t3) (upK 3)) = P at *
    generalize offP (sqP [t0, t1, t2, t3]) = of at *
    obtain ⟨c2, hc2⟩ : ∃ z, c + stepN q0 q1 q2 q3 b0 b1 b2 y0 y1 y2 x0 x1 x2 d = z := ⟨_, rfl⟩
    rw [hc2] at hs hw
    have d1 : decide (c ≤ c2) = true := decide_eq_true (by omega)
    have d2 : decide (c2 ≤ c + 40) = true := decide_eq_true (by omega)
    have un : wrap64 (n + 1) = n + 1 := IntWalk.wrap64_in _ (by omega)
    have uc : wrap64 (c + 40) = c + 40 := IntWalk.wrap64_in _ (by omega)
    have d3 : decide (of ≤ 8589934592) = true := decide_eq_true hu
    have d4 : (P != 0) = true := by simpa using hp
    have da0 : decide (k0 ≤ 16384) = true := decide_eq_true kb0.2
    have da1 : decide (k1 ≤ 16384) = true := decide_eq_true kb1.2
    have da2 : decide (k2 ≤ 16384) = true := decide_eq_true kb2.2
    have db0 : decide (-16384 ≤ k0) = true := decide_eq_true kb0.1
    have db1 : decide (-16384 ≤ k1) = true := decide_eq_true kb1.1
    have db2 : decide (-16384 ≤ k2) = true := decide_eq_true kb2.1
    have HS := hid hs
    have HW := hid hw
    have HO := hid ho
    clear hs hw ho hu hp hc2 nb j0 j1 j2 j3 kb0 kb1 kb2 g0 g1 g2 g3 iq0_ iq1_ iq2_ iq3_ ib0_ ib1_ ib2_ iy0_ iy1_ iy2_ ix0_ ix1_ ix2_ id_
    have f0 : ((w.alloc (.cells #[.int .i32 q0, .int .i32 q1, .int .i32 q2, .int .i32 q3, .int .i32 b0, .int .i32 b1, .int .i32 b2, .int .i64 n, .int .i64 c] 27)).alloc (.cells #[.int .i32 y0, .int .i32 y1, .int .i32 y2, .int .i32 x0, .int .i32 x1, .int .i32 x2, .int .i32 d] 29)).cell? ⟨w.heap.size, 0, none⟩ = some (.int .i32 q0) := hp0.cell 0
    have f1 : ((w.alloc (.cells #[.int .i32 q0, .int .i32 q1, .int .i32 q2, .int .i32 q3, .int .i32 b0, .int .i32 b1, .int .i32 b2, .int .i64 n, .int .i64 c] 27)).alloc (.cells #[.int .i32 y0, .int .i32 y1, .int .i32 y2, .int .i32 x0, .int .i32 x1, .int .i32 x2, .int .i32 d] 29)).cell? ⟨w.heap.size, 1, none⟩ = some (.int .i32 q1) := hp0.cell 1
    have f2 : ((w.alloc (.cells #[.int .i32 q0, .int .i32 q1, .int .i32 q2, .int .i32 q3, .int .i32 b0, .int .i32 b1, .int .i32 b2, .int .i64 n, .int .i64 c] 27)).alloc (.cells #[.int .i32 y0, .int .i32 y1, .int .i32 y2, .int .i32 x0, .int .i32 x1, .int .i32 x2, .int .i32 d] 29)).cell? ⟨w.heap.size, 2, none⟩ = some (.int .i32 q2) := hp0.cell 2
    have f3 : ((w.alloc (.cells #[.int .i32 q0, .int .i32 q1, .int .i32 q2, .int .i32 q3, .int .i32 b0, .int .i32 b1, .int .i32 b2, .int .i64 n, .int .i64 c] 27)).alloc (.cells #[.int .i32 y0, .int .i32 y1, .int .i32 y2, .int .i32 x0, .int .i32 x1, .int .i32 x2, .int .i32 d] 29)).cell? ⟨w.heap.size, 3, none⟩ = some (.int .i32 q3) := hp0.cell 3
    have f4 : ((w.alloc (.cells #[.int .i32 q0, .int .i32 q1, .int .i32 q2, .int .i32 q3, .int .i32 b0, .int .i32 b1, .int .i32 b2, .int .i64 n, .int .i64 c] 27)).alloc (.cells #[.int .i32 y0, .int .i32 y1, .int .i32 y2, .int .i32 x0, .int .i32 x1, .int .i32 x2, .int .i32 d] 29)).cell? ⟨w.heap.size, 4, none⟩ = some (.int .i32 b0) := hp0.cell 4
    have f5 : ((w.alloc (.cells #[.int .i32 q0, .int .i32 q1, .int .i32 q2, .int .i32 q3, .int .i32 b0, .int .i32 b1, .int .i32 b2, .int .i64 n, .int .i64 c] 27)).alloc (.cells #[.int .i32 y0, .int .i32 y1, .int .i32 y2, .int .i32 x0, .int .i32 x1, .int .i32 x2, .int .i32 d] 29)).cell? ⟨w.heap.size, 5, none⟩ = some (.int .i32 b1) := hp0.cell 5
    have f6 : ((w.alloc (.cells #[.int .i32 q0, .int .i32 q1, .int .i32 q2, .int .i32 q3, .int .i32 b0, .int .i32 b1, .int .i32 b2, .int .i64 n, .int .i64 c] 27)).alloc (.cells #[.int .i32 y0, .int .i32 y1, .int .i32 y2, .int .i32 x0, .int .i32 x1, .int .i32 x2, .int .i32 d] 29)).cell? ⟨w.heap.size, 6, none⟩ = some (.int .i32 b2) := hp0.cell 6
    have f7 : ((w.alloc (.cells #[.int .i32 q0, .int .i32 q1, .int .i32 q2, .int .i32 q3, .int .i32 b0, .int .i32 b1, .int .i32 b2, .int .i64 n, .int .i64 c] 27)).alloc (.cells #[.int .i32 y0, .int .i32 y1, .int .i32 y2, .int .i32 x0, .int .i32 x1, .int .i32 x2, .int .i32 d] 29)).cell? ⟨w.heap.size, 7, none⟩ = some (.int .i64 n) := hp0.cell 7
    have f8 : ((w.alloc (.cells #[.int .i32 q0, .int .i32 q1, .int .i32 q2, .int .i32 q3, .int .i32 b0, .int .i32 b1, .int .i32 b2, .int .i64 n, .int .i64 c] 27)).alloc (.cells #[.int .i32 y0, .int .i32 y1, .int .i32 y2, .int .i32 x0, .int .i32 x1, .int .i32 x2, .int .i32 d] 29)).cell? ⟨w.heap.size, 8, none⟩ = some (.int .i64 c) := hp0.cell 8
    go_enter Try.func3, Try.ntmps3
    go_wp2_with fail
    clear f0 f1 f2 f3 f4 f5 f6 f7 f8
    generalize ((w.alloc (.cells #[.int .i32 q0, .int .i32 q1, .int .i32 q2, .int .i32 q3, .int .i32 b0, .int .i32 b1, .int .i32 b2, .int .i64 n, .int .i64 c] 27)).alloc (.cells #[.int .i32 y0, .int .i32 y1, .int .i32 y2, .int .i32 x0, .int .i32 x1, .int .i32 x2, .int .i32 d] 29)) = W0 at *
    refine (HM.out _).mono ?_
    rintro e w1 ⟨rfl, bb⟩
    replace hp0 := hp0.below bb hp0.lt
    replace hp1 := hp1.below bb hp1.lt
    replace hb := f_on hb bb
    clear bb HM
    go_wp2_with fail
    refine (HK.out _).mono ?_
    rintro e w2 ⟨rfl, bb⟩
    replace hp0 := hp0.below bb hp0.lt
    replace hp1 := hp1.below bb hp1.lt
    replace hb := f_on hb bb
    clear bb HK
    have f0 : w2.cell? ⟨w.heap.size, 0, none⟩ = some (.int .i32 q0) := hp0.cell 0
    have f1 : w2.cell? ⟨w.heap.size, 1, none⟩ = some (.int .i32 q1) := hp0.cell 1
    have f2 : w2.cell? ⟨w.heap.size, 2, none⟩ = some (.int .i32 q2) := hp0.cell 2
    have f3 : w2.cell? ⟨w.heap.size, 3, none⟩ = some (.int .i32 q3) := hp0.cell 3
    have f4 : w2.cell? ⟨w.heap.size, 4, none⟩ = some (.int .i32 b0) := hp0.cell 4
    have f5 : w2.cell? ⟨w.heap.size, 5, none⟩ = some (.int .i32 b1) := hp0.cell 5
    have f6 : w2.cell? ⟨w.heap.size, 6, none⟩ = some (.int .i32 b2) := hp0.cell 6
    have f7 : w2.cell? ⟨w.heap.size, 7, none⟩ = some (.int .i64 n) := hp0.cell 7
    have f8 : w2.cell? ⟨w.heap.size, 8, none⟩ = some (.int .i64 c) := hp0.cell 8
    have m0 : w2.cell? ⟨(w.heap.size + 1), 0, none⟩ = some (.int .i32 y0) := hp1.cell 0
    have m1 : w2.cell? ⟨(w.heap.size + 1), 1, none⟩ = some (.int .i32 y1) := hp1.cell 1
    have m2 : w2.cell? ⟨(w.heap.size + 1), 2, none⟩ = some (.int .i32 y2) := hp1.cell 2
    have m3 : w2.cell? ⟨(w.heap.size + 1), 3, none⟩ = some (.int .i32 x0) := hp1.cell 3
    have m4 : w2.cell? ⟨(w.heap.size + 1), 4, none⟩ = some (.int .i32 x1) := hp1.cell 4
    have m5 : w2.cell? ⟨(w.heap.size + 1), 5, none⟩ = some (.int .i32 x2) := hp1.cell 5
    have m6 : w2.cell? ⟨(w.heap.size + 1), 6, none⟩ = some (.int .i32 d) := hp1.cell 6
    go_wp2_with fail
    clear f0 f1 f2 f3 f4 f5 f6 f7 f8
    clear m0 m1 m2 m3 m4 m5 m6
    refine (HS.out _).mono ?_
    rintro e w3 ⟨rfl, bb⟩
    replace hp0 := hp0.below bb hp0.lt
    replace hp1 := hp1.below bb hp1.lt
    replace hb := f_on hb bb
    clear bb HS
    have l0 := hp0.lt
    have lb := hb.size
    replace hp0 := hp0.alloc (.cells #[.int .i32 t0, .int .i32 t1, .int .i32 t2, .int .i32 t3, .int .i32 k0, .int .i32 k1, .int .i32 k2, .int .i64 (n + 1), .int .i64 c2] 32)
    have hn := Blk.new w3 32 #[.int .i32 t0, .int .i32 t1, .int .i32 t2, .int .i32 t3, .int .i32 k0, .int .i32 k1, .int .i32 k2, .int .i64 (n + 1), .int .i64 c2]
    replace hb := hb.alloc hb.size (.cells #[.int .i32 t0, .int .i32 t1, .int .i32 t2, .int .i32 t3, .int .i32 k0, .int .i32 k1, .int .i32 k2, .int .i64 (n + 1), .int .i64 c2] 32)
    go_upto_region 4 with fail
    generalize w3.alloc (.cells #[.int .i32 t0, .int .i32 t1, .int .i32 t2, .int .i32 t3, .int .i32 k0, .int .i32 k1, .int .i32 k2, .int .i64 (n + 1), .int .i64 c2] 32) = W3 at *
    generalize w3.heap.size = gn at *
    clear hp1
    have f0 : W3.cell? ⟨gn, 0, none⟩ = some (.int .i32 t0) := hn.cell 0
    have f1 : W3.cell? ⟨gn, 1, none⟩ = some (.int .i32 t1) := hn.cell 1
    have f2 : W3.cell? ⟨gn, 2, none⟩ = some (.int .i32 t2) := hn.cell 2
    have f3 : W3.cell? ⟨gn, 3, none⟩ = some (.int .i32 t3) := hn.cell 3
    have f4 : W3.cell? ⟨gn, 4, none⟩ = some (.int .i32 k0) := hn.cell 4
    have f5 : W3.cell? ⟨gn, 5, none⟩ = some (.int .i32 k1) := hn.cell 5
    have f6 : W3.cell? ⟨gn, 6, none⟩ = some (.int .i32 k2) := hn.cell 6
    have f7 : W3.cell? ⟨gn, 7, none⟩ = some (.int .i64 (n + 1)) := hn.cell 7
    have f8 : W3.cell? ⟨gn, 8, none⟩ = some (.int .i64 c2) := hn.cell 8
    go_upto_region 5 with fail
    clear f0 f1 f2 f3 f4 f5 f6 f7 f8
    have ln := hn.lt
    have l02 := hp0.lt
    replace hp0 := hp0.alloc (.cells #[.int .i32 k0, .int .i32 k1, .int .i32 k2] 25)
    replace hn := hn.alloc (.cells #[.int .i32 k0, .int .i32 k1, .int .i32 k2] 25)
    have hk := Blk.new W3 25 #[.int .i32 k0, .int .i32 k1, .int .i32 k2]
    replace hb := hb.alloc hb.size (.cells #[.int .i32 k0, .int .i32 k1, .int .i32 k2] 25)
    generalize W3.alloc (.cells #[.int .i32 k0, .int .i32 k1, .int .i32 k2] 25) = W4 at *
    generalize W3.heap.size = gk at *
    have k_0 : W4.cell? ⟨gk, 0, none⟩ = some (.int .i32 k0) := hk.cell 0
    have k_1 : W4.cell? ⟨gk, 1, none⟩ = some (.int .i32 k1) := hk.cell 1
    have k_2 : W4.cell? ⟨gk, 2, none⟩ = some (.int .i32 k2) := hk.cell 2
    go_upto_region 6 with fail
    clear k_0 k_1 k_2
    have f0 : W4.cell? ⟨gn, 0, none⟩ = some (.int .i32 t0) := hn.cell 0
    have f1 : W4.cell? ⟨gn, 1, none⟩ = some (.int .i32 t1) := hn.cell 1
    have f2 : W4.cell? ⟨gn, 2, none⟩ = some (.int .i32 t2) := hn.cell 2
    have f3 : W4.cell? ⟨gn, 3, none⟩ = some (.int .i32 t3) := hn.cell 3
    have f4 : W4.cell? ⟨gn, 4, none⟩ = some (.int .i32 k0) := hn.cell 4
    have f5 : W4.cell? ⟨gn, 5, none⟩ = some (.int .i32 k1) := hn.cell 5
    have f6 : W4.cell? ⟨gn, 6, none⟩ = some (.int .i32 k2) := hn.cell 6
    have f7 : W4.cell? ⟨gn, 7, none⟩ = some (.int .i64 (n + 1)) := hn.cell 7
    have f8 : W4.cell? ⟨gn, 8, none⟩ = some (.int .i64 c2) := hn.cell 8
    go_wp2_with fail
    clear f0 f1 f2 f3 f4 f5 f6 f7 f8
    refine (HO.out _).mono ?_
    rintro e w5 ⟨rfl, bb⟩
    replace hp0 := hp0.below bb hp0.lt
    replace hn := hn.below bb hn.lt
    replace hb := f_on hb bb
    clear bb HO
    have f0 : w5.cell? ⟨gn, 0, none⟩ = some (.int .i32 t0) := hn.cell 0
    have f1 : w5.cell? ⟨gn, 1, none⟩ = some (.int .i32 t1) := hn.cell 1
    have f2 : w5.cell? ⟨gn, 2, none⟩ = some (.int .i32 t2) := hn.cell 2
    have f3 : w5.cell? ⟨gn, 3, none⟩ = some (.int .i32 t3) := hn.cell 3
    have f4 : w5.cell? ⟨gn, 4, none⟩ = some (.int .i32 k0) := hn.cell 4
    have f5 : w5.cell? ⟨gn, 5, none⟩ = some (.int .i32 k1) := hn.cell 5
    have f6 : w5.cell? ⟨gn, 6, none⟩ = some (.int .i32 k2) := hn.cell 6
    have f7 : w5.cell? ⟨gn, 7, none⟩ = some (.int .i64 (n + 1)) := hn.cell 7
    have f8 : w5.cell? ⟨gn, 8, none⟩ = some (.int .i64 c2) := hn.cell 8
    go_wp2_with fail
    clear f0 f1 f2 f3 f4 f5 f6 f7 f8
    refine (HW.out _).mono ?_
    rintro e w6 ⟨rfl, bb⟩
    replace hp0 := hp0.below bb hp0.lt
    replace hn := hn.below bb hn.lt
    replace hb := f_on hb bb
    clear bb HW
    have f0 : w6.cell? ⟨gn, 0, none⟩ = some (.int .i32 t0) := hn.cell 0
    have f1 : w6.cell? ⟨gn, 1, none⟩ = some (.int .i32 t1) := hn.cell 1
    have f2 : w6.cell? ⟨gn, 2, none⟩ = some (.int .i32 t2) := hn.cell 2
    have f3 : w6.cell? ⟨gn, 3, none⟩ = some (.int .i32 t3) := hn.cell 3
    have f4 : w6.cell? ⟨gn, 4, none⟩ = some (.int .i32 k0) := hn.cell 4
    have f5 : w6.cell? ⟨gn, 5, none⟩ = some (.int .i32 k1) := hn.cell 5
    have f6 : w6.cell? ⟨gn, 6, none⟩ = some (.int .i32 k2) := hn.cell 6
    have f7 : w6.cell? ⟨gn, 7, none⟩ = some (.int .i64 (n + 1)) := hn.cell 7
    have f8 : w6.cell? ⟨gn, 8, none⟩ = some (.int .i64 c2) := hn.cell 8
    have m0 : w6.cell? ⟨w.heap.size, 0, none⟩ = some (.int .i32 q0) := hp0.cell 0
    have m1 : w6.cell? ⟨w.heap.size, 1, none⟩ = some (.int .i32 q1) := hp0.cell 1
    have m2 : w6.cell? ⟨w.heap.size, 2, none⟩ = some (.int .i32 q2) := hp0.cell 2
    have m3 : w6.cell? ⟨w.heap.size, 3, none⟩ = some (.int .i32 q3) := hp0.cell 3
    have m4 : w6.cell? ⟨w.heap.size, 4, none⟩ = some (.int .i32 b0) := hp0.cell 4
    have m5 : w6.cell? ⟨w.heap.size, 5, none⟩ = some (.int .i32 b1) := hp0.cell 5
    have m6 : w6.cell? ⟨w.heap.size, 6, none⟩ = some (.int .i32 b2) := hp0.cell 6
    have m7 : w6.cell? ⟨w.heap.size, 7, none⟩ = some (.int .i64 n) := hp0.cell 7
    have m8 : w6.cell? ⟨w.heap.size, 8, none⟩ = some (.int .i64 c) := hp0.cell 8
    go_wp2
    go_ret
    exact ⟨rfl, hb⟩
  · have HM := hid fun w => f_mayN q0 q1 q2 q3 b0 b1 b2 n c w g
    clear g iq0_ iq1_ iq2_ iq3_ ib0_ ib1_ ib2_ iy0_ iy1_ iy2_ ix0_ ix1_ ix2_ id_
    have f0 : ((w.alloc (.cells #[.int .i32 q0, .int .i32 q1, .int .i32 q2, .int .i32 q3, .int .i32 b0, .int .i32 b1, .int .i32 b2, .int .i64 n, .int .i64 c] 27)).alloc (.cells #[.int .i32 y0, .int .i32 y1, .int .i32 y2, .int .i32 x0, .int .i32 x1, .int .i32 x2, .int .i32 d] 29)).cell? ⟨w.heap.size, 0, none⟩ = some (.int .i32 q0) := hp0.cell 0
    have f1 : ((w.alloc (.cells #[.int .i32 q0, .int .i32 q1, .int .i32 q2, .int .i32 q3, .int .i32 b0, .int .i32 b1, .int .i32 b2, .int .i64 n, .int .i64 c] 27)).alloc (.cells #[.int .i32 y0, .int .i32 y1, .int .i32 y2, .int .i32 x0, .int .i32 x1, .int .i32 x2, .int .i32 d] 29)).cell? ⟨w.heap.size, 1, none⟩ = some (.int .i32 q1) := hp0.cell 1
    have f2 : ((w.alloc (.cells #[.int .i32 q0, .int .i32 q1, .int .i32 q2, .int .i32 q3, .int .i32 b0, .int .i32 b1, .int .i32 b2, .int .i64 n, .int .i64 c] 27)).alloc (.cells #[.int .i32 y0, .int .i32 y1, .int .i32 y2, .int .i32 x0, .int .i32 x1, .int .i32 x2, .int .i32 d] 29)).cell? ⟨w.heap.size, 2, none⟩ = some (.int .i32 q2) := hp0.cell 2
    have f3 : ((w.alloc (.cells #[.int .i32 q0, .int .i32 q1, .int .i32 q2, .int .i32 q3, .int .i32 b0, .int .i32 b1, .int .i32 b2, .int .i64 n, .int .i64 c] 27)).alloc (.cells #[.int .i32 y0, .int .i32 y1, .int .i32 y2, .int .i32 x0, .int .i32 x1, .int .i32 x2, .int .i32 d] 29)).cell? ⟨w.heap.size, 3, none⟩ = some (.int .i32 q3) := hp0.cell 3
    have f4 : ((w.alloc (.cells #[.int .i32 q0, .int .i32 q1, .int .i32 q2, .int .i32 q3, .int .i32 b0, .int .i32 b1, .int .i32 b2, .int .i64 n, .int .i64 c] 27)).alloc (.cells #[.int .i32 y0, .int .i32 y1, .int .i32 y2, .int .i32 x0, .int .i32 x1, .int .i32 x2, .int .i32 d] 29)).cell? ⟨w.heap.size, 4, none⟩ = some (.int .i32 b0) := hp0.cell 4
    have f5 : ((w.alloc (.cells #[.int .i32 q0, .int .i32 q1, .int .i32 q2, .int .i32 q3, .int .i32 b0, .int .i32 b1, .int .i32 b2, .int .i64 n, .int .i64 c] 27)).alloc (.cells #[.int .i32 y0, .int .i32 y1, .int .i32 y2, .int .i32 x0, .int .i32 x1, .int .i32 x2, .int .i32 d] 29)).cell? ⟨w.heap.size, 5, none⟩ = some (.int .i32 b1) := hp0.cell 5
    have f6 : ((w.alloc (.cells #[.int .i32 q0, .int .i32 q1, .int .i32 q2, .int .i32 q3, .int .i32 b0, .int .i32 b1, .int .i32 b2, .int .i64 n, .int .i64 c] 27)).alloc (.cells #[.int .i32 y0, .int .i32 y1, .int .i32 y2, .int .i32 x0, .int .i32 x1, .int .i32 x2, .int .i32 d] 29)).cell? ⟨w.heap.size, 6, none⟩ = some (.int .i32 b2) := hp0.cell 6
    have f7 : ((w.alloc (.cells #[.int .i32 q0, .int .i32 q1, .int .i32 q2, .int .i32 q3, .int .i32 b0, .int .i32 b1, .int .i32 b2, .int .i64 n, .int .i64 c] 27)).alloc (.cells #[.int .i32 y0, .int .i32 y1, .int .i32 y2, .int .i32 x0, .int .i32 x1, .int .i32 x2, .int .i32 d] 29)).cell? ⟨w.heap.size, 7, none⟩ = some (.int .i64 n) := hp0.cell 7
    have f8 : ((w.alloc (.cells #[.int .i32 q0, .int .i32 q1, .int .i32 q2, .int .i32 q3, .int .i32 b0, .int .i32 b1, .int .i32 b2, .int .i64 n, .int .i64 c] 27)).alloc (.cells #[.int .i32 y0, .int .i32 y1, .int .i32 y2, .int .i32 x0, .int .i32 x1, .int .i32 x2, .int .i32 d] 29)).cell? ⟨w.heap.size, 8, none⟩ = some (.int .i64 c) := hp0.cell 8
    go_enter Try.func3, Try.ntmps3
    go_wp2_with fail
    clear f0 f1 f2 f3 f4 f5 f6 f7 f8
    generalize ((w.alloc (.cells #[.int .i32 q0, .int .i32 q1, .int .i32 q2, .int .i32 q3, .int .i32 b0, .int .i32 b1, .int .i32 b2, .int .i64 n, .int .i64 c] 27)).alloc (.cells #[.int .i32 y0, .int .i32 y1, .int .i32 y2, .int .i32 x0, .int .i32 x1, .int .i32 x2, .int .i32 d] 29)) = W0 at *
    refine (HM.out _).mono ?_
    rintro e w1 ⟨rfl, bb⟩
    replace hb := f_on hb bb
    clear bb HM hp0 hp1
    go_wp2_with fail
    refine (HK.out _).mono ?_
    rintro e w2 ⟨rfl, bb⟩
    go_wp2
    go_ret
    exact ⟨rfl, f_on hb bb⟩
end Go.Proofs.Ytgmepohfkpncmaa
