/- Chapter 42: the document's answer: a step, with an error. -/
import Derived.Test.YtgmepohfkpncmaaGreatFuseK
import Derived.Test.YtgmepohfkpncmaaGreatTurnS
namespace Go.Proofs.YtgmepohfkpncmaaGreat
open Go.RowKit
set_option linter.unusedVariables false
set_option linter.unusedSimpArgs false

set_option maxRecDepth 40000 in
set_option maxHeartbeats 16000000 in
theorem rf_StepY (n c q0 q1 q2 q3 b0 b1 b2 y0 y1 y2 x0 x1 x2 d : Int) (w : World) (iq0 : I32 q0) (iq1 : I32 q1) (iq2 : I32 q2) (iq3 : I32 q3) (ib0 : I32 b0) (ib1 : I32 b1) (ib2 : I32 b2) (iy0 : I32 y0) (iy1 : I32 y1) (iy2 : I32 y2) (ix0 : I32 x0) (ix1 : I32 x1) (ix2 : I32 x2) (id : I32 d) (hn : 0 ≤ n ∧ n ≤ 1099511627776) (hc : 0 ≤ c ∧ c ≤ 1099511628800) (h : erOk x0 x1 x2 = true) :
  Calls Tryz.prog 11 #[.agg #[.int .i32 q0, .int .i32 q1, .int .i32 q2, .int .i32 q3, .int .i32 b0, .int .i32 b1, .int .i32 b2, .int .i64 n, .int .i64 c], .agg #[.int .i32 y0, .int .i32 y1, .int .i32 y2], .agg #[.int .i32 x0, .int .i32 x1, .int .i32 x2], .int .i32 d] w (Fused n c q0 q1 q2 q3 b0 b1 b2 y0 y1 y2 x0 x1 x2 d w) := by
 have i65 : I32 65536 := by unfold I32; omega
 have i655 : I32 655 := by unfold I32; omega
 have HD := hid fun w => r9_Sub y0 y1 y2 b0 b1 b2 w iy0 iy1 iy2 ib0 ib1 ib2
 have HE := hid fun w => rf_ErrorY q0 q1 q2 q3 x0 x1 x2 w iq0 iq1 iq2 iq3 ix0 ix1 ix2 h
 have hR0 : fsR 0 q0 q1 q2 q3 b0 b1 b2 y0 y1 y2 x0 x1 x2 d = clampP (clampP (y0 - b0) + clampP (tvP (er0 q0 q1 q2 q3 x0 x1 x2) 65536)) := by unfold fsR; rw [if_pos h]; rfl
 have hR1 : fsR 1 q0 q1 q2 q3 b0 b1 b2 y0 y1 y2 x0 x1 x2 d = clampP (clampP (y1 - b1) + clampP (tvP (er1 q0 q1 q2 q3 x0 x1 x2) 65536)) := by unfold fsR; rw [if_pos h]; rfl
 have hR2 : fsR 2 q0 q1 q2 q3 b0 b1 b2 y0 y1 y2 x0 x1 x2 d = clampP (clampP (y2 - b2) + clampP (tvP (er2 q0 q1 q2 q3 x0 x1 x2) 65536)) := by unfold fsR; rw [if_pos h]; rfl
 have hB0 : fsB 0 q0 q1 q2 q3 b0 b1 b2 y0 y1 y2 x0 x1 x2 d = clampP (b0 - clampP (tvP (clampP (tvP (er0 q0 q1 q2 q3 x0 x1 x2) 655)) d)) := by unfold fsB; rw [if_pos h]; rfl
 have hB1 : fsB 1 q0 q1 q2 q3 b0 b1 b2 y0 y1 y2 x0 x1 x2 d = clampP (b1 - clampP (tvP (clampP (tvP (er1 q0 q1 q2 q3 x0 x1 x2) 655)) d)) := by unfold fsB; rw [if_pos h]; rfl
 have hB2 : fsB 2 q0 q1 q2 q3 b0 b1 b2 y0 y1 y2 x0 x1 x2 d = clampP (b2 - clampP (tvP (clampP (tvP (er2 q0 q1 q2 q3 x0 x1 x2) 655)) d)) := by unfold fsB; rw [if_pos h]; rfl
 have hN : fsN q0 q1 q2 q3 b0 b1 b2 y0 y1 y2 x0 x1 x2 d = (cutC (y0 - b0) + cutC (y1 - b1) + cutC (y2 - b2)) + ((cutC (tvP (er0 q0 q1 q2 q3 x0 x1 x2) 65536) + cutC (tvP (er1 q0 q1 q2 q3 x0 x1 x2) 65536) + cutC (tvP (er2 q0 q1 q2 q3 x0 x1 x2) 65536)) + (cutC (clampP (y0 - b0) + clampP (tvP (er0 q0 q1 q2 q3 x0 x1 x2) 65536)) + cutC (clampP (y1 - b1) + clampP (tvP (er1 q0 q1 q2 q3 x0 x1 x2) 65536)) + cutC (clampP (y2 - b2) + clampP (tvP (er2 q0 q1 q2 q3 x0 x1 x2) 65536))) + (cutC (tvP (er0 q0 q1 q2 q3 x0 x1 x2) 655) + cutC (tvP (er1 q0 q1 q2 q3 x0 x1 x2) 655) + cutC (tvP (er2 q0 q1 q2 q3 x0 x1 x2) 655)) + (cutC (tvP (clampP (tvP (er0 q0 q1 q2 q3 x0 x1 x2) 655)) d) + cutC (tvP (clampP (tvP (er1 q0 q1 q2 q3 x0 x1 x2) 655)) d) + cutC (tvP (clampP (tvP (er2 q0 q1 q2 q3 x0 x1 x2) 655)) d)) + (cutC (b0 - clampP (tvP (clampP (tvP (er0 q0 q1 q2 q3 x0 x1 x2) 655)) d)) + cutC (b1 - clampP (tvP (clampP (tvP (er1 q0 q1 q2 q3 x0 x1 x2) 655)) d)) + cutC (b2 - clampP (tvP (clampP (tvP (er2 q0 q1 q2 q3 x0 x1 x2) 655)) d)))) := by unfold fsN; rw [if_pos h]; rfl
 have HP : Hid (∀ e w', e = .returned (.agg #[.int .i32 (tuQ 0 1073741824 q0 q1 q2 q3 (clampP (clampP (y0 - b0) + clampP (tvP (er0 q0 q1 q2 q3 x0 x1 x2) 65536))) (clampP (clampP (y1 - b1) + clampP (tvP (er1 q0 q1 q2 q3 x0 x1 x2) 65536))) (clampP (clampP (y2 - b2) + clampP (tvP (er2 q0 q1 q2 q3 x0 x1 x2) 65536))) d), .int .i32 (tuQ 1 0 q0 q1 q2 q3 (clampP (clampP (y0 - b0) + clampP (tvP (er0 q0 q1 q2 q3 x0 x1 x2) 65536))) (clampP (clampP (y1 - b1) + clampP (tvP (er1 q0 q1 q2 q3 x0 x1 x2) 65536))) (clampP (clampP (y2 - b2) + clampP (tvP (er2 q0 q1 q2 q3 x0 x1 x2) 65536))) d), .int .i32 (tuQ 2 0 q0 q1 q2 q3 (clampP (clampP (y0 - b0) + clampP (tvP (er0 q0 q1 q2 q3 x0 x1 x2) 65536))) (clampP (clampP (y1 - b1) + clampP (tvP (er1 q0 q1 q2 q3 x0 x1 x2) 65536))) (clampP (clampP (y2 - b2) + clampP (tvP (er2 q0 q1 q2 q3 x0 x1 x2) 65536))) d), .int .i32 (tuQ 3 0 q0 q1 q2 q3 (clampP (clampP (y0 - b0) + clampP (tvP (er0 q0 q1 q2 q3 x0 x1 x2) 65536))) (clampP (clampP (y1 - b1) + clampP (tvP (er1 q0 q1 q2 q3 x0 x1 x2) 65536))) (clampP (clampP (y2 - b2) + clampP (tvP (er2 q0 q1 q2 q3 x0 x1 x2) 65536))) d), .int .i32 (liP (clampP (b0 - clampP (tvP (clampP (tvP (er0 q0 q1 q2 q3 x0 x1 x2) 655)) d)))), .int .i32 (liP (clampP (b1 - clampP (tvP (clampP (tvP (er1 q0 q1 q2 q3 x0 x1 x2) 655)) d)))), .int .i32 (liP (clampP (b2 - clampP (tvP (clampP (tvP (er2 q0 q1 q2 q3 x0 x1 x2) 655)) d)))), .int .i64 (n + 1), .int .i64 (c + ((cutC (y0 - b0) + cutC (y1 - b1) + cutC (y2 - b2)) + (cutC (tvP (er0 q0 q1 q2 q3 x0 x1 x2) 65536) + cutC (tvP (er1 q0 q1 q2 q3 x0 x1 x2) 65536) + cutC (tvP (er2 q0 q1 q2 q3 x0 x1 x2) 65536)) + (cutC (clampP (y0 - b0) + clampP (tvP (er0 q0 q1 q2 q3 x0 x1 x2) 65536)) + cutC (clampP (y1 - b1) + clampP (tvP (er1 q0 q1 q2 q3 x0 x1 x2) 65536)) + cutC (clampP (y2 - b2) + clampP (tvP (er2 q0 q1 q2 q3 x0 x1 x2) 65536))) + (cutC (tvP (er0 q0 q1 q2 q3 x0 x1 x2) 655) + cutC (tvP (er1 q0 q1 q2 q3 x0 x1 x2) 655) + cutC (tvP (er2 q0 q1 q2 q3 x0 x1 x2) 655)) + (cutC (tvP (clampP (tvP (er0 q0 q1 q2 q3 x0 x1 x2) 655)) d) + cutC (tvP (clampP (tvP (er1 q0 q1 q2 q3 x0 x1 x2) 655)) d) + cutC (tvP (clampP (tvP (er2 q0 q1 q2 q3 x0 x1 x2) 655)) d)) + (cutC (b0 - clampP (tvP (clampP (tvP (er0 q0 q1 q2 q3 x0 x1 x2) 655)) d)) + cutC (b1 - clampP (tvP (clampP (tvP (er1 q0 q1 q2 q3 x0 x1 x2) 655)) d)) + cutC (b2 - clampP (tvP (clampP (tvP (er2 q0 q1 q2 q3 x0 x1 x2) 655)) d)))) + liN (clampP (b0 - clampP (tvP (clampP (tvP (er0 q0 q1 q2 q3 x0 x1 x2) 655)) d))) + liN (clampP (b1 - clampP (tvP (clampP (tvP (er1 q0 q1 q2 q3 x0 x1 x2) 655)) d))) + liN (clampP (b2 - clampP (tvP (clampP (tvP (er2 q0 q1 q2 q3 x0 x1 x2) 655)) d))) + tuN q0 q1 q2 q3 (clampP (clampP (y0 - b0) + clampP (tvP (er0 q0 q1 q2 q3 x0 x1 x2) 65536))) (clampP (clampP (y1 - b1) + clampP (tvP (er1 q0 q1 q2 q3 x0 x1 x2) 65536))) (clampP (clampP (y2 - b2) + clampP (tvP (er2 q0 q1 q2 q3 x0 x1 x2) 65536))) d)]) ∧ Below w.heap.size w w' → Fused n c q0 q1 q2 q3 b0 b1 b2 y0 y1 y2 x0 x1 x2 d w e w') := hid (by
  intro e w' h
  refine ⟨?_, h.2⟩
  rw [h.1]
  unfold stepQ stepB stepN
  rw [hR0, hR1, hR2, hB0, hB1, hB2, hN]
  rw [show c + ((cutC (y0 - b0) + cutC (y1 - b1) + cutC (y2 - b2)) + ((cutC (tvP (er0 q0 q1 q2 q3 x0 x1 x2) 65536) + cutC (tvP (er1 q0 q1 q2 q3 x0 x1 x2) 65536) + cutC (tvP (er2 q0 q1 q2 q3 x0 x1 x2) 65536)) + (cutC (clampP (y0 - b0) + clampP (tvP (er0 q0 q1 q2 q3 x0 x1 x2) 65536)) + cutC (clampP (y1 - b1) + clampP (tvP (er1 q0 q1 q2 q3 x0 x1 x2) 65536)) + cutC (clampP (y2 - b2) + clampP (tvP (er2 q0 q1 q2 q3 x0 x1 x2) 65536))) + (cutC (tvP (er0 q0 q1 q2 q3 x0 x1 x2) 655) + cutC (tvP (er1 q0 q1 q2 q3 x0 x1 x2) 655) + cutC (tvP (er2 q0 q1 q2 q3 x0 x1 x2) 655)) + (cutC (tvP (clampP (tvP (er0 q0 q1 q2 q3 x0 x1 x2) 655)) d) + cutC (tvP (clampP (tvP (er1 q0 q1 q2 q3 x0 x1 x2) 655)) d) + cutC (tvP (clampP (tvP (er2 q0 q1 q2 q3 x0 x1 x2) 655)) d)) + (cutC (b0 - clampP (tvP (clampP (tvP (er0 q0 q1 q2 q3 x0 x1 x2) 655)) d)) + cutC (b1 - clampP (tvP (clampP (tvP (er1 q0 q1 q2 q3 x0 x1 x2) 655)) d)) + cutC (b2 - clampP (tvP (clampP (tvP (er2 q0 q1 q2 q3 x0 x1 x2) 655)) d)))) + (liN (clampP (b0 - clampP (tvP (clampP (tvP (er0 q0 q1 q2 q3 x0 x1 x2) 655)) d))) + liN (clampP (b1 - clampP (tvP (clampP (tvP (er1 q0 q1 q2 q3 x0 x1 x2) 655)) d))) + liN (clampP (b2 - clampP (tvP (clampP (tvP (er2 q0 q1 q2 q3 x0 x1 x2) 655)) d)))) + tuN q0 q1 q2 q3 (clampP (clampP (y0 - b0) + clampP (tvP (er0 q0 q1 q2 q3 x0 x1 x2) 65536))) (clampP (clampP (y1 - b1) + clampP (tvP (er1 q0 q1 q2 q3 x0 x1 x2) 65536))) (clampP (clampP (y2 - b2) + clampP (tvP (er2 q0 q1 q2 q3 x0 x1 x2) 65536))) d) = c + ((cutC (y0 - b0) + cutC (y1 - b1) + cutC (y2 - b2)) + (cutC (tvP (er0 q0 q1 q2 q3 x0 x1 x2) 65536) + cutC (tvP (er1 q0 q1 q2 q3 x0 x1 x2) 65536) + cutC (tvP (er2 q0 q1 q2 q3 x0 x1 x2) 65536)) + (cutC (clampP (y0 - b0) + clampP (tvP (er0 q0 q1 q2 q3 x0 x1 x2) 65536)) + cutC (clampP (y1 - b1) + clampP (tvP (er1 q0 q1 q2 q3 x0 x1 x2) 65536)) + cutC (clampP (y2 - b2) + clampP (tvP (er2 q0 q1 q2 q3 x0 x1 x2) 65536))) + (cutC (tvP (er0 q0 q1 q2 q3 x0 x1 x2) 655) + cutC (tvP (er1 q0 q1 q2 q3 x0 x1 x2) 655) + cutC (tvP (er2 q0 q1 q2 q3 x0 x1 x2) 655)) + (cutC (tvP (clampP (tvP (er0 q0 q1 q2 q3 x0 x1 x2) 655)) d) + cutC (tvP (clampP (tvP (er1 q0 q1 q2 q3 x0 x1 x2) 655)) d) + cutC (tvP (clampP (tvP (er2 q0 q1 q2 q3 x0 x1 x2) 655)) d)) + (cutC (b0 - clampP (tvP (clampP (tvP (er0 q0 q1 q2 q3 x0 x1 x2) 655)) d)) + cutC (b1 - clampP (tvP (clampP (tvP (er1 q0 q1 q2 q3 x0 x1 x2) 655)) d)) + cutC (b2 - clampP (tvP (clampP (tvP (er2 q0 q1 q2 q3 x0 x1 x2) 655)) d)))) + liN (clampP (b0 - clampP (tvP (clampP (tvP (er0 q0 q1 q2 q3 x0 x1 x2) 655)) d))) + liN (clampP (b1 - clampP (tvP (clampP (tvP (er1 q0 q1 q2 q3 x0 x1 x2) 655)) d))) + liN (clampP (b2 - clampP (tvP (clampP (tvP (er2 q0 q1 q2 q3 x0 x1 x2) 655)) d))) + tuN q0 q1 q2 q3 (clampP (clampP (y0 - b0) + clampP (tvP (er0 q0 q1 q2 q3 x0 x1 x2) 65536))) (clampP (clampP (y1 - b1) + clampP (tvP (er1 q0 q1 q2 q3 x0 x1 x2) 65536))) (clampP (clampP (y2 - b2) + clampP (tvP (er2 q0 q1 q2 q3 x0 x1 x2) 65536))) d by omega])
 clear hR0 hR1 hR2 hB0 hB1 hB2 hN
 generalize Fused n c q0 q1 q2 q3 b0 b1 b2 y0 y1 y2 x0 x1 x2 d w = POST at *
 have ir0 : I32 (clampP (y0 - b0)) := clampP_bd _
 have ir1 : I32 (clampP (y1 - b1)) := clampP_bd _
 have ir2 : I32 (clampP (y2 - b2)) := clampP_bd _
 have nb0 := s3_bd (y0 - b0) (y1 - b1) (y2 - b2)
 have ie0 : I32 (er0 q0 q1 q2 q3 x0 x1 x2) := paP_32 _ _ _ _
 have ie1 : I32 (er1 q0 q1 q2 q3 x0 x1 x2) := paP_32 _ _ _ _
 have ie2 : I32 (er2 q0 q1 q2 q3 x0 x1 x2) := paP_32 _ _ _ _
 generalize er0 q0 q1 q2 q3 x0 x1 x2 = e0 at *
 generalize er1 q0 q1 q2 q3 x0 x1 x2 = e1 at *
 generalize er2 q0 q1 q2 q3 x0 x1 x2 = e2 at *
 have ip0 : I32 (clampP (tvP e0 65536)) := clampP_bd _
 have ip1 : I32 (clampP (tvP e1 65536)) := clampP_bd _
 have ip2 : I32 (clampP (tvP e2 65536)) := clampP_bd _
 have is0 : I32 (clampP (tvP e0 655)) := clampP_bd _
 have is1 : I32 (clampP (tvP e1 655)) := clampP_bd _
 have is2 : I32 (clampP (tvP e2 655)) := clampP_bd _
 have iyy0 : I32 (clampP (tvP (clampP (tvP e0 655)) d)) := clampP_bd _
 have iyy1 : I32 (clampP (tvP (clampP (tvP e1 655)) d)) := clampP_bd _
 have iyy2 : I32 (clampP (tvP (clampP (tvP e2 655)) d)) := clampP_bd _
 have H5 := hid fun w => r9_Scale e0 e1 e2 65536 w ie0 ie1 ie2 i65
 have H6 := hid fun w => r9_Add (clampP (y0 - b0)) (clampP (y1 - b1)) (clampP (y2 - b2)) (clampP (tvP e0 65536)) (clampP (tvP e1 65536)) (clampP (tvP e2 65536)) w ir0 ir1 ir2 ip0 ip1 ip2
 have H7 := hid fun w => r9_Scale e0 e1 e2 655 w ie0 ie1 ie2 i655
 have H8 := hid fun w => r9_Scale (clampP (tvP e0 655)) (clampP (tvP e1 655)) (clampP (tvP e2 655)) d w is0 is1 is2 id
 have H9 := hid fun w => r9_Sub b0 b1 b2 (clampP (tvP (clampP (tvP e0 655)) d)) (clampP (tvP (clampP (tvP e1 655)) d)) (clampP (tvP (clampP (tvP e2 655)) d)) w ib0 ib1 ib2 iyy0 iyy1 iyy2
 have nb1 := s3_bd (tvP e0 65536) (tvP e1 65536) (tvP e2 65536)
 have nb2 := s3_bd (clampP (y0 - b0) + clampP (tvP e0 65536)) (clampP (y1 - b1) + clampP (tvP e1 65536)) (clampP (y2 - b2) + clampP (tvP e2 65536))
 have nb3 := s3_bd (tvP e0 655) (tvP e1 655) (tvP e2 655)
 have nb4 := s3_bd (tvP (clampP (tvP e0 655)) d) (tvP (clampP (tvP e1 655)) d) (tvP (clampP (tvP e2 655)) d)
 have nb5 := s3_bd (b0 - clampP (tvP (clampP (tvP e0 655)) d)) (b1 - clampP (tvP (clampP (tvP e1 655)) d)) (b2 - clampP (tvP (clampP (tvP e2 655)) d))
 have jr0 : I32 (clampP (clampP (y0 - b0) + clampP (tvP e0 65536))) := clampP_bd _
 have jr1 : I32 (clampP (clampP (y1 - b1) + clampP (tvP e1 65536))) := clampP_bd _
 have jr2 : I32 (clampP (clampP (y2 - b2) + clampP (tvP e2 65536))) := clampP_bd _
 have jb0 : I32 (clampP (b0 - clampP (tvP (clampP (tvP e0 655)) d))) := clampP_bd _
 have jb1 : I32 (clampP (b1 - clampP (tvP (clampP (tvP e1 655)) d))) := clampP_bd _
 have jb2 : I32 (clampP (b2 - clampP (tvP (clampP (tvP e2 655)) d))) := clampP_bd _
 have HL0 := hid fun w => rf_limited (clampP (b0 - clampP (tvP (clampP (tvP e0 655)) d))) w jb0
 have HL1 := hid fun w => rf_limited (clampP (b1 - clampP (tvP (clampP (tvP e1 655)) d))) w jb1
 have HL2 := hid fun w => rf_limited (clampP (b2 - clampP (tvP (clampP (tvP e2 655)) d))) w jb2
 have nl0 := liN_bd (clampP (b0 - clampP (tvP (clampP (tvP e0 655)) d)))
 have nl1 := liN_bd (clampP (b1 - clampP (tvP (clampP (tvP e1 655)) d)))
 have nl2 := liN_bd (clampP (b2 - clampP (tvP (clampP (tvP e2 655)) d)))
 have nt := tuN_bd q0 q1 q2 q3 (clampP (clampP (y0 - b0) + clampP (tvP e0 65536))) (clampP (clampP (y1 - b1) + clampP (tvP e1 65536))) (clampP (clampP (y2 - b2) + clampP (tvP e2 65536))) d
 have h16 := fun w => r13_Step q0 q1 q2 q3 (clampP (clampP (y0 - b0) + clampP (tvP e0 65536))) (clampP (clampP (y1 - b1) + clampP (tvP e1 65536))) (clampP (clampP (y2 - b2) + clampP (tvP e2 65536))) d w iq0 iq1 iq2 iq3 jr0 jr1 jr2 id
 unfold Steps at h16
 have HT : Hid (tuN q0 q1 q2 q3 (clampP (clampP (y0 - b0) + clampP (tvP e0 65536))) (clampP (clampP (y1 - b1) + clampP (tvP e1 65536))) (clampP (clampP (y2 - b2) + clampP (tvP e2 65536))) d = stN q0 q1 q2 q3 (clampP (clampP (y0 - b0) + clampP (tvP e0 65536))) (clampP (clampP (y1 - b1) + clampP (tvP e1 65536))) (clampP (clampP (y2 - b2) + clampP (tvP e2 65536))) d + (if 0 < farP (stL q0 q1 q2 q3 (clampP (clampP (y0 - b0) + clampP (tvP e0 65536))) (clampP (clampP (y1 - b1) + clampP (tvP e1 65536))) (clampP (clampP (y2 - b2) + clampP (tvP e2 65536))) d) then 0 else 1)) := rfl
 rw [← HT.out] at h16
 clear HT
 have HQ0 : Hid (stO (stL q0 q1 q2 q3 (clampP (clampP (y0 - b0) + clampP (tvP e0 65536))) (clampP (clampP (y1 - b1) + clampP (tvP e1 65536))) (clampP (clampP (y2 - b2) + clampP (tvP e2 65536))) d) (stP 0 q0 q1 q2 q3 (clampP (clampP (y0 - b0) + clampP (tvP e0 65536))) (clampP (clampP (y1 - b1) + clampP (tvP e1 65536))) (clampP (clampP (y2 - b2) + clampP (tvP e2 65536))) d) 1073741824 = tuQ 0 1073741824 q0 q1 q2 q3 (clampP (clampP (y0 - b0) + clampP (tvP e0 65536))) (clampP (clampP (y1 - b1) + clampP (tvP e1 65536))) (clampP (clampP (y2 - b2) + clampP (tvP e2 65536))) d) := rfl
 rw [HQ0.out] at h16
 clear HQ0
 have HQ1 : Hid (stO (stL q0 q1 q2 q3 (clampP (clampP (y0 - b0) + clampP (tvP e0 65536))) (clampP (clampP (y1 - b1) + clampP (tvP e1 65536))) (clampP (clampP (y2 - b2) + clampP (tvP e2 65536))) d) (stP 1 q0 q1 q2 q3 (clampP (clampP (y0 - b0) + clampP (tvP e0 65536))) (clampP (clampP (y1 - b1) + clampP (tvP e1 65536))) (clampP (clampP (y2 - b2) + clampP (tvP e2 65536))) d) 0 = tuQ 1 0 q0 q1 q2 q3 (clampP (clampP (y0 - b0) + clampP (tvP e0 65536))) (clampP (clampP (y1 - b1) + clampP (tvP e1 65536))) (clampP (clampP (y2 - b2) + clampP (tvP e2 65536))) d) := rfl
 rw [HQ1.out] at h16
 clear HQ1
 have HQ2 : Hid (stO (stL q0 q1 q2 q3 (clampP (clampP (y0 - b0) + clampP (tvP e0 65536))) (clampP (clampP (y1 - b1) + clampP (tvP e1 65536))) (clampP (clampP (y2 - b2) + clampP (tvP e2 65536))) d) (stP 2 q0 q1 q2 q3 (clampP (clampP (y0 - b0) + clampP (tvP e0 65536))) (clampP (clampP (y1 - b1) + clampP (tvP e1 65536))) (clampP (clampP (y2 - b2) + clampP (tvP e2 65536))) d) 0 = tuQ 2 0 q0 q1 q2 q3 (clampP (clampP (y0 - b0) + clampP (tvP e0 65536))) (clampP (clampP (y1 - b1) + clampP (tvP e1 65536))) (clampP (clampP (y2 - b2) + clampP (tvP e2 65536))) d) := rfl
 rw [HQ2.out] at h16
 clear HQ2
 have HQ3 : Hid (stO (stL q0 q1 q2 q3 (clampP (clampP (y0 - b0) + clampP (tvP e0 65536))) (clampP (clampP (y1 - b1) + clampP (tvP e1 65536))) (clampP (clampP (y2 - b2) + clampP (tvP e2 65536))) d) (stP 3 q0 q1 q2 q3 (clampP (clampP (y0 - b0) + clampP (tvP e0 65536))) (clampP (clampP (y1 - b1) + clampP (tvP e1 65536))) (clampP (clampP (y2 - b2) + clampP (tvP e2 65536))) d) 0 = tuQ 3 0 q0 q1 q2 q3 (clampP (clampP (y0 - b0) + clampP (tvP e0 65536))) (clampP (clampP (y1 - b1) + clampP (tvP e1 65536))) (clampP (clampP (y2 - b2) + clampP (tvP e2 65536))) d) := rfl
 rw [HQ3.out] at h16
 clear HQ3
 generalize tuQ 0 1073741824 q0 q1 q2 q3 (clampP (clampP (y0 - b0) + clampP (tvP e0 65536))) (clampP (clampP (y1 - b1) + clampP (tvP e1 65536))) (clampP (clampP (y2 - b2) + clampP (tvP e2 65536))) d = t0 at *
 generalize tuQ 1 0 q0 q1 q2 q3 (clampP (clampP (y0 - b0) + clampP (tvP e0 65536))) (clampP (clampP (y1 - b1) + clampP (tvP e1 65536))) (clampP (clampP (y2 - b2) + clampP (tvP e2 65536))) d = t1 at *
 generalize tuQ 2 0 q0 q1 q2 q3 (clampP (clampP (y0 - b0) + clampP (tvP e0 65536))) (clampP (clampP (y1 - b1) + clampP (tvP e1 65536))) (clampP (clampP (y2 - b2) + clampP (tvP e2 65536))) d = t2 at *
 generalize tuQ 3 0 q0 q1 q2 q3 (clampP (clampP (y0 - b0) + clampP (tvP e0 65536))) (clampP (clampP (y1 - b1) + clampP (tvP e1 65536))) (clampP (clampP (y2 - b2) + clampP (tvP e2 65536))) d = t3 at *
 generalize tuN q0 q1 q2 q3 (clampP (clampP (y0 - b0) + clampP (tvP e0 65536))) (clampP (clampP (y1 - b1) + clampP (tvP e1 65536))) (clampP (clampP (y2 - b2) + clampP (tvP e2 65536))) d = tN at *
 generalize liN (clampP (b0 - clampP (tvP (clampP (tvP e0 655)) d))) = m0 at *
 generalize liN (clampP (b1 - clampP (tvP (clampP (tvP e1 655)) d))) = m1 at *
 generalize liN (clampP (b2 - clampP (tvP (clampP (tvP e2 655)) d))) = m2 at *
 generalize liP (clampP (b0 - clampP (tvP (clampP (tvP e0 655)) d))) = k0 at *
 generalize liP (clampP (b1 - clampP (tvP (clampP (tvP e1 655)) d))) = k1 at *
 generalize liP (clampP (b2 - clampP (tvP (clampP (tvP e2 655)) d))) = k2 at *
 generalize cutC (y0 - b0) + cutC (y1 - b1) + cutC (y2 - b2) = n0 at *
 generalize cutC (tvP e0 65536) + cutC (tvP e1 65536) + cutC (tvP e2 65536) = n1 at *
 generalize cutC (clampP (y0 - b0) + clampP (tvP e0 65536)) + cutC (clampP (y1 - b1) + clampP (tvP e1 65536)) + cutC (clampP (y2 - b2) + clampP (tvP e2 65536)) = n2 at *
 generalize cutC (tvP e0 655) + cutC (tvP e1 655) + cutC (tvP e2 655) = n3 at *
 generalize cutC (tvP (clampP (tvP e0 655)) d) + cutC (tvP (clampP (tvP e1 655)) d) + cutC (tvP (clampP (tvP e2 655)) d) = n4 at *
 generalize cutC (b0 - clampP (tvP (clampP (tvP e0 655)) d)) + cutC (b1 - clampP (tvP (clampP (tvP e1 655)) d)) + cutC (b2 - clampP (tvP (clampP (tvP e2 655)) d)) = n5 at *
 generalize clampP (b0 - clampP (tvP (clampP (tvP e0 655)) d)) = bn0 at *
 generalize clampP (b1 - clampP (tvP (clampP (tvP e1 655)) d)) = bn1 at *
 generalize clampP (b2 - clampP (tvP (clampP (tvP e2 655)) d)) = bn2 at *
 generalize clampP (tvP (clampP (tvP e0 655)) d) = yy0 at *
 generalize clampP (tvP (clampP (tvP e1 655)) d) = yy1 at *
 generalize clampP (tvP (clampP (tvP e2 655)) d) = yy2 at *
 generalize clampP (tvP e0 655) = s0 at *
 generalize clampP (tvP e1 655) = s1 at *
 generalize clampP (tvP e2 655) = s2 at *
 generalize clampP (clampP (y0 - b0) + clampP (tvP e0 65536)) = rr0 at *
 generalize clampP (clampP (y1 - b1) + clampP (tvP e1 65536)) = rr1 at *
 generalize clampP (clampP (y2 - b2) + clampP (tvP e2 65536)) = rr2 at *
 generalize clampP (tvP e0 65536) = p0 at *
 generalize clampP (tvP e1 65536) = p1 at *
 generalize clampP (tvP e2 65536) = p2 at *
 generalize clampP (y0 - b0) = r0 at *
 generalize clampP (y1 - b1) = r1 at *
 generalize clampP (y2 - b2) = r2 at *
 have u0_ : wrap64 (n0 + n1) = n0 + n1 := IntWalk.wrap64_in _ (by omega)
 have u1_ : wrap64 (n0 + n1 + n2) = n0 + n1 + n2 := IntWalk.wrap64_in _ (by omega)
 have u2_ : wrap64 (n0 + n1 + n2 + n3) = n0 + n1 + n2 + n3 := IntWalk.wrap64_in _ (by omega)
 have u3_ : wrap64 (n0 + n1 + n2 + n3 + n4) = n0 + n1 + n2 + n3 + n4 := IntWalk.wrap64_in _ (by omega)
 have u4_ : wrap64 (n0 + n1 + n2 + n3 + n4 + n5) = n0 + n1 + n2 + n3 + n4 + n5 := IntWalk.wrap64_in _ (by omega)
 have u5_ : wrap64 (c + (n0 + n1 + n2 + n3 + n4 + n5)) = c + (n0 + n1 + n2 + n3 + n4 + n5) := IntWalk.wrap64_in _ (by omega)
 have u6_ : wrap64 (c + (n0 + n1 + n2 + n3 + n4 + n5) + m0) = c + (n0 + n1 + n2 + n3 + n4 + n5) + m0 := IntWalk.wrap64_in _ (by omega)
 have u7_ : wrap64 (c + (n0 + n1 + n2 + n3 + n4 + n5) + m0 + m1) = c + (n0 + n1 + n2 + n3 + n4 + n5) + m0 + m1 := IntWalk.wrap64_in _ (by omega)
 have u8_ : wrap64 (c + (n0 + n1 + n2 + n3 + n4 + n5) + m0 + m1 + m2) = c + (n0 + n1 + n2 + n3 + n4 + n5) + m0 + m1 + m2 := IntWalk.wrap64_in _ (by omega)
 have u9_ : wrap64 (c + (n0 + n1 + n2 + n3 + n4 + n5) + m0 + m1 + m2 + tN) = c + (n0 + n1 + n2 + n3 + n4 + n5) + m0 + m1 + m2 + tN := IntWalk.wrap64_in _ (by omega)
 have un : wrap64 (n + 1) = n + 1 := IntWalk.wrap64_in _ (by omega)
 have H16 := hid h16
 clear h16 hn hc h nl0 nl1 nl2 nt nb0 nb1 nb2 nb3 nb4 nb5 i65 i655 jr0 jr1 jr2 jb0 jb1 jb2 ir0 ir1 ir2 ie0 ip0 is0 iyy0 ie1 ip1 is1 iyy1 ie2 ip2 is2 iyy2 iq0 iq1 iq2 iq3 ib0 ib1 ib2 iy0 iy1 iy2 ix0 ix1 ix2 id
 have hs : Blk ((((w.alloc (.cells #[.int .i32 q0, .int .i32 q1, .int .i32 q2, .int .i32 q3, .int .i32 b0, .int .i32 b1, .int .i32 b2, .int .i64 n, .int .i64 c] 27)).alloc (.cells #[.int .i32 y0, .int .i32 y1, .int .i32 y2] 25)).alloc (.cells #[.int .i32 x0, .int .i32 x1, .int .i32 x2] 25)).alloc (.cells #[.int .i32 0, .int .i32 0, .int .i32 0, .int .i32 0, .int .i32 0, .int .i32 0, .int .i32 0, .int .i64 0, .int .i64 0] 27)) w.heap.size 27 #[.int .i32 q0, .int .i32 q1, .int .i32 q2, .int .i32 q3, .int .i32 b0, .int .i32 b1, .int .i32 b2, .int .i64 n, .int .i64 c] := (((Blk.new w _ _).alloc _).alloc _).alloc _
 have hy : Blk ((((w.alloc (.cells #[.int .i32 q0, .int .i32 q1, .int .i32 q2, .int .i32 q3, .int .i32 b0, .int .i32 b1, .int .i32 b2, .int .i64 n, .int .i64 c] 27)).alloc (.cells #[.int .i32 y0, .int .i32 y1, .int .i32 y2] 25)).alloc (.cells #[.int .i32 x0, .int .i32 x1, .int .i32 x2] 25)).alloc (.cells #[.int .i32 0, .int .i32 0, .int .i32 0, .int .i32 0, .int .i32 0, .int .i32 0, .int .i32 0, .int .i64 0, .int .i64 0] 27)) (w.heap.size + 1) 25 #[.int .i32 y0, .int .i32 y1, .int .i32 y2] := by have := ((Blk.new (w.alloc (.cells #[.int .i32 q0, .int .i32 q1, .int .i32 q2, .int .i32 q3, .int .i32 b0, .int .i32 b1, .int .i32 b2, .int .i64 n, .int .i64 c] 27)) 25 #[.int .i32 y0, .int .i32 y1, .int .i32 y2]).alloc (.cells #[.int .i32 x0, .int .i32 x1, .int .i32 x2] 25)).alloc (.cells #[.int .i32 0, .int .i32 0, .int .i32 0, .int .i32 0, .int .i32 0, .int .i32 0, .int .i32 0, .int .i64 0, .int .i64 0] 27); simpa using this
 have hx : Blk ((((w.alloc (.cells #[.int .i32 q0, .int .i32 q1, .int .i32 q2, .int .i32 q3, .int .i32 b0, .int .i32 b1, .int .i32 b2, .int .i64 n, .int .i64 c] 27)).alloc (.cells #[.int .i32 y0, .int .i32 y1, .int .i32 y2] 25)).alloc (.cells #[.int .i32 x0, .int .i32 x1, .int .i32 x2] 25)).alloc (.cells #[.int .i32 0, .int .i32 0, .int .i32 0, .int .i32 0, .int .i32 0, .int .i32 0, .int .i32 0, .int .i64 0, .int .i64 0] 27)) (w.heap.size + 1 + 1) 25 #[.int .i32 x0, .int .i32 x1, .int .i32 x2] := by have := (Blk.new ((w.alloc (.cells #[.int .i32 q0, .int .i32 q1, .int .i32 q2, .int .i32 q3, .int .i32 b0, .int .i32 b1, .int .i32 b2, .int .i64 n, .int .i64 c] 27)).alloc (.cells #[.int .i32 y0, .int .i32 y1, .int .i32 y2] 25)) 25 #[.int .i32 x0, .int .i32 x1, .int .i32 x2]).alloc (.cells #[.int .i32 0, .int .i32 0, .int .i32 0, .int .i32 0, .int .i32 0, .int .i32 0, .int .i32 0, .int .i64 0, .int .i64 0] 27); simpa using this
 have hz : Blk ((((w.alloc (.cells #[.int .i32 q0, .int .i32 q1, .int .i32 q2, .int .i32 q3, .int .i32 b0, .int .i32 b1, .int .i32 b2, .int .i64 n, .int .i64 c] 27)).alloc (.cells #[.int .i32 y0, .int .i32 y1, .int .i32 y2] 25)).alloc (.cells #[.int .i32 x0, .int .i32 x1, .int .i32 x2] 25)).alloc (.cells #[.int .i32 0, .int .i32 0, .int .i32 0, .int .i32 0, .int .i32 0, .int .i32 0, .int .i32 0, .int .i64 0, .int .i64 0] 27)) (w.heap.size + 1 + 1 + 1) 27 #[.int .i32 0, .int .i32 0, .int .i32 0, .int .i32 0, .int .i32 0, .int .i32 0, .int .i32 0, .int .i64 0, .int .i64 0] := by have := Blk.new (((w.alloc (.cells #[.int .i32 q0, .int .i32 q1, .int .i32 q2, .int .i32 q3, .int .i32 b0, .int .i32 b1, .int .i32 b2, .int .i64 n, .int .i64 c] 27)).alloc (.cells #[.int .i32 y0, .int .i32 y1, .int .i32 y2] 25)).alloc (.cells #[.int .i32 x0, .int .i32 x1, .int .i32 x2] 25)) 27 #[.int .i32 0, .int .i32 0, .int .i32 0, .int .i32 0, .int .i32 0, .int .i32 0, .int .i32 0, .int .i64 0, .int .i64 0]; simpa using this
 have hb : Below w.heap.size w ((((w.alloc (.cells #[.int .i32 q0, .int .i32 q1, .int .i32 q2, .int .i32 q3, .int .i32 b0, .int .i32 b1, .int .i32 b2, .int .i64 n, .int .i64 c] 27)).alloc (.cells #[.int .i32 y0, .int .i32 y1, .int .i32 y2] 25)).alloc (.cells #[.int .i32 x0, .int .i32 x1, .int .i32 x2] 25)).alloc (.cells #[.int .i32 0, .int .i32 0, .int .i32 0, .int .i32 0, .int .i32 0, .int .i32 0, .int .i32 0, .int .i64 0, .int .i64 0] 27)) := ((((Below.refl _ w).alloc (Nat.le_refl _) _).alloc (by simp) _).alloc (by simp; omega) _).alloc (by simp; omega) _
 go_enter Tryz.func11, Tryz.ntmps11
 go_upto_region 1 with fail
 generalize ((((w.alloc (.cells #[.int .i32 q0, .int .i32 q1, .int .i32 q2, .int .i32 q3, .int .i32 b0, .int .i32 b1, .int .i32 b2, .int .i64 n, .int .i64 c] 27)).alloc (.cells #[.int .i32 y0, .int .i32 y1, .int .i32 y2] 25)).alloc (.cells #[.int .i32 x0, .int .i32 x1, .int .i32 x2] 25)).alloc (.cells #[.int .i32 0, .int .i32 0, .int .i32 0, .int .i32 0, .int .i32 0, .int .i32 0, .int .i32 0, .int .i64 0, .int .i64 0] 27)) = W0 at *
 generalize hg0 : w.heap.size + 1 + 1 + 1 = gz at *
 generalize hg1 : w.heap.size + 1 + 1 = gx at *
 generalize hg2 : w.heap.size + 1 = gy at *
 have f_hs0 : (W0).cell? ⟨w.heap.size, 0, none⟩ = some (.int .i32 q0) := hs.cell 0
 have f_hs1 : (W0).cell? ⟨w.heap.size, 1, none⟩ = some (.int .i32 q1) := hs.cell 1
 have f_hs2 : (W0).cell? ⟨w.heap.size, 2, none⟩ = some (.int .i32 q2) := hs.cell 2
 have f_hs3 : (W0).cell? ⟨w.heap.size, 3, none⟩ = some (.int .i32 q3) := hs.cell 3
 have f_hs4 : (W0).cell? ⟨w.heap.size, 4, none⟩ = some (.int .i32 b0) := hs.cell 4
 have f_hs5 : (W0).cell? ⟨w.heap.size, 5, none⟩ = some (.int .i32 b1) := hs.cell 5
 have f_hs6 : (W0).cell? ⟨w.heap.size, 6, none⟩ = some (.int .i32 b2) := hs.cell 6
 have f_hs7 : (W0).cell? ⟨w.heap.size, 7, none⟩ = some (.int .i64 n) := hs.cell 7
 have f_hs8 : (W0).cell? ⟨w.heap.size, 8, none⟩ = some (.int .i64 c) := hs.cell 8
 have f_hy0 : (W0).cell? ⟨gy, 0, none⟩ = some (.int .i32 y0) := hy.cell 0
 have f_hy1 : (W0).cell? ⟨gy, 1, none⟩ = some (.int .i32 y1) := hy.cell 1
 have f_hy2 : (W0).cell? ⟨gy, 2, none⟩ = some (.int .i32 y2) := hy.cell 2
 go_wp2_with fail
 clear f_hs0 f_hs1 f_hs2 f_hs3 f_hs4 f_hs5 f_hs6 f_hs7 f_hs8 f_hy0 f_hy1 f_hy2
 refine (HD.out _).mono ?_
 rintro e v1 ⟨rfl, bb⟩
 replace hs := hs.below bb hs.lt
 replace hy := hy.below bb hy.lt
 replace hx := hx.below bb hx.lt
 replace hz := hz.below bb hz.lt
 replace hb := f_on hb bb
 clear bb
 clear hy
 clear HD
 have lb2 := hb.size
 have l2hs := hs.lt
 have l2hz := hz.lt
 replace hs := hs.alloc (.cells #[.int .i32 r0, .int .i32 r1, .int .i32 r2] 25)
 replace hx := hx.alloc (.cells #[.int .i32 r0, .int .i32 r1, .int .i32 r2] 25)
 replace hz := hz.alloc (.cells #[.int .i32 r0, .int .i32 r1, .int .i32 r2] 25)
 have hr := Blk.new v1 25 #[.int .i32 r0, .int .i32 r1, .int .i32 r2]
 replace hb := hb.alloc hb.size (.cells #[.int .i32 r0, .int .i32 r1, .int .i32 r2] 25)
 go_upto_region 2 with fail
 generalize v1.alloc (.cells #[.int .i32 r0, .int .i32 r1, .int .i32 r2] 25) = v2 at *
 generalize v1.heap.size = ghr at *
 have f_hs0 : (v2).cell? ⟨w.heap.size, 0, none⟩ = some (.int .i32 q0) := hs.cell 0
 have f_hs1 : (v2).cell? ⟨w.heap.size, 1, none⟩ = some (.int .i32 q1) := hs.cell 1
 have f_hs2 : (v2).cell? ⟨w.heap.size, 2, none⟩ = some (.int .i32 q2) := hs.cell 2
 have f_hs3 : (v2).cell? ⟨w.heap.size, 3, none⟩ = some (.int .i32 q3) := hs.cell 3
 have f_hs4 : (v2).cell? ⟨w.heap.size, 4, none⟩ = some (.int .i32 b0) := hs.cell 4
 have f_hs5 : (v2).cell? ⟨w.heap.size, 5, none⟩ = some (.int .i32 b1) := hs.cell 5
 have f_hs6 : (v2).cell? ⟨w.heap.size, 6, none⟩ = some (.int .i32 b2) := hs.cell 6
 have f_hs7 : (v2).cell? ⟨w.heap.size, 7, none⟩ = some (.int .i64 n) := hs.cell 7
 have f_hs8 : (v2).cell? ⟨w.heap.size, 8, none⟩ = some (.int .i64 c) := hs.cell 8
 have f_hx0 : (v2).cell? ⟨gx, 0, none⟩ = some (.int .i32 x0) := hx.cell 0
 have f_hx1 : (v2).cell? ⟨gx, 1, none⟩ = some (.int .i32 x1) := hx.cell 1
 have f_hx2 : (v2).cell? ⟨gx, 2, none⟩ = some (.int .i32 x2) := hx.cell 2
 go_wp2_with fail
 clear f_hs0 f_hs1 f_hs2 f_hs3 f_hs4 f_hs5 f_hs6 f_hs7 f_hs8 f_hx0 f_hx1 f_hx2
 refine (HE.out _).mono ?_
 rintro e v3 ⟨rfl, bb⟩
 replace hs := hs.below bb hs.lt
 replace hx := hx.below bb hx.lt
 replace hz := hz.below bb hz.lt
 replace hr := hr.below bb hr.lt
 replace hb := f_on hb bb
 clear bb
 clear hx
 clear HE
 have lb4 := hb.size
 replace hs := hs.alloc (.cells #[.int .i32 e0, .int .i32 e1, .int .i32 e2] 25)
 replace hz := hz.alloc (.cells #[.int .i32 e0, .int .i32 e1, .int .i32 e2] 25)
 replace hr := hr.alloc (.cells #[.int .i32 e0, .int .i32 e1, .int .i32 e2] 25)
 have he := Blk.new v3 25 #[.int .i32 e0, .int .i32 e1, .int .i32 e2]
 replace hb := hb.alloc hb.size (.cells #[.int .i32 e0, .int .i32 e1, .int .i32 e2] 25)
 go_upto_region 3 with fail
 generalize v3.alloc (.cells #[.int .i32 e0, .int .i32 e1, .int .i32 e2] 25) = v4 at *
 generalize v3.heap.size = ghe at *
 have f_hs0 : (v4).cell? ⟨w.heap.size, 0, none⟩ = some (.int .i32 q0) := hs.cell 0
 have f_hs1 : (v4).cell? ⟨w.heap.size, 1, none⟩ = some (.int .i32 q1) := hs.cell 1
 have f_hs2 : (v4).cell? ⟨w.heap.size, 2, none⟩ = some (.int .i32 q2) := hs.cell 2
 have f_hs3 : (v4).cell? ⟨w.heap.size, 3, none⟩ = some (.int .i32 q3) := hs.cell 3
 have f_hs4 : (v4).cell? ⟨w.heap.size, 4, none⟩ = some (.int .i32 b0) := hs.cell 4
 have f_hs5 : (v4).cell? ⟨w.heap.size, 5, none⟩ = some (.int .i32 b1) := hs.cell 5
 have f_hs6 : (v4).cell? ⟨w.heap.size, 6, none⟩ = some (.int .i32 b2) := hs.cell 6
 have f_hs7 : (v4).cell? ⟨w.heap.size, 7, none⟩ = some (.int .i64 n) := hs.cell 7
 have f_hs8 : (v4).cell? ⟨w.heap.size, 8, none⟩ = some (.int .i64 c) := hs.cell 8
 have lb5 := hb.size
 have l5hs := hs.lt
 have l5hz := hz.lt
 have l5hr := hr.lt
 replace hs := hs.alloc (.cells #[.int .i32 b0, .int .i32 b1, .int .i32 b2] 25)
 replace hz := hz.alloc (.cells #[.int .i32 b0, .int .i32 b1, .int .i32 b2] 25)
 replace hr := hr.alloc (.cells #[.int .i32 b0, .int .i32 b1, .int .i32 b2] 25)
 replace he := he.alloc (.cells #[.int .i32 b0, .int .i32 b1, .int .i32 b2] 25)
 have hbi := Blk.new v4 25 #[.int .i32 b0, .int .i32 b1, .int .i32 b2]
 replace hb := hb.alloc hb.size (.cells #[.int .i32 b0, .int .i32 b1, .int .i32 b2] 25)
 go_upto_region 4 with fail
 clear f_hs0 f_hs1 f_hs2 f_hs3 f_hs4 f_hs5 f_hs6 f_hs7 f_hs8
 generalize v4.alloc (.cells #[.int .i32 b0, .int .i32 b1, .int .i32 b2] 25) = v5 at *
 generalize v4.heap.size = ghbi at *
 go_upto_region 5 with fail
 have f_he0 : (v5).cell? ⟨ghe, 0, none⟩ = some (.int .i32 e0) := he.cell 0
 have f_he1 : (v5).cell? ⟨ghe, 1, none⟩ = some (.int .i32 e1) := he.cell 1
 have f_he2 : (v5).cell? ⟨ghe, 2, none⟩ = some (.int .i32 e2) := he.cell 2
 go_wp2_with fail
 clear f_he0 f_he1 f_he2
 refine (H5.out _).mono ?_
 rintro e v6 ⟨rfl, bb⟩
 replace hs := hs.below bb hs.lt
 replace hz := hz.below bb hz.lt
 replace hr := hr.below bb hr.lt
 replace he := he.below bb he.lt
 replace hbi := hbi.below bb hbi.lt
 replace hb := f_on hb bb
 clear bb
 have lb7 := hb.size
 replace hs := hs.alloc (.cells #[.int .i32 p0, .int .i32 p1, .int .i32 p2] 25)
 replace hz := hz.alloc (.cells #[.int .i32 p0, .int .i32 p1, .int .i32 p2] 25)
 replace hr := hr.alloc (.cells #[.int .i32 p0, .int .i32 p1, .int .i32 p2] 25)
 replace he := he.alloc (.cells #[.int .i32 p0, .int .i32 p1, .int .i32 p2] 25)
 replace hbi := hbi.alloc (.cells #[.int .i32 p0, .int .i32 p1, .int .i32 p2] 25)
 have hp := Blk.new v6 25 #[.int .i32 p0, .int .i32 p1, .int .i32 p2]
 replace hb := hb.alloc hb.size (.cells #[.int .i32 p0, .int .i32 p1, .int .i32 p2] 25)
 go_upto_region 6 with fail
 generalize v6.alloc (.cells #[.int .i32 p0, .int .i32 p1, .int .i32 p2] 25) = v7 at *
 generalize v6.heap.size = ghp at *
 have f_hr0 : (v7).cell? ⟨ghr, 0, none⟩ = some (.int .i32 r0) := hr.cell 0
 have f_hr1 : (v7).cell? ⟨ghr, 1, none⟩ = some (.int .i32 r1) := hr.cell 1
 have f_hr2 : (v7).cell? ⟨ghr, 2, none⟩ = some (.int .i32 r2) := hr.cell 2
 have f_hp0 : (v7).cell? ⟨ghp, 0, none⟩ = some (.int .i32 p0) := hp.cell 0
 have f_hp1 : (v7).cell? ⟨ghp, 1, none⟩ = some (.int .i32 p1) := hp.cell 1
 have f_hp2 : (v7).cell? ⟨ghp, 2, none⟩ = some (.int .i32 p2) := hp.cell 2
 go_wp2_with fail
 clear f_hr0 f_hr1 f_hr2 f_hp0 f_hp1 f_hp2
 refine (H6.out _).mono ?_
 rintro e v8 ⟨rfl, bb⟩
 replace hs := hs.below bb hs.lt
 replace hz := hz.below bb hz.lt
 replace hr := hr.below bb hr.lt
 replace he := he.below bb he.lt
 replace hbi := hbi.below bb hbi.lt
 replace hp := hp.below bb hp.lt
 replace hb := f_on hb bb
 clear bb
 clear hp
 clear H5 H6
 have lb9 := hb.size
 have l9hs := hs.lt
 have l9hz := hz.lt
 have l9hr := hr.lt
 have l9hbi := hbi.lt
 replace hs := hs.alloc (.cells #[.int .i32 rr0, .int .i32 rr1, .int .i32 rr2] 25)
 replace hz := hz.alloc (.cells #[.int .i32 rr0, .int .i32 rr1, .int .i32 rr2] 25)
 replace hr := hr.alloc (.cells #[.int .i32 rr0, .int .i32 rr1, .int .i32 rr2] 25)
 replace he := he.alloc (.cells #[.int .i32 rr0, .int .i32 rr1, .int .i32 rr2] 25)
 replace hbi := hbi.alloc (.cells #[.int .i32 rr0, .int .i32 rr1, .int .i32 rr2] 25)
 have hrr := Blk.new v8 25 #[.int .i32 rr0, .int .i32 rr1, .int .i32 rr2]
 replace hb := hb.alloc hb.size (.cells #[.int .i32 rr0, .int .i32 rr1, .int .i32 rr2] 25)
 go_upto_region 7 with fail
 generalize v8.alloc (.cells #[.int .i32 rr0, .int .i32 rr1, .int .i32 rr2] 25) = v9 at *
 generalize v8.heap.size = ghrr at *
 have f_he0 : (v9).cell? ⟨ghe, 0, none⟩ = some (.int .i32 e0) := he.cell 0
 have f_he1 : (v9).cell? ⟨ghe, 1, none⟩ = some (.int .i32 e1) := he.cell 1
 have f_he2 : (v9).cell? ⟨ghe, 2, none⟩ = some (.int .i32 e2) := he.cell 2
 go_wp2_with fail
 clear f_he0 f_he1 f_he2
 refine (H7.out _).mono ?_
 rintro e v10 ⟨rfl, bb⟩
 replace hs := hs.below bb hs.lt
 replace hz := hz.below bb hz.lt
 replace hr := hr.below bb hr.lt
 replace he := he.below bb he.lt
 replace hbi := hbi.below bb hbi.lt
 replace hrr := hrr.below bb hrr.lt
 replace hb := f_on hb bb
 clear bb
 clear he
 clear H7
 have lb11 := hb.size
 replace hs := hs.alloc (.cells #[.int .i32 s0, .int .i32 s1, .int .i32 s2] 25)
 replace hz := hz.alloc (.cells #[.int .i32 s0, .int .i32 s1, .int .i32 s2] 25)
 replace hr := hr.alloc (.cells #[.int .i32 s0, .int .i32 s1, .int .i32 s2] 25)
 replace hbi := hbi.alloc (.cells #[.int .i32 s0, .int .i32 s1, .int .i32 s2] 25)
 replace hrr := hrr.alloc (.cells #[.int .i32 s0, .int .i32 s1, .int .i32 s2] 25)
 have hsl := Blk.new v10 25 #[.int .i32 s0, .int .i32 s1, .int .i32 s2]
 replace hb := hb.alloc hb.size (.cells #[.int .i32 s0, .int .i32 s1, .int .i32 s2] 25)
 go_upto_region 8 with fail
 generalize v10.alloc (.cells #[.int .i32 s0, .int .i32 s1, .int .i32 s2] 25) = v11 at *
 generalize v10.heap.size = ghsl at *
 have f_hsl0 : (v11).cell? ⟨ghsl, 0, none⟩ = some (.int .i32 s0) := hsl.cell 0
 have f_hsl1 : (v11).cell? ⟨ghsl, 1, none⟩ = some (.int .i32 s1) := hsl.cell 1
 have f_hsl2 : (v11).cell? ⟨ghsl, 2, none⟩ = some (.int .i32 s2) := hsl.cell 2
 go_wp2_with fail
 clear f_hsl0 f_hsl1 f_hsl2
 refine (H8.out _).mono ?_
 rintro e v12 ⟨rfl, bb⟩
 replace hs := hs.below bb hs.lt
 replace hz := hz.below bb hz.lt
 replace hr := hr.below bb hr.lt
 replace hbi := hbi.below bb hbi.lt
 replace hrr := hrr.below bb hrr.lt
 replace hsl := hsl.below bb hsl.lt
 replace hb := f_on hb bb
 clear bb
 clear hsl
 clear H8
 have lb13 := hb.size
 replace hs := hs.alloc (.cells #[.int .i32 yy0, .int .i32 yy1, .int .i32 yy2] 25)
 replace hz := hz.alloc (.cells #[.int .i32 yy0, .int .i32 yy1, .int .i32 yy2] 25)
 replace hr := hr.alloc (.cells #[.int .i32 yy0, .int .i32 yy1, .int .i32 yy2] 25)
 replace hbi := hbi.alloc (.cells #[.int .i32 yy0, .int .i32 yy1, .int .i32 yy2] 25)
 replace hrr := hrr.alloc (.cells #[.int .i32 yy0, .int .i32 yy1, .int .i32 yy2] 25)
 have hby := Blk.new v12 25 #[.int .i32 yy0, .int .i32 yy1, .int .i32 yy2]
 replace hb := hb.alloc hb.size (.cells #[.int .i32 yy0, .int .i32 yy1, .int .i32 yy2] 25)
 go_upto_region 9 with fail
 generalize v12.alloc (.cells #[.int .i32 yy0, .int .i32 yy1, .int .i32 yy2] 25) = v13 at *
 generalize v12.heap.size = ghby at *
 have f_hbi0 : (v13).cell? ⟨ghbi, 0, none⟩ = some (.int .i32 b0) := hbi.cell 0
 have f_hbi1 : (v13).cell? ⟨ghbi, 1, none⟩ = some (.int .i32 b1) := hbi.cell 1
 have f_hbi2 : (v13).cell? ⟨ghbi, 2, none⟩ = some (.int .i32 b2) := hbi.cell 2
 have f_hby0 : (v13).cell? ⟨ghby, 0, none⟩ = some (.int .i32 yy0) := hby.cell 0
 have f_hby1 : (v13).cell? ⟨ghby, 1, none⟩ = some (.int .i32 yy1) := hby.cell 1
 have f_hby2 : (v13).cell? ⟨ghby, 2, none⟩ = some (.int .i32 yy2) := hby.cell 2
 go_wp2_with fail
 clear f_hbi0 f_hbi1 f_hbi2 f_hby0 f_hby1 f_hby2
 refine (H9.out _).mono ?_
 rintro e v14 ⟨rfl, bb⟩
 replace hs := hs.below bb hs.lt
 replace hz := hz.below bb hz.lt
 replace hr := hr.below bb hr.lt
 replace hbi := hbi.below bb hbi.lt
 replace hrr := hrr.below bb hrr.lt
 replace hby := hby.below bb hby.lt
 replace hb := f_on hb bb
 clear bb
 clear hby
 clear H9
 have lb15 := hb.size
 have l15hs := hs.lt
 have l15hz := hz.lt
 have l15hr := hr.lt
 have l15hbi := hbi.lt
 have l15hrr := hrr.lt
 replace hs := hs.alloc (.cells #[.int .i32 bn0, .int .i32 bn1, .int .i32 bn2] 25)
 replace hz := hz.alloc (.cells #[.int .i32 bn0, .int .i32 bn1, .int .i32 bn2] 25)
 replace hr := hr.alloc (.cells #[.int .i32 bn0, .int .i32 bn1, .int .i32 bn2] 25)
 replace hbi := hbi.alloc (.cells #[.int .i32 bn0, .int .i32 bn1, .int .i32 bn2] 25)
 replace hrr := hrr.alloc (.cells #[.int .i32 bn0, .int .i32 bn1, .int .i32 bn2] 25)
 have hbn := Blk.new v14 25 #[.int .i32 bn0, .int .i32 bn1, .int .i32 bn2]
 replace hb := hb.alloc hb.size (.cells #[.int .i32 bn0, .int .i32 bn1, .int .i32 bn2] 25)
 go_upto_region 10 with fail
 generalize v14.alloc (.cells #[.int .i32 bn0, .int .i32 bn1, .int .i32 bn2] 25) = v15 at *
 generalize v14.heap.size = ghbn at *
 have f_hr0 : (v15).cell? ⟨ghr, 0, none⟩ = some (.int .i32 r0) := hr.cell 0
 have z_hr0 := hr.frozen 0
 have f_hr1 : (v15).cell? ⟨ghr, 1, none⟩ = some (.int .i32 r1) := hr.cell 1
 have z_hr1 := hr.frozen 1
 have f_hr2 : (v15).cell? ⟨ghr, 2, none⟩ = some (.int .i32 r2) := hr.cell 2
 have z_hr2 := hr.frozen 2
 have f_hrr0 : (v15).cell? ⟨ghrr, 0, none⟩ = some (.int .i32 rr0) := hrr.cell 0
 have f_hrr1 : (v15).cell? ⟨ghrr, 1, none⟩ = some (.int .i32 rr1) := hrr.cell 1
 have f_hrr2 : (v15).cell? ⟨ghrr, 2, none⟩ = some (.int .i32 rr2) := hrr.cell 2
 go_upto_region 11 with fail
 clear f_hr0 z_hr0 f_hr1 z_hr1 f_hr2 z_hr2 f_hrr0 f_hrr1 f_hrr2
 replace hs := (((hs.fr ghr 0 (by omega) (.int .i32 rr0)).fr ghr 1 (by omega) (.int .i32 rr1)).fr ghr 2 (by omega) (.int .i32 rr2))
 replace hz := (((hz.fr ghr 0 (by omega) (.int .i32 rr0)).fr ghr 1 (by omega) (.int .i32 rr1)).fr ghr 2 (by omega) (.int .i32 rr2))
 replace hbi := (((hbi.fr ghr 0 (by omega) (.int .i32 rr0)).fr ghr 1 (by omega) (.int .i32 rr1)).fr ghr 2 (by omega) (.int .i32 rr2))
 replace hrr := (((hrr.fr ghr 0 (by omega) (.int .i32 rr0)).fr ghr 1 (by omega) (.int .i32 rr1)).fr ghr 2 (by omega) (.int .i32 rr2))
 replace hbn := (((hbn.fr ghr 0 (by omega) (.int .i32 rr0)).fr ghr 1 (by omega) (.int .i32 rr1)).fr ghr 2 (by omega) (.int .i32 rr2))
 replace hr := (((hr.set_ 0 (.int .i32 rr0)).set_ 1 (.int .i32 rr1)).set_ 2 (.int .i32 rr2))
 replace hb := (((hb.sc ghr 0 (by omega) (.int .i32 rr0)).sc ghr 1 (by omega) (.int .i32 rr1)).sc ghr 2 (by omega) (.int .i32 rr2))
 generalize (((v15.setCell ⟨ghr, 0, none⟩ (.int .i32 rr0)).setCell ⟨ghr, 1, none⟩ (.int .i32 rr1)).setCell ⟨ghr, 2, none⟩ (.int .i32 rr2)) = v16 at *
 clear hrr
 have f_hbi0 : (v16).cell? ⟨ghbi, 0, none⟩ = some (.int .i32 b0) := hbi.cell 0
 have z_hbi0 := hbi.frozen 0
 have f_hbi1 : (v16).cell? ⟨ghbi, 1, none⟩ = some (.int .i32 b1) := hbi.cell 1
 have z_hbi1 := hbi.frozen 1
 have f_hbi2 : (v16).cell? ⟨ghbi, 2, none⟩ = some (.int .i32 b2) := hbi.cell 2
 have z_hbi2 := hbi.frozen 2
 have f_hbn0 : (v16).cell? ⟨ghbn, 0, none⟩ = some (.int .i32 bn0) := hbn.cell 0
 have f_hbn1 : (v16).cell? ⟨ghbn, 1, none⟩ = some (.int .i32 bn1) := hbn.cell 1
 have f_hbn2 : (v16).cell? ⟨ghbn, 2, none⟩ = some (.int .i32 bn2) := hbn.cell 2
 go_upto_region 12 with fail
 clear f_hbi0 z_hbi0 f_hbi1 z_hbi1 f_hbi2 z_hbi2 f_hbn0 f_hbn1 f_hbn2
 replace hs := (((hs.fr ghbi 0 (by omega) (.int .i32 bn0)).fr ghbi 1 (by omega) (.int .i32 bn1)).fr ghbi 2 (by omega) (.int .i32 bn2))
 replace hz := (((hz.fr ghbi 0 (by omega) (.int .i32 bn0)).fr ghbi 1 (by omega) (.int .i32 bn1)).fr ghbi 2 (by omega) (.int .i32 bn2))
 replace hr := (((hr.fr ghbi 0 (by omega) (.int .i32 bn0)).fr ghbi 1 (by omega) (.int .i32 bn1)).fr ghbi 2 (by omega) (.int .i32 bn2))
 replace hbn := (((hbn.fr ghbi 0 (by omega) (.int .i32 bn0)).fr ghbi 1 (by omega) (.int .i32 bn1)).fr ghbi 2 (by omega) (.int .i32 bn2))
 replace hbi := (((hbi.set_ 0 (.int .i32 bn0)).set_ 1 (.int .i32 bn1)).set_ 2 (.int .i32 bn2))
 replace hb := (((hb.sc ghbi 0 (by omega) (.int .i32 bn0)).sc ghbi 1 (by omega) (.int .i32 bn1)).sc ghbi 2 (by omega) (.int .i32 bn2))
 generalize (((v16.setCell ⟨ghbi, 0, none⟩ (.int .i32 bn0)).setCell ⟨ghbi, 1, none⟩ (.int .i32 bn1)).setCell ⟨ghbi, 2, none⟩ (.int .i32 bn2)) = v17 at *
 clear hbn
 have f_hbi0 : (v17).cell? ⟨ghbi, 0, none⟩ = some (.int .i32 bn0) := hbi.cell 0
 have f_hbi1 : (v17).cell? ⟨ghbi, 1, none⟩ = some (.int .i32 bn1) := hbi.cell 1
 have f_hbi2 : (v17).cell? ⟨ghbi, 2, none⟩ = some (.int .i32 bn2) := hbi.cell 2
 go_wp2_with fail
 refine (HL0.out _).mono ?_
 rintro e w' ⟨rfl, rfl⟩
 go_wp2_with fail
 refine (HL1.out _).mono ?_
 rintro e w' ⟨rfl, rfl⟩
 go_wp2_with fail
 refine (HL2.out _).mono ?_
 rintro e w' ⟨rfl, rfl⟩
 go_upto_region 16 with fail
 clear f_hbi0 f_hbi1 f_hbi2
 have f_hs0 : (v17).cell? ⟨w.heap.size, 0, none⟩ = some (.int .i32 q0) := hs.cell 0
 have f_hs1 : (v17).cell? ⟨w.heap.size, 1, none⟩ = some (.int .i32 q1) := hs.cell 1
 have f_hs2 : (v17).cell? ⟨w.heap.size, 2, none⟩ = some (.int .i32 q2) := hs.cell 2
 have f_hs3 : (v17).cell? ⟨w.heap.size, 3, none⟩ = some (.int .i32 q3) := hs.cell 3
 have f_hs4 : (v17).cell? ⟨w.heap.size, 4, none⟩ = some (.int .i32 b0) := hs.cell 4
 have f_hs5 : (v17).cell? ⟨w.heap.size, 5, none⟩ = some (.int .i32 b1) := hs.cell 5
 have f_hs6 : (v17).cell? ⟨w.heap.size, 6, none⟩ = some (.int .i32 b2) := hs.cell 6
 have f_hs7 : (v17).cell? ⟨w.heap.size, 7, none⟩ = some (.int .i64 n) := hs.cell 7
 have f_hs8 : (v17).cell? ⟨w.heap.size, 8, none⟩ = some (.int .i64 c) := hs.cell 8
 have f_hr0 : (v17).cell? ⟨ghr, 0, none⟩ = some (.int .i32 rr0) := hr.cell 0
 have f_hr1 : (v17).cell? ⟨ghr, 1, none⟩ = some (.int .i32 rr1) := hr.cell 1
 have f_hr2 : (v17).cell? ⟨ghr, 2, none⟩ = some (.int .i32 rr2) := hr.cell 2
 go_wp2_with fail
 clear f_hs0 f_hs1 f_hs2 f_hs3 f_hs4 f_hs5 f_hs6 f_hs7 f_hs8 f_hr0 f_hr1 f_hr2
 refine (H16.out _).mono ?_
 rintro e v18 ⟨rfl, bb⟩
 replace hs := hs.below bb hs.lt
 replace hz := hz.below bb hz.lt
 replace hr := hr.below bb hr.lt
 replace hbi := hbi.below bb hbi.lt
 replace hb := f_on hb bb
 clear bb
 have lb19 := hb.size
 have l19hs := hs.lt
 have l19hz := hz.lt
 have l19hr := hr.lt
 have l19hbi := hbi.lt
 replace hs := hs.alloc (.cells #[.int .i32 t0, .int .i32 t1, .int .i32 t2, .int .i32 t3] 23)
 replace hz := hz.alloc (.cells #[.int .i32 t0, .int .i32 t1, .int .i32 t2, .int .i32 t3] 23)
 replace hr := hr.alloc (.cells #[.int .i32 t0, .int .i32 t1, .int .i32 t2, .int .i32 t3] 23)
 replace hbi := hbi.alloc (.cells #[.int .i32 t0, .int .i32 t1, .int .i32 t2, .int .i32 t3] 23)
 have hq := Blk.new v18 23 #[.int .i32 t0, .int .i32 t1, .int .i32 t2, .int .i32 t3]
 replace hb := hb.alloc hb.size (.cells #[.int .i32 t0, .int .i32 t1, .int .i32 t2, .int .i32 t3] 23)
 go_upto_region 17 with fail
 generalize v18.alloc (.cells #[.int .i32 t0, .int .i32 t1, .int .i32 t2, .int .i32 t3] 23) = v19 at *
 generalize v18.heap.size = ghq at *
 have f_hs0 : (v19).cell? ⟨w.heap.size, 0, none⟩ = some (.int .i32 q0) := hs.cell 0
 have f_hs1 : (v19).cell? ⟨w.heap.size, 1, none⟩ = some (.int .i32 q1) := hs.cell 1
 have f_hs2 : (v19).cell? ⟨w.heap.size, 2, none⟩ = some (.int .i32 q2) := hs.cell 2
 have f_hs3 : (v19).cell? ⟨w.heap.size, 3, none⟩ = some (.int .i32 q3) := hs.cell 3
 have f_hs4 : (v19).cell? ⟨w.heap.size, 4, none⟩ = some (.int .i32 b0) := hs.cell 4
 have f_hs5 : (v19).cell? ⟨w.heap.size, 5, none⟩ = some (.int .i32 b1) := hs.cell 5
 have f_hs6 : (v19).cell? ⟨w.heap.size, 6, none⟩ = some (.int .i32 b2) := hs.cell 6
 have f_hs7 : (v19).cell? ⟨w.heap.size, 7, none⟩ = some (.int .i64 n) := hs.cell 7
 have f_hs8 : (v19).cell? ⟨w.heap.size, 8, none⟩ = some (.int .i64 c) := hs.cell 8
 have f_hq0 : (v19).cell? ⟨ghq, 0, none⟩ = some (.int .i32 t0) := hq.cell 0
 have f_hq1 : (v19).cell? ⟨ghq, 1, none⟩ = some (.int .i32 t1) := hq.cell 1
 have f_hq2 : (v19).cell? ⟨ghq, 2, none⟩ = some (.int .i32 t2) := hq.cell 2
 have f_hq3 : (v19).cell? ⟨ghq, 3, none⟩ = some (.int .i32 t3) := hq.cell 3
 have f_hz0 : (v19).cell? ⟨gz, 0, none⟩ = some (.int .i32 0) := hz.cell 0
 have z_hz0 := hz.frozen 0
 have f_hz1 : (v19).cell? ⟨gz, 1, none⟩ = some (.int .i32 0) := hz.cell 1
 have z_hz1 := hz.frozen 1
 have f_hz2 : (v19).cell? ⟨gz, 2, none⟩ = some (.int .i32 0) := hz.cell 2
 have z_hz2 := hz.frozen 2
 have f_hz3 : (v19).cell? ⟨gz, 3, none⟩ = some (.int .i32 0) := hz.cell 3
 have z_hz3 := hz.frozen 3
 have f_hz4 : (v19).cell? ⟨gz, 4, none⟩ = some (.int .i32 0) := hz.cell 4
 have z_hz4 := hz.frozen 4
 have f_hz5 : (v19).cell? ⟨gz, 5, none⟩ = some (.int .i32 0) := hz.cell 5
 have z_hz5 := hz.frozen 5
 have f_hz6 : (v19).cell? ⟨gz, 6, none⟩ = some (.int .i32 0) := hz.cell 6
 have z_hz6 := hz.frozen 6
 have f_hz7 : (v19).cell? ⟨gz, 7, none⟩ = some (.int .i64 0) := hz.cell 7
 have z_hz7 := hz.frozen 7
 have f_hz8 : (v19).cell? ⟨gz, 8, none⟩ = some (.int .i64 0) := hz.cell 8
 have z_hz8 := hz.frozen 8
 have hf : Blk (((((((((v19.setCell ⟨gz, 0, none⟩ (.int .i32 t0)).setCell ⟨gz, 1, none⟩ (.int .i32 t1)).setCell ⟨gz, 2, none⟩ (.int .i32 t2)).setCell ⟨gz, 3, none⟩ (.int .i32 t3)).setCell ⟨gz, 4, none⟩ (.int .i32 k0)).setCell ⟨gz, 5, none⟩ (.int .i32 k1)).setCell ⟨gz, 6, none⟩ (.int .i32 k2)).setCell ⟨gz, 7, none⟩ (.int .i64 (n + 1))).setCell ⟨gz, 8, none⟩ (.int .i64 (c + (n0 + n1 + n2 + n3 + n4 + n5) + m0 + m1 + m2 + tN))) gz 27 #[.int .i32 t0, .int .i32 t1, .int .i32 t2, .int .i32 t3, .int .i32 k0, .int .i32 k1, .int .i32 k2, .int .i64 (n + 1), .int .i64 (c + (n0 + n1 + n2 + n3 + n4 + n5) + m0 + m1 + m2 + tN)] := (((((((((hz.set_ 0 (.int .i32 t0)).set_ 1 (.int .i32 t1)).set_ 2 (.int .i32 t2)).set_ 3 (.int .i32 t3)).set_ 4 (.int .i32 k0)).set_ 5 (.int .i32 k1)).set_ 6 (.int .i32 k2)).set_ 7 (.int .i64 (n + 1))).set_ 8 (.int .i64 (c + (n0 + n1 + n2 + n3 + n4 + n5) + m0 + m1 + m2 + tN)))
 have hbf : Below w.heap.size w (((((((((v19.setCell ⟨gz, 0, none⟩ (.int .i32 t0)).setCell ⟨gz, 1, none⟩ (.int .i32 t1)).setCell ⟨gz, 2, none⟩ (.int .i32 t2)).setCell ⟨gz, 3, none⟩ (.int .i32 t3)).setCell ⟨gz, 4, none⟩ (.int .i32 k0)).setCell ⟨gz, 5, none⟩ (.int .i32 k1)).setCell ⟨gz, 6, none⟩ (.int .i32 k2)).setCell ⟨gz, 7, none⟩ (.int .i64 (n + 1))).setCell ⟨gz, 8, none⟩ (.int .i64 (c + (n0 + n1 + n2 + n3 + n4 + n5) + m0 + m1 + m2 + tN))) := (((((((((hb.sc gz 0 (by omega) (.int .i32 t0)).sc gz 1 (by omega) (.int .i32 t1)).sc gz 2 (by omega) (.int .i32 t2)).sc gz 3 (by omega) (.int .i32 t3)).sc gz 4 (by omega) (.int .i32 k0)).sc gz 5 (by omega) (.int .i32 k1)).sc gz 6 (by omega) (.int .i32 k2)).sc gz 7 (by omega) (.int .i64 (n + 1))).sc gz 8 (by omega) (.int .i64 (c + (n0 + n1 + n2 + n3 + n4 + n5) + m0 + m1 + m2 + tN)))
 go_wp2
 generalize (((((((((v19.setCell ⟨gz, 0, none⟩ (.int .i32 t0)).setCell ⟨gz, 1, none⟩ (.int .i32 t1)).setCell ⟨gz, 2, none⟩ (.int .i32 t2)).setCell ⟨gz, 3, none⟩ (.int .i32 t3)).setCell ⟨gz, 4, none⟩ (.int .i32 k0)).setCell ⟨gz, 5, none⟩ (.int .i32 k1)).setCell ⟨gz, 6, none⟩ (.int .i32 k2)).setCell ⟨gz, 7, none⟩ (.int .i64 (n + 1))).setCell ⟨gz, 8, none⟩ (.int .i64 (c + (n0 + n1 + n2 + n3 + n4 + n5) + m0 + m1 + m2 + tN))) = wf at *
 have f0 : wf.cell? ⟨gz, 0, none⟩ = some (.int .i32 t0) := hf.cell 0
 have f1 : wf.cell? ⟨gz, 1, none⟩ = some (.int .i32 t1) := hf.cell 1
 have f2 : wf.cell? ⟨gz, 2, none⟩ = some (.int .i32 t2) := hf.cell 2
 have f3 : wf.cell? ⟨gz, 3, none⟩ = some (.int .i32 t3) := hf.cell 3
 have f4 : wf.cell? ⟨gz, 4, none⟩ = some (.int .i32 k0) := hf.cell 4
 have f5 : wf.cell? ⟨gz, 5, none⟩ = some (.int .i32 k1) := hf.cell 5
 have f6 : wf.cell? ⟨gz, 6, none⟩ = some (.int .i32 k2) := hf.cell 6
 have f7 : wf.cell? ⟨gz, 7, none⟩ = some (.int .i64 (n + 1)) := hf.cell 7
 have f8 : wf.cell? ⟨gz, 8, none⟩ = some (.int .i64 (c + (n0 + n1 + n2 + n3 + n4 + n5) + m0 + m1 + m2 + tN)) := hf.cell 8
 simp [bodyPost, results, Tryz.results11, go_sem, f0, f1, f2, f3, f4, f5, f6, f7, f8]
 exact HP.out _ _ ⟨rfl, hbf⟩
end Go.Proofs.YtgmepohfkpncmaaGreat
