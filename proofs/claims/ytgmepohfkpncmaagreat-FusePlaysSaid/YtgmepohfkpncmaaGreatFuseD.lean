/- Chapter 42: how far up is from where it should be. -/
import Derived.Test.YtgmepohfkpncmaaGreatFuseB
import Derived.Test.YtgmepohfkpncmaaGreatVecI
import Derived.Test.YtgmepohfkpncmaaGreatTurnE
namespace Go.Proofs.YtgmepohfkpncmaaGreat
open Go.RowKit
set_option linter.unusedVariables false
set_option linter.unusedSimpArgs false

def erL (x0 x1 x2 : Int) : Int := rootP (sqP [x0, x1, x2])
def erOk (x0 x1 x2 : Int) : Bool := decide (32768 ≤ erL x0 x1 x2) && decide (erL x0 x1 x2 ≤ 98304)
def er0 (q0 q1 q2 q3 x0 x1 x2 : Int) : Int := paP (makeP [x0, x1, x2] x1) (clampP (upZ q0 q1 q2 q3)) (makeP [x0, x1, x2] x2) (clampP (upY q0 q1 q2 q3))
def er1 (q0 q1 q2 q3 x0 x1 x2 : Int) : Int := paP (makeP [x0, x1, x2] x2) (clampP (upX q0 q1 q2 q3)) (makeP [x0, x1, x2] x0) (clampP (upZ q0 q1 q2 q3))
def er2 (q0 q1 q2 q3 x0 x1 x2 : Int) : Int := paP (makeP [x0, x1, x2] x0) (clampP (upY q0 q1 q2 q3)) (makeP [x0, x1, x2] x1) (clampP (upX q0 q1 q2 q3))
theorem paP_32 (a b c d : Int) : I32 (paP a b c d) := clampP_bd _
theorem make_x32 (x0 x1 x2 x : Int) (i0 : I32 x0) (i1 : I32 x1) (i2 : I32 x2) (h : x ∈ [x0, x1, x2]) : I32 (makeP [x0, x1, x2] x) := by
 unfold makeP
 rcases far3_zero x0 x1 x2 i0 i1 i2 with hz | hz
 ·rw [if_pos hz]; unfold I32; omega
 ·rw [if_neg (by omega)]
  have := oneP_bd [x0, x1, x2] (by unfold I32 at *; simp; omega) hz x h
  unfold I32; omega
set_option maxRecDepth 20000 in
set_option maxHeartbeats 8000000 in
theorem f_ErrorN (q0 q1 q2 q3 x0 x1 x2 : Int) (w : World) (ix0 : I32 x0) (ix1 : I32 x1) (ix2 : I32 x2) (h : erOk x0 x1 x2 = false) :
  Calls Tryz.prog 7 #[.agg #[.int .i32 q0, .int .i32 q1, .int .i32 q2, .int .i32 q3], .agg #[.int .i32 x0, .int .i32 x1, .int .i32 x2]] w fun e w' => e = .returned (.tuple #[.agg #[.int .i32 0, .int .i32 0, .int .i32 0], .bool false]) ∧ Below w.heap.size w w' := by
 have HL := hid fun w => v_Length x0 x1 x2 w ix0 ix1 ix2
 unfold erOk erL at h
 generalize rootP (sqP [x0, x1, x2]) = L at *
 clear ix0 ix1 ix2
 by_cases g : L < 32768
 ·have e1 : decide (L < 32768) = true := decide_eq_true g
  clear h
  have hq : Blk (((w.alloc (.cells #[.int .i32 q0, .int .i32 q1, .int .i32 q2, .int .i32 q3] 23)).alloc (.cells #[.int .i32 x0, .int .i32 x1, .int .i32 x2] 25)).alloc (.cells #[.int .i32 0, .int .i32 0, .int .i32 0] 25)) w.heap.size 23 #[.int .i32 q0, .int .i32 q1, .int .i32 q2, .int .i32 q3] := ((Blk.new w _ _).alloc _).alloc _
  have hx : Blk (((w.alloc (.cells #[.int .i32 q0, .int .i32 q1, .int .i32 q2, .int .i32 q3] 23)).alloc (.cells #[.int .i32 x0, .int .i32 x1, .int .i32 x2] 25)).alloc (.cells #[.int .i32 0, .int .i32 0, .int .i32 0] 25)) (w.heap.size + 1) 25 #[.int .i32 x0, .int .i32 x1, .int .i32 x2] := by have := (Blk.new (w.alloc (.cells #[.int .i32 q0, .int .i32 q1, .int .i32 q2, .int .i32 q3] 23)) 25 #[.int .i32 x0, .int .i32 x1, .int .i32 x2]).alloc (.cells #[.int .i32 0, .int .i32 0, .int .i32 0] 25); simpa using this
  have hz : Blk (((w.alloc (.cells #[.int .i32 q0, .int .i32 q1, .int .i32 q2, .int .i32 q3] 23)).alloc (.cells #[.int .i32 x0, .int .i32 x1, .int .i32 x2] 25)).alloc (.cells #[.int .i32 0, .int .i32 0, .int .i32 0] 25)) (w.heap.size + 1 + 1) 25 #[.int .i32 0, .int .i32 0, .int .i32 0] := by have := Blk.new ((w.alloc (.cells #[.int .i32 q0, .int .i32 q1, .int .i32 q2, .int .i32 q3] 23)).alloc (.cells #[.int .i32 x0, .int .i32 x1, .int .i32 x2] 25)) 25 #[.int .i32 0, .int .i32 0, .int .i32 0]; simpa using this
  have hb : Below w.heap.size w (((w.alloc (.cells #[.int .i32 q0, .int .i32 q1, .int .i32 q2, .int .i32 q3] 23)).alloc (.cells #[.int .i32 x0, .int .i32 x1, .int .i32 x2] 25)).alloc (.cells #[.int .i32 0, .int .i32 0, .int .i32 0] 25)) := (((Below.refl _ w).alloc (Nat.le_refl _) _).alloc (by simp) _).alloc (by simp; omega) _
  have x0_ : ((((w.alloc (.cells #[.int .i32 q0, .int .i32 q1, .int .i32 q2, .int .i32 q3] 23)).alloc (.cells #[.int .i32 x0, .int .i32 x1, .int .i32 x2] 25)).alloc (.cells #[.int .i32 0, .int .i32 0, .int .i32 0] 25))).cell? ⟨w.heap.size + 1, 0, none⟩ = some (.int .i32 x0) := hx.cell 0
  have x1_ : ((((w.alloc (.cells #[.int .i32 q0, .int .i32 q1, .int .i32 q2, .int .i32 q3] 23)).alloc (.cells #[.int .i32 x0, .int .i32 x1, .int .i32 x2] 25)).alloc (.cells #[.int .i32 0, .int .i32 0, .int .i32 0] 25))).cell? ⟨w.heap.size + 1, 1, none⟩ = some (.int .i32 x1) := hx.cell 1
  have x2_ : ((((w.alloc (.cells #[.int .i32 q0, .int .i32 q1, .int .i32 q2, .int .i32 q3] 23)).alloc (.cells #[.int .i32 x0, .int .i32 x1, .int .i32 x2] 25)).alloc (.cells #[.int .i32 0, .int .i32 0, .int .i32 0] 25))).cell? ⟨w.heap.size + 1, 2, none⟩ = some (.int .i32 x2) := hx.cell 2
  go_enter Tryz.func7, Tryz.ntmps7
  go_wp2_with fail
  generalize (((w.alloc (.cells #[.int .i32 q0, .int .i32 q1, .int .i32 q2, .int .i32 q3] 23)).alloc (.cells #[.int .i32 x0, .int .i32 x1, .int .i32 x2] 25)).alloc (.cells #[.int .i32 0, .int .i32 0, .int .i32 0] 25)) = W0 at *
  refine (HL.out _).mono ?_
  rintro e w1 ⟨rfl, b1⟩
  replace hz := hz.below b1 hz.lt
  replace hb := f_on hb b1
  clear hq hx b1 HL
  have d0 : (w1).cell? ⟨w.heap.size + 1 + 1, 0, none⟩ = some (.int .i32 0) := hz.cell 0
  have zz0 := hz.frozen 0
  have d1 : (w1).cell? ⟨w.heap.size + 1 + 1, 1, none⟩ = some (.int .i32 0) := hz.cell 1
  have zz1 := hz.frozen 1
  have d2 : (w1).cell? ⟨w.heap.size + 1 + 1, 2, none⟩ = some (.int .i32 0) := hz.cell 2
  have zz2 := hz.frozen 2
  have hf : Blk (((w1.setCell ⟨w.heap.size + 1 + 1, 0, none⟩ (.int .i32 0)).setCell ⟨w.heap.size + 1 + 1, 1, none⟩ (.int .i32 0)).setCell ⟨w.heap.size + 1 + 1, 2, none⟩ (.int .i32 0)) (w.heap.size + 1 + 1) 25 #[.int .i32 0, .int .i32 0, .int .i32 0] := (((hz.set_ 0 (.int .i32 0)).set_ 1 (.int .i32 0)).set_ 2 (.int .i32 0))
  have hbf : Below w.heap.size w (((w1.setCell ⟨w.heap.size + 1 + 1, 0, none⟩ (.int .i32 0)).setCell ⟨w.heap.size + 1 + 1, 1, none⟩ (.int .i32 0)).setCell ⟨w.heap.size + 1 + 1, 2, none⟩ (.int .i32 0)) := (((hb.sc (w.heap.size + 1 + 1) 0 (by omega) (.int .i32 0)).sc (w.heap.size + 1 + 1) 1 (by omega) (.int .i32 0)).sc (w.heap.size + 1 + 1) 2 (by omega) (.int .i32 0))
  go_wp2
  generalize (((w1.setCell ⟨w.heap.size + 1 + 1, 0, none⟩ (.int .i32 0)).setCell ⟨w.heap.size + 1 + 1, 1, none⟩ (.int .i32 0)).setCell ⟨w.heap.size + 1 + 1, 2, none⟩ (.int .i32 0)) = wf at *
  have f0 : wf.cell? ⟨w.heap.size + 1 + 1, 0, none⟩ = some (.int .i32 0) := hf.cell 0
  have f1 : wf.cell? ⟨w.heap.size + 1 + 1, 1, none⟩ = some (.int .i32 0) := hf.cell 1
  have f2 : wf.cell? ⟨w.heap.size + 1 + 1, 2, none⟩ = some (.int .i32 0) := hf.cell 2
  simp [bodyPost, results, Tryz.results7, go_sem, f0, f1, f2]
  exact hbf
 ·have e1 : decide (L < 32768) = false := decide_eq_false g
  have e2 : decide (98304 < L) = true := decide_eq_true (by
   rcases Int.lt_or_le 98304 L with k | k
   ·exact k
   ·rw [decide_eq_true (by omega), decide_eq_true k] at h; cases h)
  clear h
  have hq : Blk (((w.alloc (.cells #[.int .i32 q0, .int .i32 q1, .int .i32 q2, .int .i32 q3] 23)).alloc (.cells #[.int .i32 x0, .int .i32 x1, .int .i32 x2] 25)).alloc (.cells #[.int .i32 0, .int .i32 0, .int .i32 0] 25)) w.heap.size 23 #[.int .i32 q0, .int .i32 q1, .int .i32 q2, .int .i32 q3] := ((Blk.new w _ _).alloc _).alloc _
  have hx : Blk (((w.alloc (.cells #[.int .i32 q0, .int .i32 q1, .int .i32 q2, .int .i32 q3] 23)).alloc (.cells #[.int .i32 x0, .int .i32 x1, .int .i32 x2] 25)).alloc (.cells #[.int .i32 0, .int .i32 0, .int .i32 0] 25)) (w.heap.size + 1) 25 #[.int .i32 x0, .int .i32 x1, .int .i32 x2] := by have := (Blk.new (w.alloc (.cells #[.int .i32 q0, .int .i32 q1, .int .i32 q2, .int .i32 q3] 23)) 25 #[.int .i32 x0, .int .i32 x1, .int .i32 x2]).alloc (.cells #[.int .i32 0, .int .i32 0, .int .i32 0] 25); simpa using this
  have hz : Blk (((w.alloc (.cells #[.int .i32 q0, .int .i32 q1, .int .i32 q2, .int .i32 q3] 23)).alloc (.cells #[.int .i32 x0, .int .i32 x1, .int .i32 x2] 25)).alloc (.cells #[.int .i32 0, .int .i32 0, .int .i32 0] 25)) (w.heap.size + 1 + 1) 25 #[.int .i32 0, .int .i32 0, .int .i32 0] := by have := Blk.new ((w.alloc (.cells #[.int .i32 q0, .int .i32 q1, .int .i32 q2, .int .i32 q3] 23)).alloc (.cells #[.int .i32 x0, .int .i32 x1, .int .i32 x2] 25)) 25 #[.int .i32 0, .int .i32 0, .int .i32 0]; simpa using this
  have hb : Below w.heap.size w (((w.alloc (.cells #[.int .i32 q0, .int .i32 q1, .int .i32 q2, .int .i32 q3] 23)).alloc (.cells #[.int .i32 x0, .int .i32 x1, .int .i32 x2] 25)).alloc (.cells #[.int .i32 0, .int .i32 0, .int .i32 0] 25)) := (((Below.refl _ w).alloc (Nat.le_refl _) _).alloc (by simp) _).alloc (by simp; omega) _
  have x0_ : ((((w.alloc (.cells #[.int .i32 q0, .int .i32 q1, .int .i32 q2, .int .i32 q3] 23)).alloc (.cells #[.int .i32 x0, .int .i32 x1, .int .i32 x2] 25)).alloc (.cells #[.int .i32 0, .int .i32 0, .int .i32 0] 25))).cell? ⟨w.heap.size + 1, 0, none⟩ = some (.int .i32 x0) := hx.cell 0
  have x1_ : ((((w.alloc (.cells #[.int .i32 q0, .int .i32 q1, .int .i32 q2, .int .i32 q3] 23)).alloc (.cells #[.int .i32 x0, .int .i32 x1, .int .i32 x2] 25)).alloc (.cells #[.int .i32 0, .int .i32 0, .int .i32 0] 25))).cell? ⟨w.heap.size + 1, 1, none⟩ = some (.int .i32 x1) := hx.cell 1
  have x2_ : ((((w.alloc (.cells #[.int .i32 q0, .int .i32 q1, .int .i32 q2, .int .i32 q3] 23)).alloc (.cells #[.int .i32 x0, .int .i32 x1, .int .i32 x2] 25)).alloc (.cells #[.int .i32 0, .int .i32 0, .int .i32 0] 25))).cell? ⟨w.heap.size + 1, 2, none⟩ = some (.int .i32 x2) := hx.cell 2
  go_enter Tryz.func7, Tryz.ntmps7
  go_wp2_with fail
  generalize (((w.alloc (.cells #[.int .i32 q0, .int .i32 q1, .int .i32 q2, .int .i32 q3] 23)).alloc (.cells #[.int .i32 x0, .int .i32 x1, .int .i32 x2] 25)).alloc (.cells #[.int .i32 0, .int .i32 0, .int .i32 0] 25)) = W0 at *
  refine (HL.out _).mono ?_
  rintro e w1 ⟨rfl, b1⟩
  replace hz := hz.below b1 hz.lt
  replace hb := f_on hb b1
  clear hq hx b1 HL
  have d0 : (w1).cell? ⟨w.heap.size + 1 + 1, 0, none⟩ = some (.int .i32 0) := hz.cell 0
  have zz0 := hz.frozen 0
  have d1 : (w1).cell? ⟨w.heap.size + 1 + 1, 1, none⟩ = some (.int .i32 0) := hz.cell 1
  have zz1 := hz.frozen 1
  have d2 : (w1).cell? ⟨w.heap.size + 1 + 1, 2, none⟩ = some (.int .i32 0) := hz.cell 2
  have zz2 := hz.frozen 2
  have hf : Blk (((w1.setCell ⟨w.heap.size + 1 + 1, 0, none⟩ (.int .i32 0)).setCell ⟨w.heap.size + 1 + 1, 1, none⟩ (.int .i32 0)).setCell ⟨w.heap.size + 1 + 1, 2, none⟩ (.int .i32 0)) (w.heap.size + 1 + 1) 25 #[.int .i32 0, .int .i32 0, .int .i32 0] := (((hz.set_ 0 (.int .i32 0)).set_ 1 (.int .i32 0)).set_ 2 (.int .i32 0))
  have hbf : Below w.heap.size w (((w1.setCell ⟨w.heap.size + 1 + 1, 0, none⟩ (.int .i32 0)).setCell ⟨w.heap.size + 1 + 1, 1, none⟩ (.int .i32 0)).setCell ⟨w.heap.size + 1 + 1, 2, none⟩ (.int .i32 0)) := (((hb.sc (w.heap.size + 1 + 1) 0 (by omega) (.int .i32 0)).sc (w.heap.size + 1 + 1) 1 (by omega) (.int .i32 0)).sc (w.heap.size + 1 + 1) 2 (by omega) (.int .i32 0))
  go_wp2
  generalize (((w1.setCell ⟨w.heap.size + 1 + 1, 0, none⟩ (.int .i32 0)).setCell ⟨w.heap.size + 1 + 1, 1, none⟩ (.int .i32 0)).setCell ⟨w.heap.size + 1 + 1, 2, none⟩ (.int .i32 0)) = wf at *
  have f0 : wf.cell? ⟨w.heap.size + 1 + 1, 0, none⟩ = some (.int .i32 0) := hf.cell 0
  have f1 : wf.cell? ⟨w.heap.size + 1 + 1, 1, none⟩ = some (.int .i32 0) := hf.cell 1
  have f2 : wf.cell? ⟨w.heap.size + 1 + 1, 2, none⟩ = some (.int .i32 0) := hf.cell 2
  simp [bodyPost, results, Tryz.results7, go_sem, f0, f1, f2]
  exact hbf
set_option maxRecDepth 20000 in
set_option maxHeartbeats 8000000 in
theorem f_ErrorY (q0 q1 q2 q3 x0 x1 x2 : Int) (w : World) (iq0 : I32 q0) (iq1 : I32 q1) (iq2 : I32 q2) (iq3 : I32 q3) (ix0 : I32 x0) (ix1 : I32 x1) (ix2 : I32 x2) (h : erOk x0 x1 x2 = true) :
  Calls Tryz.prog 7 #[.agg #[.int .i32 q0, .int .i32 q1, .int .i32 q2, .int .i32 q3], .agg #[.int .i32 x0, .int .i32 x1, .int .i32 x2]] w fun e w' => e = .returned (.tuple #[.agg #[.int .i32 (er0 q0 q1 q2 q3 x0 x1 x2), .int .i32 (er1 q0 q1 q2 q3 x0 x1 x2), .int .i32 (er2 q0 q1 q2 q3 x0 x1 x2)], .bool true]) ∧ Below w.heap.size w w' := by
 have HL := hid fun w => v_Length x0 x1 x2 w ix0 ix1 ix2
 have h1 := fun w => v_Unit x0 x1 x2 w ix0 ix1 ix2
 unfold Makes3 at h1
 have h2 := fun w => t_Up q0 q1 q2 q3 w iq0 iq1 iq2 iq3
 unfold Ups at h2
 unfold erOk erL at h
 have u0 := make_x32 x0 x1 x2 x0 ix0 ix1 ix2 (by simp)
 have u1 := make_x32 x0 x1 x2 x1 ix0 ix1 ix2 (by simp)
 have u2 := make_x32 x0 x1 x2 x2 ix0 ix1 ix2 (by simp)
 have v0 : I32 (clampP (upX q0 q1 q2 q3)) := clampP_bd _
 have v1 : I32 (clampP (upY q0 q1 q2 q3)) := clampP_bd _
 have v2 : I32 (clampP (upZ q0 q1 q2 q3)) := clampP_bd _
 have hE : Hid (er0 q0 q1 q2 q3 x0 x1 x2 = paP (makeP [x0, x1, x2] x1) (clampP (upZ q0 q1 q2 q3)) (makeP [x0, x1, x2] x2) (clampP (upY q0 q1 q2 q3)) ∧ er1 q0 q1 q2 q3 x0 x1 x2 = paP (makeP [x0, x1, x2] x2) (clampP (upX q0 q1 q2 q3)) (makeP [x0, x1, x2] x0) (clampP (upZ q0 q1 q2 q3)) ∧ er2 q0 q1 q2 q3 x0 x1 x2 = paP (makeP [x0, x1, x2] x0) (clampP (upY q0 q1 q2 q3)) (makeP [x0, x1, x2] x1) (clampP (upX q0 q1 q2 q3))) := ⟨rfl, rfl, rfl⟩
 generalize makeP [x0, x1, x2] x0 = s0 at *
 generalize clampP (upX q0 q1 q2 q3) = t0 at *
 generalize makeP [x0, x1, x2] x1 = s1 at *
 generalize clampP (upY q0 q1 q2 q3) = t1 at *
 generalize makeP [x0, x1, x2] x2 = s2 at *
 generalize clampP (upZ q0 q1 q2 q3) = t2 at *
 rw [hE.out.1, hE.out.2.1, hE.out.2.2]
 clear hE
 have HP0 := hid fun w => f_part s1 t2 s2 t1 w u1 v2 u2 v1
 have HP1 := hid fun w => f_part s2 t0 s0 t2 w u2 v0 u0 v2
 have HP2 := hid fun w => f_part s0 t1 s1 t0 w u0 v1 u1 v0
 generalize paP s1 t2 s2 t1 = p0 at *
 generalize paP s2 t0 s0 t2 = p1 at *
 generalize paP s0 t1 s1 t0 = p2 at *
 generalize rootP (sqP [x0, x1, x2]) = L at *
 generalize decide (0 < farP [x0, x1, x2]) = far at *
 have H1 := hid h1
 have H2 := hid h2
 have e1 : decide (L < 32768) = false := decide_eq_false (by intro k; rw [decide_eq_false (show ¬ 32768 ≤ L by omega)] at h; cases h)
 have e2 : decide (98304 < L) = false := decide_eq_false (by intro k; rw [decide_eq_false (show ¬ L ≤ 98304 by omega), Bool.and_false] at h; cases h)
 clear h h1 h2 u0 u1 u2 v0 v1 v2 iq0 iq1 iq2 iq3 ix0 ix1 ix2
 have hq : Blk (((w.alloc (.cells #[.int .i32 q0, .int .i32 q1, .int .i32 q2, .int .i32 q3] 23)).alloc (.cells #[.int .i32 x0, .int .i32 x1, .int .i32 x2] 25)).alloc (.cells #[.int .i32 0, .int .i32 0, .int .i32 0] 25)) w.heap.size 23 #[.int .i32 q0, .int .i32 q1, .int .i32 q2, .int .i32 q3] := ((Blk.new w _ _).alloc _).alloc _
 have hx : Blk (((w.alloc (.cells #[.int .i32 q0, .int .i32 q1, .int .i32 q2, .int .i32 q3] 23)).alloc (.cells #[.int .i32 x0, .int .i32 x1, .int .i32 x2] 25)).alloc (.cells #[.int .i32 0, .int .i32 0, .int .i32 0] 25)) (w.heap.size + 1) 25 #[.int .i32 x0, .int .i32 x1, .int .i32 x2] := by have := (Blk.new (w.alloc (.cells #[.int .i32 q0, .int .i32 q1, .int .i32 q2, .int .i32 q3] 23)) 25 #[.int .i32 x0, .int .i32 x1, .int .i32 x2]).alloc (.cells #[.int .i32 0, .int .i32 0, .int .i32 0] 25); simpa using this
 have hz : Blk (((w.alloc (.cells #[.int .i32 q0, .int .i32 q1, .int .i32 q2, .int .i32 q3] 23)).alloc (.cells #[.int .i32 x0, .int .i32 x1, .int .i32 x2] 25)).alloc (.cells #[.int .i32 0, .int .i32 0, .int .i32 0] 25)) (w.heap.size + 1 + 1) 25 #[.int .i32 0, .int .i32 0, .int .i32 0] := by have := Blk.new ((w.alloc (.cells #[.int .i32 q0, .int .i32 q1, .int .i32 q2, .int .i32 q3] 23)).alloc (.cells #[.int .i32 x0, .int .i32 x1, .int .i32 x2] 25)) 25 #[.int .i32 0, .int .i32 0, .int .i32 0]; simpa using this
 have hb : Below w.heap.size w (((w.alloc (.cells #[.int .i32 q0, .int .i32 q1, .int .i32 q2, .int .i32 q3] 23)).alloc (.cells #[.int .i32 x0, .int .i32 x1, .int .i32 x2] 25)).alloc (.cells #[.int .i32 0, .int .i32 0, .int .i32 0] 25)) := (((Below.refl _ w).alloc (Nat.le_refl _) _).alloc (by simp) _).alloc (by simp; omega) _
 have x0_ : ((((w.alloc (.cells #[.int .i32 q0, .int .i32 q1, .int .i32 q2, .int .i32 q3] 23)).alloc (.cells #[.int .i32 x0, .int .i32 x1, .int .i32 x2] 25)).alloc (.cells #[.int .i32 0, .int .i32 0, .int .i32 0] 25))).cell? ⟨w.heap.size + 1, 0, none⟩ = some (.int .i32 x0) := hx.cell 0
 have x1_ : ((((w.alloc (.cells #[.int .i32 q0, .int .i32 q1, .int .i32 q2, .int .i32 q3] 23)).alloc (.cells #[.int .i32 x0, .int .i32 x1, .int .i32 x2] 25)).alloc (.cells #[.int .i32 0, .int .i32 0, .int .i32 0] 25))).cell? ⟨w.heap.size + 1, 1, none⟩ = some (.int .i32 x1) := hx.cell 1
 have x2_ : ((((w.alloc (.cells #[.int .i32 q0, .int .i32 q1, .int .i32 q2, .int .i32 q3] 23)).alloc (.cells #[.int .i32 x0, .int .i32 x1, .int .i32 x2] 25)).alloc (.cells #[.int .i32 0, .int .i32 0, .int .i32 0] 25))).cell? ⟨w.heap.size + 1, 2, none⟩ = some (.int .i32 x2) := hx.cell 2
 go_enter Tryz.func7, Tryz.ntmps7
 go_wp2_with fail
 clear x0_ x1_ x2_
 generalize (((w.alloc (.cells #[.int .i32 q0, .int .i32 q1, .int .i32 q2, .int .i32 q3] 23)).alloc (.cells #[.int .i32 x0, .int .i32 x1, .int .i32 x2] 25)).alloc (.cells #[.int .i32 0, .int .i32 0, .int .i32 0] 25)) = W0 at *
 refine (HL.out _).mono ?_
 rintro e w1 ⟨rfl, b1⟩
 replace hq := hq.below b1 hq.lt
 replace hx := hx.below b1 hx.lt
 replace hz := hz.below b1 hz.lt
 replace hb := f_on hb b1
 clear b1 HL
 have x0_ : (w1).cell? ⟨w.heap.size + 1, 0, none⟩ = some (.int .i32 x0) := hx.cell 0
 have x1_ : (w1).cell? ⟨w.heap.size + 1, 1, none⟩ = some (.int .i32 x1) := hx.cell 1
 have x2_ : (w1).cell? ⟨w.heap.size + 1, 2, none⟩ = some (.int .i32 x2) := hx.cell 2
 go_wp2_with fail
 clear x0_ x1_ x2_
 refine (H1.out _).mono ?_
 rintro e w2 ⟨rfl, b2⟩
 replace hq := hq.below b2 hq.lt
 replace hz := hz.below b2 hz.lt
 replace hb := f_on hb b2
 clear b2 H1 hx
 have lq := hq.lt
 have lz := hz.lt
 have lb := hb.size
 replace hq := hq.alloc (.cells #[.int .i32 s0, .int .i32 s1, .int .i32 s2] 25)
 replace hz := hz.alloc (.cells #[.int .i32 s0, .int .i32 s1, .int .i32 s2] 25)
 have hs := Blk.new w2 25 #[.int .i32 s0, .int .i32 s1, .int .i32 s2]
 replace hb := hb.alloc hb.size (.cells #[.int .i32 s0, .int .i32 s1, .int .i32 s2] 25)
 go_upto_region 5 with fail
 generalize (w2.alloc (.cells #[.int .i32 s0, .int .i32 s1, .int .i32 s2] 25)) = W2 at *
 generalize w2.heap.size = gs at *
 have y0_ : W2.cell? ⟨w.heap.size, 0, none⟩ = some (.int .i32 q0) := hq.cell 0
 have y1_ : W2.cell? ⟨w.heap.size, 1, none⟩ = some (.int .i32 q1) := hq.cell 1
 have y2_ : W2.cell? ⟨w.heap.size, 2, none⟩ = some (.int .i32 q2) := hq.cell 2
 have y3_ : W2.cell? ⟨w.heap.size, 3, none⟩ = some (.int .i32 q3) := hq.cell 3
 go_wp2_with fail
 clear y0_ y1_ y2_ y3_
 refine (H2.out _).mono ?_
 rintro e w3 ⟨rfl, b3⟩
 replace hs := hs.below b3 hs.lt
 replace hz := hz.below b3 hz.lt
 replace hb := f_on hb b3
 clear b3 H2 hq
 have ls := hs.lt
 have lz3 := hz.lt
 have lb3 := hb.size
 replace hs := hs.alloc (.cells #[.int .i32 t0, .int .i32 t1, .int .i32 t2] 25)
 replace hz := hz.alloc (.cells #[.int .i32 t0, .int .i32 t1, .int .i32 t2] 25)
 have ht := Blk.new w3 25 #[.int .i32 t0, .int .i32 t1, .int .i32 t2]
 replace hb := hb.alloc hb.size (.cells #[.int .i32 t0, .int .i32 t1, .int .i32 t2] 25)
 go_upto_region 6 with fail
 generalize (w3.alloc (.cells #[.int .i32 t0, .int .i32 t1, .int .i32 t2] 25)) = W3 at *
 generalize w3.heap.size = gt at *
 refine wp_region_noPanic ?_
 refine wp_region_held_drew (S := (fun w' : World => w'.cell? ⟨gs, 0, none⟩ = some (.int .i32 s0) ∧ w'.cell? ⟨gs, 1, none⟩ = some (.int .i32 s1) ∧ w'.cell? ⟨gs, 2, none⟩ = some (.int .i32 s2) ∧ w'.cell? ⟨gt, 0, none⟩ = some (.int .i32 t0) ∧ w'.cell? ⟨gt, 1, none⟩ = some (.int .i32 t1) ∧ w'.cell? ⟨gt, 2, none⟩ = some (.int .i32 t2))) (by kernel_rfl) ⟨hs.cell 0, hs.cell 1, hs.cell 2, ht.cell 0, ht.cell 1, ht.cell 2⟩ (fun hH => ?_)
 refine (show wpAnyH _ _ _ _ _ 30 _ _ _ from ?_)
 try (simp only [Act.put, List.setIfInBounds_toArray, List.set_cons_zero, List.set_cons_succ])
 replace hs := hs.drew
 replace ht := ht.drew
 replace hz := hz.drew
 replace hb := hb.drew
 generalize W3.drew = V0 at *
 refine tk 0 hH ?_
 refine tk 1 hH ?_
 refine tk 2 hH ?_
 refine tk 3 hH ?_
 refine tk 4 hH ?_
 refine tk 5 hH ?_
 refine tk 6 hH ?_
 refine tk 7 hH ?_
 refine tk 9 hH ?_
 refine tk 10 hH ?_
 refine tk 11 hH ?_
 refine tk 12 hH ?_
 refine tk 13 hH ?_
 refine tk 14 hH ?_
 refine tk 15 hH ?_
 refine tk 16 hH ?_
 refine tk 18 hH ?_
 refine tk 19 hH ?_
 refine tk 20 hH ?_
 refine tk 21 hH ?_
 refine tk 22 hH ?_
 refine tk 23 hH ?_
 refine tk 24 hH ?_
 refine tk 25 hH ?_
 refine rd1 8 (fun K hK => ?_)
 go_simp
 refine (HP0.out _).mono ?_
 rintro e V1 ⟨rfl, bb⟩
 go_wp2_with fail
 replace hs := hs.below bb hs.lt
 replace ht := ht.below bb ht.lt
 replace hz := hz.below bb hz.lt
 replace hb := f_on hb bb
 clear bb
 refine hK.out _ _ ⟨hs.cell 0, hs.cell 1, hs.cell 2, ht.cell 0, ht.cell 1, ht.cell 2⟩ (fun hH => ?_)
 clear hK K
 try (simp only [Act.put, List.setIfInBounds_toArray, List.set_cons_zero, List.set_cons_succ])
 refine rd1 17 (fun K hK => ?_)
 go_simp
 refine (HP1.out _).mono ?_
 rintro e V2 ⟨rfl, bb⟩
 go_wp2_with fail
 replace hs := hs.below bb hs.lt
 replace ht := ht.below bb ht.lt
 replace hz := hz.below bb hz.lt
 replace hb := f_on hb bb
 clear bb
 refine hK.out _ _ ⟨hs.cell 0, hs.cell 1, hs.cell 2, ht.cell 0, ht.cell 1, ht.cell 2⟩ (fun hH => ?_)
 clear hK K
 try (simp only [Act.put, List.setIfInBounds_toArray, List.set_cons_zero, List.set_cons_succ])
 refine rd1 26 (fun K hK => ?_)
 go_simp
 refine (HP2.out _).mono ?_
 rintro e V3 ⟨rfl, bb⟩
 go_wp2_with fail
 replace hs := hs.below bb hs.lt
 replace ht := ht.below bb ht.lt
 replace hz := hz.below bb hz.lt
 replace hb := f_on hb bb
 clear bb
 refine hK.out _ _ ⟨hs.cell 0, hs.cell 1, hs.cell 2, ht.cell 0, ht.cell 1, ht.cell 2⟩ (fun hH => ?_)
 clear hK K
 try (simp only [Act.put, List.setIfInBounds_toArray, List.set_cons_zero, List.set_cons_succ])
 refine tk 27 hH ?_
 refine rd1 28 (fun K hK => ?_)
 have cc0 : V3.cell? ⟨w.heap.size + 1 + 1, 0, none⟩ = some (.int .i32 0) := hz.cell 0
 have zz0 := hz.frozen 0
 have cc1 : V3.cell? ⟨w.heap.size + 1 + 1, 1, none⟩ = some (.int .i32 0) := hz.cell 1
 have zz1 := hz.frozen 1
 have cc2 : V3.cell? ⟨w.heap.size + 1 + 1, 2, none⟩ = some (.int .i32 0) := hz.cell 2
 have zz2 := hz.frozen 2
 go_simp
 try go_wp2_with fail
 clear cc0 cc1 cc2 zz0 zz1 zz2
 have hf : Blk (((V3.setCell ⟨w.heap.size + 1 + 1, 0, none⟩ (.int .i32 p0)).setCell ⟨w.heap.size + 1 + 1, 1, none⟩ (.int .i32 p1)).setCell ⟨w.heap.size + 1 + 1, 2, none⟩ (.int .i32 p2)) (w.heap.size + 1 + 1) 25 #[.int .i32 p0, .int .i32 p1, .int .i32 p2] := (((hz.set_ 0 (.int .i32 p0)).set_ 1 (.int .i32 p1)).set_ 2 (.int .i32 p2))
 have hbf : Below w.heap.size w (((V3.setCell ⟨w.heap.size + 1 + 1, 0, none⟩ (.int .i32 p0)).setCell ⟨w.heap.size + 1 + 1, 1, none⟩ (.int .i32 p1)).setCell ⟨w.heap.size + 1 + 1, 2, none⟩ (.int .i32 p2)) := (((hb.sc (w.heap.size + 1 + 1) 0 (by omega) (.int .i32 p0)).sc (w.heap.size + 1 + 1) 1 (by omega) (.int .i32 p1)).sc (w.heap.size + 1 + 1) 2 (by omega) (.int .i32 p2))
 replace hs := (((hs.fr (w.heap.size + 1 + 1) 0 (by omega) (.int .i32 p0)).fr (w.heap.size + 1 + 1) 1 (by omega) (.int .i32 p1)).fr (w.heap.size + 1 + 1) 2 (by omega) (.int .i32 p2))
 replace ht := (((ht.fr (w.heap.size + 1 + 1) 0 (by omega) (.int .i32 p0)).fr (w.heap.size + 1 + 1) 1 (by omega) (.int .i32 p1)).fr (w.heap.size + 1 + 1) 2 (by omega) (.int .i32 p2))
 generalize (((V3.setCell ⟨w.heap.size + 1 + 1, 0, none⟩ (.int .i32 p0)).setCell ⟨w.heap.size + 1 + 1, 1, none⟩ (.int .i32 p1)).setCell ⟨w.heap.size + 1 + 1, 2, none⟩ (.int .i32 p2)) = wf at *
 refine hK.out _ _ ⟨hs.cell 0, hs.cell 1, hs.cell 2, ht.cell 0, ht.cell 1, ht.cell 2⟩ (fun hH => ?_)
 clear hK K
 try (simp only [Act.put, List.setIfInBounds_toArray, List.set_cons_zero, List.set_cons_succ])
 refine tk 29 hH ?_
 refine wpAnyH_done (by kernel_rfl) ?_ _
 refine NoPanic.normal ?_
 have f0 : wf.cell? ⟨w.heap.size + 1 + 1, 0, none⟩ = some (.int .i32 p0) := hf.cell 0
 have f1 : wf.cell? ⟨w.heap.size + 1 + 1, 1, none⟩ = some (.int .i32 p1) := hf.cell 1
 have f2 : wf.cell? ⟨w.heap.size + 1 + 1, 2, none⟩ = some (.int .i32 p2) := hf.cell 2
 go_wp2
 simp [bodyPost, results, Tryz.results7, go_sem, f0, f1, f2]
 exact hbf
end Go.Proofs.YtgmepohfkpncmaaGreat
