/- Chapter 42: a state as the document's. -/
import Derived.Test.YtgmepohfkpncmaaGreatFuseL
import Derived.Test.YtgmepohfkpncmaaGreatFuseR
import Derived.Test.YtgmepohfkpncmaaGreatFuseJ
namespace Go.Proofs.YtgmepohfkpncmaaGreat
open Go.RowKit
set_option linter.unusedVariables false
set_option linter.unusedSimpArgs false

theorem rf_Step (n c q0 q1 q2 q3 b0 b1 b2 y0 y1 y2 x0 x1 x2 d : Int) (w : World) (iq0 : I32 q0) (iq1 : I32 q1) (iq2 : I32 q2) (iq3 : I32 q3) (ib0 : I32 b0) (ib1 : I32 b1) (ib2 : I32 b2) (iy0 : I32 y0) (iy1 : I32 y1) (iy2 : I32 y2) (ix0 : I32 x0) (ix1 : I32 x1) (ix2 : I32 x2) (id : I32 d) (hn : 0 ≤ n ∧ n ≤ 1099511627776) (hc : 0 ≤ c ∧ c ≤ 1099511628800) :
  Calls Tryz.prog 11 #[.agg #[.int .i32 q0, .int .i32 q1, .int .i32 q2, .int .i32 q3, .int .i32 b0, .int .i32 b1, .int .i32 b2, .int .i64 n, .int .i64 c], .agg #[.int .i32 y0, .int .i32 y1, .int .i32 y2], .agg #[.int .i32 x0, .int .i32 x1, .int .i32 x2], .int .i32 d] w (Fused n c q0 q1 q2 q3 b0 b1 b2 y0 y1 y2 x0 x1 x2 d w) := by
 cases h : erOk x0 x1 x2
 ·exact rf_StepN n c q0 q1 q2 q3 b0 b1 b2 y0 y1 y2 x0 x1 x2 d w iq0 iq1 iq2 iq3 ib0 ib1 ib2 iy0 iy1 iy2 ix0 ix1 ix2 id hn hc h
 ·exact rf_StepY n c q0 q1 q2 q3 b0 b1 b2 y0 y1 y2 x0 x1 x2 d w iq0 iq1 iq2 iq3 ib0 ib1 ib2 iy0 iy1 iy2 ix0 ix1 ix2 id hn hc h
set_option maxRecDepth 20000 in
set_option maxHeartbeats 8000000 in
theorem f_own (q0 q1 q2 q3 b0 b1 b2 n c : Int) (w : World) :
  Calls Tryz.prog 9 #[.agg #[.int .i32 q0, .int .i32 q1, .int .i32 q2, .int .i32 q3, .int .i32 b0, .int .i32 b1, .int .i32 b2, .int .i64 n, .int .i64 c]] w fun e w' => e = .returned (.agg #[.int .i32 q0, .int .i32 q1, .int .i32 q2, .int .i32 q3, .int .i32 b0, .int .i32 b1, .int .i32 b2, .int .i64 n, .int .i64 c]) ∧ Below w.heap.size w w' := by
 have hs : Blk ((w.alloc (.cells #[.int .i32 q0, .int .i32 q1, .int .i32 q2, .int .i32 q3, .int .i32 b0, .int .i32 b1, .int .i32 b2, .int .i64 n, .int .i64 c] 34)).alloc (.cells #[.int .i32 0, .int .i32 0, .int .i32 0, .int .i32 0, .int .i32 0, .int .i32 0, .int .i32 0, .int .i64 0, .int .i64 0] 27)) w.heap.size 34 #[.int .i32 q0, .int .i32 q1, .int .i32 q2, .int .i32 q3, .int .i32 b0, .int .i32 b1, .int .i32 b2, .int .i64 n, .int .i64 c] := (Blk.new w _ _).alloc _
 have hz : Blk ((w.alloc (.cells #[.int .i32 q0, .int .i32 q1, .int .i32 q2, .int .i32 q3, .int .i32 b0, .int .i32 b1, .int .i32 b2, .int .i64 n, .int .i64 c] 34)).alloc (.cells #[.int .i32 0, .int .i32 0, .int .i32 0, .int .i32 0, .int .i32 0, .int .i32 0, .int .i32 0, .int .i64 0, .int .i64 0] 27)) (w.heap.size + 1) 27 #[.int .i32 0, .int .i32 0, .int .i32 0, .int .i32 0, .int .i32 0, .int .i32 0, .int .i32 0, .int .i64 0, .int .i64 0] := by have := Blk.new (w.alloc (.cells #[.int .i32 q0, .int .i32 q1, .int .i32 q2, .int .i32 q3, .int .i32 b0, .int .i32 b1, .int .i32 b2, .int .i64 n, .int .i64 c] 34)) 27 #[.int .i32 0, .int .i32 0, .int .i32 0, .int .i32 0, .int .i32 0, .int .i32 0, .int .i32 0, .int .i64 0, .int .i64 0]; simpa using this
 have hb : Below w.heap.size w ((w.alloc (.cells #[.int .i32 q0, .int .i32 q1, .int .i32 q2, .int .i32 q3, .int .i32 b0, .int .i32 b1, .int .i32 b2, .int .i64 n, .int .i64 c] 34)).alloc (.cells #[.int .i32 0, .int .i32 0, .int .i32 0, .int .i32 0, .int .i32 0, .int .i32 0, .int .i32 0, .int .i64 0, .int .i64 0] 27)) := ((Below.refl _ w).alloc (Nat.le_refl _) _).alloc (by simp) _
 go_enter Tryz.func9, Tryz.ntmps9
 go_upto_region 1 with fail
 generalize ((w.alloc (.cells #[.int .i32 q0, .int .i32 q1, .int .i32 q2, .int .i32 q3, .int .i32 b0, .int .i32 b1, .int .i32 b2, .int .i64 n, .int .i64 c] 34)).alloc (.cells #[.int .i32 0, .int .i32 0, .int .i32 0, .int .i32 0, .int .i32 0, .int .i32 0, .int .i32 0, .int .i64 0, .int .i64 0] 27)) = W0 at *
 have s0_ : W0.cell? ⟨w.heap.size, 0, none⟩ = some (.int .i32 q0) := hs.cell 0
 have r0_ : W0.cell? ⟨w.heap.size + 1, 0, none⟩ = some (.int .i32 0) := hz.cell 0
 have z0_ := hz.frozen 0
 have s1_ : W0.cell? ⟨w.heap.size, 1, none⟩ = some (.int .i32 q1) := hs.cell 1
 have r1_ : W0.cell? ⟨w.heap.size + 1, 1, none⟩ = some (.int .i32 0) := hz.cell 1
 have z1_ := hz.frozen 1
 have s2_ : W0.cell? ⟨w.heap.size, 2, none⟩ = some (.int .i32 q2) := hs.cell 2
 have r2_ : W0.cell? ⟨w.heap.size + 1, 2, none⟩ = some (.int .i32 0) := hz.cell 2
 have z2_ := hz.frozen 2
 have s3_ : W0.cell? ⟨w.heap.size, 3, none⟩ = some (.int .i32 q3) := hs.cell 3
 have r3_ : W0.cell? ⟨w.heap.size + 1, 3, none⟩ = some (.int .i32 0) := hz.cell 3
 have z3_ := hz.frozen 3
 have s4_ : W0.cell? ⟨w.heap.size, 4, none⟩ = some (.int .i32 b0) := hs.cell 4
 have r4_ : W0.cell? ⟨w.heap.size + 1, 4, none⟩ = some (.int .i32 0) := hz.cell 4
 have z4_ := hz.frozen 4
 have s5_ : W0.cell? ⟨w.heap.size, 5, none⟩ = some (.int .i32 b1) := hs.cell 5
 have r5_ : W0.cell? ⟨w.heap.size + 1, 5, none⟩ = some (.int .i32 0) := hz.cell 5
 have z5_ := hz.frozen 5
 have s6_ : W0.cell? ⟨w.heap.size, 6, none⟩ = some (.int .i32 b2) := hs.cell 6
 have r6_ : W0.cell? ⟨w.heap.size + 1, 6, none⟩ = some (.int .i32 0) := hz.cell 6
 have z6_ := hz.frozen 6
 have s7_ : W0.cell? ⟨w.heap.size, 7, none⟩ = some (.int .i64 n) := hs.cell 7
 have r7_ : W0.cell? ⟨w.heap.size + 1, 7, none⟩ = some (.int .i64 0) := hz.cell 7
 have z7_ := hz.frozen 7
 have s8_ : W0.cell? ⟨w.heap.size, 8, none⟩ = some (.int .i64 c) := hs.cell 8
 have r8_ : W0.cell? ⟨w.heap.size + 1, 8, none⟩ = some (.int .i64 0) := hz.cell 8
 have z8_ := hz.frozen 8
 have hf : Blk (((((((((W0.setCell ⟨w.heap.size + 1, 0, none⟩ (.int .i32 q0)).setCell ⟨w.heap.size + 1, 1, none⟩ (.int .i32 q1)).setCell ⟨w.heap.size + 1, 2, none⟩ (.int .i32 q2)).setCell ⟨w.heap.size + 1, 3, none⟩ (.int .i32 q3)).setCell ⟨w.heap.size + 1, 4, none⟩ (.int .i32 b0)).setCell ⟨w.heap.size + 1, 5, none⟩ (.int .i32 b1)).setCell ⟨w.heap.size + 1, 6, none⟩ (.int .i32 b2)).setCell ⟨w.heap.size + 1, 7, none⟩ (.int .i64 n)).setCell ⟨w.heap.size + 1, 8, none⟩ (.int .i64 c)) (w.heap.size + 1) 27 #[.int .i32 q0, .int .i32 q1, .int .i32 q2, .int .i32 q3, .int .i32 b0, .int .i32 b1, .int .i32 b2, .int .i64 n, .int .i64 c] := (((((((((hz.set_ 0 (.int .i32 q0)).set_ 1 (.int .i32 q1)).set_ 2 (.int .i32 q2)).set_ 3 (.int .i32 q3)).set_ 4 (.int .i32 b0)).set_ 5 (.int .i32 b1)).set_ 6 (.int .i32 b2)).set_ 7 (.int .i64 n)).set_ 8 (.int .i64 c))
 have hbf : Below w.heap.size w (((((((((W0.setCell ⟨w.heap.size + 1, 0, none⟩ (.int .i32 q0)).setCell ⟨w.heap.size + 1, 1, none⟩ (.int .i32 q1)).setCell ⟨w.heap.size + 1, 2, none⟩ (.int .i32 q2)).setCell ⟨w.heap.size + 1, 3, none⟩ (.int .i32 q3)).setCell ⟨w.heap.size + 1, 4, none⟩ (.int .i32 b0)).setCell ⟨w.heap.size + 1, 5, none⟩ (.int .i32 b1)).setCell ⟨w.heap.size + 1, 6, none⟩ (.int .i32 b2)).setCell ⟨w.heap.size + 1, 7, none⟩ (.int .i64 n)).setCell ⟨w.heap.size + 1, 8, none⟩ (.int .i64 c)) := (((((((((hb.sc (w.heap.size + 1) 0 (by omega) (.int .i32 q0)).sc (w.heap.size + 1) 1 (by omega) (.int .i32 q1)).sc (w.heap.size + 1) 2 (by omega) (.int .i32 q2)).sc (w.heap.size + 1) 3 (by omega) (.int .i32 q3)).sc (w.heap.size + 1) 4 (by omega) (.int .i32 b0)).sc (w.heap.size + 1) 5 (by omega) (.int .i32 b1)).sc (w.heap.size + 1) 6 (by omega) (.int .i32 b2)).sc (w.heap.size + 1) 7 (by omega) (.int .i64 n)).sc (w.heap.size + 1) 8 (by omega) (.int .i64 c))
 go_wp2
 generalize (((((((((W0.setCell ⟨w.heap.size + 1, 0, none⟩ (.int .i32 q0)).setCell ⟨w.heap.size + 1, 1, none⟩ (.int .i32 q1)).setCell ⟨w.heap.size + 1, 2, none⟩ (.int .i32 q2)).setCell ⟨w.heap.size + 1, 3, none⟩ (.int .i32 q3)).setCell ⟨w.heap.size + 1, 4, none⟩ (.int .i32 b0)).setCell ⟨w.heap.size + 1, 5, none⟩ (.int .i32 b1)).setCell ⟨w.heap.size + 1, 6, none⟩ (.int .i32 b2)).setCell ⟨w.heap.size + 1, 7, none⟩ (.int .i64 n)).setCell ⟨w.heap.size + 1, 8, none⟩ (.int .i64 c)) = wf at *
 have f0 : wf.cell? ⟨w.heap.size + 1, 0, none⟩ = some (.int .i32 q0) := hf.cell 0
 have f1 : wf.cell? ⟨w.heap.size + 1, 1, none⟩ = some (.int .i32 q1) := hf.cell 1
 have f2 : wf.cell? ⟨w.heap.size + 1, 2, none⟩ = some (.int .i32 q2) := hf.cell 2
 have f3 : wf.cell? ⟨w.heap.size + 1, 3, none⟩ = some (.int .i32 q3) := hf.cell 3
 have f4 : wf.cell? ⟨w.heap.size + 1, 4, none⟩ = some (.int .i32 b0) := hf.cell 4
 have f5 : wf.cell? ⟨w.heap.size + 1, 5, none⟩ = some (.int .i32 b1) := hf.cell 5
 have f6 : wf.cell? ⟨w.heap.size + 1, 6, none⟩ = some (.int .i32 b2) := hf.cell 6
 have f7 : wf.cell? ⟨w.heap.size + 1, 7, none⟩ = some (.int .i64 n) := hf.cell 7
 have f8 : wf.cell? ⟨w.heap.size + 1, 8, none⟩ = some (.int .i64 c) := hf.cell 8
 simp [bodyPost, results, Tryz.results9, go_sem, f0, f1, f2, f3, f4, f5, f6, f7, f8]
 exact hbf
end Go.Proofs.YtgmepohfkpncmaaGreat
