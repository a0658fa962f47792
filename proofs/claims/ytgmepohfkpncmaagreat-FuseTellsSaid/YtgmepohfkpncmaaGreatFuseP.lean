/- Chapter 42: the walk of FuseTells. -/
import Derived.Test.YtgmepohfkpncmaaGreatFuseM
namespace Go.Proofs.YtgmepohfkpncmaaGreat
open Go.RowKit
set_option linter.unusedVariables false
set_option linter.unusedSimpArgs false

def eaP (i : Nat) (q0 q1 q2 q3 x0 x1 x2 : Int) : Int := if erOk x0 x1 x2 = true then (match i with | 0 => er0 q0 q1 q2 q3 x0 x1 x2 | 1 => er1 q0 q1 q2 q3 x0 x1 x2 | _ => er2 q0 q1 q2 q3 x0 x1 x2) else 0
theorem f_ErrorP (q0 q1 q2 q3 x0 x1 x2 : Int) (w : World) (iq0 : I32 q0) (iq1 : I32 q1) (iq2 : I32 q2) (iq3 : I32 q3) (ix0 : I32 x0) (ix1 : I32 x1) (ix2 : I32 x2) :
  Calls Tryz.prog 7 #[.agg #[.int .i32 q0, .int .i32 q1, .int .i32 q2, .int .i32 q3], .agg #[.int .i32 x0, .int .i32 x1, .int .i32 x2]] w fun e w' => e = .returned (.tuple #[.agg #[.int .i32 (eaP 0 q0 q1 q2 q3 x0 x1 x2), .int .i32 (eaP 1 q0 q1 q2 q3 x0 x1 x2), .int .i32 (eaP 2 q0 q1 q2 q3 x0 x1 x2)], .bool (erOk x0 x1 x2)]) ∧ Below w.heap.size w w' := by
 unfold eaP
 cases h : erOk x0 x1 x2
 ·simp only [Bool.false_eq_true, if_false]
  exact f_ErrorN q0 q1 q2 q3 x0 x1 x2 w ix0 ix1 ix2 h
 ·simp only [if_true]
  exact f_ErrorY q0 q1 q2 q3 x0 x1 x2 w iq0 iq1 iq2 iq3 ix0 ix1 ix2 h
theorem rf_ErrorP (q0 q1 q2 q3 x0 x1 x2 : Int) (w : World) (iq0 : I32 q0) (iq1 : I32 q1) (iq2 : I32 q2) (iq3 : I32 q3) (ix0 : I32 x0) (ix1 : I32 x1) (ix2 : I32 x2) :
  Calls Tryz.prog 8 #[.agg #[.int .i32 q0, .int .i32 q1, .int .i32 q2, .int .i32 q3], .agg #[.int .i32 x0, .int .i32 x1, .int .i32 x2]] w fun e w' => e = .returned (.tuple #[.agg #[.int .i32 (eaP 0 q0 q1 q2 q3 x0 x1 x2), .int .i32 (eaP 1 q0 q1 q2 q3 x0 x1 x2), .int .i32 (eaP 2 q0 q1 q2 q3 x0 x1 x2)], .bool (erOk x0 x1 x2)]) ∧ Below w.heap.size w w' := by
 unfold eaP
 cases h : erOk x0 x1 x2
 ·simp only [Bool.false_eq_true, if_false]
  exact rf_ErrorN q0 q1 q2 q3 x0 x1 x2 w ix0 ix1 ix2 h
 ·simp only [if_true]
  exact rf_ErrorY q0 q1 q2 q3 x0 x1 x2 w iq0 iq1 iq2 iq3 ix0 ix1 ix2 h
set_option maxRecDepth 20000 in
set_option maxHeartbeats 16000000 in
theorem fuseTells_walk (q0 q1 q2 q3 b0 b1 b2 n c y0 y1 y2 x0 x1 x2 d : Int) (w : World) (vq0 : (Lit.int .i32 q0).wf = true) (vq1 : (Lit.int .i32 q1).wf = true) (vq2 : (Lit.int .i32 q2).wf = true) (vq3 : (Lit.int .i32 q3).wf = true) (vb0 : (Lit.int .i32 b0).wf = true) (vb1 : (Lit.int .i32 b1).wf = true) (vb2 : (Lit.int .i32 b2).wf = true) (vn : (Lit.int .i64 n).wf = true) (vc : (Lit.int .i64 c).wf = true) (vy0 : (Lit.int .i32 y0).wf = true) (vy1 : (Lit.int .i32 y1).wf = true) (vy2 : (Lit.int .i32 y2).wf = true) (vx0 : (Lit.int .i32 x0).wf = true) (vx1 : (Lit.int .i32 x1).wf = true) (vx2 : (Lit.int .i32 x2).wf = true) (vd : (Lit.int .i32 d).wf = true) :
  Calls Tryz.prog 3 #[.agg #[.int .i32 q0, .int .i32 q1, .int .i32 q2, .int .i32 q3, .int .i32 b0, .int .i32 b1, .int .i32 b2, .int .i64 n, .int .i64 c], .agg #[.int .i32 y0, .int .i32 y1, .int .i32 y2, .int .i32 x0, .int .i32 x1, .int .i32 x2, .int .i32 d]] w fun e w' => e = .returned (.bool true) ∧ Below w.heap.size w w' := by
 have iq0_ : I32 q0 := bounds_i32 vq0
 have iq1_ : I32 q1 := bounds_i32 vq1
 have iq2_ : I32 q2 := bounds_i32 vq2
 have iq3_ : I32 q3 := bounds_i32 vq3
 have ib0_ : I32 b0 := bounds_i32 vb0
 have ib1_ : I32 b1 := bounds_i32 vb1
 have ib2_ : I32 b2 := bounds_i32 vb2
 have iy0_ : I32 y0 := bounds_i32 vy0
 have iy1_ : I32 y1 := bounds_i32 vy1
 have iy2_ : I32 y2 := bounds_i32 vy2
 have ix0_ : I32 x0 := bounds_i32 vx0
 have ix1_ : I32 x1 := bounds_i32 vx1
 have ix2_ : I32 x2 := bounds_i32 vx2
 have id_ : I32 d := bounds_i32 vd
 clear vq0 vq1 vq2 vq3 vb0 vb1 vb2 vn vc vy0 vy1 vy2 vx0 vx1 vx2 vd
 have HK := hid law42_knows
 have hp0 : Blk ((w.alloc (.cells #[.int .i32 q0, .int .i32 q1, .int .i32 q2, .int .i32 q3, .int .i32 b0, .int .i32 b1, .int .i32 b2, .int .i64 n, .int .i64 c] 27)).alloc (.cells #[.int .i32 y0, .int .i32 y1, .int .i32 y2, .int .i32 x0, .int .i32 x1, .int .i32 x2, .int .i32 d] 29)) w.heap.size 27 #[.int .i32 q0, .int .i32 q1, .int .i32 q2, .int .i32 q3, .int .i32 b0, .int .i32 b1, .int .i32 b2, .int .i64 n, .int .i64 c] := (Blk.new w _ _).alloc _
 have hp1 : Blk ((w.alloc (.cells #[.int .i32 q0, .int .i32 q1, .int .i32 q2, .int .i32 q3, .int .i32 b0, .int .i32 b1, .int .i32 b2, .int .i64 n, .int .i64 c] 27)).alloc (.cells #[.int .i32 y0, .int .i32 y1, .int .i32 y2, .int .i32 x0, .int .i32 x1, .int .i32 x2, .int .i32 d] 29)) (w.heap.size + 1) 29 #[.int .i32 y0, .int .i32 y1, .int .i32 y2, .int .i32 x0, .int .i32 x1, .int .i32 x2, .int .i32 d] := by have := Blk.new (w.alloc (.cells #[.int .i32 q0, .int .i32 q1, .int .i32 q2, .int .i32 q3, .int .i32 b0, .int .i32 b1, .int .i32 b2, .int .i64 n, .int .i64 c] 27)) 29 #[.int .i32 y0, .int .i32 y1, .int .i32 y2, .int .i32 x0, .int .i32 x1, .int .i32 x2, .int .i32 d]; simpa using this
 have hb : Below w.heap.size w ((w.alloc (.cells #[.int .i32 q0, .int .i32 q1, .int .i32 q2, .int .i32 q3, .int .i32 b0, .int .i32 b1, .int .i32 b2, .int .i64 n, .int .i64 c] 27)).alloc (.cells #[.int .i32 y0, .int .i32 y1, .int .i32 y2, .int .i32 x0, .int .i32 x1, .int .i32 x2, .int .i32 d] 29)) := ((Below.refl _ w).alloc (Nat.le_refl _) _).alloc (by simp) _
 by_cases g : 0 ≤ n ∧ n ≤ 1099511627776 ∧ 0 ≤ c ∧ c ≤ 1099511627776
 ·obtain ⟨g0, g1, g2, g3⟩ := g
  have HM := hid fun w => f_mayY q0 q1 q2 q3 b0 b1 b2 n c w g0 g1 g2 g3
  have hs := fun w => f_Step n c q0 q1 q2 q3 b0 b1 b2 y0 y1 y2 x0 x1 x2 d w iq0_ iq1_ iq2_ iq3_ ib0_ ib1_ ib2_ iy0_ iy1_ iy2_ ix0_ ix1_ ix2_ id_ ⟨g0, g1⟩ ⟨g2, by omega⟩
  have hr := fun w => rf_Step n c q0 q1 q2 q3 b0 b1 b2 y0 y1 y2 x0 x1 x2 d w iq0_ iq1_ iq2_ iq3_ ib0_ ib1_ ib2_ iy0_ iy1_ iy2_ ix0_ ix1_ ix2_ id_ ⟨g0, g1⟩ ⟨g2, by omega⟩
  unfold Fused at hs hr
  have h1 := fun w => f_ErrorP q0 q1 q2 q3 x0 x1 x2 w iq0_ iq1_ iq2_ iq3_ ix0_ ix1_ ix2_
  have h2 := fun w => rf_ErrorP q0 q1 q2 q3 x0 x1 x2 w iq0_ iq1_ iq2_ iq3_ ix0_ ix1_ ix2_
  have hw := fun w => f_WordP n c q0 q1 q2 q3 b0 b1 b2 w iq0_ iq1_ iq2_ iq3_
  have hv := fun w => rf_WordP n c q0 q1 q2 q3 b0 b1 b2 w iq0_ iq1_ iq2_ iq3_
  generalize stepQ 0 1073741824 q0 q1 q2 q3 b0 b1 b2 y0 y1 y2 x0 x1 x2 d = t0 at *
  generalize stepQ 1 0 q0 q1 q2 q3 b0 b1 b2 y0 y1 y2 x0 x1 x2 d = t1 at *
  generalize stepQ 2 0 q0 q1 q2 q3 b0 b1 b2 y0 y1 y2 x0 x1 x2 d = t2 at *
  generalize stepQ 3 0 q0 q1 q2 q3 b0 b1 b2 y0 y1 y2 x0 x1 x2 d = t3 at *
  generalize stepB 0 q0 q1 q2 q3 b0 b1 b2 y0 y1 y2 x0 x1 x2 d = k0 at *
  generalize stepB 1 q0 q1 q2 q3 b0 b1 b2 y0 y1 y2 x0 x1 x2 d = k1 at *
  generalize stepB 2 q0 q1 q2 q3 b0 b1 b2 y0 y1 y2 x0 x1 x2 d = k2 at *
  generalize stepN q0 q1 q2 q3 b0 b1 b2 y0 y1 y2 x0 x1 x2 d = sn at *
  generalize eaP 0 q0 q1 q2 q3 x0 x1 x2 = e0 at *
  generalize eaP 1 q0 q1 q2 q3 x0 x1 x2 = e1 at *
  generalize eaP 2 q0 q1 q2 q3 x0 x1 x2 = e2 at *
  generalize erOk x0 x1 x2 = ok at *
  generalize worP q0 q1 q2 q3 = P at *
  generalize c + sn = c2 at *
  generalize n + 1 = n2 at *
  have HO := hid fun w => f_own t0 t1 t2 t3 k0 k1 k2 n2 c2 w
  have HS := hid hs
  have HR := hid hr
  have H1 := hid h1
  have H2 := hid h2
  have HW := hid hw
  have HV := hid hv
  clear hs hr h1 h2 hw hv g0 g1 g2 g3 iq0_ iq1_ iq2_ iq3_ ib0_ ib1_ ib2_ iy0_ iy1_ iy2_ ix0_ ix1_ ix2_ id_
  have f0 : ((w.alloc (.cells #[.int .i32 q0, .int .i32 q1, .int .i32 q2, .int .i32 q3, .int .i32 b0, .int .i32 b1, .int .i32 b2, .int .i64 n, .int .i64 c] 27)).alloc (.cells #[.int .i32 y0, .int .i32 y1, .int .i32 y2, .int .i32 x0, .int .i32 x1, .int .i32 x2, .int .i32 d] 29)).cell? ⟨w.heap.size, 0, none⟩ = some (.int .i32 q0) := hp0.cell 0
  have f1 : ((w.alloc (.cells #[.int .i32 q0, .int .i32 q1, .int .i32 q2, .int .i32 q3, .int .i32 b0, .int .i32 b1, .int .i32 b2, .int .i64 n, .int .i64 c] 27)).alloc (.cells #[.int .i32 y0, .int .i32 y1, .int .i32 y2, .int .i32 x0, .int .i32 x1, .int .i32 x2, .int .i32 d] 29)).cell? ⟨w.heap.size, 1, none⟩ = some (.int .i32 q1) := hp0.cell 1
  have f2 : ((w.alloc (.cells #[.int .i32 q0, .int .i32 q1, .int .i32 q2, .int .i32 q3, .int .i32 b0, .int .i32 b1, .int .i32 b2, .int .i64 n, .int .i64 c] 27)).alloc (.cells #[.int .i32 y0, .int .i32 y1, .int .i32 y2, .int .i32 x0, .int .i32 x1, .int .i32 x2, .int .i32 d] 29)).cell? ⟨w.heap.size, 2, none⟩ = some (.int .i32 q2) := hp0.cell 2
  have f3 : ((w.alloc (.cells #[.int .i32 q0, .int .i32 q1, .int .i32 q2, .int .i32 q3, .int .i32 b0, .int .i32 b1, .int .i32 b2, .int .i64 n, .int .i64 c] 27)).alloc (.cells #[.int .i32 y0, .int .i32 y1, .int .i32 y2, .int .i32 x0, .int .i32 x1, .int .i32 x2, .int .i32 d] 29)).cell? ⟨w.heap.size, 3, none⟩ = some (.int .i32 q3) := hp0.cell 3
  have f4 : ((w.alloc (.cells #[.int .i32 q0, .int .i32 q1, .int .i32 q2, .int .i32 q3, .int .i32 b0, .int .i32 b1, .int .i32 b2, .int .i64 n, .int .i64 c] 27)).alloc (.cells #[.int .i32 y0, .int .i32 y1, .int .i32 y2, .int .i32 x0, .int .i32 x1, .int .i32 x2, .int .i32 d] 29)).cell? ⟨w.heap.size, 4, none⟩ = some (.int .i32 b0) := hp0.cell 4
  have f5 : ((w.alloc (.cells #[.int .i32 q0, .int .i32 q1, .int .i32 q2, .int .i32 q3, .int .i32 b0, .int .i32 b1, .int .i32 b2, .int .i64 n, .int .i64 c] 27)).alloc (.cells #[.int .i32 y0, .int .i32 y1, .int .i32 y2, .int .i32 x0, .int .i32 x1, .int .i32 x2, .int .i32 d] 29)).cell? ⟨w.heap.size, 5, none⟩ = some (.int .i32 b1) := hp0.cell 5
  have f6 : ((w.alloc (.cells #[.int .i32 q0, .int .i32 q1, .int .i32 q2, .int .i32 q3, .int .i32 b0, .int .i32 b1, .int .i32 b2, .int .i64 n, .int .i64 c] 27)).alloc (.cells #[.int .i32 y0, .int .i32 y1, .int .i32 y2, .int .i32 x0, .int .i32 x1, .int .i32 x2, .int .i32 d] 29)).cell? ⟨w.heap.size, 6, none⟩ = some (.int .i32 b2) := hp0.cell 6
  have f7 : ((w.alloc (.cells #[.int .i32 q0, .int .i32 q1, .int .i32 q2, .int .i32 q3, .int .i32 b0, .int .i32 b1, .int .i32 b2, .int .i64 n, .int .i64 c] 27)).alloc (.cells #[.int .i32 y0, .int .i32 y1, .int .i32 y2, .int .i32 x0, .int .i32 x1, .int .i32 x2, .int .i32 d] 29)).cell? ⟨w.heap.size, 7, none⟩ = some (.int .i64 n) := hp0.cell 7
  have f8 : ((w.alloc (.cells #[.int .i32 q0, .int .i32 q1, .int .i32 q2, .int .i32 q3, .int .i32 b0, .int .i32 b1, .int .i32 b2, .int .i64 n, .int .i64 c] 27)).alloc (.cells #[.int .i32 y0, .int .i32 y1, .int .i32 y2, .int .i32 x0, .int .i32 x1, .int .i32 x2, .int .i32 d] 29)).cell? ⟨w.heap.size, 8, none⟩ = some (.int .i64 c) := hp0.cell 8
  go_enter Tryz.func3, Tryz.ntmps3
  go_wp2_with fail
  clear f0 f1 f2 f3 f4 f5 f6 f7 f8
  generalize ((w.alloc (.cells #[.int .i32 q0, .int .i32 q1, .int .i32 q2, .int .i32 q3, .int .i32 b0, .int .i32 b1, .int .i32 b2, .int .i64 n, .int .i64 c] 27)).alloc (.cells #[.int .i32 y0, .int .i32 y1, .int .i32 y2, .int .i32 x0, .int .i32 x1, .int .i32 x2, .int .i32 d] 29)) = W0 at *
  refine (HM.out _).mono ?_
  rintro e w1 ⟨rfl, bb⟩
  replace hp0 := hp0.below bb hp0.lt
  replace hp1 := hp1.below bb hp1.lt
  replace hb := f_on hb bb
  clear bb
  clear HM
  go_wp2_with fail
  refine (HK.out _).mono ?_
  rintro e w2 ⟨rfl, bb⟩
  replace hp0 := hp0.below bb hp0.lt
  replace hp1 := hp1.below bb hp1.lt
  replace hb := f_on hb bb
  clear bb
  clear HK
  have f0 : w2.cell? ⟨w.heap.size, 0, none⟩ = some (.int .i32 q0) := hp0.cell 0
  have f1 : w2.cell? ⟨w.heap.size, 1, none⟩ = some (.int .i32 q1) := hp0.cell 1
  have f2 : w2.cell? ⟨w.heap.size, 2, none⟩ = some (.int .i32 q2) := hp0.cell 2
  have f3 : w2.cell? ⟨w.heap.size, 3, none⟩ = some (.int .i32 q3) := hp0.cell 3
  have f4 : w2.cell? ⟨w.heap.size, 4, none⟩ = some (.int .i32 b0) := hp0.cell 4
  have f5 : w2.cell? ⟨w.heap.size, 5, none⟩ = some (.int .i32 b1) := hp0.cell 5
  have f6 : w2.cell? ⟨w.heap.size, 6, none⟩ = some (.int .i32 b2) := hp0.cell 6
  have f7 : w2.cell? ⟨w.heap.size, 7, none⟩ = some (.int .i64 n) := hp0.cell 7
  have f8 : w2.cell? ⟨w.heap.size, 8, none⟩ = some (.int .i64 c) := hp0.cell 8
  have m0 : w2.cell? ⟨(w.heap.size + 1), 0, none⟩ = some (.int .i32 y0) := hp1.cell 0
  have m1 : w2.cell? ⟨(w.heap.size + 1), 1, none⟩ = some (.int .i32 y1) := hp1.cell 1
  have m2 : w2.cell? ⟨(w.heap.size + 1), 2, none⟩ = some (.int .i32 y2) := hp1.cell 2
  have m3 : w2.cell? ⟨(w.heap.size + 1), 3, none⟩ = some (.int .i32 x0) := hp1.cell 3
  have m4 : w2.cell? ⟨(w.heap.size + 1), 4, none⟩ = some (.int .i32 x1) := hp1.cell 4
  have m5 : w2.cell? ⟨(w.heap.size + 1), 5, none⟩ = some (.int .i32 x2) := hp1.cell 5
  have m6 : w2.cell? ⟨(w.heap.size + 1), 6, none⟩ = some (.int .i32 d) := hp1.cell 6
  go_wp2_with fail
  clear f0 f1 f2 f3 f4 f5 f6 f7 f8
  clear m0 m1 m2 m3 m4 m5 m6
  refine (H1.out _).mono ?_
  rintro e w3 ⟨rfl, bb⟩
  replace hp0 := hp0.below bb hp0.lt
  replace hp1 := hp1.below bb hp1.lt
  replace hb := f_on hb bb
  clear bb
  clear H1
  have lbha := hb.size
  have lhahp0 := hp0.lt
  have lhahp1 := hp1.lt
  replace hp0 := hp0.alloc (.cells #[.int .i32 e0, .int .i32 e1, .int .i32 e2] 25)
  replace hp1 := hp1.alloc (.cells #[.int .i32 e0, .int .i32 e1, .int .i32 e2] 25)
  have ha := Blk.new w3 25 #[.int .i32 e0, .int .i32 e1, .int .i32 e2]
  replace hb := hb.alloc hb.size (.cells #[.int .i32 e0, .int .i32 e1, .int .i32 e2] 25)
  go_upto_region 4 with fail
  generalize w3.alloc (.cells #[.int .i32 e0, .int .i32 e1, .int .i32 e2] 25) = W3 at *
  generalize w3.heap.size = gha at *
  have f0 : W3.cell? ⟨w.heap.size, 0, none⟩ = some (.int .i32 q0) := hp0.cell 0
  have f1 : W3.cell? ⟨w.heap.size, 1, none⟩ = some (.int .i32 q1) := hp0.cell 1
  have f2 : W3.cell? ⟨w.heap.size, 2, none⟩ = some (.int .i32 q2) := hp0.cell 2
  have f3 : W3.cell? ⟨w.heap.size, 3, none⟩ = some (.int .i32 q3) := hp0.cell 3
  have f4 : W3.cell? ⟨w.heap.size, 4, none⟩ = some (.int .i32 b0) := hp0.cell 4
  have f5 : W3.cell? ⟨w.heap.size, 5, none⟩ = some (.int .i32 b1) := hp0.cell 5
  have f6 : W3.cell? ⟨w.heap.size, 6, none⟩ = some (.int .i32 b2) := hp0.cell 6
  have f7 : W3.cell? ⟨w.heap.size, 7, none⟩ = some (.int .i64 n) := hp0.cell 7
  have f8 : W3.cell? ⟨w.heap.size, 8, none⟩ = some (.int .i64 c) := hp0.cell 8
  have m0 : W3.cell? ⟨(w.heap.size + 1), 0, none⟩ = some (.int .i32 y0) := hp1.cell 0
  have m1 : W3.cell? ⟨(w.heap.size + 1), 1, none⟩ = some (.int .i32 y1) := hp1.cell 1
  have m2 : W3.cell? ⟨(w.heap.size + 1), 2, none⟩ = some (.int .i32 y2) := hp1.cell 2
  have m3 : W3.cell? ⟨(w.heap.size + 1), 3, none⟩ = some (.int .i32 x0) := hp1.cell 3
  have m4 : W3.cell? ⟨(w.heap.size + 1), 4, none⟩ = some (.int .i32 x1) := hp1.cell 4
  have m5 : W3.cell? ⟨(w.heap.size + 1), 5, none⟩ = some (.int .i32 x2) := hp1.cell 5
  have m6 : W3.cell? ⟨(w.heap.size + 1), 6, none⟩ = some (.int .i32 d) := hp1.cell 6
  go_wp2_with fail
  clear f0 f1 f2 f3 f4 f5 f6 f7 f8
  clear m0 m1 m2 m3 m4 m5 m6
  refine (H2.out _).mono ?_
  rintro e w4 ⟨rfl, bb⟩
  replace hp0 := hp0.below bb hp0.lt
  replace hp1 := hp1.below bb hp1.lt
  replace ha := ha.below bb ha.lt
  replace hb := f_on hb bb
  clear bb
  clear H2
  have lbhc := hb.size
  have lhchp0 := hp0.lt
  have lhchp1 := hp1.lt
  have lhcha := ha.lt
  replace hp0 := hp0.alloc (.cells #[.int .i32 e0, .int .i32 e1, .int .i32 e2] 25)
  replace hp1 := hp1.alloc (.cells #[.int .i32 e0, .int .i32 e1, .int .i32 e2] 25)
  replace ha := ha.alloc (.cells #[.int .i32 e0, .int .i32 e1, .int .i32 e2] 25)
  have hc := Blk.new w4 25 #[.int .i32 e0, .int .i32 e1, .int .i32 e2]
  replace hb := hb.alloc hb.size (.cells #[.int .i32 e0, .int .i32 e1, .int .i32 e2] 25)
  go_upto_region 5 with fail
  generalize w4.alloc (.cells #[.int .i32 e0, .int .i32 e1, .int .i32 e2] 25) = W4 at *
  generalize w4.heap.size = ghc at *
  have f0 : W4.cell? ⟨w.heap.size, 0, none⟩ = some (.int .i32 q0) := hp0.cell 0
  have f1 : W4.cell? ⟨w.heap.size, 1, none⟩ = some (.int .i32 q1) := hp0.cell 1
  have f2 : W4.cell? ⟨w.heap.size, 2, none⟩ = some (.int .i32 q2) := hp0.cell 2
  have f3 : W4.cell? ⟨w.heap.size, 3, none⟩ = some (.int .i32 q3) := hp0.cell 3
  have f4 : W4.cell? ⟨w.heap.size, 4, none⟩ = some (.int .i32 b0) := hp0.cell 4
  have f5 : W4.cell? ⟨w.heap.size, 5, none⟩ = some (.int .i32 b1) := hp0.cell 5
  have f6 : W4.cell? ⟨w.heap.size, 6, none⟩ = some (.int .i32 b2) := hp0.cell 6
  have f7 : W4.cell? ⟨w.heap.size, 7, none⟩ = some (.int .i64 n) := hp0.cell 7
  have f8 : W4.cell? ⟨w.heap.size, 8, none⟩ = some (.int .i64 c) := hp0.cell 8
  have lbht := hb.size
  have lhthp0 := hp0.lt
  have lhthp1 := hp1.lt
  have lhtha := ha.lt
  have lhthc := hc.lt
  replace hp0 := hp0.alloc (.cells #[.int .i32 q0, .int .i32 q1, .int .i32 q2, .int .i32 q3, .int .i32 b0, .int .i32 b1, .int .i32 b2, .int .i64 n, .int .i64 c] 34)
  replace hp1 := hp1.alloc (.cells #[.int .i32 q0, .int .i32 q1, .int .i32 q2, .int .i32 q3, .int .i32 b0, .int .i32 b1, .int .i32 b2, .int .i64 n, .int .i64 c] 34)
  replace ha := ha.alloc (.cells #[.int .i32 q0, .int .i32 q1, .int .i32 q2, .int .i32 q3, .int .i32 b0, .int .i32 b1, .int .i32 b2, .int .i64 n, .int .i64 c] 34)
  replace hc := hc.alloc (.cells #[.int .i32 q0, .int .i32 q1, .int .i32 q2, .int .i32 q3, .int .i32 b0, .int .i32 b1, .int .i32 b2, .int .i64 n, .int .i64 c] 34)
  have ht := Blk.new W4 34 #[.int .i32 q0, .int .i32 q1, .int .i32 q2, .int .i32 q3, .int .i32 b0, .int .i32 b1, .int .i32 b2, .int .i64 n, .int .i64 c]
  replace hb := hb.alloc hb.size (.cells #[.int .i32 q0, .int .i32 q1, .int .i32 q2, .int .i32 q3, .int .i32 b0, .int .i32 b1, .int .i32 b2, .int .i64 n, .int .i64 c] 34)
  go_upto_region 6 with fail
  clear f0 f1 f2 f3 f4 f5 f6 f7 f8
  generalize W4.alloc (.cells #[.int .i32 q0, .int .i32 q1, .int .i32 q2, .int .i32 q3, .int .i32 b0, .int .i32 b1, .int .i32 b2, .int .i64 n, .int .i64 c] 34) = W5 at *
  generalize W4.heap.size = ght at *
  refine wp_region_noPanic ?_
  refine wp_region_held_drew (S := (fun w' : World => w'.cell? ⟨gha, 0, none⟩ = some (.int .i32 e0) ∧ w'.cell? ⟨gha, 1, none⟩ = some (.int .i32 e1) ∧ w'.cell? ⟨gha, 2, none⟩ = some (.int .i32 e2) ∧ w'.cell? ⟨ghc, 0, none⟩ = some (.int .i32 e0) ∧ w'.cell? ⟨ghc, 1, none⟩ = some (.int .i32 e1) ∧ w'.cell? ⟨ghc, 2, none⟩ = some (.int .i32 e2) ∧ w'.cell? ⟨ght, 0, none⟩ = some (.int .i32 q0) ∧ w'.cell? ⟨ght, 1, none⟩ = some (.int .i32 q1) ∧ w'.cell? ⟨ght, 2, none⟩ = some (.int .i32 q2) ∧ w'.cell? ⟨ght, 3, none⟩ = some (.int .i32 q3) ∧ w'.cell? ⟨ght, 4, none⟩ = some (.int .i32 b0) ∧ w'.cell? ⟨ght, 5, none⟩ = some (.int .i32 b1) ∧ w'.cell? ⟨ght, 6, none⟩ = some (.int .i32 b2) ∧ w'.cell? ⟨ght, 7, none⟩ = some (.int .i64 n) ∧ w'.cell? ⟨ght, 8, none⟩ = some (.int .i64 c) ∧ w'.cell? ⟨w.heap.size, 0, none⟩ = some (.int .i32 q0) ∧ w'.cell? ⟨w.heap.size, 1, none⟩ = some (.int .i32 q1) ∧ w'.cell? ⟨w.heap.size, 2, none⟩ = some (.int .i32 q2) ∧ w'.cell? ⟨w.heap.size, 3, none⟩ = some (.int .i32 q3) ∧ w'.cell? ⟨w.heap.size, 4, none⟩ = some (.int .i32 b0) ∧ w'.cell? ⟨w.heap.size, 5, none⟩ = some (.int .i32 b1) ∧ w'.cell? ⟨w.heap.size, 6, none⟩ = some (.int .i32 b2) ∧ w'.cell? ⟨w.heap.size, 7, none⟩ = some (.int .i64 n) ∧ w'.cell? ⟨w.heap.size, 8, none⟩ = some (.int .i64 c) ∧ w'.cell? ⟨(w.heap.size + 1), 0, none⟩ = some (.int .i32 y0) ∧ w'.cell? ⟨(w.heap.size + 1), 1, none⟩ = some (.int .i32 y1) ∧ w'.cell? ⟨(w.heap.size + 1), 2, none⟩ = some (.int .i32 y2) ∧ w'.cell? ⟨(w.heap.size + 1), 3, none⟩ = some (.int .i32 x0) ∧ w'.cell? ⟨(w.heap.size + 1), 4, none⟩ = some (.int .i32 x1) ∧ w'.cell? ⟨(w.heap.size + 1), 5, none⟩ = some (.int .i32 x2) ∧ w'.cell? ⟨(w.heap.size + 1), 6, none⟩ = some (.int .i32 d))) (by kernel_rfl) ⟨ha.cell 0, ha.cell 1, ha.cell 2, hc.cell 0, hc.cell 1, hc.cell 2, ht.cell 0, ht.cell 1, ht.cell 2, ht.cell 3, ht.cell 4, ht.cell 5, ht.cell 6, ht.cell 7, ht.cell 8, hp0.cell 0, hp0.cell 1, hp0.cell 2, hp0.cell 3, hp0.cell 4, hp0.cell 5, hp0.cell 6, hp0.cell 7, hp0.cell 8, hp1.cell 0, hp1.cell 1, hp1.cell 2, hp1.cell 3, hp1.cell 4, hp1.cell 5, hp1.cell 6⟩ (fun hH => ?_)
  refine (show wpAnyH _ _ _ _ _ 36 _ _ _ from ?_)
  try (simp only [Act.put, List.setIfInBounds_toArray, List.set_cons_zero, List.set_cons_succ])
  replace ha := ha.drew
  replace hc := hc.drew
  replace ht := ht.drew
  replace hp0 := hp0.drew
  replace hp1 := hp1.drew
  replace hb := hb.drew
  generalize (W5).drew = V1 at *
  refine tk 0 hH ?_
  refine tk 1 hH ?_
  refine tk 2 hH ?_
  refine tk 3 hH ?_
  refine tk 4 hH ?_
  refine tk 5 hH ?_
  refine tk 6 hH ?_
  refine tk 7 hH ?_
  refine tk 8 hH ?_
  refine tk 9 hH ?_
  refine tk 10 hH ?_
  refine tk 11 hH ?_
  refine tk 12 hH ?_
  refine tk 13 hH ?_
  refine tk 14 hH ?_
  refine tk 15 hH ?_
  refine tk 18 hH ?_
  refine tk 19 hH ?_
  refine tk 20 hH ?_
  refine tk 21 hH ?_
  refine tk 22 hH ?_
  refine tk 23 hH ?_
  refine tk 24 hH ?_
  refine rd1 16 (fun K hK => ?_)
  go_simp
  refine (HS.out _).mono ?_
  rintro e V2 ⟨rfl, bb⟩
  go_wp2_with fail
  replace ha := ha.below bb ha.lt
  replace hc := hc.below bb hc.lt
  replace ht := ht.below bb ht.lt
  replace hp0 := hp0.below bb hp0.lt
  replace hp1 := hp1.below bb hp1.lt
  replace hb := f_on hb bb
  clear bb
  refine hK.out _ _ ⟨ha.cell 0, ha.cell 1, ha.cell 2, hc.cell 0, hc.cell 1, hc.cell 2, ht.cell 0, ht.cell 1, ht.cell 2, ht.cell 3, ht.cell 4, ht.cell 5, ht.cell 6, ht.cell 7, ht.cell 8, hp0.cell 0, hp0.cell 1, hp0.cell 2, hp0.cell 3, hp0.cell 4, hp0.cell 5, hp0.cell 6, hp0.cell 7, hp0.cell 8, hp1.cell 0, hp1.cell 1, hp1.cell 2, hp1.cell 3, hp1.cell 4, hp1.cell 5, hp1.cell 6⟩ (fun hH => ?_)
  clear hK K
  try (simp only [Act.put, List.setIfInBounds_toArray, List.set_cons_zero, List.set_cons_succ])
  refine rd1 17 (fun K hK => ?_)
  go_simp
  refine (HO.out _).mono ?_
  rintro e V3 ⟨rfl, bb⟩
  go_wp2_with fail
  replace ha := ha.below bb ha.lt
  replace hc := hc.below bb hc.lt
  replace ht := ht.below bb ht.lt
  replace hp0 := hp0.below bb hp0.lt
  replace hp1 := hp1.below bb hp1.lt
  replace hb := f_on hb bb
  clear bb
  refine hK.out _ _ ⟨ha.cell 0, ha.cell 1, ha.cell 2, hc.cell 0, hc.cell 1, hc.cell 2, ht.cell 0, ht.cell 1, ht.cell 2, ht.cell 3, ht.cell 4, ht.cell 5, ht.cell 6, ht.cell 7, ht.cell 8, hp0.cell 0, hp0.cell 1, hp0.cell 2, hp0.cell 3, hp0.cell 4, hp0.cell 5, hp0.cell 6, hp0.cell 7, hp0.cell 8, hp1.cell 0, hp1.cell 1, hp1.cell 2, hp1.cell 3, hp1.cell 4, hp1.cell 5, hp1.cell 6⟩ (fun hH => ?_)
  clear hK K
  try (simp only [Act.put, List.setIfInBounds_toArray, List.set_cons_zero, List.set_cons_succ])
  refine rd1 25 (fun K hK => ?_)
  go_simp
  refine (HR.out _).mono ?_
  rintro e V4 ⟨rfl, bb⟩
  go_wp2_with fail
  replace ha := ha.below bb ha.lt
  replace hc := hc.below bb hc.lt
  replace ht := ht.below bb ht.lt
  replace hp0 := hp0.below bb hp0.lt
  replace hp1 := hp1.below bb hp1.lt
  replace hb := f_on hb bb
  clear bb
  refine hK.out _ _ ⟨ha.cell 0, ha.cell 1, ha.cell 2, hc.cell 0, hc.cell 1, hc.cell 2, ht.cell 0, ht.cell 1, ht.cell 2, ht.cell 3, ht.cell 4, ht.cell 5, ht.cell 6, ht.cell 7, ht.cell 8, hp0.cell 0, hp0.cell 1, hp0.cell 2, hp0.cell 3, hp0.cell 4, hp0.cell 5, hp0.cell 6, hp0.cell 7, hp0.cell 8, hp1.cell 0, hp1.cell 1, hp1.cell 2, hp1.cell 3, hp1.cell 4, hp1.cell 5, hp1.cell 6⟩ (fun hH => ?_)
  clear hK K
  try (simp only [Act.put, List.setIfInBounds_toArray, List.set_cons_zero, List.set_cons_succ])
  refine tk 26 hH ?_
  refine tk 27 hH ?_
  refine tk 28 hH ?_
  refine tk 29 hH ?_
  refine tk 31 hH ?_
  refine rd1 30 (fun K hK => ?_)
  go_simp
  refine (HW.out _).mono ?_
  rintro e V5 ⟨rfl, bb⟩
  go_wp2_with fail
  replace ha := ha.below bb ha.lt
  replace hc := hc.below bb hc.lt
  replace ht := ht.below bb ht.lt
  replace hp0 := hp0.below bb hp0.lt
  replace hp1 := hp1.below bb hp1.lt
  replace hb := f_on hb bb
  clear bb
  refine hK.out _ _ ⟨ha.cell 0, ha.cell 1, ha.cell 2, hc.cell 0, hc.cell 1, hc.cell 2, ht.cell 0, ht.cell 1, ht.cell 2, ht.cell 3, ht.cell 4, ht.cell 5, ht.cell 6, ht.cell 7, ht.cell 8, hp0.cell 0, hp0.cell 1, hp0.cell 2, hp0.cell 3, hp0.cell 4, hp0.cell 5, hp0.cell 6, hp0.cell 7, hp0.cell 8, hp1.cell 0, hp1.cell 1, hp1.cell 2, hp1.cell 3, hp1.cell 4, hp1.cell 5, hp1.cell 6⟩ (fun hH => ?_)
  clear hK K
  try (simp only [Act.put, List.setIfInBounds_toArray, List.set_cons_zero, List.set_cons_succ])
  refine rd1 32 (fun K hK => ?_)
  go_simp
  refine (HV.out _).mono ?_
  rintro e V6 ⟨rfl, bb⟩
  go_wp2_with fail
  replace ha := ha.below bb ha.lt
  replace hc := hc.below bb hc.lt
  replace ht := ht.below bb ht.lt
  replace hp0 := hp0.below bb hp0.lt
  replace hp1 := hp1.below bb hp1.lt
  replace hb := f_on hb bb
  clear bb
  refine hK.out _ _ ⟨ha.cell 0, ha.cell 1, ha.cell 2, hc.cell 0, hc.cell 1, hc.cell 2, ht.cell 0, ht.cell 1, ht.cell 2, ht.cell 3, ht.cell 4, ht.cell 5, ht.cell 6, ht.cell 7, ht.cell 8, hp0.cell 0, hp0.cell 1, hp0.cell 2, hp0.cell 3, hp0.cell 4, hp0.cell 5, hp0.cell 6, hp0.cell 7, hp0.cell 8, hp1.cell 0, hp1.cell 1, hp1.cell 2, hp1.cell 3, hp1.cell 4, hp1.cell 5, hp1.cell 6⟩ (fun hH => ?_)
  clear hK K
  try (simp only [Act.put, List.setIfInBounds_toArray, List.set_cons_zero, List.set_cons_succ])
  refine tk 33 hH ?_
  refine tk 34 hH ?_
  refine tk 35 hH ?_
  refine wpAnyH_done (by kernel_rfl) ?_ _
  refine NoPanic.normal ?_
  clear hH
  go_wp2
  go_ret
  exact ⟨rfl, hb⟩
 ·have HM := hid fun w => f_mayN q0 q1 q2 q3 b0 b1 b2 n c w g
  clear g iq0_ iq1_ iq2_ iq3_ ib0_ ib1_ ib2_ iy0_ iy1_ iy2_ ix0_ ix1_ ix2_ id_
  have f0 : ((w.alloc (.cells #[.int .i32 q0, .int .i32 q1, .int .i32 q2, .int .i32 q3, .int .i32 b0, .int .i32 b1, .int .i32 b2, .int .i64 n, .int .i64 c] 27)).alloc (.cells #[.int .i32 y0, .int .i32 y1, .int .i32 y2, .int .i32 x0, .int .i32 x1, .int .i32 x2, .int .i32 d] 29)).cell? ⟨w.heap.size, 0, none⟩ = some (.int .i32 q0) := hp0.cell 0
  have f1 : ((w.alloc (.cells #[.int .i32 q0, .int .i32 q1, .int .i32 q2, .int .i32 q3, .int .i32 b0, .int .i32 b1, .int .i32 b2, .int .i64 n, .int .i64 c] 27)).alloc (.cells #[.int .i32 y0, .int .i32 y1, .int .i32 y2, .int .i32 x0, .int .i32 x1, .int .i32 x2, .int .i32 d] 29)).cell? ⟨w.heap.size, 1, none⟩ = some (.int .i32 q1) := hp0.cell 1
  have f2 : ((w.alloc (.cells #[.int .i32 q0, .int .i32 q1, .int .i32 q2, .int .i32 q3, .int .i32 b0, .int .i32 b1, .int .i32 b2, .int .i64 n, .int .i64 c] 27)).alloc (.cells #[.int .i32 y0, .int .i32 y1, .int .i32 y2, .int .i32 x0, .int .i32 x1, .int .i32 x2, .int .i32 d] 29)).cell? ⟨w.heap.size, 2, none⟩ = some (.int .i32 q2) := hp0.cell 2
  have f3 : ((w.alloc (.cells #[.int .i32 q0, .int .i32 q1, .int .i32 q2, .int .i32 q3, .int .i32 b0, .int .i32 b1, .int .i32 b2, .int .i64 n, .int .i64 c] 27)).alloc (.cells #[.int .i32 y0, .int .i32 y1, .int .i32 y2, .int .i32 x0, .int .i32 x1, .int .i32 x2, .int .i32 d] 29)).cell? ⟨w.heap.size, 3, none⟩ = some (.int .i32 q3) := hp0.cell 3
  have f4 : ((w.alloc (.cells #[.int .i32 q0, .int .i32 q1, .int .i32 q2, .int .i32 q3, .int .i32 b0, .int .i32 b1, .int .i32 b2, .int .i64 n, .int .i64 c] 27)).alloc (.cells #[.int .i32 y0, .int .i32 y1, .int .i32 y2, .int .i32 x0, .int .i32 x1, .int .i32 x2, .int .i32 d] 29)).cell? ⟨w.heap.size, 4, none⟩ = some (.int .i32 b0) := hp0.cell 4
  have f5 : ((w.alloc (.cells #[.int .i32 q0, .int .i32 q1, .int .i32 q2, .int .i32 q3, .int .i32 b0, .int .i32 b1, .int .i32 b2, .int .i64 n, .int .i64 c] 27)).alloc (.cells #[.int .i32 y0, .int .i32 y1, .int .i32 y2, .int .i32 x0, .int .i32 x1, .int .i32 x2, .int .i32 d] 29)).cell? ⟨w.heap.size, 5, none⟩ = some (.int .i32 b1) := hp0.cell 5
  have f6 : ((w.alloc (.cells #[.int .i32 q0, .int .i32 q1, .int .i32 q2, .int .i32 q3, .int .i32 b0, .int .i32 b1, .int .i32 b2, .int .i64 n, .int .i64 c] 27)).alloc (.cells #[.int .i32 y0, .int .i32 y1, .int .i32 y2, .int .i32 x0, .int .i32 x1, .int .i32 x2, .int .i32 d] 29)).cell? ⟨w.heap.size, 6, none⟩ = some (.int .i32 b2) := hp0.cell 6
  have f7 : ((w.alloc (.cells #[.int .i32 q0, .int .i32 q1, .int .i32 q2, .int .i32 q3, .int .i32 b0, .int .i32 b1, .int .i32 b2, .int .i64 n, .int .i64 c] 27)).alloc (.cells #[.int .i32 y0, .int .i32 y1, .int .i32 y2, .int .i32 x0, .int .i32 x1, .int .i32 x2, .int .i32 d] 29)).cell? ⟨w.heap.size, 7, none⟩ = some (.int .i64 n) := hp0.cell 7
  have f8 : ((w.alloc (.cells #[.int .i32 q0, .int .i32 q1, .int .i32 q2, .int .i32 q3, .int .i32 b0, .int .i32 b1, .int .i32 b2, .int .i64 n, .int .i64 c] 27)).alloc (.cells #[.int .i32 y0, .int .i32 y1, .int .i32 y2, .int .i32 x0, .int .i32 x1, .int .i32 x2, .int .i32 d] 29)).cell? ⟨w.heap.size, 8, none⟩ = some (.int .i64 c) := hp0.cell 8
  go_enter Tryz.func3, Tryz.ntmps3
  go_wp2_with fail
  clear f0 f1 f2 f3 f4 f5 f6 f7 f8
  generalize ((w.alloc (.cells #[.int .i32 q0, .int .i32 q1, .int .i32 q2, .int .i32 q3, .int .i32 b0, .int .i32 b1, .int .i32 b2, .int .i64 n, .int .i64 c] 27)).alloc (.cells #[.int .i32 y0, .int .i32 y1, .int .i32 y2, .int .i32 x0, .int .i32 x1, .int .i32 x2, .int .i32 d] 29)) = W0 at *
  refine (HM.out _).mono ?_
  rintro e w1 ⟨rfl, bb⟩
  replace hb := f_on hb bb
  clear bb HM hp0 hp1
  go_wp2_with fail
  refine (HK.out _).mono ?_
  rintro e w2 ⟨rfl, bb⟩
  go_wp2
  go_ret
  exact ⟨rfl, f_on hb bb⟩
end Go.Proofs.YtgmepohfkpncmaaGreat
