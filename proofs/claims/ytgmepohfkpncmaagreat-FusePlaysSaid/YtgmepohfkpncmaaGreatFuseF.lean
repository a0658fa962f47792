/- Chapter 42: a step. -/
import Derived.Test.YtgmepohfkpncmaaGreatFuseC
import Derived.Test.YtgmepohfkpncmaaGreatFuseE
import Derived.LoopN
namespace Go.Proofs.YtgmepohfkpncmaaGreat
open Go.RowKit
set_option linter.unusedVariables false
set_option linter.unusedSimpArgs false

theorem f_bg {g : Nat} {w0 w w' : World} (h : Below w0.heap.size w0 w) (gg : w.grownBy w' (some g)) (hg : w0.heap.size ≤ g) : Below w0.heap.size w0 w' :=
 ⟨gg.os.trans h.os, gg.tape.trans h.tape, gg.output.trans h.output, Nat.le_trans h.size gg.size, fun k hk => (gg.block k (Nat.lt_of_lt_of_le hk h.size) (by rw [Ne, Option.some.injEq]; omega)).trans (h.block k hk)⟩
def fkN (y0 y1 y2 b0 b1 b2 : Int) : Int := cutC (y0 - b0) + cutC (y1 - b1) + cutC (y2 - b2)
def frR (y b : Int) : Int := clampP (y - b)
/-- The rate, the bias and the cuts behind 'correct'. -/
def fsR (i : Nat) (q0 q1 q2 q3 b0 b1 b2 y0 y1 y2 x0 x1 x2 d : Int) : Int := if erOk x0 x1 x2 = true then (match i with | 0 => (coR (frR y0 b0) (er0 q0 q1 q2 q3 x0 x1 x2)) | 1 => (coR (frR y1 b1) (er1 q0 q1 q2 q3 x0 x1 x2)) | _ => (coR (frR y2 b2) (er2 q0 q1 q2 q3 x0 x1 x2))) else (match i with | 0 => (frR y0 b0) | 1 => (frR y1 b1) | _ => (frR y2 b2))
def fsB (i : Nat) (q0 q1 q2 q3 b0 b1 b2 y0 y1 y2 x0 x1 x2 d : Int) : Int := if erOk x0 x1 x2 = true then (match i with | 0 => (coB b0 (er0 q0 q1 q2 q3 x0 x1 x2) d) | 1 => (coB b1 (er1 q0 q1 q2 q3 x0 x1 x2) d) | _ => (coB b2 (er2 q0 q1 q2 q3 x0 x1 x2) d)) else (match i with | 0 => b0 | 1 => b1 | _ => b2)
def fsN (q0 q1 q2 q3 b0 b1 b2 y0 y1 y2 x0 x1 x2 d : Int) : Int := if erOk x0 x1 x2 = true then fkN y0 y1 y2 b0 b1 b2 + (coN (frR y0 b0) (frR y1 b1) (frR y2 b2) b0 b1 b2 (er0 q0 q1 q2 q3 x0 x1 x2) (er1 q0 q1 q2 q3 x0 x1 x2) (er2 q0 q1 q2 q3 x0 x1 x2) d) else fkN y0 y1 y2 b0 b1 b2
/-- The step. -/
def stepQ (j : Nat) (z : Int) (q0 q1 q2 q3 b0 b1 b2 y0 y1 y2 x0 x1 x2 d : Int) : Int := tuQ j z q0 q1 q2 q3 (fsR 0 q0 q1 q2 q3 b0 b1 b2 y0 y1 y2 x0 x1 x2 d) (fsR 1 q0 q1 q2 q3 b0 b1 b2 y0 y1 y2 x0 x1 x2 d) (fsR 2 q0 q1 q2 q3 b0 b1 b2 y0 y1 y2 x0 x1 x2 d) d
def stepB (i : Nat) (q0 q1 q2 q3 b0 b1 b2 y0 y1 y2 x0 x1 x2 d : Int) : Int := liP (fsB i q0 q1 q2 q3 b0 b1 b2 y0 y1 y2 x0 x1 x2 d)
def stepN (q0 q1 q2 q3 b0 b1 b2 y0 y1 y2 x0 x1 x2 d : Int) : Int := fsN q0 q1 q2 q3 b0 b1 b2 y0 y1 y2 x0 x1 x2 d + (liN (fsB 0 q0 q1 q2 q3 b0 b1 b2 y0 y1 y2 x0 x1 x2 d) + liN (fsB 1 q0 q1 q2 q3 b0 b1 b2 y0 y1 y2 x0 x1 x2 d) + liN (fsB 2 q0 q1 q2 q3 b0 b1 b2 y0 y1 y2 x0 x1 x2 d)) + tuN q0 q1 q2 q3 (fsR 0 q0 q1 q2 q3 b0 b1 b2 y0 y1 y2 x0 x1 x2 d) (fsR 1 q0 q1 q2 q3 b0 b1 b2 y0 y1 y2 x0 x1 x2 d) (fsR 2 q0 q1 q2 q3 b0 b1 b2 y0 y1 y2 x0 x1 x2 d) d
theorem fsR_32 (i : Nat) (q0 q1 q2 q3 b0 b1 b2 y0 y1 y2 x0 x1 x2 d : Int) : I32 (fsR i q0 q1 q2 q3 b0 b1 b2 y0 y1 y2 x0 x1 x2 d) := by
 unfold fsR frR coR
 split <;> split <;> exact clampP_bd _
theorem fsB_32 (i : Nat) (q0 q1 q2 q3 b0 b1 b2 y0 y1 y2 x0 x1 x2 d : Int) (ib0 : I32 b0) (ib1 : I32 b1) (ib2 : I32 b2) : I32 (fsB i q0 q1 q2 q3 b0 b1 b2 y0 y1 y2 x0 x1 x2 d) := by
 unfold fsB coB
 split <;> split <;> first | exact clampP_bd _ | assumption
theorem fsN_bd (q0 q1 q2 q3 b0 b1 b2 y0 y1 y2 x0 x1 x2 d : Int) : 0 ≤ fsN q0 q1 q2 q3 b0 b1 b2 y0 y1 y2 x0 x1 x2 d ∧ fsN q0 q1 q2 q3 b0 b1 b2 y0 y1 y2 x0 x1 x2 d ≤ 18 := by
 have h1 := s3_bd (y0 - b0) (y1 - b1) (y2 - b2)
 have h2 := coN_bd (frR y0 b0) (frR y1 b1) (frR y2 b2) b0 b1 b2 (er0 q0 q1 q2 q3 x0 x1 x2) (er1 q0 q1 q2 q3 x0 x1 x2) (er2 q0 q1 q2 q3 x0 x1 x2) d
 unfold fsN fkN
 split <;> omega
theorem stepN_bd (q0 q1 q2 q3 b0 b1 b2 y0 y1 y2 x0 x1 x2 d : Int) : 0 ≤ stepN q0 q1 q2 q3 b0 b1 b2 y0 y1 y2 x0 x1 x2 d ∧ stepN q0 q1 q2 q3 b0 b1 b2 y0 y1 y2 x0 x1 x2 d ≤ 29 := by
 have h1 := fsN_bd q0 q1 q2 q3 b0 b1 b2 y0 y1 y2 x0 x1 x2 d
 have h2 := tuN_bd q0 q1 q2 q3 (fsR 0 q0 q1 q2 q3 b0 b1 b2 y0 y1 y2 x0 x1 x2 d) (fsR 1 q0 q1 q2 q3 b0 b1 b2 y0 y1 y2 x0 x1 x2 d) (fsR 2 q0 q1 q2 q3 b0 b1 b2 y0 y1 y2 x0 x1 x2 d) d
 have h3 := liN_bd (fsB 0 q0 q1 q2 q3 b0 b1 b2 y0 y1 y2 x0 x1 x2 d)
 have h4 := liN_bd (fsB 1 q0 q1 q2 q3 b0 b1 b2 y0 y1 y2 x0 x1 x2 d)
 have h5 := liN_bd (fsB 2 q0 q1 q2 q3 b0 b1 b2 y0 y1 y2 x0 x1 x2 d)
 unfold stepN
 omega
def Fused (n c q0 q1 q2 q3 b0 b1 b2 y0 y1 y2 x0 x1 x2 d : Int) (w : World) (e : Ending) (w' : World) : Prop :=
 e = .returned (.agg #[.int .i32 (stepQ 0 1073741824 q0 q1 q2 q3 b0 b1 b2 y0 y1 y2 x0 x1 x2 d), .int .i32 (stepQ 1 0 q0 q1 q2 q3 b0 b1 b2 y0 y1 y2 x0 x1 x2 d), .int .i32 (stepQ 2 0 q0 q1 q2 q3 b0 b1 b2 y0 y1 y2 x0 x1 x2 d), .int .i32 (stepQ 3 0 q0 q1 q2 q3 b0 b1 b2 y0 y1 y2 x0 x1 x2 d), .int .i32 (stepB 0 q0 q1 q2 q3 b0 b1 b2 y0 y1 y2 x0 x1 x2 d), .int .i32 (stepB 1 q0 q1 q2 q3 b0 b1 b2 y0 y1 y2 x0 x1 x2 d), .int .i32 (stepB 2 q0 q1 q2 q3 b0 b1 b2 y0 y1 y2 x0 x1 x2 d), .int .i64 (n + 1), .int .i64 (c + stepN q0 q1 q2 q3 b0 b1 b2 y0 y1 y2 x0 x1 x2 d)]) ∧ Below w.heap.size w w'
/-- 'correct', whatever the acceleration. -/
theorem f_correct (g : Nat) (n c q0 q1 q2 q3 b0 b1 b2 y0 y1 y2 x0 x1 x2 d : Int) (w : World) (iq0 : I32 q0) (iq1 : I32 q1) (iq2 : I32 q2) (iq3 : I32 q3) (ix0 : I32 x0) (ix1 : I32 x1) (ix2 : I32 x2) (ib0 : I32 b0) (ib1 : I32 b1) (ib2 : I32 b2) (id : I32 d) (hc : 0 ≤ c ∧ c ≤ 1099511628800) (hB : Blk w g 56 #[.int .i32 q0, .int .i32 q1, .int .i32 q2, .int .i32 q3, .int .i32 b0, .int .i32 b1, .int .i32 b2, .int .i64 n, .int .i64 (c + fkN y0 y1 y2 b0 b1 b2), .int .i32 y0, .int .i32 y1, .int .i32 y2, .int .i32 x0, .int .i32 x1, .int .i32 x2, .int .i32 d, .int .i32 (frR y0 b0), .int .i32 (frR y1 b1), .int .i32 (frR y2 b2)]) :
  Calls Tryz.prog 27 #[.pointer (some ⟨g, 0, none⟩)] w fun e w' => e = .returned (.tuple #[]) ∧ Blk w' g 56 #[.int .i32 q0, .int .i32 q1, .int .i32 q2, .int .i32 q3, .int .i32 (fsB 0 q0 q1 q2 q3 b0 b1 b2 y0 y1 y2 x0 x1 x2 d), .int .i32 (fsB 1 q0 q1 q2 q3 b0 b1 b2 y0 y1 y2 x0 x1 x2 d), .int .i32 (fsB 2 q0 q1 q2 q3 b0 b1 b2 y0 y1 y2 x0 x1 x2 d), .int .i64 n, .int .i64 (c + fsN q0 q1 q2 q3 b0 b1 b2 y0 y1 y2 x0 x1 x2 d), .int .i32 y0, .int .i32 y1, .int .i32 y2, .int .i32 x0, .int .i32 x1, .int .i32 x2, .int .i32 d, .int .i32 (fsR 0 q0 q1 q2 q3 b0 b1 b2 y0 y1 y2 x0 x1 x2 d), .int .i32 (fsR 1 q0 q1 q2 q3 b0 b1 b2 y0 y1 y2 x0 x1 x2 d), .int .i32 (fsR 2 q0 q1 q2 q3 b0 b1 b2 y0 y1 y2 x0 x1 x2 d)] ∧ w.grownBy w' (some g) := by
 have hk := s3_bd (y0 - b0) (y1 - b1) (y2 - b2)
 have hk' : 0 ≤ fkN y0 y1 y2 b0 b1 b2 ∧ fkN y0 y1 y2 b0 b1 b2 ≤ 3 := hk
 unfold fsR fsB fsN
 cases h : erOk x0 x1 x2
 ·simp only [Bool.false_eq_true, if_false]
  exact f_correctN g q0 q1 q2 q3 b0 b1 b2 n (c + fkN y0 y1 y2 b0 b1 b2) y0 y1 y2 x0 x1 x2 d (frR y0 b0) (frR y1 b1) (frR y2 b2) w ix0 ix1 ix2 h hB
 ·simp only [if_true]
  rw [← Int.add_assoc]
  exact f_correctY g q0 q1 q2 q3 b0 b1 b2 n (c + fkN y0 y1 y2 b0 b1 b2) y0 y1 y2 x0 x1 x2 d (frR y0 b0) (frR y1 b1) (frR y2 b2) w iq0 iq1 iq2 iq3 ix0 ix1 ix2 (clampP_bd _) (clampP_bd _) (clampP_bd _) ib0 ib1 ib2 id (by omega) h hB
set_option maxRecDepth 40000 in
set_option maxHeartbeats 16000000 in
theorem f_Step (n c q0 q1 q2 q3 b0 b1 b2 y0 y1 y2 x0 x1 x2 d : Int) (w : World) (iq0 : I32 q0) (iq1 : I32 q1) (iq2 : I32 q2) (iq3 : I32 q3) (ib0 : I32 b0) (ib1 : I32 b1) (ib2 : I32 b2) (iy0 : I32 y0) (iy1 : I32 y1) (iy2 : I32 y2) (ix0 : I32 x0) (ix1 : I32 x1) (ix2 : I32 x2) (id : I32 d) (hn : 0 ≤ n ∧ n ≤ 1099511627776) (hc : 0 ≤ c ∧ c ≤ 1099511628800) :
  Calls Tryz.prog 10 #[.agg #[.int .i32 q0, .int .i32 q1, .int .i32 q2, .int .i32 q3, .int .i32 b0, .int .i32 b1, .int .i32 b2, .int .i64 n, .int .i64 c], .agg #[.int .i32 y0, .int .i32 y1, .int .i32 y2], .agg #[.int .i32 x0, .int .i32 x1, .int .i32 x2], .int .i32 d] w (Fused n c q0 q1 q2 q3 b0 b1 b2 y0 y1 y2 x0 x1 x2 d w) := by
 have H1 := hid fun (g : Nat) w h => f_free g q0 q1 q2 q3 b0 b1 b2 n c y0 y1 y2 x0 x1 x2 d 0 0 0 w iy0 iy1 iy2 ib0 ib1 ib2 (by omega) h
 have H2 := hid fun (g : Nat) w h => f_correct g n c q0 q1 q2 q3 b0 b1 b2 y0 y1 y2 x0 x1 x2 d w iq0 iq1 iq2 iq3 ix0 ix1 ix2 ib0 ib1 ib2 id hc h
 have f1 := fsN_bd q0 q1 q2 q3 b0 b1 b2 y0 y1 y2 x0 x1 x2 d
 have l0 := liN_bd (fsB 0 q0 q1 q2 q3 b0 b1 b2 y0 y1 y2 x0 x1 x2 d)
 have l1 := liN_bd (fsB 1 q0 q1 q2 q3 b0 b1 b2 y0 y1 y2 x0 x1 x2 d)
 have l2 := liN_bd (fsB 2 q0 q1 q2 q3 b0 b1 b2 y0 y1 y2 x0 x1 x2 d)
 have t1 := tuN_bd q0 q1 q2 q3 (fsR 0 q0 q1 q2 q3 b0 b1 b2 y0 y1 y2 x0 x1 x2 d) (fsR 1 q0 q1 q2 q3 b0 b1 b2 y0 y1 y2 x0 x1 x2 d) (fsR 2 q0 q1 q2 q3 b0 b1 b2 y0 y1 y2 x0 x1 x2 d) d
 have jb0 := fsB_32 0 q0 q1 q2 q3 b0 b1 b2 y0 y1 y2 x0 x1 x2 d ib0 ib1 ib2
 have jb1 := fsB_32 1 q0 q1 q2 q3 b0 b1 b2 y0 y1 y2 x0 x1 x2 d ib0 ib1 ib2
 have jb2 := fsB_32 2 q0 q1 q2 q3 b0 b1 b2 y0 y1 y2 x0 x1 x2 d ib0 ib1 ib2
 have jr0 := fsR_32 0 q0 q1 q2 q3 b0 b1 b2 y0 y1 y2 x0 x1 x2 d
 have jr1 := fsR_32 1 q0 q1 q2 q3 b0 b1 b2 y0 y1 y2 x0 x1 x2 d
 have jr2 := fsR_32 2 q0 q1 q2 q3 b0 b1 b2 y0 y1 y2 x0 x1 x2 d
 have HP : Hid (∀ e w', e = .returned (.agg #[.int .i32 (tuQ 0 1073741824 q0 q1 q2 q3 (fsR 0 q0 q1 q2 q3 b0 b1 b2 y0 y1 y2 x0 x1 x2 d) (fsR 1 q0 q1 q2 q3 b0 b1 b2 y0 y1 y2 x0 x1 x2 d) (fsR 2 q0 q1 q2 q3 b0 b1 b2 y0 y1 y2 x0 x1 x2 d) d), .int .i32 (tuQ 1 0 q0 q1 q2 q3 (fsR 0 q0 q1 q2 q3 b0 b1 b2 y0 y1 y2 x0 x1 x2 d) (fsR 1 q0 q1 q2 q3 b0 b1 b2 y0 y1 y2 x0 x1 x2 d) (fsR 2 q0 q1 q2 q3 b0 b1 b2 y0 y1 y2 x0 x1 x2 d) d), .int .i32 (tuQ 2 0 q0 q1 q2 q3 (fsR 0 q0 q1 q2 q3 b0 b1 b2 y0 y1 y2 x0 x1 x2 d) (fsR 1 q0 q1 q2 q3 b0 b1 b2 y0 y1 y2 x0 x1 x2 d) (fsR 2 q0 q1 q2 q3 b0 b1 b2 y0 y1 y2 x0 x1 x2 d) d), .int .i32 (tuQ 3 0 q0 q1 q2 q3 (fsR 0 q0 q1 q2 q3 b0 b1 b2 y0 y1 y2 x0 x1 x2 d) (fsR 1 q0 q1 q2 q3 b0 b1 b2 y0 y1 y2 x0 x1 x2 d) (fsR 2 q0 q1 q2 q3 b0 b1 b2 y0 y1 y2 x0 x1 x2 d) d), .int .i32 (liP (fsB 0 q0 q1 q2 q3 b0 b1 b2 y0 y1 y2 x0 x1 x2 d)), .int .i32 (liP (fsB 1 q0 q1 q2 q3 b0 b1 b2 y0 y1 y2 x0 x1 x2 d)), .int .i32 (liP (fsB 2 q0 q1 q2 q3 b0 b1 b2 y0 y1 y2 x0 x1 x2 d)), .int .i64 (n + 1), .int .i64 (c + fsN q0 q1 q2 q3 b0 b1 b2 y0 y1 y2 x0 x1 x2 d + liN (fsB 0 q0 q1 q2 q3 b0 b1 b2 y0 y1 y2 x0 x1 x2 d) + liN (fsB 1 q0 q1 q2 q3 b0 b1 b2 y0 y1 y2 x0 x1 x2 d) + liN (fsB 2 q0 q1 q2 q3 b0 b1 b2 y0 y1 y2 x0 x1 x2 d) + tuN q0 q1 q2 q3 (fsR 0 q0 q1 q2 q3 b0 b1 b2 y0 y1 y2 x0 x1 x2 d) (fsR 1 q0 q1 q2 q3 b0 b1 b2 y0 y1 y2 x0 x1 x2 d) (fsR 2 q0 q1 q2 q3 b0 b1 b2 y0 y1 y2 x0 x1 x2 d) d)]) ∧ Below w.heap.size w w' → Fused n c q0 q1 q2 q3 b0 b1 b2 y0 y1 y2 x0 x1 x2 d w e w') := hid (by
  intro e w' h
  refine ⟨?_, h.2⟩
  rw [h.1]
  unfold stepQ stepB stepN
  rw [show c + (fsN q0 q1 q2 q3 b0 b1 b2 y0 y1 y2 x0 x1 x2 d + (liN (fsB 0 q0 q1 q2 q3 b0 b1 b2 y0 y1 y2 x0 x1 x2 d) + liN (fsB 1 q0 q1 q2 q3 b0 b1 b2 y0 y1 y2 x0 x1 x2 d) + liN (fsB 2 q0 q1 q2 q3 b0 b1 b2 y0 y1 y2 x0 x1 x2 d)) + tuN q0 q1 q2 q3 (fsR 0 q0 q1 q2 q3 b0 b1 b2 y0 y1 y2 x0 x1 x2 d) (fsR 1 q0 q1 q2 q3 b0 b1 b2 y0 y1 y2 x0 x1 x2 d) (fsR 2 q0 q1 q2 q3 b0 b1 b2 y0 y1 y2 x0 x1 x2 d) d) = c + fsN q0 q1 q2 q3 b0 b1 b2 y0 y1 y2 x0 x1 x2 d + liN (fsB 0 q0 q1 q2 q3 b0 b1 b2 y0 y1 y2 x0 x1 x2 d) + liN (fsB 1 q0 q1 q2 q3 b0 b1 b2 y0 y1 y2 x0 x1 x2 d) + liN (fsB 2 q0 q1 q2 q3 b0 b1 b2 y0 y1 y2 x0 x1 x2 d) + tuN q0 q1 q2 q3 (fsR 0 q0 q1 q2 q3 b0 b1 b2 y0 y1 y2 x0 x1 x2 d) (fsR 1 q0 q1 q2 q3 b0 b1 b2 y0 y1 y2 x0 x1 x2 d) (fsR 2 q0 q1 q2 q3 b0 b1 b2 y0 y1 y2 x0 x1 x2 d) d by omega])
 generalize Fused n c q0 q1 q2 q3 b0 b1 b2 y0 y1 y2 x0 x1 x2 d w = POST at *
 generalize fsN q0 q1 q2 q3 b0 b1 b2 y0 y1 y2 x0 x1 x2 d = fN at *
 generalize fsB 0 q0 q1 q2 q3 b0 b1 b2 y0 y1 y2 x0 x1 x2 d = B0 at *
 generalize fsR 0 q0 q1 q2 q3 b0 b1 b2 y0 y1 y2 x0 x1 x2 d = R0 at *
 generalize fsB 1 q0 q1 q2 q3 b0 b1 b2 y0 y1 y2 x0 x1 x2 d = B1 at *
 generalize fsR 1 q0 q1 q2 q3 b0 b1 b2 y0 y1 y2 x0 x1 x2 d = R1 at *
 generalize fsB 2 q0 q1 q2 q3 b0 b1 b2 y0 y1 y2 x0 x1 x2 d = B2 at *
 generalize fsR 2 q0 q1 q2 q3 b0 b1 b2 y0 y1 y2 x0 x1 x2 d = R2 at *
 have H3 := hid fun (g : Nat) w h => f_limit g q0 q1 q2 q3 B0 B1 B2 n (c + fN) y0 y1 y2 x0 x1 x2 d R0 R1 R2 w jb0 jb1 jb2 (by omega) h
 have H4 := hid fun (g : Nat) w h => f_turn g q0 q1 q2 q3 (liP B0) (liP B1) (liP B2) n (c + fN + liN B0 + liN B1 + liN B2) y0 y1 y2 x0 x1 x2 d R0 R1 R2 w iq0 iq1 iq2 iq3 jr0 jr1 jr2 id (by omega) (by omega) h
 clear f1 l0 l1 l2 t1 jb0 jb1 jb2 jr0 jr1 jr2 hn hc iq0 iq1 iq2 iq3 ib0 ib1 ib2 iy0 iy1 iy2 ix0 ix1 ix2 id
 generalize tuQ 0 1073741824 q0 q1 q2 q3 R0 R1 R2 d = t0 at *
 generalize tuQ 1 0 q0 q1 q2 q3 R0 R1 R2 d = t1 at *
 generalize tuQ 2 0 q0 q1 q2 q3 R0 R1 R2 d = t2 at *
 generalize tuQ 3 0 q0 q1 q2 q3 R0 R1 R2 d = t3 at *
 generalize tuN q0 q1 q2 q3 R0 R1 R2 d = tN at *
 generalize liP B0 = k0 at *
 generalize liP B1 = k1 at *
 generalize liP B2 = k2 at *
 generalize hC3 : c + fN + liN B0 + liN B1 + liN B2 = c3 at *
 generalize hC2 : c + fN = c2 at *
 clear hC3 hC2
 have hS : Hid (cutC (y0 - b0) + cutC (y1 - b1) + cutC (y2 - b2) = fkN y0 y1 y2 b0 b1 b2) := rfl
 have hb : Below w.heap.size w ((((w.alloc (.cells #[.int .i32 q0, .int .i32 q1, .int .i32 q2, .int .i32 q3, .int .i32 b0, .int .i32 b1, .int .i32 b2, .int .i64 n, .int .i64 c] 34)).alloc (.cells #[.int .i32 y0, .int .i32 y1, .int .i32 y2] 25)).alloc (.cells #[.int .i32 x0, .int .i32 x1, .int .i32 x2] 25)).alloc (.cells #[.int .i32 0, .int .i32 0, .int .i32 0, .int .i32 0, .int .i32 0, .int .i32 0, .int .i32 0, .int .i64 0, .int .i64 0] 34)) := ((((Below.refl _ w).alloc (Nat.le_refl _) _).alloc (by simp) _).alloc (by simp; omega) _).alloc (by simp; omega) _
 have hr : Blk ((((w.alloc (.cells #[.int .i32 q0, .int .i32 q1, .int .i32 q2, .int .i32 q3, .int .i32 b0, .int .i32 b1, .int .i32 b2, .int .i64 n, .int .i64 c] 34)).alloc (.cells #[.int .i32 y0, .int .i32 y1, .int .i32 y2] 25)).alloc (.cells #[.int .i32 x0, .int .i32 x1, .int .i32 x2] 25)).alloc (.cells #[.int .i32 0, .int .i32 0, .int .i32 0, .int .i32 0, .int .i32 0, .int .i32 0, .int .i32 0, .int .i64 0, .int .i64 0] 34)) (w.heap.size + 1 + 1 + 1) 34 #[.int .i32 0, .int .i32 0, .int .i32 0, .int .i32 0, .int .i32 0, .int .i32 0, .int .i32 0, .int .i64 0, .int .i64 0] := by have := Blk.new (((w.alloc (.cells #[.int .i32 q0, .int .i32 q1, .int .i32 q2, .int .i32 q3, .int .i32 b0, .int .i32 b1, .int .i32 b2, .int .i64 n, .int .i64 c] 34)).alloc (.cells #[.int .i32 y0, .int .i32 y1, .int .i32 y2] 25)).alloc (.cells #[.int .i32 x0, .int .i32 x1, .int .i32 x2] 25)) 34 #[.int .i32 0, .int .i32 0, .int .i32 0, .int .i32 0, .int .i32 0, .int .i32 0, .int .i32 0, .int .i64 0, .int .i64 0]; simpa using this
 have c0_ : (((((w.alloc (.cells #[.int .i32 q0, .int .i32 q1, .int .i32 q2, .int .i32 q3, .int .i32 b0, .int .i32 b1, .int .i32 b2, .int .i64 n, .int .i64 c] 34)).alloc (.cells #[.int .i32 y0, .int .i32 y1, .int .i32 y2] 25)).alloc (.cells #[.int .i32 x0, .int .i32 x1, .int .i32 x2] 25)).alloc (.cells #[.int .i32 0, .int .i32 0, .int .i32 0, .int .i32 0, .int .i32 0, .int .i32 0, .int .i32 0, .int .i64 0, .int .i64 0] 34))).cell? ⟨w.heap.size, 0, none⟩ = some (.int .i32 q0) := ((((Blk.new w _ _).alloc _).alloc _).alloc _).cell 0
 have c1_ : (((((w.alloc (.cells #[.int .i32 q0, .int .i32 q1, .int .i32 q2, .int .i32 q3, .int .i32 b0, .int .i32 b1, .int .i32 b2, .int .i64 n, .int .i64 c] 34)).alloc (.cells #[.int .i32 y0, .int .i32 y1, .int .i32 y2] 25)).alloc (.cells #[.int .i32 x0, .int .i32 x1, .int .i32 x2] 25)).alloc (.cells #[.int .i32 0, .int .i32 0, .int .i32 0, .int .i32 0, .int .i32 0, .int .i32 0, .int .i32 0, .int .i64 0, .int .i64 0] 34))).cell? ⟨w.heap.size, 1, none⟩ = some (.int .i32 q1) := ((((Blk.new w _ _).alloc _).alloc _).alloc _).cell 1
 have c2_ : (((((w.alloc (.cells #[.int .i32 q0, .int .i32 q1, .int .i32 q2, .int .i32 q3, .int .i32 b0, .int .i32 b1, .int .i32 b2, .int .i64 n, .int .i64 c] 34)).alloc (.cells #[.int .i32 y0, .int .i32 y1, .int .i32 y2] 25)).alloc (.cells #[.int .i32 x0, .int .i32 x1, .int .i32 x2] 25)).alloc (.cells #[.int .i32 0, .int .i32 0, .int .i32 0, .int .i32 0, .int .i32 0, .int .i32 0, .int .i32 0, .int .i64 0, .int .i64 0] 34))).cell? ⟨w.heap.size, 2, none⟩ = some (.int .i32 q2) := ((((Blk.new w _ _).alloc _).alloc _).alloc _).cell 2
 have c3_ : (((((w.alloc (.cells #[.int .i32 q0, .int .i32 q1, .int .i32 q2, .int .i32 q3, .int .i32 b0, .int .i32 b1, .int .i32 b2, .int .i64 n, .int .i64 c] 34)).alloc (.cells #[.int .i32 y0, .int .i32 y1, .int .i32 y2] 25)).alloc (.cells #[.int .i32 x0, .int .i32 x1, .int .i32 x2] 25)).alloc (.cells #[.int .i32 0, .int .i32 0, .int .i32 0, .int .i32 0, .int .i32 0, .int .i32 0, .int .i32 0, .int .i64 0, .int .i64 0] 34))).cell? ⟨w.heap.size, 3, none⟩ = some (.int .i32 q3) := ((((Blk.new w _ _).alloc _).alloc _).alloc _).cell 3
 have c4_ : (((((w.alloc (.cells #[.int .i32 q0, .int .i32 q1, .int .i32 q2, .int .i32 q3, .int .i32 b0, .int .i32 b1, .int .i32 b2, .int .i64 n, .int .i64 c] 34)).alloc (.cells #[.int .i32 y0, .int .i32 y1, .int .i32 y2] 25)).alloc (.cells #[.int .i32 x0, .int .i32 x1, .int .i32 x2] 25)).alloc (.cells #[.int .i32 0, .int .i32 0, .int .i32 0, .int .i32 0, .int .i32 0, .int .i32 0, .int .i32 0, .int .i64 0, .int .i64 0] 34))).cell? ⟨w.heap.size, 4, none⟩ = some (.int .i32 b0) := ((((Blk.new w _ _).alloc _).alloc _).alloc _).cell 4
 have c5_ : (((((w.alloc (.cells #[.int .i32 q0, .int .i32 q1, .int .i32 q2, .int .i32 q3, .int .i32 b0, .int .i32 b1, .int .i32 b2, .int .i64 n, .int .i64 c] 34)).alloc (.cells #[.int .i32 y0, .int .i32 y1, .int .i32 y2] 25)).alloc (.cells #[.int .i32 x0, .int .i32 x1, .int .i32 x2] 25)).alloc (.cells #[.int .i32 0, .int .i32 0, .int .i32 0, .int .i32 0, .int .i32 0, .int .i32 0, .int .i32 0, .int .i64 0, .int .i64 0] 34))).cell? ⟨w.heap.size, 5, none⟩ = some (.int .i32 b1) := ((((Blk.new w _ _).alloc _).alloc _).alloc _).cell 5
 have c6_ : (((((w.alloc (.cells #[.int .i32 q0, .int .i32 q1, .int .i32 q2, .int .i32 q3, .int .i32 b0, .int .i32 b1, .int .i32 b2, .int .i64 n, .int .i64 c] 34)).alloc (.cells #[.int .i32 y0, .int .i32 y1, .int .i32 y2] 25)).alloc (.cells #[.int .i32 x0, .int .i32 x1, .int .i32 x2] 25)).alloc (.cells #[.int .i32 0, .int .i32 0, .int .i32 0, .int .i32 0, .int .i32 0, .int .i32 0, .int .i32 0, .int .i64 0, .int .i64 0] 34))).cell? ⟨w.heap.size, 6, none⟩ = some (.int .i32 b2) := ((((Blk.new w _ _).alloc _).alloc _).alloc _).cell 6
 have c7_ : (((((w.alloc (.cells #[.int .i32 q0, .int .i32 q1, .int .i32 q2, .int .i32 q3, .int .i32 b0, .int .i32 b1, .int .i32 b2, .int .i64 n, .int .i64 c] 34)).alloc (.cells #[.int .i32 y0, .int .i32 y1, .int .i32 y2] 25)).alloc (.cells #[.int .i32 x0, .int .i32 x1, .int .i32 x2] 25)).alloc (.cells #[.int .i32 0, .int .i32 0, .int .i32 0, .int .i32 0, .int .i32 0, .int .i32 0, .int .i32 0, .int .i64 0, .int .i64 0] 34))).cell? ⟨w.heap.size, 7, none⟩ = some (.int .i64 n) := ((((Blk.new w _ _).alloc _).alloc _).alloc _).cell 7
 have c8_ : (((((w.alloc (.cells #[.int .i32 q0, .int .i32 q1, .int .i32 q2, .int .i32 q3, .int .i32 b0, .int .i32 b1, .int .i32 b2, .int .i64 n, .int .i64 c] 34)).alloc (.cells #[.int .i32 y0, .int .i32 y1, .int .i32 y2] 25)).alloc (.cells #[.int .i32 x0, .int .i32 x1, .int .i32 x2] 25)).alloc (.cells #[.int .i32 0, .int .i32 0, .int .i32 0, .int .i32 0, .int .i32 0, .int .i32 0, .int .i32 0, .int .i64 0, .int .i64 0] 34))).cell? ⟨w.heap.size, 8, none⟩ = some (.int .i64 c) := ((((Blk.new w _ _).alloc _).alloc _).alloc _).cell 8
 have y0_ : (((((w.alloc (.cells #[.int .i32 q0, .int .i32 q1, .int .i32 q2, .int .i32 q3, .int .i32 b0, .int .i32 b1, .int .i32 b2, .int .i64 n, .int .i64 c] 34)).alloc (.cells #[.int .i32 y0, .int .i32 y1, .int .i32 y2] 25)).alloc (.cells #[.int .i32 x0, .int .i32 x1, .int .i32 x2] 25)).alloc (.cells #[.int .i32 0, .int .i32 0, .int .i32 0, .int .i32 0, .int .i32 0, .int .i32 0, .int .i32 0, .int .i64 0, .int .i64 0] 34))).cell? ⟨w.heap.size + 1, 0, none⟩ = some (.int .i32 y0) := by have := (((Blk.new (w.alloc (.cells #[.int .i32 q0, .int .i32 q1, .int .i32 q2, .int .i32 q3, .int .i32 b0, .int .i32 b1, .int .i32 b2, .int .i64 n, .int .i64 c] 34)) 25 #[.int .i32 y0, .int .i32 y1, .int .i32 y2]).alloc (.cells #[.int .i32 x0, .int .i32 x1, .int .i32 x2] 25)).alloc (.cells #[.int .i32 0, .int .i32 0, .int .i32 0, .int .i32 0, .int .i32 0, .int .i32 0, .int .i32 0, .int .i64 0, .int .i64 0] 34)).cell 0; simpa using this
 have y1_ : (((((w.alloc (.cells #[.int .i32 q0, .int .i32 q1, .int .i32 q2, .int .i32 q3, .int .i32 b0, .int .i32 b1, .int .i32 b2, .int .i64 n, .int .i64 c] 34)).alloc (.cells #[.int .i32 y0, .int .i32 y1, .int .i32 y2] 25)).alloc (.cells #[.int .i32 x0, .int .i32 x1, .int .i32 x2] 25)).alloc (.cells #[.int .i32 0, .int .i32 0, .int .i32 0, .int .i32 0, .int .i32 0, .int .i32 0, .int .i32 0, .int .i64 0, .int .i64 0] 34))).cell? ⟨w.heap.size + 1, 1, none⟩ = some (.int .i32 y1) := by have := (((Blk.new (w.alloc (.cells #[.int .i32 q0, .int .i32 q1, .int .i32 q2, .int .i32 q3, .int .i32 b0, .int .i32 b1, .int .i32 b2, .int .i64 n, .int .i64 c] 34)) 25 #[.int .i32 y0, .int .i32 y1, .int .i32 y2]).alloc (.cells #[.int .i32 x0, .int .i32 x1, .int .i32 x2] 25)).alloc (.cells #[.int .i32 0, .int .i32 0, .int .i32 0, .int .i32 0, .int .i32 0, .int .i32 0, .int .i32 0, .int .i64 0, .int .i64 0] 34)).cell 1; simpa using this
 have y2_ : (((((w.alloc (.cells #[.int .i32 q0, .int .i32 q1, .int .i32 q2, .int .i32 q3, .int .i32 b0, .int .i32 b1, .int .i32 b2, .int .i64 n, .int .i64 c] 34)).alloc (.cells #[.int .i32 y0, .int .i32 y1, .int .i32 y2] 25)).alloc (.cells #[.int .i32 x0, .int .i32 x1, .int .i32 x2] 25)).alloc (.cells #[.int .i32 0, .int .i32 0, .int .i32 0, .int .i32 0, .int .i32 0, .int .i32 0, .int .i32 0, .int .i64 0, .int .i64 0] 34))).cell? ⟨w.heap.size + 1, 2, none⟩ = some (.int .i32 y2) := by have := (((Blk.new (w.alloc (.cells #[.int .i32 q0, .int .i32 q1, .int .i32 q2, .int .i32 q3, .int .i32 b0, .int .i32 b1, .int .i32 b2, .int .i64 n, .int .i64 c] 34)) 25 #[.int .i32 y0, .int .i32 y1, .int .i32 y2]).alloc (.cells #[.int .i32 x0, .int .i32 x1, .int .i32 x2] 25)).alloc (.cells #[.int .i32 0, .int .i32 0, .int .i32 0, .int .i32 0, .int .i32 0, .int .i32 0, .int .i32 0, .int .i64 0, .int .i64 0] 34)).cell 2; simpa using this
 have x0_ : (((((w.alloc (.cells #[.int .i32 q0, .int .i32 q1, .int .i32 q2, .int .i32 q3, .int .i32 b0, .int .i32 b1, .int .i32 b2, .int .i64 n, .int .i64 c] 34)).alloc (.cells #[.int .i32 y0, .int .i32 y1, .int .i32 y2] 25)).alloc (.cells #[.int .i32 x0, .int .i32 x1, .int .i32 x2] 25)).alloc (.cells #[.int .i32 0, .int .i32 0, .int .i32 0, .int .i32 0, .int .i32 0, .int .i32 0, .int .i32 0, .int .i64 0, .int .i64 0] 34))).cell? ⟨w.heap.size + 1 + 1, 0, none⟩ = some (.int .i32 x0) := by have := ((Blk.new ((w.alloc (.cells #[.int .i32 q0, .int .i32 q1, .int .i32 q2, .int .i32 q3, .int .i32 b0, .int .i32 b1, .int .i32 b2, .int .i64 n, .int .i64 c] 34)).alloc (.cells #[.int .i32 y0, .int .i32 y1, .int .i32 y2] 25)) 25 #[.int .i32 x0, .int .i32 x1, .int .i32 x2]).alloc (.cells #[.int .i32 0, .int .i32 0, .int .i32 0, .int .i32 0, .int .i32 0, .int .i32 0, .int .i32 0, .int .i64 0, .int .i64 0] 34)).cell 0; simpa using this
 have x1_ : (((((w.alloc (.cells #[.int .i32 q0, .int .i32 q1, .int .i32 q2, .int .i32 q3, .int .i32 b0, .int .i32 b1, .int .i32 b2, .int .i64 n, .int .i64 c] 34)).alloc (.cells #[.int .i32 y0, .int .i32 y1, .int .i32 y2] 25)).alloc (.cells #[.int .i32 x0, .int .i32 x1, .int .i32 x2] 25)).alloc (.cells #[.int .i32 0, .int .i32 0, .int .i32 0, .int .i32 0, .int .i32 0, .int .i32 0, .int .i32 0, .int .i64 0, .int .i64 0] 34))).cell? ⟨w.heap.size + 1 + 1, 1, none⟩ = some (.int .i32 x1) := by have := ((Blk.new ((w.alloc (.cells #[.int .i32 q0, .int .i32 q1, .int .i32 q2, .int .i32 q3, .int .i32 b0, .int .i32 b1, .int .i32 b2, .int .i64 n, .int .i64 c] 34)).alloc (.cells #[.int .i32 y0, .int .i32 y1, .int .i32 y2] 25)) 25 #[.int .i32 x0, .int .i32 x1, .int .i32 x2]).alloc (.cells #[.int .i32 0, .int .i32 0, .int .i32 0, .int .i32 0, .int .i32 0, .int .i32 0, .int .i32 0, .int .i64 0, .int .i64 0] 34)).cell 1; simpa using this
 have x2_ : (((((w.alloc (.cells #[.int .i32 q0, .int .i32 q1, .int .i32 q2, .int .i32 q3, .int .i32 b0, .int .i32 b1, .int .i32 b2, .int .i64 n, .int .i64 c] 34)).alloc (.cells #[.int .i32 y0, .int .i32 y1, .int .i32 y2] 25)).alloc (.cells #[.int .i32 x0, .int .i32 x1, .int .i32 x2] 25)).alloc (.cells #[.int .i32 0, .int .i32 0, .int .i32 0, .int .i32 0, .int .i32 0, .int .i32 0, .int .i32 0, .int .i64 0, .int .i64 0] 34))).cell? ⟨w.heap.size + 1 + 1, 2, none⟩ = some (.int .i32 x2) := by have := ((Blk.new ((w.alloc (.cells #[.int .i32 q0, .int .i32 q1, .int .i32 q2, .int .i32 q3, .int .i32 b0, .int .i32 b1, .int .i32 b2, .int .i64 n, .int .i64 c] 34)).alloc (.cells #[.int .i32 y0, .int .i32 y1, .int .i32 y2] 25)) 25 #[.int .i32 x0, .int .i32 x1, .int .i32 x2]).alloc (.cells #[.int .i32 0, .int .i32 0, .int .i32 0, .int .i32 0, .int .i32 0, .int .i32 0, .int .i32 0, .int .i64 0, .int .i64 0] 34)).cell 2; simpa using this
 go_enter Tryz.func10, Tryz.ntmps10
 go_upto_region 1 with fail
 generalize ((((w.alloc (.cells #[.int .i32 q0, .int .i32 q1, .int .i32 q2, .int .i32 q3, .int .i32 b0, .int .i32 b1, .int .i32 b2, .int .i64 n, .int .i64 c] 34)).alloc (.cells #[.int .i32 y0, .int .i32 y1, .int .i32 y2] 25)).alloc (.cells #[.int .i32 x0, .int .i32 x1, .int .i32 x2] 25)).alloc (.cells #[.int .i32 0, .int .i32 0, .int .i32 0, .int .i32 0, .int .i32 0, .int .i32 0, .int .i32 0, .int .i64 0, .int .i64 0] 34)) = W0 at *
 generalize hgr : w.heap.size + 1 + 1 + 1 = gr at *
 go_upto_region 2 with fail
 clear c0_ c1_ c2_ c3_ c4_ c5_ c6_ c7_ c8_ y0_ y1_ y2_ x0_ x1_ x2_
 have hB := Blk.new W0 56 #[.int .i32 q0, .int .i32 q1, .int .i32 q2, .int .i32 q3, .int .i32 b0, .int .i32 b1, .int .i32 b2, .int .i64 n, .int .i64 c, .int .i32 y0, .int .i32 y1, .int .i32 y2, .int .i32 x0, .int .i32 x1, .int .i32 x2, .int .i32 d, .int .i32 0, .int .i32 0, .int .i32 0]
 have lr := hr.lt
 have lb := hb.size
 replace hr := hr.alloc (.cells #[.int .i32 q0, .int .i32 q1, .int .i32 q2, .int .i32 q3, .int .i32 b0, .int .i32 b1, .int .i32 b2, .int .i64 n, .int .i64 c, .int .i32 y0, .int .i32 y1, .int .i32 y2, .int .i32 x0, .int .i32 x1, .int .i32 x2, .int .i32 d, .int .i32 0, .int .i32 0, .int .i32 0] 56)
 replace hb := hb.alloc hb.size (.cells #[.int .i32 q0, .int .i32 q1, .int .i32 q2, .int .i32 q3, .int .i32 b0, .int .i32 b1, .int .i32 b2, .int .i64 n, .int .i64 c, .int .i32 y0, .int .i32 y1, .int .i32 y2, .int .i32 x0, .int .i32 x1, .int .i32 x2, .int .i32 d, .int .i32 0, .int .i32 0, .int .i32 0] 56)
 generalize W0.alloc (.cells #[.int .i32 q0, .int .i32 q1, .int .i32 q2, .int .i32 q3, .int .i32 b0, .int .i32 b1, .int .i32 b2, .int .i64 n, .int .i64 c, .int .i32 y0, .int .i32 y1, .int .i32 y2, .int .i32 x0, .int .i32 x1, .int .i32 x2, .int .i32 d, .int .i32 0, .int .i32 0, .int .i32 0] 56) = W1 at *
 generalize W0.heap.size = g at *
 go_wp2
 have hj := Blk.new W1 59 #[.func (.func 26) #[] #[], .func (.func 27) #[] #[], .func (.func 28) #[] #[], .func (.func 29) #[] #[]]
 have lj := hB.lt
 have lr2 := hr.lt
 replace hB := hB.alloc (.cells #[.func (.func 26) #[] #[], .func (.func 27) #[] #[], .func (.func 28) #[] #[], .func (.func 29) #[] #[]] 59)
 replace hr := hr.alloc (.cells #[.func (.func 26) #[] #[], .func (.func 27) #[] #[], .func (.func 28) #[] #[], .func (.func 29) #[] #[]] 59)
 replace hb := hb.alloc hb.size (.cells #[.func (.func 26) #[] #[], .func (.func 27) #[] #[], .func (.func 28) #[] #[], .func (.func 29) #[] #[]] 59)
 generalize W1.alloc (.cells #[.func (.func 26) #[] #[], .func (.func 27) #[] #[], .func (.func 28) #[] #[], .func (.func 29) #[] #[]] 59) = W2 at *
 generalize W1.heap.size = gj at *
 refine wp_loop_rounds 5 ?_
 rw [rounds_succ]
 have j_ : W2.cell? ⟨gj, 0, none⟩ = some (.func (.func 26) #[] #[]) := hj.cell 0
 go_wp2_with fail
 clear j_
 replace hB := hB.alloc (.cells #[.func (.func 26) #[] #[]] 59)
 replace hr := hr.alloc (.cells #[.func (.func 26) #[] #[]] 59)
 replace hj := hj.alloc (.cells #[.func (.func 26) #[] #[]] 59)
 replace hb := hb.alloc hb.size (.cells #[.func (.func 26) #[] #[]] 59)
 generalize (W2.alloc (.cells #[.func (.func 26) #[] #[]] 59)) = N0 at *
 refine (H1.out _ _ hB).mono ?_
 rintro e M0 ⟨rfl, hX, gg⟩
 replace hr := hr.grown gg (by rw [Ne, Option.some.injEq]; omega)
 replace hj := hj.grown gg (by rw [Ne, Option.some.injEq]; omega)
 replace hb := f_bg hb gg (by omega)
 clear hB gg
 have hB : Blk M0 g 56 #[.int .i32 q0, .int .i32 q1, .int .i32 q2, .int .i32 q3, .int .i32 b0, .int .i32 b1, .int .i32 b2, .int .i64 n, .int .i64 (c + fkN y0 y1 y2 b0 b1 b2), .int .i32 y0, .int .i32 y1, .int .i32 y2, .int .i32 x0, .int .i32 x1, .int .i32 x2, .int .i32 d, .int .i32 (frR y0 b0), .int .i32 (frR y1 b1), .int .i32 (frR y2 b2)] := hX
 clear hX
 go_wp2
 rw [rounds_succ]
 have j_ : M0.cell? ⟨gj, 1, none⟩ = some (.func (.func 27) #[] #[]) := hj.cell 1
 go_wp2_with fail
 clear j_
 replace hB := hB.alloc (.cells #[.func (.func 27) #[] #[]] 59)
 replace hr := hr.alloc (.cells #[.func (.func 27) #[] #[]] 59)
 replace hj := hj.alloc (.cells #[.func (.func 27) #[] #[]] 59)
 replace hb := hb.alloc hb.size (.cells #[.func (.func 27) #[] #[]] 59)
 generalize (M0.alloc (.cells #[.func (.func 27) #[] #[]] 59)) = N1 at *
 refine (H2.out _ _ hB).mono ?_
 rintro e M1 ⟨rfl, hX, gg⟩
 replace hr := hr.grown gg (by rw [Ne, Option.some.injEq]; omega)
 replace hj := hj.grown gg (by rw [Ne, Option.some.injEq]; omega)
 replace hb := f_bg hb gg (by omega)
 clear hB gg
 have hB : Blk M1 g 56 #[.int .i32 q0, .int .i32 q1, .int .i32 q2, .int .i32 q3, .int .i32 B0, .int .i32 B1, .int .i32 B2, .int .i64 n, .int .i64 c2, .int .i32 y0, .int .i32 y1, .int .i32 y2, .int .i32 x0, .int .i32 x1, .int .i32 x2, .int .i32 d, .int .i32 R0, .int .i32 R1, .int .i32 R2] := hX
 clear hX
 go_wp2
 rw [rounds_succ]
 have j_ : M1.cell? ⟨gj, 2, none⟩ = some (.func (.func 28) #[] #[]) := hj.cell 2
 go_wp2_with fail
 clear j_
 replace hB := hB.alloc (.cells #[.func (.func 28) #[] #[]] 59)
 replace hr := hr.alloc (.cells #[.func (.func 28) #[] #[]] 59)
 replace hj := hj.alloc (.cells #[.func (.func 28) #[] #[]] 59)
 replace hb := hb.alloc hb.size (.cells #[.func (.func 28) #[] #[]] 59)
 generalize (M1.alloc (.cells #[.func (.func 28) #[] #[]] 59)) = N2 at *
 refine (H3.out _ _ hB).mono ?_
 rintro e M2 ⟨rfl, hX, gg⟩
 replace hr := hr.grown gg (by rw [Ne, Option.some.injEq]; omega)
 replace hj := hj.grown gg (by rw [Ne, Option.some.injEq]; omega)
 replace hb := f_bg hb gg (by omega)
 clear hB gg
 have hB : Blk M2 g 56 #[.int .i32 q0, .int .i32 q1, .int .i32 q2, .int .i32 q3, .int .i32 k0, .int .i32 k1, .int .i32 k2, .int .i64 n, .int .i64 c3, .int .i32 y0, .int .i32 y1, .int .i32 y2, .int .i32 x0, .int .i32 x1, .int .i32 x2, .int .i32 d, .int .i32 R0, .int .i32 R1, .int .i32 R2] := hX
 clear hX
 go_wp2
 rw [rounds_succ]
 have j_ : M2.cell? ⟨gj, 3, none⟩ = some (.func (.func 29) #[] #[]) := hj.cell 3
 go_wp2_with fail
 clear j_
 replace hB := hB.alloc (.cells #[.func (.func 29) #[] #[]] 59)
 replace hr := hr.alloc (.cells #[.func (.func 29) #[] #[]] 59)
 replace hj := hj.alloc (.cells #[.func (.func 29) #[] #[]] 59)
 replace hb := hb.alloc hb.size (.cells #[.func (.func 29) #[] #[]] 59)
 generalize (M2.alloc (.cells #[.func (.func 29) #[] #[]] 59)) = N3 at *
 refine (H4.out _ _ hB).mono ?_
 rintro e M3 ⟨rfl, hX, gg⟩
 replace hr := hr.grown gg (by rw [Ne, Option.some.injEq]; omega)
 replace hj := hj.grown gg (by rw [Ne, Option.some.injEq]; omega)
 replace hb := f_bg hb gg (by omega)
 clear hB gg
 have hB : Blk M3 g 56 #[.int .i32 t0, .int .i32 t1, .int .i32 t2, .int .i32 t3, .int .i32 k0, .int .i32 k1, .int .i32 k2, .int .i64 (n + 1), .int .i64 (c3 + tN), .int .i32 y0, .int .i32 y1, .int .i32 y2, .int .i32 x0, .int .i32 x1, .int .i32 x2, .int .i32 d, .int .i32 R0, .int .i32 R1, .int .i32 R2] := hX
 clear hX
 go_wp2
 rw [rounds_succ]
 have s0_ : M3.cell? ⟨g, 0, none⟩ = some (.int .i32 t0) := hB.cell 0
 have r0_ : M3.cell? ⟨gr, 0, none⟩ = some (.int .i32 0) := hr.cell 0
 have z0_ := hr.frozen 0
 have s1_ : M3.cell? ⟨g, 1, none⟩ = some (.int .i32 t1) := hB.cell 1
 have r1_ : M3.cell? ⟨gr, 1, none⟩ = some (.int .i32 0) := hr.cell 1
 have z1_ := hr.frozen 1
 have s2_ : M3.cell? ⟨g, 2, none⟩ = some (.int .i32 t2) := hB.cell 2
 have r2_ : M3.cell? ⟨gr, 2, none⟩ = some (.int .i32 0) := hr.cell 2
 have z2_ := hr.frozen 2
 have s3_ : M3.cell? ⟨g, 3, none⟩ = some (.int .i32 t3) := hB.cell 3
 have r3_ : M3.cell? ⟨gr, 3, none⟩ = some (.int .i32 0) := hr.cell 3
 have z3_ := hr.frozen 3
 have s4_ : M3.cell? ⟨g, 4, none⟩ = some (.int .i32 k0) := hB.cell 4
 have r4_ : M3.cell? ⟨gr, 4, none⟩ = some (.int .i32 0) := hr.cell 4
 have z4_ := hr.frozen 4
 have s5_ : M3.cell? ⟨g, 5, none⟩ = some (.int .i32 k1) := hB.cell 5
 have r5_ : M3.cell? ⟨gr, 5, none⟩ = some (.int .i32 0) := hr.cell 5
 have z5_ := hr.frozen 5
 have s6_ : M3.cell? ⟨g, 6, none⟩ = some (.int .i32 k2) := hB.cell 6
 have r6_ : M3.cell? ⟨gr, 6, none⟩ = some (.int .i32 0) := hr.cell 6
 have z6_ := hr.frozen 6
 have s7_ : M3.cell? ⟨g, 7, none⟩ = some (.int .i64 (n + 1)) := hB.cell 7
 have r7_ : M3.cell? ⟨gr, 7, none⟩ = some (.int .i64 0) := hr.cell 7
 have z7_ := hr.frozen 7
 have s8_ : M3.cell? ⟨g, 8, none⟩ = some (.int .i64 (c3 + tN)) := hB.cell 8
 have r8_ : M3.cell? ⟨gr, 8, none⟩ = some (.int .i64 0) := hr.cell 8
 have z8_ := hr.frozen 8
 have hf : Blk (((((((((M3.setCell ⟨gr, 0, none⟩ (.int .i32 t0)).setCell ⟨gr, 1, none⟩ (.int .i32 t1)).setCell ⟨gr, 2, none⟩ (.int .i32 t2)).setCell ⟨gr, 3, none⟩ (.int .i32 t3)).setCell ⟨gr, 4, none⟩ (.int .i32 k0)).setCell ⟨gr, 5, none⟩ (.int .i32 k1)).setCell ⟨gr, 6, none⟩ (.int .i32 k2)).setCell ⟨gr, 7, none⟩ (.int .i64 (n + 1))).setCell ⟨gr, 8, none⟩ (.int .i64 (c3 + tN))) gr 34 #[.int .i32 t0, .int .i32 t1, .int .i32 t2, .int .i32 t3, .int .i32 k0, .int .i32 k1, .int .i32 k2, .int .i64 (n + 1), .int .i64 (c3 + tN)] := (((((((((hr.set_ 0 (.int .i32 t0)).set_ 1 (.int .i32 t1)).set_ 2 (.int .i32 t2)).set_ 3 (.int .i32 t3)).set_ 4 (.int .i32 k0)).set_ 5 (.int .i32 k1)).set_ 6 (.int .i32 k2)).set_ 7 (.int .i64 (n + 1))).set_ 8 (.int .i64 (c3 + tN)))
 have hbf : Below w.heap.size w (((((((((M3.setCell ⟨gr, 0, none⟩ (.int .i32 t0)).setCell ⟨gr, 1, none⟩ (.int .i32 t1)).setCell ⟨gr, 2, none⟩ (.int .i32 t2)).setCell ⟨gr, 3, none⟩ (.int .i32 t3)).setCell ⟨gr, 4, none⟩ (.int .i32 k0)).setCell ⟨gr, 5, none⟩ (.int .i32 k1)).setCell ⟨gr, 6, none⟩ (.int .i32 k2)).setCell ⟨gr, 7, none⟩ (.int .i64 (n + 1))).setCell ⟨gr, 8, none⟩ (.int .i64 (c3 + tN))) := (((((((((hb.sc gr 0 (by omega) (.int .i32 t0)).sc gr 1 (by omega) (.int .i32 t1)).sc gr 2 (by omega) (.int .i32 t2)).sc gr 3 (by omega) (.int .i32 t3)).sc gr 4 (by omega) (.int .i32 k0)).sc gr 5 (by omega) (.int .i32 k1)).sc gr 6 (by omega) (.int .i32 k2)).sc gr 7 (by omega) (.int .i64 (n + 1))).sc gr 8 (by omega) (.int .i64 (c3 + tN)))
 go_wp2
 generalize (((((((((M3.setCell ⟨gr, 0, none⟩ (.int .i32 t0)).setCell ⟨gr, 1, none⟩ (.int .i32 t1)).setCell ⟨gr, 2, none⟩ (.int .i32 t2)).setCell ⟨gr, 3, none⟩ (.int .i32 t3)).setCell ⟨gr, 4, none⟩ (.int .i32 k0)).setCell ⟨gr, 5, none⟩ (.int .i32 k1)).setCell ⟨gr, 6, none⟩ (.int .i32 k2)).setCell ⟨gr, 7, none⟩ (.int .i64 (n + 1))).setCell ⟨gr, 8, none⟩ (.int .i64 (c3 + tN))) = wf at *
 have f0_ : wf.cell? ⟨gr, 0, none⟩ = some (.int .i32 t0) := hf.cell 0
 have f1_ : wf.cell? ⟨gr, 1, none⟩ = some (.int .i32 t1) := hf.cell 1
 have f2_ : wf.cell? ⟨gr, 2, none⟩ = some (.int .i32 t2) := hf.cell 2
 have f3_ : wf.cell? ⟨gr, 3, none⟩ = some (.int .i32 t3) := hf.cell 3
 have f4_ : wf.cell? ⟨gr, 4, none⟩ = some (.int .i32 k0) := hf.cell 4
 have f5_ : wf.cell? ⟨gr, 5, none⟩ = some (.int .i32 k1) := hf.cell 5
 have f6_ : wf.cell? ⟨gr, 6, none⟩ = some (.int .i32 k2) := hf.cell 6
 have f7_ : wf.cell? ⟨gr, 7, none⟩ = some (.int .i64 (n + 1)) := hf.cell 7
 have f8_ : wf.cell? ⟨gr, 8, none⟩ = some (.int .i64 (c3 + tN)) := hf.cell 8
 simp [bodyPost, results, Tryz.results10, go_sem, f0_, f1_, f2_, f3_, f4_, f5_, f6_, f7_, f8_]
 exact HP.out _ _ ⟨rfl, hbf⟩
end Go.Proofs.YtgmepohfkpncmaaGreat
