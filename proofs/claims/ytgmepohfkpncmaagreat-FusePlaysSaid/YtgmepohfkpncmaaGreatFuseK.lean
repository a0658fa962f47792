/- Chapter 42: the document's answer: parts of an error, limits, the error, the word. -/
import Derived.Test.YtgmepohfkpncmaaGreatFuseH
import Derived.Test.YtgmepohfkpncmaaGreatTurnF
import Derived.Test.YtgmepohfkpncmaaGreatVecI
import Derived.Test.YtgmepohfkpncmaaGreatSmallH
namespace Go.Proofs.YtgmepohfkpncmaaGreat
open Go.RowKit
set_option linter.unusedVariables false
set_option linter.unusedSimpArgs false

set_option maxRecDepth 20000 in
theorem rf_small (a b c d : Int) (w : World) (ha : I32 a) (hb : I32 b) (hc : I32 c) (hd : I32 d) :
  Calls Tryz.prog 25 #[.int .i32 a, .int .i32 b, .int .i32 c, .int .i32 d] w fun e w' => e = .returned (.int .i64 (roundP (tmP a b - tmP c d) 14)) ∧ w = w' := by
 have e1 : tmP a b = roundP (a * b) 30 := rfl
 have e2 : tmP c d = roundP (c * d) 30 := rfl
 have m1 := tmP_bd a b ha hb
 have m2 := tmP_bd c d hc hd
 rw [e1] at m1
 rw [e2] at m2
 rw [e1, e2]
 clear e1 e2
 have H1 := hid fun w => r9_Times a b 30 w ha hb (by unfold I64; omega)
 have H2 := hid fun w => r9_Times c d 30 w hc hd (by unfold I64; omega)
 have H3 := hid fun w => fxr_Round (roundP (a * b) 30 - roundP (c * d) 30) 14 w (by unfold I64; omega) (by unfold I64; omega)
 have u1 : wrap64 (roundP (a * b) 30 - roundP (c * d) 30) = roundP (a * b) 30 - roundP (c * d) 30 := IntWalk.wrap64_in _ (by omega)
 generalize roundP (a * b) 30 = s at *
 generalize roundP (c * d) 30 = t at *
 generalize roundP (s - t) 14 = r at *
 go_enter Tryz.func25, Tryz.ntmps25
 go_wp2_with fail
 refine (H1.out _).mono ?_
 rintro e w' ⟨rfl, rfl⟩
 go_wp2_with fail
 refine (H2.out _).mono ?_
 rintro e w' ⟨rfl, rfl⟩
 go_wp2_with fail
 refine (H3.out _).mono ?_
 rintro e w' ⟨rfl, rfl⟩
 go_wp2
 go_ret
 exact ⟨rfl, rfl⟩
set_option maxRecDepth 20000 in
theorem rf_limited (v : Int) (w : World) (iv : I32 v) :
  Calls Tryz.prog 33 #[.int .i32 v] w fun e w' => e = .returned (.tuple #[.int .i32 (liP v), .int .i64 (liN v)]) ∧ w = w' := by
 by_cases h1 : 16384 < v
 ·have e1 : decide (16384 < v) = true := decide_eq_true h1
  have H : Hid (liP v = 16384 ∧ liN v = 1) := hid (by unfold liN liP; rw [if_neg (by omega)]; omega)
  rw [H.out.1, H.out.2]
  clear h1 H iv
  go_enter Tryz.func33, Tryz.ntmps33
  go_wp2
  go_ret2
  exact ⟨rfl, rfl⟩
 ·have e1 : decide (16384 < v) = false := decide_eq_false h1
  by_cases h2 : v < -16384
  ·have e2 : decide (v < -16384) = true := decide_eq_true h2
   have H : Hid (liP v = -16384 ∧ liN v = 1) := hid (by unfold liN liP; rw [if_neg (by omega)]; omega)
   rw [H.out.1, H.out.2]
   clear h1 h2 H iv
   go_enter Tryz.func33, Tryz.ntmps33
   go_wp2
   go_ret2
   exact ⟨rfl, rfl⟩
  ·have e2 : decide (v < -16384) = false := decide_eq_false h2
   have H : Hid (liP v = v ∧ liN v = 0) := hid (by unfold liN liP; rw [if_pos (by omega)]; omega)
   rw [H.out.1, H.out.2]
   clear h1 h2 H iv
   go_enter Tryz.func33, Tryz.ntmps33
   go_wp2
   go_ret2
   exact ⟨rfl, rfl⟩
set_option maxRecDepth 20000 in
theorem rf_Start (w : World) :
  Calls Tryz.prog 15 #[] w fun e w' => e = .returned (.agg #[.int .i32 1073741824, .int .i32 0, .int .i32 0, .int .i32 0, .int .i32 0, .int .i32 0, .int .i32 0, .int .i64 0, .int .i64 0]) ∧ Below w.heap.size w w' := by
 have hz := Blk.new w 27 #[.int .i32 0, .int .i32 0, .int .i32 0, .int .i32 0, .int .i32 0, .int .i32 0, .int .i32 0, .int .i64 0, .int .i64 0]
 have hb : Below w.heap.size w (w.alloc (.cells #[.int .i32 0, .int .i32 0, .int .i32 0, .int .i32 0, .int .i32 0, .int .i32 0, .int .i32 0, .int .i64 0, .int .i64 0] 27)) := (Below.refl _ w).alloc (Nat.le_refl _) _
 go_enter Tryz.func15, Tryz.ntmps15
 go_upto_region 1 with fail
 generalize w.alloc (.cells #[.int .i32 0, .int .i32 0, .int .i32 0, .int .i32 0, .int .i32 0, .int .i32 0, .int .i32 0, .int .i64 0, .int .i64 0] 27) = W0 at *
 go_wp2_with fail
 refine ((f10_One) _).mono ?_
 rintro e w1 ⟨rfl, b1⟩
 replace hz := hz.below b1 hz.lt
 replace hb := f_on hb b1
 clear b1
 have r0_ : (w1).cell? ⟨w.heap.size, 0, none⟩ = some (.int .i32 0) := hz.cell 0
 have z0_ := hz.frozen 0
 have r1_ : (w1).cell? ⟨w.heap.size, 1, none⟩ = some (.int .i32 0) := hz.cell 1
 have z1_ := hz.frozen 1
 have r2_ : (w1).cell? ⟨w.heap.size, 2, none⟩ = some (.int .i32 0) := hz.cell 2
 have z2_ := hz.frozen 2
 have r3_ : (w1).cell? ⟨w.heap.size, 3, none⟩ = some (.int .i32 0) := hz.cell 3
 have z3_ := hz.frozen 3
 have r4_ : (w1).cell? ⟨w.heap.size, 4, none⟩ = some (.int .i32 0) := hz.cell 4
 have z4_ := hz.frozen 4
 have r5_ : (w1).cell? ⟨w.heap.size, 5, none⟩ = some (.int .i32 0) := hz.cell 5
 have z5_ := hz.frozen 5
 have r6_ : (w1).cell? ⟨w.heap.size, 6, none⟩ = some (.int .i32 0) := hz.cell 6
 have z6_ := hz.frozen 6
 have r7_ : (w1).cell? ⟨w.heap.size, 7, none⟩ = some (.int .i64 0) := hz.cell 7
 have z7_ := hz.frozen 7
 have r8_ : (w1).cell? ⟨w.heap.size, 8, none⟩ = some (.int .i64 0) := hz.cell 8
 have z8_ := hz.frozen 8
 have hf : Blk (((((((((w1.setCell ⟨w.heap.size, 0, none⟩ (.int .i32 1073741824)).setCell ⟨w.heap.size, 1, none⟩ (.int .i32 0)).setCell ⟨w.heap.size, 2, none⟩ (.int .i32 0)).setCell ⟨w.heap.size, 3, none⟩ (.int .i32 0)).setCell ⟨w.heap.size, 4, none⟩ (.int .i32 0)).setCell ⟨w.heap.size, 5, none⟩ (.int .i32 0)).setCell ⟨w.heap.size, 6, none⟩ (.int .i32 0)).setCell ⟨w.heap.size, 7, none⟩ (.int .i64 0)).setCell ⟨w.heap.size, 8, none⟩ (.int .i64 0)) w.heap.size 27 #[.int .i32 1073741824, .int .i32 0, .int .i32 0, .int .i32 0, .int .i32 0, .int .i32 0, .int .i32 0, .int .i64 0, .int .i64 0] := (((((((((hz.set_ 0 (.int .i32 1073741824)).set_ 1 (.int .i32 0)).set_ 2 (.int .i32 0)).set_ 3 (.int .i32 0)).set_ 4 (.int .i32 0)).set_ 5 (.int .i32 0)).set_ 6 (.int .i32 0)).set_ 7 (.int .i64 0)).set_ 8 (.int .i64 0))
 have hbf : Below w.heap.size w (((((((((w1.setCell ⟨w.heap.size, 0, none⟩ (.int .i32 1073741824)).setCell ⟨w.heap.size, 1, none⟩ (.int .i32 0)).setCell ⟨w.heap.size, 2, none⟩ (.int .i32 0)).setCell ⟨w.heap.size, 3, none⟩ (.int .i32 0)).setCell ⟨w.heap.size, 4, none⟩ (.int .i32 0)).setCell ⟨w.heap.size, 5, none⟩ (.int .i32 0)).setCell ⟨w.heap.size, 6, none⟩ (.int .i32 0)).setCell ⟨w.heap.size, 7, none⟩ (.int .i64 0)).setCell ⟨w.heap.size, 8, none⟩ (.int .i64 0)) := (((((((((hb.sc (w.heap.size) 0 (by omega) (.int .i32 1073741824)).sc (w.heap.size) 1 (by omega) (.int .i32 0)).sc (w.heap.size) 2 (by omega) (.int .i32 0)).sc (w.heap.size) 3 (by omega) (.int .i32 0)).sc (w.heap.size) 4 (by omega) (.int .i32 0)).sc (w.heap.size) 5 (by omega) (.int .i32 0)).sc (w.heap.size) 6 (by omega) (.int .i32 0)).sc (w.heap.size) 7 (by omega) (.int .i64 0)).sc (w.heap.size) 8 (by omega) (.int .i64 0))
 go_wp2
 generalize (((((((((w1.setCell ⟨w.heap.size, 0, none⟩ (.int .i32 1073741824)).setCell ⟨w.heap.size, 1, none⟩ (.int .i32 0)).setCell ⟨w.heap.size, 2, none⟩ (.int .i32 0)).setCell ⟨w.heap.size, 3, none⟩ (.int .i32 0)).setCell ⟨w.heap.size, 4, none⟩ (.int .i32 0)).setCell ⟨w.heap.size, 5, none⟩ (.int .i32 0)).setCell ⟨w.heap.size, 6, none⟩ (.int .i32 0)).setCell ⟨w.heap.size, 7, none⟩ (.int .i64 0)).setCell ⟨w.heap.size, 8, none⟩ (.int .i64 0)) = wf at *
 have f0_ : wf.cell? ⟨w.heap.size, 0, none⟩ = some (.int .i32 1073741824) := hf.cell 0
 have f1_ : wf.cell? ⟨w.heap.size, 1, none⟩ = some (.int .i32 0) := hf.cell 1
 have f2_ : wf.cell? ⟨w.heap.size, 2, none⟩ = some (.int .i32 0) := hf.cell 2
 have f3_ : wf.cell? ⟨w.heap.size, 3, none⟩ = some (.int .i32 0) := hf.cell 3
 have f4_ : wf.cell? ⟨w.heap.size, 4, none⟩ = some (.int .i32 0) := hf.cell 4
 have f5_ : wf.cell? ⟨w.heap.size, 5, none⟩ = some (.int .i32 0) := hf.cell 5
 have f6_ : wf.cell? ⟨w.heap.size, 6, none⟩ = some (.int .i32 0) := hf.cell 6
 have f7_ : wf.cell? ⟨w.heap.size, 7, none⟩ = some (.int .i64 0) := hf.cell 7
 have f8_ : wf.cell? ⟨w.heap.size, 8, none⟩ = some (.int .i64 0) := hf.cell 8
 simp [bodyPost, results, Tryz.results15, go_sem, f0_, f1_, f2_, f3_, f4_, f5_, f6_, f7_, f8_]
 exact hbf
/-- The word, 0 where there is none. -/
def worP (q0 q1 q2 q3 : Int) : Int := if isP (sqP [q0, q1, q2, q3]) = true then joinV widL (packL q0 q1 q2 q3 (farI q0 q1 q2 q3) (upK 3)) else 0
set_option maxRecDepth 20000 in
theorem f_WordP (n c q0 q1 q2 q3 b0 b1 b2 : Int) (w : World) (iq0 : I32 q0) (iq1 : I32 q1) (iq2 : I32 q2) (iq3 : I32 q3) :
  Calls Tryz.prog 12 #[.agg #[.int .i32 q0, .int .i32 q1, .int .i32 q2, .int .i32 q3, .int .i32 b0, .int .i32 b1, .int .i32 b2, .int .i64 n, .int .i64 c]] w fun e w' => e = .returned (.int .u32 (worP q0 q1 q2 q3)) ∧ Below w.heap.size w w' := by
 unfold worP
 cases hu : isP (sqP [q0, q1, q2, q3])
 ·have HP := hid fun w => s_PackN q0 q1 q2 q3 w iq0 iq1 iq2 iq3 hu
  simp only [Bool.false_eq_true, if_false]
  clear hu iq0 iq1 iq2 iq3
  have hb : Below w.heap.size w (w.alloc (.cells #[.int .i32 q0, .int .i32 q1, .int .i32 q2, .int .i32 q3, .int .i32 b0, .int .i32 b1, .int .i32 b2, .int .i64 n, .int .i64 c] 34)) := (Below.refl _ w).alloc (Nat.le_refl _) _
  have hs := Blk.new w 34 #[.int .i32 q0, .int .i32 q1, .int .i32 q2, .int .i32 q3, .int .i32 b0, .int .i32 b1, .int .i32 b2, .int .i64 n, .int .i64 c]
  have f0 : (w.alloc (.cells #[.int .i32 q0, .int .i32 q1, .int .i32 q2, .int .i32 q3, .int .i32 b0, .int .i32 b1, .int .i32 b2, .int .i64 n, .int .i64 c] 34)).cell? ⟨w.heap.size, 0, none⟩ = some (.int .i32 q0) := hs.cell 0
  have f1 : (w.alloc (.cells #[.int .i32 q0, .int .i32 q1, .int .i32 q2, .int .i32 q3, .int .i32 b0, .int .i32 b1, .int .i32 b2, .int .i64 n, .int .i64 c] 34)).cell? ⟨w.heap.size, 1, none⟩ = some (.int .i32 q1) := hs.cell 1
  have f2 : (w.alloc (.cells #[.int .i32 q0, .int .i32 q1, .int .i32 q2, .int .i32 q3, .int .i32 b0, .int .i32 b1, .int .i32 b2, .int .i64 n, .int .i64 c] 34)).cell? ⟨w.heap.size, 2, none⟩ = some (.int .i32 q2) := hs.cell 2
  have f3 : (w.alloc (.cells #[.int .i32 q0, .int .i32 q1, .int .i32 q2, .int .i32 q3, .int .i32 b0, .int .i32 b1, .int .i32 b2, .int .i64 n, .int .i64 c] 34)).cell? ⟨w.heap.size, 3, none⟩ = some (.int .i32 q3) := hs.cell 3
  go_enter Tryz.func12, Tryz.ntmps12
  go_wp2_with fail
  refine (HP.out _).mono ?_
  rintro e w1 ⟨rfl, b1⟩
  go_wp2
  go_ret
  exact ⟨rfl, f_on hb b1⟩
 ·have HP := hid fun w => s_Pack q0 q1 q2 q3 w iq0 iq1 iq2 iq3 hu
  simp only [if_true]
  generalize joinV widL (packL q0 q1 q2 q3 (farI q0 q1 q2 q3) (upK 3)) = u at *
  generalize joinB widL (packL q0 q1 q2 q3 (farI q0 q1 q2 q3) (upK 3)) = ok at *
  clear hu iq0 iq1 iq2 iq3
  have hb : Below w.heap.size w (w.alloc (.cells #[.int .i32 q0, .int .i32 q1, .int .i32 q2, .int .i32 q3, .int .i32 b0, .int .i32 b1, .int .i32 b2, .int .i64 n, .int .i64 c] 34)) := (Below.refl _ w).alloc (Nat.le_refl _) _
  have hs := Blk.new w 34 #[.int .i32 q0, .int .i32 q1, .int .i32 q2, .int .i32 q3, .int .i32 b0, .int .i32 b1, .int .i32 b2, .int .i64 n, .int .i64 c]
  have f0 : (w.alloc (.cells #[.int .i32 q0, .int .i32 q1, .int .i32 q2, .int .i32 q3, .int .i32 b0, .int .i32 b1, .int .i32 b2, .int .i64 n, .int .i64 c] 34)).cell? ⟨w.heap.size, 0, none⟩ = some (.int .i32 q0) := hs.cell 0
  have f1 : (w.alloc (.cells #[.int .i32 q0, .int .i32 q1, .int .i32 q2, .int .i32 q3, .int .i32 b0, .int .i32 b1, .int .i32 b2, .int .i64 n, .int .i64 c] 34)).cell? ⟨w.heap.size, 1, none⟩ = some (.int .i32 q1) := hs.cell 1
  have f2 : (w.alloc (.cells #[.int .i32 q0, .int .i32 q1, .int .i32 q2, .int .i32 q3, .int .i32 b0, .int .i32 b1, .int .i32 b2, .int .i64 n, .int .i64 c] 34)).cell? ⟨w.heap.size, 2, none⟩ = some (.int .i32 q2) := hs.cell 2
  have f3 : (w.alloc (.cells #[.int .i32 q0, .int .i32 q1, .int .i32 q2, .int .i32 q3, .int .i32 b0, .int .i32 b1, .int .i32 b2, .int .i64 n, .int .i64 c] 34)).cell? ⟨w.heap.size, 3, none⟩ = some (.int .i32 q3) := hs.cell 3
  go_enter Tryz.func12, Tryz.ntmps12
  go_wp2_with fail
  refine (HP.out _).mono ?_
  rintro e w1 ⟨rfl, b1⟩
  go_wp2
  go_ret
  exact ⟨rfl, f_on hb b1⟩
set_option maxRecDepth 20000 in
theorem rf_WordP (n c q0 q1 q2 q3 b0 b1 b2 : Int) (w : World) (iq0 : I32 q0) (iq1 : I32 q1) (iq2 : I32 q2) (iq3 : I32 q3) :
  Calls Tryz.prog 13 #[.agg #[.int .i32 q0, .int .i32 q1, .int .i32 q2, .int .i32 q3, .int .i32 b0, .int .i32 b1, .int .i32 b2, .int .i64 n, .int .i64 c]] w fun e w' => e = .returned (.int .u32 (worP q0 q1 q2 q3)) ∧ Below w.heap.size w w' := by
 unfold worP
 cases hu : isP (sqP [q0, q1, q2, q3])
 ·have HP := hid fun w => r12_PackN q0 q1 q2 q3 w iq0 iq1 iq2 iq3 hu
  simp only [Bool.false_eq_true, if_false]
  clear hu iq0 iq1 iq2 iq3
  have hb : Below w.heap.size w (w.alloc (.cells #[.int .i32 q0, .int .i32 q1, .int .i32 q2, .int .i32 q3, .int .i32 b0, .int .i32 b1, .int .i32 b2, .int .i64 n, .int .i64 c] 27)) := (Below.refl _ w).alloc (Nat.le_refl _) _
  have hs := Blk.new w 27 #[.int .i32 q0, .int .i32 q1, .int .i32 q2, .int .i32 q3, .int .i32 b0, .int .i32 b1, .int .i32 b2, .int .i64 n, .int .i64 c]
  have f0 : (w.alloc (.cells #[.int .i32 q0, .int .i32 q1, .int .i32 q2, .int .i32 q3, .int .i32 b0, .int .i32 b1, .int .i32 b2, .int .i64 n, .int .i64 c] 27)).cell? ⟨w.heap.size, 0, none⟩ = some (.int .i32 q0) := hs.cell 0
  have f1 : (w.alloc (.cells #[.int .i32 q0, .int .i32 q1, .int .i32 q2, .int .i32 q3, .int .i32 b0, .int .i32 b1, .int .i32 b2, .int .i64 n, .int .i64 c] 27)).cell? ⟨w.heap.size, 1, none⟩ = some (.int .i32 q1) := hs.cell 1
  have f2 : (w.alloc (.cells #[.int .i32 q0, .int .i32 q1, .int .i32 q2, .int .i32 q3, .int .i32 b0, .int .i32 b1, .int .i32 b2, .int .i64 n, .int .i64 c] 27)).cell? ⟨w.heap.size, 2, none⟩ = some (.int .i32 q2) := hs.cell 2
  have f3 : (w.alloc (.cells #[.int .i32 q0, .int .i32 q1, .int .i32 q2, .int .i32 q3, .int .i32 b0, .int .i32 b1, .int .i32 b2, .int .i64 n, .int .i64 c] 27)).cell? ⟨w.heap.size, 3, none⟩ = some (.int .i32 q3) := hs.cell 3
  go_enter Tryz.func13, Tryz.ntmps13
  go_wp2_with fail
  refine (HP.out _).mono ?_
  rintro e w1 ⟨rfl, b1⟩
  go_wp2
  go_ret
  exact ⟨rfl, f_on hb b1⟩
 ·have HP := hid fun w => r12_Pack q0 q1 q2 q3 w iq0 iq1 iq2 iq3 hu
  simp only [if_true]
  generalize joinV widL (packL q0 q1 q2 q3 (farI q0 q1 q2 q3) (upK 3)) = u at *
  clear hu iq0 iq1 iq2 iq3
  have hb : Below w.heap.size w (w.alloc (.cells #[.int .i32 q0, .int .i32 q1, .int .i32 q2, .int .i32 q3, .int .i32 b0, .int .i32 b1, .int .i32 b2, .int .i64 n, .int .i64 c] 27)) := (Below.refl _ w).alloc (Nat.le_refl _) _
  have hs := Blk.new w 27 #[.int .i32 q0, .int .i32 q1, .int .i32 q2, .int .i32 q3, .int .i32 b0, .int .i32 b1, .int .i32 b2, .int .i64 n, .int .i64 c]
  have f0 : (w.alloc (.cells #[.int .i32 q0, .int .i32 q1, .int .i32 q2, .int .i32 q3, .int .i32 b0, .int .i32 b1, .int .i32 b2, .int .i64 n, .int .i64 c] 27)).cell? ⟨w.heap.size, 0, none⟩ = some (.int .i32 q0) := hs.cell 0
  have f1 : (w.alloc (.cells #[.int .i32 q0, .int .i32 q1, .int .i32 q2, .int .i32 q3, .int .i32 b0, .int .i32 b1, .int .i32 b2, .int .i64 n, .int .i64 c] 27)).cell? ⟨w.heap.size, 1, none⟩ = some (.int .i32 q1) := hs.cell 1
  have f2 : (w.alloc (.cells #[.int .i32 q0, .int .i32 q1, .int .i32 q2, .int .i32 q3, .int .i32 b0, .int .i32 b1, .int .i32 b2, .int .i64 n, .int .i64 c] 27)).cell? ⟨w.heap.size, 2, none⟩ = some (.int .i32 q2) := hs.cell 2
  have f3 : (w.alloc (.cells #[.int .i32 q0, .int .i32 q1, .int .i32 q2, .int .i32 q3, .int .i32 b0, .int .i32 b1, .int .i32 b2, .int .i64 n, .int .i64 c] 27)).cell? ⟨w.heap.size, 3, none⟩ = some (.int .i32 q3) := hs.cell 3
  go_enter Tryz.func13, Tryz.ntmps13
  go_wp2_with fail
  refine (HP.out _).mono ?_
  rintro e w1 ⟨rfl, b1⟩
  go_wp2
  go_ret
  exact ⟨rfl, f_on hb b1⟩
set_option maxRecDepth 20000 in
set_option maxHeartbeats 8000000 in
theorem rf_ErrorN (q0 q1 q2 q3 x0 x1 x2 : Int) (w : World) (ix0 : I32 x0) (ix1 : I32 x1) (ix2 : I32 x2) (h : erOk x0 x1 x2 = false) :
  Calls Tryz.prog 8 #[.agg #[.int .i32 q0, .int .i32 q1, .int .i32 q2, .int .i32 q3], .agg #[.int .i32 x0, .int .i32 x1, .int .i32 x2]] w fun e w' => e = .returned (.tuple #[.agg #[.int .i32 0, .int .i32 0, .int .i32 0], .bool false]) ∧ Below w.heap.size w w' := by
 have HL := hid fun w => r9_Length x0 x1 x2 w ix0 ix1 ix2
 unfold erOk erL at h
 generalize rootP (sqP [x0, x1, x2]) = L at *
 clear ix0 ix1 ix2
 by_cases g : L < 32768
 ·have e1 : decide (L < 32768) = true := decide_eq_true g
  clear h
  have hq : Blk (((w.alloc (.cells #[.int .i32 q0, .int .i32 q1, .int .i32 q2, .int .i32 q3] 23)).alloc (.cells #[.int .i32 x0, .int .i32 x1, .int .i32 x2] 25)).alloc (.cells #[.int .i32 0, .int .i32 0, .int .i32 0] 25)) w.heap.size 23 #[.int .i32 q0, .int .i32 q1, .int .i32 q2, .int .i32 q3] := ((Blk.new w _ _).alloc _).alloc _
  have hx : Blk (((w.alloc (.cells #[.int .i32 q0, .int .i32 q1, .int .i32 q2, .int .i32 q3] 23)).alloc (.cells #[.int .i32 x0, .int .i32 x1, .int .i32 x2] 25)).alloc (.cells #[.int .i32 0, .int .i32 0, .int .i32 0] 25)) (w.heap.size + 1) 25 #[.int .i32 x0, .int .i32 x1, .int .i32 x2] := by have := (Blk.new (w.alloc (.cells #[.int .i32 q0, .int .i32 q1, .int .i32 q2, .int .i32 q3] 23)) 25 #[.int .i32 x0, .int .i32 x1, .int .i32 x2]).alloc (.cells #[.int .i32 0, .int .i32 0, .int .i32 0] 25); simpa using this
  have hz : Blk (((w.alloc (.cells #[.int .i32 q0, .int .i32 q1, .int .i32 q2, .int .i32 q3] 23)).alloc (.cells #[.int .i32 x0, .int .i32 x1, .int .i32 x2] 25)).alloc (.cells #[.int .i32 0, .int .i32 0, .int .i32 0] 25)) (w.heap.size + 1 + 1) 25 #[.int .i32 0, .int .i32 0, .int .i32 0] := by have := Blk.new ((w.alloc (.cells #[.int .i32 q0, .int .i32 q1, .int .i32 q2, .int .i32 q3] 23)).alloc (.cells #[.int .i32 x0, .int .i32 x1, .int .i32 x2] 25)) 25 #[.int .i32 0, .int .i32 0, .int .i32 0]; simpa using this
  have hb : Below w.heap.size w (((w.alloc (.cells #[.int .i32 q0, .int .i32 q1, .int .i32 q2, .int .i32 q3] 23)).alloc (.cells #[.int .i32 x0, .int .i32 x1, .int .i32 x2] 25)).alloc (.cells #[.int .i32 0, .int .i32 0, .int .i32 0] 25)) := (((Below.refl _ w).alloc (Nat.le_refl _) _).alloc (by simp) _).alloc (by simp; omega) _
  have x0_ : ((((w.alloc (.cells #[.int .i32 q0, .int .i32 q1, .int .i32 q2, .int .i32 q3] 23)).alloc (.cells #[.int .i32 x0, .int .i32 x1, .int .i32 x2] 25)).alloc (.cells #[.int .i32 0, .int .i32 0, .int .i32 0] 25))).cell? ⟨w.heap.size + 1, 0, none⟩ = some (.int .i32 x0) := hx.cell 0
  have x1_ : ((((w.alloc (.cells #[.int .i32 q0, .int .i32 q1, .int .i32 q2, .int .i32 q3] 23)).alloc (.cells #[.int .i32 x0, .int .i32 x1, .int .i32 x2] 25)).alloc (.cells #[.int .i32 0, .int .i32 0, .int .i32 0] 25))).cell? ⟨w.heap.size + 1, 1, none⟩ = some (.int .i32 x1) := hx.cell 1
  have x2_ : ((((w.alloc (.cells #[.int .i32 q0, .int .i32 q1, .int .i32 q2, .int .i32 q3] 23)).alloc (.cells #[.int .i32 x0, .int .i32 x1, .int .i32 x2] 25)).alloc (.cells #[.int .i32 0, .int .i32 0, .int .i32 0] 25))).cell? ⟨w.heap.size + 1, 2, none⟩ = some (.int .i32 x2) := hx.cell 2
  go_enter Tryz.func8, Tryz.ntmps8
  go_wp2_with fail
  generalize (((w.alloc (.cells #[.int .i32 q0, .int .i32 q1, .int .i32 q2, .int .i32 q3] 23)).alloc (.cells #[.int .i32 x0, .int .i32 x1, .int .i32 x2] 25)).alloc (.cells #[.int .i32 0, .int .i32 0, .int .i32 0] 25)) = W0 at *
  refine (HL.out _).mono ?_
  rintro e w1 ⟨rfl, b1⟩
  replace hz := hz.below b1 hz.lt
  replace hb := f_on hb b1
  clear hq hx b1 HL
  have d0 : (w1).cell? ⟨w.heap.size + 1 + 1, 0, none⟩ = some (.int .i32 0) := hz.cell 0
  have zz0 := hz.frozen 0
  have d1 : (w1).cell? ⟨w.heap.size + 1 + 1, 1, none⟩ = some (.int .i32 0) := hz.cell 1
  have zz1 := hz.frozen 1
  have d2 : (w1).cell? ⟨w.heap.size + 1 + 1, 2, none⟩ = some (.int .i32 0) := hz.cell 2
  have zz2 := hz.frozen 2
  have hf : Blk (((w1.setCell ⟨w.heap.size + 1 + 1, 0, none⟩ (.int .i32 0)).setCell ⟨w.heap.size + 1 + 1, 1, none⟩ (.int .i32 0)).setCell ⟨w.heap.size + 1 + 1, 2, none⟩ (.int .i32 0)) (w.heap.size + 1 + 1) 25 #[.int .i32 0, .int .i32 0, .int .i32 0] := (((hz.set_ 0 (.int .i32 0)).set_ 1 (.int .i32 0)).set_ 2 (.int .i32 0))
  have hbf : Below w.heap.size w (((w1.setCell ⟨w.heap.size + 1 + 1, 0, none⟩ (.int .i32 0)).setCell ⟨w.heap.size + 1 + 1, 1, none⟩ (.int .i32 0)).setCell ⟨w.heap.size + 1 + 1, 2, none⟩ (.int .i32 0)) := (((hb.sc (w.heap.size + 1 + 1) 0 (by omega) (.int .i32 0)).sc (w.heap.size + 1 + 1) 1 (by omega) (.int .i32 0)).sc (w.heap.size + 1 + 1) 2 (by omega) (.int .i32 0))
  go_wp2
  generalize (((w1.setCell ⟨w.heap.size + 1 + 1, 0, none⟩ (.int .i32 0)).setCell ⟨w.heap.size + 1 + 1, 1, none⟩ (.int .i32 0)).setCell ⟨w.heap.size + 1 + 1, 2, none⟩ (.int .i32 0)) = wf at *
  have f0 : wf.cell? ⟨w.heap.size + 1 + 1, 0, none⟩ = some (.int .i32 0) := hf.cell 0
  have f1 : wf.cell? ⟨w.heap.size + 1 + 1, 1, none⟩ = some (.int .i32 0) := hf.cell 1
  have f2 : wf.cell? ⟨w.heap.size + 1 + 1, 2, none⟩ = some (.int .i32 0) := hf.cell 2
  simp [bodyPost, results, Tryz.results8, go_sem, f0, f1, f2]
  exact hbf
 ·have e1 : decide (L < 32768) = false := decide_eq_false g
  have e2 : decide (98304 < L) = true := decide_eq_true (by
   rcases Int.lt_or_le 98304 L with k | k
   ·exact k
   ·rw [decide_eq_true (by omega), decide_eq_true k] at h; cases h)
  clear h
  have hq : Blk (((w.alloc (.cells #[.int .i32 q0, .int .i32 q1, .int .i32 q2, .int .i32 q3] 23)).alloc (.cells #[.int .i32 x0, .int .i32 x1, .int .i32 x2] 25)).alloc (.cells #[.int .i32 0, .int .i32 0, .int .i32 0] 25)) w.heap.size 23 #[.int .i32 q0, .int .i32 q1, .int .i32 q2, .int .i32 q3] := ((Blk.new w _ _).alloc _).alloc _
  have hx : Blk (((w.alloc (.cells #[.int .i32 q0, .int .i32 q1, .int .i32 q2, .int .i32 q3] 23)).alloc (.cells #[.int .i32 x0, .int .i32 x1, .int .i32 x2] 25)).alloc (.cells #[.int .i32 0, .int .i32 0, .int .i32 0] 25)) (w.heap.size + 1) 25 #[.int .i32 x0, .int .i32 x1, .int .i32 x2] := by have := (Blk.new (w.alloc (.cells #[.int .i32 q0, .int .i32 q1, .int .i32 q2, .int .i32 q3] 23)) 25 #[.int .i32 x0, .int .i32 x1, .int .i32 x2]).alloc (.cells #[.int .i32 0, .int .i32 0, .int .i32 0] 25); simpa using this
  have hz : Blk (((w.alloc (.cells #[.int .i32 q0, .int .i32 q1, .int .i32 q2, .int .i32 q3] 23)).alloc (.cells #[.int .i32 x0, .int .i32 x1, .int .i32 x2] 25)).alloc (.cells #[.int .i32 0, .int .i32 0, .int .i32 0] 25)) (w.heap.size + 1 + 1) 25 #[.int .i32 0, .int .i32 0, .int .i32 0] := by have := Blk.new ((w.alloc (.cells #[.int .i32 q0, .int .i32 q1, .int .i32 q2, .int .i32 q3] 23)).alloc (.cells #[.int .i32 x0, .int .i32 x1, .int .i32 x2] 25)) 25 #[.int .i32 0, .int .i32 0, .int .i32 0]; simpa using this
  have hb : Below w.heap.size w (((w.alloc (.cells #[.int .i32 q0, .int .i32 q1, .int .i32 q2, .int .i32 q3] 23)).alloc (.cells #[.int .i32 x0, .int .i32 x1, .int .i32 x2] 25)).alloc (.cells #[.int .i32 0, .int .i32 0, .int .i32 0] 25)) := (((Below.refl _ w).alloc (Nat.le_refl _) _).alloc (by simp) _).alloc (by simp; omega) _
  have x0_ : ((((w.alloc (.cells #[.int .i32 q0, .int .i32 q1, .int .i32 q2, .int .i32 q3] 23)).alloc (.cells #[.int .i32 x0, .int .i32 x1, .int .i32 x2] 25)).alloc (.cells #[.int .i32 0, .int .i32 0, .int .i32 0] 25))).cell? ⟨w.heap.size + 1, 0, none⟩ = some (.int .i32 x0) := hx.cell 0
  have x1_ : ((((w.alloc (.cells #[.int .i32 q0, .int .i32 q1, .int .i32 q2, .int .i32 q3] 23)).alloc (.cells #[.int .i32 x0, .int .i32 x1, .int .i32 x2] 25)).alloc (.cells #[.int .i32 0, .int .i32 0, .int .i32 0] 25))).cell? ⟨w.heap.size + 1, 1, none⟩ = some (.int .i32 x1) := hx.cell 1
  have x2_ : ((((w.alloc (.cells #[.int .i32 q0, .int .i32 q1, .int .i32 q2, .int .i32 q3] 23)).alloc (.cells #[.int .i32 x0, .int .i32 x1, .int .i32 x2] 25)).alloc (.cells #[.int .i32 0, .int .i32 0, .int .i32 0] 25))).cell? ⟨w.heap.size + 1, 2, none⟩ = some (.int .i32 x2) := hx.cell 2
  go_enter Tryz.func8, Tryz.ntmps8
  go_wp2_with fail
  generalize (((w.alloc (.cells #[.int .i32 q0, .int .i32 q1, .int .i32 q2, .int .i32 q3] 23)).alloc (.cells #[.int .i32 x0, .int .i32 x1, .int .i32 x2] 25)).alloc (.cells #[.int .i32 0, .int .i32 0, .int .i32 0] 25)) = W0 at *
  refine (HL.out _).mono ?_
  rintro e w1 ⟨rfl, b1⟩
  replace hz := hz.below b1 hz.lt
  replace hb := f_on hb b1
  clear hq hx b1 HL
  have d0 : (w1).cell? ⟨w.heap.size + 1 + 1, 0, none⟩ = some (.int .i32 0) := hz.cell 0
  have zz0 := hz.frozen 0
  have d1 : (w1).cell? ⟨w.heap.size + 1 + 1, 1, none⟩ = some (.int .i32 0) := hz.cell 1
  have zz1 := hz.frozen 1
  have d2 : (w1).cell? ⟨w.heap.size + 1 + 1, 2, none⟩ = some (.int .i32 0) := hz.cell 2
  have zz2 := hz.frozen 2
  have hf : Blk (((w1.setCell ⟨w.heap.size + 1 + 1, 0, none⟩ (.int .i32 0)).setCell ⟨w.heap.size + 1 + 1, 1, none⟩ (.int .i32 0)).setCell ⟨w.heap.size + 1 + 1, 2, none⟩ (.int .i32 0)) (w.heap.size + 1 + 1) 25 #[.int .i32 0, .int .i32 0, .int .i32 0] := (((hz.set_ 0 (.int .i32 0)).set_ 1 (.int .i32 0)).set_ 2 (.int .i32 0))
  have hbf : Below w.heap.size w (((w1.setCell ⟨w.heap.size + 1 + 1, 0, none⟩ (.int .i32 0)).setCell ⟨w.heap.size + 1 + 1, 1, none⟩ (.int .i32 0)).setCell ⟨w.heap.size + 1 + 1, 2, none⟩ (.int .i32 0)) := (((hb.sc (w.heap.size + 1 + 1) 0 (by omega) (.int .i32 0)).sc (w.heap.size + 1 + 1) 1 (by omega) (.int .i32 0)).sc (w.heap.size + 1 + 1) 2 (by omega) (.int .i32 0))
  go_wp2
  generalize (((w1.setCell ⟨w.heap.size + 1 + 1, 0, none⟩ (.int .i32 0)).setCell ⟨w.heap.size + 1 + 1, 1, none⟩ (.int .i32 0)).setCell ⟨w.heap.size + 1 + 1, 2, none⟩ (.int .i32 0)) = wf at *
  have f0 : wf.cell? ⟨w.heap.size + 1 + 1, 0, none⟩ = some (.int .i32 0) := hf.cell 0
  have f1 : wf.cell? ⟨w.heap.size + 1 + 1, 1, none⟩ = some (.int .i32 0) := hf.cell 1
  have f2 : wf.cell? ⟨w.heap.size + 1 + 1, 2, none⟩ = some (.int .i32 0) := hf.cell 2
  simp [bodyPost, results, Tryz.results8, go_sem, f0, f1, f2]
  exact hbf
set_option maxRecDepth 20000 in
set_option maxHeartbeats 8000000 in
theorem rf_ErrorY (q0 q1 q2 q3 x0 x1 x2 : Int) (w : World) (iq0 : I32 q0) (iq1 : I32 q1) (iq2 : I32 q2) (iq3 : I32 q3) (ix0 : I32 x0) (ix1 : I32 x1) (ix2 : I32 x2) (h : erOk x0 x1 x2 = true) :
  Calls Tryz.prog 8 #[.agg #[.int .i32 q0, .int .i32 q1, .int .i32 q2, .int .i32 q3], .agg #[.int .i32 x0, .int .i32 x1, .int .i32 x2]] w fun e w' => e = .returned (.tuple #[.agg #[.int .i32 (er0 q0 q1 q2 q3 x0 x1 x2), .int .i32 (er1 q0 q1 q2 q3 x0 x1 x2), .int .i32 (er2 q0 q1 q2 q3 x0 x1 x2)], .bool true]) ∧ Below w.heap.size w w' := by
 have HL := hid fun w => r9_Length x0 x1 x2 w ix0 ix1 ix2
 have h1 := fun w => r9_Unit x0 x1 x2 w ix0 ix1 ix2
 unfold Makes3 at h1
 have h2 := fun w => r13_Up q0 q1 q2 q3 w iq0 iq1 iq2 iq3
 unfold Ups at h2
 unfold erOk erL at h
 have u0 := make_x32 x0 x1 x2 x0 ix0 ix1 ix2 (by simp)
 have u1 := make_x32 x0 x1 x2 x1 ix0 ix1 ix2 (by simp)
 have u2 := make_x32 x0 x1 x2 x2 ix0 ix1 ix2 (by simp)
 have v0 : I32 (clampP (upX q0 q1 q2 q3)) := clampP_bd _
 have v1 : I32 (clampP (upY q0 q1 q2 q3)) := clampP_bd _
 have v2 : I32 (clampP (upZ q0 q1 q2 q3)) := clampP_bd _
 have hE : Hid (er0 q0 q1 q2 q3 x0 x1 x2 = paP (makeP [x0, x1, x2] x1) (clampP (upZ q0 q1 q2 q3)) (makeP [x0, x1, x2] x2) (clampP (upY q0 q1 q2 q3)) ∧ er1 q0 q1 q2 q3 x0 x1 x2 = paP (makeP [x0, x1, x2] x2) (clampP (upX q0 q1 q2 q3)) (makeP [x0, x1, x2] x0) (clampP (upZ q0 q1 q2 q3)) ∧ er2 q0 q1 q2 q3 x0 x1 x2 = paP (makeP [x0, x1, x2] x0) (clampP (upY q0 q1 q2 q3)) (makeP [x0, x1, x2] x1) (clampP (upX q0 q1 q2 q3))) := ⟨rfl, rfl, rfl⟩
 generalize makeP [x0, x1, x2] x0 = s0 at *
 generalize clampP (upX q0 q1 q2 q3) = t0 at *
 generalize makeP [x0, x1, x2] x1 = s1 at *
 generalize clampP (upY q0 q1 q2 q3) = t1 at *
 generalize makeP [x0, x1, x2] x2 = s2 at *
 generalize clampP (upZ q0 q1 q2 q3) = t2 at *
 rw [hE.out.1, hE.out.2.1, hE.out.2.2]
 clear hE
 have HP0 := hid fun w => rf_small s1 t2 s2 t1 w u1 v2 u2 v1
 have HP1 := hid fun w => rf_small s2 t0 s0 t2 w u2 v0 u0 v2
 have HP2 := hid fun w => rf_small s0 t1 s1 t0 w u0 v1 u1 v0
 have m1 := tmP_bd s1 t2 u1 v2
 have m2 := tmP_bd s2 t1 u2 v1
 have m3 := tmP_bd s2 t0 u2 v0
 have m4 := tmP_bd s0 t2 u0 v2
 have m5 := tmP_bd s0 t1 u0 v1
 have m6 := tmP_bd s1 t0 u1 v0
 unfold paP
 have HC := hid fun w => r9_Cut (roundP (tmP s1 t2 - tmP s2 t1) 14) (roundP (tmP s2 t0 - tmP s0 t2) 14) (roundP (tmP s0 t1 - tmP s1 t0) 14) w (ro14_bd _ (by omega)) (ro14_bd _ (by omega)) (ro14_bd _ (by omega))
 clear m1 m2 m3 m4 m5 m6
 generalize roundP (tmP s1 t2 - tmP s2 t1) 14 = z0 at *
 generalize roundP (tmP s2 t0 - tmP s0 t2) 14 = z1 at *
 generalize roundP (tmP s0 t1 - tmP s1 t0) 14 = z2 at *
 generalize clampP z0 = p0 at *
 generalize clampP z1 = p1 at *
 generalize clampP z2 = p2 at *
 generalize cutC z0 + cutC z1 + cutC z2 = kk at *
 generalize rootP (sqP [x0, x1, x2]) = L at *
 generalize decide (0 < farP [x0, x1, x2]) = far at *
 have H1 := hid h1
 have H2 := hid h2
 have e1 : decide (L < 32768) = false := decide_eq_false (by intro k; rw [decide_eq_false (show ¬ 32768 ≤ L by omega)] at h; cases h)
 have e2 : decide (98304 < L) = false := decide_eq_false (by intro k; rw [decide_eq_false (show ¬ L ≤ 98304 by omega), Bool.and_false] at h; cases h)
 clear h h1 h2 u0 u1 u2 v0 v1 v2 iq0 iq1 iq2 iq3 ix0 ix1 ix2
 have hq : Blk (((w.alloc (.cells #[.int .i32 q0, .int .i32 q1, .int .i32 q2, .int .i32 q3] 23)).alloc (.cells #[.int .i32 x0, .int .i32 x1, .int .i32 x2] 25)).alloc (.cells #[.int .i32 0, .int .i32 0, .int .i32 0] 25)) w.heap.size 23 #[.int .i32 q0, .int .i32 q1, .int .i32 q2, .int .i32 q3] := ((Blk.new w _ _).alloc _).alloc _
 have hx : Blk (((w.alloc (.cells #[.int .i32 q0, .int .i32 q1, .int .i32 q2, .int .i32 q3] 23)).alloc (.cells #[.int .i32 x0, .int .i32 x1, .int .i32 x2] 25)).alloc (.cells #[.int .i32 0, .int .i32 0, .int .i32 0] 25)) (w.heap.size + 1) 25 #[.int .i32 x0, .int .i32 x1, .int .i32 x2] := by have := (Blk.new (w.alloc (.cells #[.int .i32 q0, .int .i32 q1, .int .i32 q2, .int .i32 q3] 23)) 25 #[.int .i32 x0, .int .i32 x1, .int .i32 x2]).alloc (.cells #[.int .i32 0, .int .i32 0, .int .i32 0] 25); simpa using this
 have hz : Blk (((w.alloc (.cells #[.int .i32 q0, .int .i32 q1, .int .i32 q2, .int .i32 q3] 23)).alloc (.cells #[.int .i32 x0, .int .i32 x1, .int .i32 x2] 25)).alloc (.cells #[.int .i32 0, .int .i32 0, .int .i32 0] 25)) (w.heap.size + 1 + 1) 25 #[.int .i32 0, .int .i32 0, .int .i32 0] := by have := Blk.new ((w.alloc (.cells #[.int .i32 q0, .int .i32 q1, .int .i32 q2, .int .i32 q3] 23)).alloc (.cells #[.int .i32 x0, .int .i32 x1, .int .i32 x2] 25)) 25 #[.int .i32 0, .int .i32 0, .int .i32 0]; simpa using this
 have hb : Below w.heap.size w (((w.alloc (.cells #[.int .i32 q0, .int .i32 q1, .int .i32 q2, .int .i32 q3] 23)).alloc (.cells #[.int .i32 x0, .int .i32 x1, .int .i32 x2] 25)).alloc (.cells #[.int .i32 0, .int .i32 0, .int .i32 0] 25)) := (((Below.refl _ w).alloc (Nat.le_refl _) _).alloc (by simp) _).alloc (by simp; omega) _
 have x0_ : ((((w.alloc (.cells #[.int .i32 q0, .int .i32 q1, .int .i32 q2, .int .i32 q3] 23)).alloc (.cells #[.int .i32 x0, .int .i32 x1, .int .i32 x2] 25)).alloc (.cells #[.int .i32 0, .int .i32 0, .int .i32 0] 25))).cell? ⟨w.heap.size + 1, 0, none⟩ = some (.int .i32 x0) := hx.cell 0
 have x1_ : ((((w.alloc (.cells #[.int .i32 q0, .int .i32 q1, .int .i32 q2, .int .i32 q3] 23)).alloc (.cells #[.int .i32 x0, .int .i32 x1, .int .i32 x2] 25)).alloc (.cells #[.int .i32 0, .int .i32 0, .int .i32 0] 25))).cell? ⟨w.heap.size + 1, 1, none⟩ = some (.int .i32 x1) := hx.cell 1
 have x2_ : ((((w.alloc (.cells #[.int .i32 q0, .int .i32 q1, .int .i32 q2, .int .i32 q3] 23)).alloc (.cells #[.int .i32 x0, .int .i32 x1, .int .i32 x2] 25)).alloc (.cells #[.int .i32 0, .int .i32 0, .int .i32 0] 25))).cell? ⟨w.heap.size + 1, 2, none⟩ = some (.int .i32 x2) := hx.cell 2
 go_enter Tryz.func8, Tryz.ntmps8
 go_wp2_with fail
 clear x0_ x1_ x2_
 generalize (((w.alloc (.cells #[.int .i32 q0, .int .i32 q1, .int .i32 q2, .int .i32 q3] 23)).alloc (.cells #[.int .i32 x0, .int .i32 x1, .int .i32 x2] 25)).alloc (.cells #[.int .i32 0, .int .i32 0, .int .i32 0] 25)) = W0 at *
 refine (HL.out _).mono ?_
 rintro e w1 ⟨rfl, b1⟩
 replace hq := hq.below b1 hq.lt
 replace hx := hx.below b1 hx.lt
 replace hz := hz.below b1 hz.lt
 replace hb := f_on hb b1
 clear b1 HL
 have x0_ : (w1).cell? ⟨w.heap.size + 1, 0, none⟩ = some (.int .i32 x0) := hx.cell 0
 have x1_ : (w1).cell? ⟨w.heap.size + 1, 1, none⟩ = some (.int .i32 x1) := hx.cell 1
 have x2_ : (w1).cell? ⟨w.heap.size + 1, 2, none⟩ = some (.int .i32 x2) := hx.cell 2
 go_wp2_with fail
 clear x0_ x1_ x2_
 refine (H1.out _).mono ?_
 rintro e w2 ⟨rfl, b2⟩
 replace hq := hq.below b2 hq.lt
 replace hz := hz.below b2 hz.lt
 replace hb := f_on hb b2
 clear b2 H1 hx
 have lq := hq.lt
 have lz := hz.lt
 have lb := hb.size
 replace hq := hq.alloc (.cells #[.int .i32 s0, .int .i32 s1, .int .i32 s2] 25)
 replace hz := hz.alloc (.cells #[.int .i32 s0, .int .i32 s1, .int .i32 s2] 25)
 have hs := Blk.new w2 25 #[.int .i32 s0, .int .i32 s1, .int .i32 s2]
 replace hb := hb.alloc hb.size (.cells #[.int .i32 s0, .int .i32 s1, .int .i32 s2] 25)
 go_upto_region 5 with fail
 generalize (w2.alloc (.cells #[.int .i32 s0, .int .i32 s1, .int .i32 s2] 25)) = W2 at *
 generalize w2.heap.size = gs at *
 have y0_ : W2.cell? ⟨w.heap.size, 0, none⟩ = some (.int .i32 q0) := hq.cell 0
 have y1_ : W2.cell? ⟨w.heap.size, 1, none⟩ = some (.int .i32 q1) := hq.cell 1
 have y2_ : W2.cell? ⟨w.heap.size, 2, none⟩ = some (.int .i32 q2) := hq.cell 2
 have y3_ : W2.cell? ⟨w.heap.size, 3, none⟩ = some (.int .i32 q3) := hq.cell 3
 go_wp2_with fail
 clear y0_ y1_ y2_ y3_
 refine (H2.out _).mono ?_
 rintro e w3 ⟨rfl, b3⟩
 replace hs := hs.below b3 hs.lt
 replace hz := hz.below b3 hz.lt
 replace hb := f_on hb b3
 clear b3 H2 hq
 have ls := hs.lt
 have lz3 := hz.lt
 have lb3 := hb.size
 replace hs := hs.alloc (.cells #[.int .i32 t0, .int .i32 t1, .int .i32 t2] 25)
 replace hz := hz.alloc (.cells #[.int .i32 t0, .int .i32 t1, .int .i32 t2] 25)
 have ht := Blk.new w3 25 #[.int .i32 t0, .int .i32 t1, .int .i32 t2]
 replace hb := hb.alloc hb.size (.cells #[.int .i32 t0, .int .i32 t1, .int .i32 t2] 25)
 go_upto_region 6 with fail
 generalize (w3.alloc (.cells #[.int .i32 t0, .int .i32 t1, .int .i32 t2] 25)) = W3 at *
 generalize w3.heap.size = gt at *
 go_cut [10, 11] from 28 to 58 (fun p m wx => ∃ a : Nat, p = .pointer (some ⟨a, 0, none⟩) ∧ m = .int .i64 kk ∧ Blk wx a 25 #[.int .i32 p0, .int .i32 p1, .int .i32 p2] ∧ Blk wx (w.heap.size + 1 + 1) 25 #[.int .i32 0, .int .i32 0, .int .i32 0] ∧ Below w.heap.size w wx)
 case first =>
  refine wp_region_noPanic ?_
  refine wp_region_held_drew (S := (fun w' : World => w'.cell? ⟨gs, 0, none⟩ = some (.int .i32 s0) ∧ w'.cell? ⟨gs, 1, none⟩ = some (.int .i32 s1) ∧ w'.cell? ⟨gs, 2, none⟩ = some (.int .i32 s2) ∧ w'.cell? ⟨gt, 0, none⟩ = some (.int .i32 t0) ∧ w'.cell? ⟨gt, 1, none⟩ = some (.int .i32 t1) ∧ w'.cell? ⟨gt, 2, none⟩ = some (.int .i32 t2))) (by kernel_rfl) ⟨hs.cell 0, hs.cell 1, hs.cell 2, ht.cell 0, ht.cell 1, ht.cell 2⟩ (fun hH => ?_)
  refine (show wpAnyH _ _ _ _ _ 34 _ _ _ from ?_)
  try (simp only [Act.put, List.setIfInBounds_toArray, List.set_cons_zero, List.set_cons_succ])
  replace hs := hs.drew
  replace ht := ht.drew
  replace hz := hz.drew
  replace hb := hb.drew
  generalize (W3).drew = V1 at *
  refine tk 0 hH ?_
  refine tk 1 hH ?_
  refine tk 2 hH ?_
  refine tk 3 hH ?_
  refine tk 4 hH ?_
  refine tk 5 hH ?_
  refine tk 6 hH ?_
  refine tk 7 hH ?_
  refine tk 9 hH ?_
  refine tk 10 hH ?_
  refine tk 11 hH ?_
  refine tk 12 hH ?_
  refine tk 13 hH ?_
  refine tk 14 hH ?_
  refine tk 15 hH ?_
  refine tk 16 hH ?_
  refine tk 18 hH ?_
  refine tk 19 hH ?_
  refine tk 20 hH ?_
  refine tk 21 hH ?_
  refine tk 22 hH ?_
  refine tk 23 hH ?_
  refine tk 24 hH ?_
  refine tk 25 hH ?_
  refine rd2 8 31 (fun K hK => ?hc2q8) (fun K hK => ?hc2q31)
  case hc2q8 =>
   go_simp
   refine (HP0.out _).mono ?_
   rintro e w' ⟨rfl, rfl⟩
   go_wp2_with fail
   refine hK.out _ _ ⟨hs.cell 0, hs.cell 1, hs.cell 2, ht.cell 0, ht.cell 1, ht.cell 2⟩ (fun hH => ?_)
   clear hK K
   try (simp only [Act.put, List.setIfInBounds_toArray, List.set_cons_zero, List.set_cons_succ])
   refine rd2 17 31 (fun K hK => ?hc4q17) (fun K hK => ?hc4q31)
   case hc4q17 =>
    go_simp
    refine (HP1.out _).mono ?_
    rintro e w' ⟨rfl, rfl⟩
    go_wp2_with fail
    refine hK.out _ _ ⟨hs.cell 0, hs.cell 1, hs.cell 2, ht.cell 0, ht.cell 1, ht.cell 2⟩ (fun hH => ?_)
    clear hK K
    try (simp only [Act.put, List.setIfInBounds_toArray, List.set_cons_zero, List.set_cons_succ])
    refine rd2 26 31 (fun K hK => ?hc6q26) (fun K hK => ?hc6q31)
    case hc6q26 =>
     go_simp
     refine (HP2.out _).mono ?_
     rintro e w' ⟨rfl, rfl⟩
     go_wp2_with fail
     refine hK.out _ _ ⟨hs.cell 0, hs.cell 1, hs.cell 2, ht.cell 0, ht.cell 1, ht.cell 2⟩ (fun hH => ?_)
     clear hK K
     try (simp only [Act.put, List.setIfInBounds_toArray, List.set_cons_zero, List.set_cons_succ])
     refine rd2 27 31 (fun K hK => ?hc8q27) (fun K hK => ?hc8q31)
     case hc8q27 =>
      go_simp
      refine (HC.out _).mono ?_
      rintro e V9 ⟨rfl, bb⟩
      go_wp2_with fail
      replace hs := hs.below bb hs.lt
      replace ht := ht.below bb ht.lt
      replace hz := hz.below bb hz.lt
      replace hb := f_on hb bb
      clear bb
      refine hK.out _ _ ⟨hs.cell 0, hs.cell 1, hs.cell 2, ht.cell 0, ht.cell 1, ht.cell 2⟩ (fun hH => ?_)
      clear hK K
      try (simp only [Act.put, List.setIfInBounds_toArray, List.set_cons_zero, List.set_cons_succ])
      refine tk 28 hH ?_
      refine tk 29 hH ?_
      refine tk 30 hH ?_
      refine rd1 31 (fun K hK => ?_)
      go_simp
      try go_wp2_with fail
      have l11hs := hs.lt
      have l11ht := ht.lt
      have l11hz := hz.lt
      replace hs := hs.alloc (.cells #[.int .i32 0, .int .i32 0, .int .i32 0] 25)
      replace ht := ht.alloc (.cells #[.int .i32 0, .int .i32 0, .int .i32 0] 25)
      replace hz := hz.alloc (.cells #[.int .i32 0, .int .i32 0, .int .i32 0] 25)
      have hz11 := Blk.new V9 25 #[.int .i32 0, .int .i32 0, .int .i32 0]
      have lz11 := hb.size
      replace hb := hb.alloc hb.size (.cells #[.int .i32 0, .int .i32 0, .int .i32 0] 25)
      generalize V9.alloc (.cells #[.int .i32 0, .int .i32 0, .int .i32 0] 25) = V11 at *
      generalize V9.heap.size = az11 at *
      refine hK.out _ _ ⟨hs.cell 0, hs.cell 1, hs.cell 2, ht.cell 0, ht.cell 1, ht.cell 2⟩ (fun hH => ?_)
      clear hK K
      try (simp only [Act.put, List.setIfInBounds_toArray, List.set_cons_zero, List.set_cons_succ])
      refine rd1 32 (fun K hK => ?_)
      have cc0 : V11.cell? ⟨az11, 0, none⟩ = some (.int .i32 0) := hz11.cell 0
      have zz0 := hz11.frozen 0
      have cc1 : V11.cell? ⟨az11, 1, none⟩ = some (.int .i32 0) := hz11.cell 1
      have zz1 := hz11.frozen 1
      have cc2 : V11.cell? ⟨az11, 2, none⟩ = some (.int .i32 0) := hz11.cell 2
      have zz2 := hz11.frozen 2
      go_simp
      try go_wp2_with fail
      replace hs := (((hs.fr az11 0 (by omega) (.int .i32 p0)).fr az11 1 (by omega) (.int .i32 p1)).fr az11 2 (by omega) (.int .i32 p2))
      replace ht := (((ht.fr az11 0 (by omega) (.int .i32 p0)).fr az11 1 (by omega) (.int .i32 p1)).fr az11 2 (by omega) (.int .i32 p2))
      replace hz := (((hz.fr az11 0 (by omega) (.int .i32 p0)).fr az11 1 (by omega) (.int .i32 p1)).fr az11 2 (by omega) (.int .i32 p2))
      clear cc0 zz0 cc1 zz1 cc2 zz2
      replace hz11 := (((hz11.set_ 0 (.int .i32 p0)).set_ 1 (.int .i32 p1)).set_ 2 (.int .i32 p2))
      replace hb := (((hb.sc az11 0 (by omega) (.int .i32 p0)).sc az11 1 (by omega) (.int .i32 p1)).sc az11 2 (by omega) (.int .i32 p2))
      generalize (((V11.setCell ⟨az11, 0, none⟩ (.int .i32 p0)).setCell ⟨az11, 1, none⟩ (.int .i32 p1)).setCell ⟨az11, 2, none⟩ (.int .i32 p2)) = V13 at *
      refine hK.out _ _ ⟨hs.cell 0, hs.cell 1, hs.cell 2, ht.cell 0, ht.cell 1, ht.cell 2⟩ (fun hH => ?_)
      clear hK K
      try (simp only [Act.put, List.setIfInBounds_toArray, List.set_cons_zero, List.set_cons_succ])
      refine tk 33 hH ?_
      refine wpAnyH_done (by kernel_rfl) ?_ _
      refine NoPanic.normal ?_
      try go_wp2_with fail
      go_meet
      exact ⟨az11, rfl, rfl, hz11, hz, hb⟩
     case hc8q31 =>
      go_simp
      try go_wp2_with fail
      have l14hs := hs.lt
      have l14ht := ht.lt
      have l14hz := hz.lt
      replace hs := hs.alloc (.cells #[.int .i32 0, .int .i32 0, .int .i32 0] 25)
      replace ht := ht.alloc (.cells #[.int .i32 0, .int .i32 0, .int .i32 0] 25)
      replace hz := hz.alloc (.cells #[.int .i32 0, .int .i32 0, .int .i32 0] 25)
      have hz14 := Blk.new V1 25 #[.int .i32 0, .int .i32 0, .int .i32 0]
      have lz14 := hb.size
      replace hb := hb.alloc hb.size (.cells #[.int .i32 0, .int .i32 0, .int .i32 0] 25)
      generalize V1.alloc (.cells #[.int .i32 0, .int .i32 0, .int .i32 0] 25) = V14 at *
      generalize V1.heap.size = az14 at *
      refine hK.out _ _ ⟨hs.cell 0, hs.cell 1, hs.cell 2, ht.cell 0, ht.cell 1, ht.cell 2⟩ (fun hH => ?_)
      clear hK K
      try (simp only [Act.put, List.setIfInBounds_toArray, List.set_cons_zero, List.set_cons_succ])
      refine rd1 27 (fun K hK => ?_)
      go_simp
      refine (HC.out _).mono ?_
      rintro e V16 ⟨rfl, bb⟩
      go_wp2_with fail
      replace hs := hs.below bb hs.lt
      replace ht := ht.below bb ht.lt
      replace hz := hz.below bb hz.lt
      replace hz14 := hz14.below bb hz14.lt
      replace hb := f_on hb bb
      clear bb
      refine hK.out _ _ ⟨hs.cell 0, hs.cell 1, hs.cell 2, ht.cell 0, ht.cell 1, ht.cell 2⟩ (fun hH => ?_)
      clear hK K
      try (simp only [Act.put, List.setIfInBounds_toArray, List.set_cons_zero, List.set_cons_succ])
      refine tk 28 hH ?_
      refine tk 29 hH ?_
      refine tk 30 hH ?_
      refine rd1 32 (fun K hK => ?_)
      have cc0 : V16.cell? ⟨az14, 0, none⟩ = some (.int .i32 0) := hz14.cell 0
      have zz0 := hz14.frozen 0
      have cc1 : V16.cell? ⟨az14, 1, none⟩ = some (.int .i32 0) := hz14.cell 1
      have zz1 := hz14.frozen 1
      have cc2 : V16.cell? ⟨az14, 2, none⟩ = some (.int .i32 0) := hz14.cell 2
      have zz2 := hz14.frozen 2
      go_simp
      try go_wp2_with fail
      replace hs := (((hs.fr az14 0 (by omega) (.int .i32 p0)).fr az14 1 (by omega) (.int .i32 p1)).fr az14 2 (by omega) (.int .i32 p2))
      replace ht := (((ht.fr az14 0 (by omega) (.int .i32 p0)).fr az14 1 (by omega) (.int .i32 p1)).fr az14 2 (by omega) (.int .i32 p2))
      replace hz := (((hz.fr az14 0 (by omega) (.int .i32 p0)).fr az14 1 (by omega) (.int .i32 p1)).fr az14 2 (by omega) (.int .i32 p2))
      clear cc0 zz0 cc1 zz1 cc2 zz2
      replace hz14 := (((hz14.set_ 0 (.int .i32 p0)).set_ 1 (.int .i32 p1)).set_ 2 (.int .i32 p2))
      replace hb := (((hb.sc az14 0 (by omega) (.int .i32 p0)).sc az14 1 (by omega) (.int .i32 p1)).sc az14 2 (by omega) (.int .i32 p2))
      generalize (((V16.setCell ⟨az14, 0, none⟩ (.int .i32 p0)).setCell ⟨az14, 1, none⟩ (.int .i32 p1)).setCell ⟨az14, 2, none⟩ (.int .i32 p2)) = V18 at *
      refine hK.out _ _ ⟨hs.cell 0, hs.cell 1, hs.cell 2, ht.cell 0, ht.cell 1, ht.cell 2⟩ (fun hH => ?_)
      clear hK K
      try (simp only [Act.put, List.setIfInBounds_toArray, List.set_cons_zero, List.set_cons_succ])
      refine tk 33 hH ?_
      refine wpAnyH_done (by kernel_rfl) ?_ _
      refine NoPanic.normal ?_
      try go_wp2_with fail
      go_meet
      exact ⟨az14, rfl, rfl, hz14, hz, hb⟩
    case hc6q31 =>
     go_simp
     try go_wp2_with fail
     have l19hs := hs.lt
     have l19ht := ht.lt
     have l19hz := hz.lt
     replace hs := hs.alloc (.cells #[.int .i32 0, .int .i32 0, .int .i32 0] 25)
     replace ht := ht.alloc (.cells #[.int .i32 0, .int .i32 0, .int .i32 0] 25)
     replace hz := hz.alloc (.cells #[.int .i32 0, .int .i32 0, .int .i32 0] 25)
     have hz19 := Blk.new V1 25 #[.int .i32 0, .int .i32 0, .int .i32 0]
     have lz19 := hb.size
     replace hb := hb.alloc hb.size (.cells #[.int .i32 0, .int .i32 0, .int .i32 0] 25)
     generalize V1.alloc (.cells #[.int .i32 0, .int .i32 0, .int .i32 0] 25) = V19 at *
     generalize V1.heap.size = az19 at *
     refine hK.out _ _ ⟨hs.cell 0, hs.cell 1, hs.cell 2, ht.cell 0, ht.cell 1, ht.cell 2⟩ (fun hH => ?_)
     clear hK K
     try (simp only [Act.put, List.setIfInBounds_toArray, List.set_cons_zero, List.set_cons_succ])
     refine rd1 26 (fun K hK => ?_)
     go_simp
     refine (HP2.out _).mono ?_
     rintro e w' ⟨rfl, rfl⟩
     go_wp2_with fail
     refine hK.out _ _ ⟨hs.cell 0, hs.cell 1, hs.cell 2, ht.cell 0, ht.cell 1, ht.cell 2⟩ (fun hH => ?_)
     clear hK K
     try (simp only [Act.put, List.setIfInBounds_toArray, List.set_cons_zero, List.set_cons_succ])
     refine rd1 27 (fun K hK => ?_)
     go_simp
     refine (HC.out _).mono ?_
     rintro e V23 ⟨rfl, bb⟩
     go_wp2_with fail
     replace hs := hs.below bb hs.lt
     replace ht := ht.below bb ht.lt
     replace hz := hz.below bb hz.lt
     replace hz19 := hz19.below bb hz19.lt
     replace hb := f_on hb bb
     clear bb
     refine hK.out _ _ ⟨hs.cell 0, hs.cell 1, hs.cell 2, ht.cell 0, ht.cell 1, ht.cell 2⟩ (fun hH => ?_)
     clear hK K
     try (simp only [Act.put, List.setIfInBounds_toArray, List.set_cons_zero, List.set_cons_succ])
     refine tk 28 hH ?_
     refine tk 29 hH ?_
     refine tk 30 hH ?_
     refine rd1 32 (fun K hK => ?_)
     have cc0 : V23.cell? ⟨az19, 0, none⟩ = some (.int .i32 0) := hz19.cell 0
     have zz0 := hz19.frozen 0
     have cc1 : V23.cell? ⟨az19, 1, none⟩ = some (.int .i32 0) := hz19.cell 1
     have zz1 := hz19.frozen 1
     have cc2 : V23.cell? ⟨az19, 2, none⟩ = some (.int .i32 0) := hz19.cell 2
     have zz2 := hz19.frozen 2
     go_simp
     try go_wp2_with fail
     replace hs := (((hs.fr az19 0 (by omega) (.int .i32 p0)).fr az19 1 (by omega) (.int .i32 p1)).fr az19 2 (by omega) (.int .i32 p2))
     replace ht := (((ht.fr az19 0 (by omega) (.int .i32 p0)).fr az19 1 (by omega) (.int .i32 p1)).fr az19 2 (by omega) (.int .i32 p2))
     replace hz := (((hz.fr az19 0 (by omega) (.int .i32 p0)).fr az19 1 (by omega) (.int .i32 p1)).fr az19 2 (by omega) (.int .i32 p2))
     clear cc0 zz0 cc1 zz1 cc2 zz2
     replace hz19 := (((hz19.set_ 0 (.int .i32 p0)).set_ 1 (.int .i32 p1)).set_ 2 (.int .i32 p2))
     replace hb := (((hb.sc az19 0 (by omega) (.int .i32 p0)).sc az19 1 (by omega) (.int .i32 p1)).sc az19 2 (by omega) (.int .i32 p2))
     generalize (((V23.setCell ⟨az19, 0, none⟩ (.int .i32 p0)).setCell ⟨az19, 1, none⟩ (.int .i32 p1)).setCell ⟨az19, 2, none⟩ (.int .i32 p2)) = V25 at *
     refine hK.out _ _ ⟨hs.cell 0, hs.cell 1, hs.cell 2, ht.cell 0, ht.cell 1, ht.cell 2⟩ (fun hH => ?_)
     clear hK K
     try (simp only [Act.put, List.setIfInBounds_toArray, List.set_cons_zero, List.set_cons_succ])
     refine tk 33 hH ?_
     refine wpAnyH_done (by kernel_rfl) ?_ _
     refine NoPanic.normal ?_
     try go_wp2_with fail
     go_meet
     exact ⟨az19, rfl, rfl, hz19, hz, hb⟩
   case hc4q31 =>
    go_simp
    try go_wp2_with fail
    have l26hs := hs.lt
    have l26ht := ht.lt
    have l26hz := hz.lt
    replace hs := hs.alloc (.cells #[.int .i32 0, .int .i32 0, .int .i32 0] 25)
    replace ht := ht.alloc (.cells #[.int .i32 0, .int .i32 0, .int .i32 0] 25)
    replace hz := hz.alloc (.cells #[.int .i32 0, .int .i32 0, .int .i32 0] 25)
    have hz26 := Blk.new V1 25 #[.int .i32 0, .int .i32 0, .int .i32 0]
    have lz26 := hb.size
    replace hb := hb.alloc hb.size (.cells #[.int .i32 0, .int .i32 0, .int .i32 0] 25)
    generalize V1.alloc (.cells #[.int .i32 0, .int .i32 0, .int .i32 0] 25) = V26 at *
    generalize V1.heap.size = az26 at *
    refine hK.out _ _ ⟨hs.cell 0, hs.cell 1, hs.cell 2, ht.cell 0, ht.cell 1, ht.cell 2⟩ (fun hH => ?_)
    clear hK K
    try (simp only [Act.put, List.setIfInBounds_toArray, List.set_cons_zero, List.set_cons_succ])
    refine rd1 17 (fun K hK => ?_)
    go_simp
    refine (HP1.out _).mono ?_
    rintro e w' ⟨rfl, rfl⟩
    go_wp2_with fail
    refine hK.out _ _ ⟨hs.cell 0, hs.cell 1, hs.cell 2, ht.cell 0, ht.cell 1, ht.cell 2⟩ (fun hH => ?_)
    clear hK K
    try (simp only [Act.put, List.setIfInBounds_toArray, List.set_cons_zero, List.set_cons_succ])
    refine rd1 26 (fun K hK => ?_)
    go_simp
    refine (HP2.out _).mono ?_
    rintro e w' ⟨rfl, rfl⟩
    go_wp2_with fail
    refine hK.out _ _ ⟨hs.cell 0, hs.cell 1, hs.cell 2, ht.cell 0, ht.cell 1, ht.cell 2⟩ (fun hH => ?_)
    clear hK K
    try (simp only [Act.put, List.setIfInBounds_toArray, List.set_cons_zero, List.set_cons_succ])
    refine rd1 27 (fun K hK => ?_)
    go_simp
    refine (HC.out _).mono ?_
    rintro e V32 ⟨rfl, bb⟩
    go_wp2_with fail
    replace hs := hs.below bb hs.lt
    replace ht := ht.below bb ht.lt
    replace hz := hz.below bb hz.lt
    replace hz26 := hz26.below bb hz26.lt
    replace hb := f_on hb bb
    clear bb
    refine hK.out _ _ ⟨hs.cell 0, hs.cell 1, hs.cell 2, ht.cell 0, ht.cell 1, ht.cell 2⟩ (fun hH => ?_)
    clear hK K
    try (simp only [Act.put, List.setIfInBounds_toArray, List.set_cons_zero, List.set_cons_succ])
    refine tk 28 hH ?_
    refine tk 29 hH ?_
    refine tk 30 hH ?_
    refine rd1 32 (fun K hK => ?_)
    have cc0 : V32.cell? ⟨az26, 0, none⟩ = some (.int .i32 0) := hz26.cell 0
    have zz0 := hz26.frozen 0
    have cc1 : V32.cell? ⟨az26, 1, none⟩ = some (.int .i32 0) := hz26.cell 1
    have zz1 := hz26.frozen 1
    have cc2 : V32.cell? ⟨az26, 2, none⟩ = some (.int .i32 0) := hz26.cell 2
    have zz2 := hz26.frozen 2
    go_simp
    try go_wp2_with fail
    replace hs := (((hs.fr az26 0 (by omega) (.int .i32 p0)).fr az26 1 (by omega) (.int .i32 p1)).fr az26 2 (by omega) (.int .i32 p2))
    replace ht := (((ht.fr az26 0 (by omega) (.int .i32 p0)).fr az26 1 (by omega) (.int .i32 p1)).fr az26 2 (by omega) (.int .i32 p2))
    replace hz := (((hz.fr az26 0 (by omega) (.int .i32 p0)).fr az26 1 (by omega) (.int .i32 p1)).fr az26 2 (by omega) (.int .i32 p2))
    clear cc0 zz0 cc1 zz1 cc2 zz2
    replace hz26 := (((hz26.set_ 0 (.int .i32 p0)).set_ 1 (.int .i32 p1)).set_ 2 (.int .i32 p2))
    replace hb := (((hb.sc az26 0 (by omega) (.int .i32 p0)).sc az26 1 (by omega) (.int .i32 p1)).sc az26 2 (by omega) (.int .i32 p2))
    generalize (((V32.setCell ⟨az26, 0, none⟩ (.int .i32 p0)).setCell ⟨az26, 1, none⟩ (.int .i32 p1)).setCell ⟨az26, 2, none⟩ (.int .i32 p2)) = V34 at *
    refine hK.out _ _ ⟨hs.cell 0, hs.cell 1, hs.cell 2, ht.cell 0, ht.cell 1, ht.cell 2⟩ (fun hH => ?_)
    clear hK K
    try (simp only [Act.put, List.setIfInBounds_toArray, List.set_cons_zero, List.set_cons_succ])
    refine tk 33 hH ?_
    refine wpAnyH_done (by kernel_rfl) ?_ _
    refine NoPanic.normal ?_
    try go_wp2_with fail
    go_meet
    exact ⟨az26, rfl, rfl, hz26, hz, hb⟩
  case hc2q31 =>
   go_simp
   try go_wp2_with fail
   have l35hs := hs.lt
   have l35ht := ht.lt
   have l35hz := hz.lt
   replace hs := hs.alloc (.cells #[.int .i32 0, .int .i32 0, .int .i32 0] 25)
   replace ht := ht.alloc (.cells #[.int .i32 0, .int .i32 0, .int .i32 0] 25)
   replace hz := hz.alloc (.cells #[.int .i32 0, .int .i32 0, .int .i32 0] 25)
   have hz35 := Blk.new V1 25 #[.int .i32 0, .int .i32 0, .int .i32 0]
   have lz35 := hb.size
   replace hb := hb.alloc hb.size (.cells #[.int .i32 0, .int .i32 0, .int .i32 0] 25)
   generalize V1.alloc (.cells #[.int .i32 0, .int .i32 0, .int .i32 0] 25) = V35 at *
   generalize V1.heap.size = az35 at *
   refine hK.out _ _ ⟨hs.cell 0, hs.cell 1, hs.cell 2, ht.cell 0, ht.cell 1, ht.cell 2⟩ (fun hH => ?_)
   clear hK K
   try (simp only [Act.put, List.setIfInBounds_toArray, List.set_cons_zero, List.set_cons_succ])
   refine rd1 8 (fun K hK => ?_)
   go_simp
   refine (HP0.out _).mono ?_
   rintro e w' ⟨rfl, rfl⟩
   go_wp2_with fail
   refine hK.out _ _ ⟨hs.cell 0, hs.cell 1, hs.cell 2, ht.cell 0, ht.cell 1, ht.cell 2⟩ (fun hH => ?_)
   clear hK K
   try (simp only [Act.put, List.setIfInBounds_toArray, List.set_cons_zero, List.set_cons_succ])
   refine rd1 17 (fun K hK => ?_)
   go_simp
   refine (HP1.out _).mono ?_
   rintro e w' ⟨rfl, rfl⟩
   go_wp2_with fail
   refine hK.out _ _ ⟨hs.cell 0, hs.cell 1, hs.cell 2, ht.cell 0, ht.cell 1, ht.cell 2⟩ (fun hH => ?_)
   clear hK K
   try (simp only [Act.put, List.setIfInBounds_toArray, List.set_cons_zero, List.set_cons_succ])
   refine rd1 26 (fun K hK => ?_)
   go_simp
   refine (HP2.out _).mono ?_
   rintro e w' ⟨rfl, rfl⟩
   go_wp2_with fail
   refine hK.out _ _ ⟨hs.cell 0, hs.cell 1, hs.cell 2, ht.cell 0, ht.cell 1, ht.cell 2⟩ (fun hH => ?_)
   clear hK K
   try (simp only [Act.put, List.setIfInBounds_toArray, List.set_cons_zero, List.set_cons_succ])
   refine rd1 27 (fun K hK => ?_)
   go_simp
   refine (HC.out _).mono ?_
   rintro e V43 ⟨rfl, bb⟩
   go_wp2_with fail
   replace hs := hs.below bb hs.lt
   replace ht := ht.below bb ht.lt
   replace hz := hz.below bb hz.lt
   replace hz35 := hz35.below bb hz35.lt
   replace hb := f_on hb bb
   clear bb
   refine hK.out _ _ ⟨hs.cell 0, hs.cell 1, hs.cell 2, ht.cell 0, ht.cell 1, ht.cell 2⟩ (fun hH => ?_)
   clear hK K
   try (simp only [Act.put, List.setIfInBounds_toArray, List.set_cons_zero, List.set_cons_succ])
   refine tk 28 hH ?_
   refine tk 29 hH ?_
   refine tk 30 hH ?_
   refine rd1 32 (fun K hK => ?_)
   have cc0 : V43.cell? ⟨az35, 0, none⟩ = some (.int .i32 0) := hz35.cell 0
   have zz0 := hz35.frozen 0
   have cc1 : V43.cell? ⟨az35, 1, none⟩ = some (.int .i32 0) := hz35.cell 1
   have zz1 := hz35.frozen 1
   have cc2 : V43.cell? ⟨az35, 2, none⟩ = some (.int .i32 0) := hz35.cell 2
   have zz2 := hz35.frozen 2
   go_simp
   try go_wp2_with fail
   replace hs := (((hs.fr az35 0 (by omega) (.int .i32 p0)).fr az35 1 (by omega) (.int .i32 p1)).fr az35 2 (by omega) (.int .i32 p2))
   replace ht := (((ht.fr az35 0 (by omega) (.int .i32 p0)).fr az35 1 (by omega) (.int .i32 p1)).fr az35 2 (by omega) (.int .i32 p2))
   replace hz := (((hz.fr az35 0 (by omega) (.int .i32 p0)).fr az35 1 (by omega) (.int .i32 p1)).fr az35 2 (by omega) (.int .i32 p2))
   clear cc0 zz0 cc1 zz1 cc2 zz2
   replace hz35 := (((hz35.set_ 0 (.int .i32 p0)).set_ 1 (.int .i32 p1)).set_ 2 (.int .i32 p2))
   replace hb := (((hb.sc az35 0 (by omega) (.int .i32 p0)).sc az35 1 (by omega) (.int .i32 p1)).sc az35 2 (by omega) (.int .i32 p2))
   generalize (((V43.setCell ⟨az35, 0, none⟩ (.int .i32 p0)).setCell ⟨az35, 1, none⟩ (.int .i32 p1)).setCell ⟨az35, 2, none⟩ (.int .i32 p2)) = V45 at *
   refine hK.out _ _ ⟨hs.cell 0, hs.cell 1, hs.cell 2, ht.cell 0, ht.cell 1, ht.cell 2⟩ (fun hH => ?_)
   clear hK K
   try (simp only [Act.put, List.setIfInBounds_toArray, List.set_cons_zero, List.set_cons_succ])
   refine tk 33 hH ?_
   refine wpAnyH_done (by kernel_rfl) ?_ _
   refine NoPanic.normal ?_
   try go_wp2_with fail
   go_meet
   exact ⟨az35, rfl, rfl, hz35, hz, hb⟩
 case rest =>
  clear hs ht hz hb HP0 HP1 HP2 HC
  obtain ⟨a, rfl, rfl, ha, hz, hb⟩ := hcut
  have a0 : wc.cell? ⟨a, 0, none⟩ = some (.int .i32 p0) := ha.cell 0
  have a1 : wc.cell? ⟨a, 1, none⟩ = some (.int .i32 p1) := ha.cell 1
  have a2 : wc.cell? ⟨a, 2, none⟩ = some (.int .i32 p2) := ha.cell 2
  have d0 : (wc).cell? ⟨w.heap.size + 1 + 1, 0, none⟩ = some (.int .i32 0) := hz.cell 0
  have zz0 := hz.frozen 0
  have d1 : (wc).cell? ⟨w.heap.size + 1 + 1, 1, none⟩ = some (.int .i32 0) := hz.cell 1
  have zz1 := hz.frozen 1
  have d2 : (wc).cell? ⟨w.heap.size + 1 + 1, 2, none⟩ = some (.int .i32 0) := hz.cell 2
  have zz2 := hz.frozen 2
  have hf : Blk (((wc.setCell ⟨w.heap.size + 1 + 1, 0, none⟩ (.int .i32 p0)).setCell ⟨w.heap.size + 1 + 1, 1, none⟩ (.int .i32 p1)).setCell ⟨w.heap.size + 1 + 1, 2, none⟩ (.int .i32 p2)) (w.heap.size + 1 + 1) 25 #[.int .i32 p0, .int .i32 p1, .int .i32 p2] := (((hz.set_ 0 (.int .i32 p0)).set_ 1 (.int .i32 p1)).set_ 2 (.int .i32 p2))
  have hbf : Below w.heap.size w (((wc.setCell ⟨w.heap.size + 1 + 1, 0, none⟩ (.int .i32 p0)).setCell ⟨w.heap.size + 1 + 1, 1, none⟩ (.int .i32 p1)).setCell ⟨w.heap.size + 1 + 1, 2, none⟩ (.int .i32 p2)) := (((hb.sc (w.heap.size + 1 + 1) 0 (by omega) (.int .i32 p0)).sc (w.heap.size + 1 + 1) 1 (by omega) (.int .i32 p1)).sc (w.heap.size + 1 + 1) 2 (by omega) (.int .i32 p2))
  go_wp2
  generalize (((wc.setCell ⟨w.heap.size + 1 + 1, 0, none⟩ (.int .i32 p0)).setCell ⟨w.heap.size + 1 + 1, 1, none⟩ (.int .i32 p1)).setCell ⟨w.heap.size + 1 + 1, 2, none⟩ (.int .i32 p2)) = wf at *
  have f0 : wf.cell? ⟨w.heap.size + 1 + 1, 0, none⟩ = some (.int .i32 p0) := hf.cell 0
  have f1 : wf.cell? ⟨w.heap.size + 1 + 1, 1, none⟩ = some (.int .i32 p1) := hf.cell 1
  have f2 : wf.cell? ⟨w.heap.size + 1 + 1, 2, none⟩ = some (.int .i32 p2) := hf.cell 2
  simp [bodyPost, results, Tryz.results8, go_sem, f0, f1, f2]
  exact hbf
end Go.Proofs.YtgmepohfkpncmaaGreat
