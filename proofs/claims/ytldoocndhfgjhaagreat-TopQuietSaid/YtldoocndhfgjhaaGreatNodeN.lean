/- Chapter 42: the start and its word. -/
import Derived.Test.YtldoocndhfgjhaaGreatSmallC
import Derived.Test.YtldoocndhfgjhaaGreatDueC
import Derived.Test.YtldoocndhfgjhaaGreatDueF
import Derived.Test.YtldoocndhfgjhaaGreatDueI
namespace Go.Proofs.YtldoocndhfgjhaaGreat
open Go.RowKit
set_option linter.unusedVariables false
set_option linter.unusedSimpArgs false

theorem f_on {w w1 w2 : World} (a : Below w.heap.size w w1) (b : Below w1.heap.size w1 w2) : Below w.heap.size w w2 := a.trans (b.mono a.size)
theorem f_Start (w : World) :
    Calls Tryz.prog 11 #[] w fun e w' => e = .returned (.agg #[.int .i32 1073741824, .int .i32 0, .int .i32 0, .int .i32 0, .int .i32 0, .int .i32 0, .int .i32 0, .int .i64 0, .int .i64 0]) ∧ Below w.heap.size w w' := by
  have hz := Blk.new w 83 #[.int .i32 0, .int .i32 0, .int .i32 0, .int .i32 0, .int .i32 0, .int .i32 0, .int .i32 0, .int .i64 0, .int .i64 0]
  have hb : Below w.heap.size w (w.alloc (.cells #[.int .i32 0, .int .i32 0, .int .i32 0, .int .i32 0, .int .i32 0, .int .i32 0, .int .i32 0, .int .i64 0, .int .i64 0] 83)) := (Below.refl _ w).alloc (Nat.le_refl _) _
  go_enter Tryz.func11, Tryz.ntmps11
  go_upto_region 1 with fail
  generalize w.alloc (.cells #[.int .i32 0, .int .i32 0, .int .i32 0, .int .i32 0, .int .i32 0, .int .i32 0, .int .i32 0, .int .i64 0, .int .i64 0] 83) = W0 at *
  go_wp2_with fail
  refine ((q_One) _).mono ?_
  rintro e w1 ⟨rfl, b1⟩
  replace hz := hz.below b1 hz.lt
  replace hb := f_on hb b1
  clear b1
  have r0_ : (w1).cell? ⟨w.heap.size, 0, none⟩ = some (.int .i32 0) := hz.cell 0
  have z0_ := hz.frozen 0
  have r1_ : (w1).cell? ⟨w.heap.size, 1, none⟩ = some (.int .i32 0) := hz.cell 1
  have z1_ := hz.frozen 1
  have r2_ : (w1).cell? ⟨w.heap.size, 2, none⟩ = some (.int .i32 0) := hz.cell 2
  have z2_ := hz.frozen 2
  have r3_ : (w1).cell? ⟨w.heap.size, 3, none⟩ = some (.int .i32 0) := hz.cell 3
  have z3_ := hz.frozen 3
  have r4_ : (w1).cell? ⟨w.heap.size, 4, none⟩ = some (.int .i32 0) := hz.cell 4
  have z4_ := hz.frozen 4
  have r5_ : (w1).cell? ⟨w.heap.size, 5, none⟩ = some (.int .i32 0) := hz.cell 5
  have z5_ := hz.frozen 5
  have r6_ : (w1).cell? ⟨w.heap.size, 6, none⟩ = some (.int .i32 0) := hz.cell 6
  have z6_ := hz.frozen 6
  have r7_ : (w1).cell? ⟨w.heap.size, 7, none⟩ = some (.int .i64 0) := hz.cell 7
  have z7_ := hz.frozen 7
  have r8_ : (w1).cell? ⟨w.heap.size, 8, none⟩ = some (.int .i64 0) := hz.cell 8
  have z8_ := hz.frozen 8
  have hf : Blk (((((((((w1.setCell ⟨w.heap.size, 0, none⟩ (.int .i32 1073741824)).setCell ⟨w.heap.size, 1, none⟩ (.int .i32 0)).setCell ⟨w.heap.size, 2, none⟩ (.int .i32 0)).setCell ⟨w.heap.size, 3, none⟩ (.int .i32 0)).setCell ⟨w.heap.size, 4, none⟩ (.int .i32 0)).setCell ⟨w.heap.size, 5, none⟩ (.int .i32 0)).setCell ⟨w.heap.size, 6, none⟩ (.int .i32 0)).setCell ⟨w.heap.size, 7, none⟩ (.int .i64 0)).setCell ⟨w.heap.size, 8, none⟩ (.int .i64 0)) w.heap.size 83 #[.int .i32 1073741824, .int .i32 0, .int .i32 0, .int .i32 0, .int .i32 0, .int .i32 0, .int .i32 0, .int .i64 0, .int .i64 0] := (((((((((hz.set_ 0 (.int .i32 1073741824)).set_ 1 (.int .i32 0)).set_ 2 (.int .i32 0)).set_ 3 (.int .i32 0)).set_ 4 (.int .i32 0)).set_ 5 (.int .i32 0)).set_ 6 (.int .i32 0)).set_ 7 (.int .i64 0)).set_ 8 (.int .i64 0))
  have hbf : Below w.heap.size w (((((((((w1.setCell ⟨w.heap.size, 0, none⟩ (.int .i32 1073741824)).setCell ⟨w.heap.size, 1, none⟩ (.int .i32 0)).setCell ⟨w.heap.size, 2, none⟩ (.int .i32 0)).setCell ⟨w.heap.size, 3, none⟩ (.int .i32 0)).setCell ⟨w.heap.size, 4, none⟩ (.int .i32 0)).setCell ⟨w.heap.size, 5, none⟩ (.int .i32 0)).setCell ⟨w.heap.size, 6, none⟩ (.int .i32 0)).setCell ⟨w.heap.size, 7, none⟩ (.int .i64 0)).setCell ⟨w.heap.size, 8, none⟩ (.int .i64 0)) := (((((((((hb.setCell (p := ⟨w.heap.size, 0, none⟩) (by dsimp only; omega) (.int .i32 1073741824)).setCell (p := ⟨w.heap.size, 1, none⟩) (by dsimp only; omega) (.int .i32 0)).setCell (p := ⟨w.heap.size, 2, none⟩) (by dsimp only; omega) (.int .i32 0)).setCell (p := ⟨w.heap.size, 3, none⟩) (by dsimp only; omega) (.int .i32 0)).setCell (p := ⟨w.heap.size, 4, none⟩) (by dsimp only; omega) (.int .i32 0)).setCell (p := ⟨w.heap.size, 5, none⟩) (by dsimp only; omega) (.int .i32 0)).setCell (p := ⟨w.heap.size, 6, none⟩) (by dsimp only; omega) (.int .i32 0)).setCell (p := ⟨w.heap.size, 7, none⟩) (by dsimp only; omega) (.int .i64 0)).setCell (p := ⟨w.heap.size, 8, none⟩) (by dsimp only; omega) (.int .i64 0))
  go_wp2
  generalize (((((((((w1.setCell ⟨w.heap.size, 0, none⟩ (.int .i32 1073741824)).setCell ⟨w.heap.size, 1, none⟩ (.int .i32 0)).setCell ⟨w.heap.size, 2, none⟩ (.int .i32 0)).setCell ⟨w.heap.size, 3, none⟩ (.int .i32 0)).setCell ⟨w.heap.size, 4, none⟩ (.int .i32 0)).setCell ⟨w.heap.size, 5, none⟩ (.int .i32 0)).setCell ⟨w.heap.size, 6, none⟩ (.int .i32 0)).setCell ⟨w.heap.size, 7, none⟩ (.int .i64 0)).setCell ⟨w.heap.size, 8, none⟩ (.int .i64 0)) = wf at *
  have f0_ : wf.cell? ⟨w.heap.size, 0, none⟩ = some (.int .i32 1073741824) := hf.cell 0
  have f1_ : wf.cell? ⟨w.heap.size, 1, none⟩ = some (.int .i32 0) := hf.cell 1
  have f2_ : wf.cell? ⟨w.heap.size, 2, none⟩ = some (.int .i32 0) := hf.cell 2
  have f3_ : wf.cell? ⟨w.heap.size, 3, none⟩ = some (.int .i32 0) := hf.cell 3
  have f4_ : wf.cell? ⟨w.heap.size, 4, none⟩ = some (.int .i32 0) := hf.cell 4
  have f5_ : wf.cell? ⟨w.heap.size, 5, none⟩ = some (.int .i32 0) := hf.cell 5
  have f6_ : wf.cell? ⟨w.heap.size, 6, none⟩ = some (.int .i32 0) := hf.cell 6
  have f7_ : wf.cell? ⟨w.heap.size, 7, none⟩ = some (.int .i64 0) := hf.cell 7
  have f8_ : wf.cell? ⟨w.heap.size, 8, none⟩ = some (.int .i64 0) := hf.cell 8
  simp [bodyPost, results, Tryz.results11, go_sem, f0_, f1_, f2_, f3_, f4_, f5_, f6_, f7_, f8_]
  exact hbf
theorem f_Word (n c q0 q1 q2 q3 b0 b1 b2 : Int) (w : World) (iq0 : I32 q0) (iq1 : I32 q1) (iq2 : I32 q2) (iq3 : I32 q3) (hu : isP (sqP [q0, q1, q2, q3]) = true) :
    Calls Tryz.prog 87 #[.agg #[.int .i32 q0, .int .i32 q1, .int .i32 q2, .int .i32 q3, .int .i32 b0, .int .i32 b1, .int .i32 b2, .int .i64 n, .int .i64 c]] w fun e w' => e = .returned (.int .u32 (joinV widL (packL q0 q1 q2 q3 (farI q0 q1 q2 q3) (upK 3)))) ∧ Below w.heap.size w w' := by
  have HP := hid fun w => s_Pack q0 q1 q2 q3 w iq0 iq1 iq2 iq3 hu
  generalize joinV widL (packL q0 q1 q2 q3 (farI q0 q1 q2 q3) (upK 3)) = u at *
  generalize joinB widL (packL q0 q1 q2 q3 (farI q0 q1 q2 q3) (upK 3)) = ok at *
  clear hu iq0 iq1 iq2 iq3
  have hb : Below w.heap.size w (w.alloc (.cells #[.int .i32 q0, .int .i32 q1, .int .i32 q2, .int .i32 q3, .int .i32 b0, .int .i32 b1, .int .i32 b2, .int .i64 n, .int .i64 c] 83)) := (Below.refl _ w).alloc (Nat.le_refl _) _
  have hs := Blk.new w 83 #[.int .i32 q0, .int .i32 q1, .int .i32 q2, .int .i32 q3, .int .i32 b0, .int .i32 b1, .int .i32 b2, .int .i64 n, .int .i64 c]
  have f0 : (w.alloc (.cells #[.int .i32 q0, .int .i32 q1, .int .i32 q2, .int .i32 q3, .int .i32 b0, .int .i32 b1, .int .i32 b2, .int .i64 n, .int .i64 c] 83)).cell? ⟨w.heap.size, 0, none⟩ = some (.int .i32 q0) := hs.cell 0
  have f1 : (w.alloc (.cells #[.int .i32 q0, .int .i32 q1, .int .i32 q2, .int .i32 q3, .int .i32 b0, .int .i32 b1, .int .i32 b2, .int .i64 n, .int .i64 c] 83)).cell? ⟨w.heap.size, 1, none⟩ = some (.int .i32 q1) := hs.cell 1
  have f2 : (w.alloc (.cells #[.int .i32 q0, .int .i32 q1, .int .i32 q2, .int .i32 q3, .int .i32 b0, .int .i32 b1, .int .i32 b2, .int .i64 n, .int .i64 c] 83)).cell? ⟨w.heap.size, 2, none⟩ = some (.int .i32 q2) := hs.cell 2
  have f3 : (w.alloc (.cells #[.int .i32 q0, .int .i32 q1, .int .i32 q2, .int .i32 q3, .int .i32 b0, .int .i32 b1, .int .i32 b2, .int .i64 n, .int .i64 c] 83)).cell? ⟨w.heap.size, 3, none⟩ = some (.int .i32 q3) := hs.cell 3
  go_enter Tryz.func87, Tryz.ntmps87
  go_wp2_with fail
  refine (HP.out _).mono ?_
  rintro e w1 ⟨rfl, b1⟩
  go_wp2
  go_ret
  exact ⟨rfl, f_on hb b1⟩
theorem one_word : isP (sqP [1073741824, 0, 0, 0]) = true ∧ joinV widL (packL 1073741824 0 0 0 (farI 1073741824 0 0 0) (upK 3)) = 537395712 := ⟨by decide +kernel, by decide +kernel⟩
theorem word0 : Word0 := by
  intro w
  have z : I32 0 := by unfold I32; omega
  have h := f_Word 0 0 1073741824 0 0 0 0 0 0 w (by unfold I32; omega) z z z one_word.1
  rw [one_word.2] at h
  exact h
end Go.Proofs.YtldoocndhfgjhaaGreat
namespace Go.Proofs.YtldoocndhfgjhaaGreat
open Go.RowKit
set_option linter.unusedVariables false
set_option linter.unusedSimpArgs false

/-- A node was made: nothing came to it, no time went by. -/
def Made (w : World) (e : Ending) (w' : World) : Prop :=
  ∃ (nb db wa q mb g cap tA tB : Nat) (H A B : Value), e = .returned (.pointer (some ⟨nb, 0, none⟩)) ∧ NIdle w' nb db wa q mb g cap tA tB 0 0 H A B 0 ∧ Below w.heap.size w w' ∧ ∀ i, PD nb g tA tB i → w.heap.size ≤ i
set_option maxRecDepth 100000 in
set_option maxHeartbeats 8000000 in
theorem n_New (w : World) : Calls Tryz.prog 5 #[.int .i64 1, .int .i64 1] w (Made w) := by
  go_enter Tryz.func5, Tryz.ntmps5
  go_wp2_with fail
  refine (y_New w).mono ?_
  rintro e w1 ⟨db, wa, rfl, d1, b1⟩
  go_wp2_with fail
  refine (f_Start w1).mono ?_
  rintro e w2 ⟨rfl, b2⟩
  replace d1 := d1.below b2 d1.lt
  replace b1 := f_on b1 b2
  clear b2
  go_wp2_with fail
  refine (d_New w2).mono ?_
  rintro e w3 ⟨rfl, q1, m1, b2⟩
  replace d1 := d1.below b2 d1.lt
  have hs2 : w.heap.size ≤ w2.heap.size := b1.size
  replace b1 := f_on b1 b2
  clear b2
  obtain ⟨m, hm⟩ : ∃ m, w2.heap.size = m := ⟨_, rfl⟩
  rw [hm] at q1 m1 hs2 ⊢
  obtain ⟨q, hq⟩ : ∃ q, m + 1 = q := ⟨_, rfl⟩
  rw [hq] at q1 ⊢
  go_wp2_with fail
  refine (g_New w3).mono ?_
  rintro e w4 ⟨h1, rfl, b2⟩
  replace d1 := d1.below b2 d1.lt
  replace q1 := q1.below b2 q1.lt
  replace m1 := m1.kept (Kept.of_below (P := fun _ => False) b2) id
  replace b1 := f_on b1 b2
  clear b2
  go_wp2_with fail
  refine (a_New w4).mono ?_
  rintro e w5 ⟨h2, rfl, b2⟩
  replace d1 := d1.below b2 d1.lt
  replace q1 := q1.below b2 q1.lt
  replace m1 := m1.kept (Kept.of_below (P := fun _ => False) b2) id
  replace b1 := f_on b1 b2
  clear b2
  go_wp2_with fail
  refine (v_New w5).mono ?_
  rintro e w6 ⟨h3, rfl, b2⟩
  replace d1 := d1.below b2 d1.lt
  replace q1 := q1.below b2 q1.lt
  replace m1 := m1.kept (Kept.of_below (P := fun _ => False) b2) id
  replace b1 := f_on b1 b2
  clear b2
  go_upto_region 4 with fail
  have e1 : Blk (w6.alloc (.cells #[.int .i64 1, .int .i64 1, .int .i64 0, .slice none 0 0, .int .i64 0, .pointer (some ⟨db, 0, none⟩), .int .i32 1073741824, .int .i32 0, .int .i32 0, .int .i32 0, .int .i32 0, .int .i32 0, .int .i32 0, .int .i64 0, .int .i64 0, .pointer (some ⟨q, 0, none⟩), .pointer (some ⟨h1, 0, none⟩), .pointer (some ⟨h2, 0, none⟩), .pointer (some ⟨h3, 0, none⟩), .int .i64 0, .bool false, .int .i32 0, .int .i32 0, .int .i32 0, .pointer none, .bool false, .int .u32 0, .int .i64 0, .int .i64 0, .int .i64 0, .int .i64 0] 106)) w6.heap.size 106 (.int .i64 1 :: .int .i64 1 :: .int .i64 0 :: .slice none 0 0 :: ndR 0 db q (.pointer (some ⟨h1, 0, none⟩)) (.pointer (some ⟨h2, 0, none⟩)) (.pointer (some ⟨h3, 0, none⟩))).toArray := Blk.new w6 106 #[.int .i64 1, .int .i64 1, .int .i64 0, .slice none 0 0, .int .i64 0, .pointer (some ⟨db, 0, none⟩), .int .i32 1073741824, .int .i32 0, .int .i32 0, .int .i32 0, .int .i32 0, .int .i32 0, .int .i32 0, .int .i64 0, .int .i64 0, .pointer (some ⟨q, 0, none⟩), .pointer (some ⟨h1, 0, none⟩), .pointer (some ⟨h2, 0, none⟩), .pointer (some ⟨h3, 0, none⟩), .int .i64 0, .bool false, .int .i32 0, .int .i32 0, .int .i32 0, .pointer none, .bool false, .int .u32 0, .int .i64 0, .int .i64 0, .int .i64 0, .int .i64 0]
  have d2 := d1.alloc (.cells #[.int .i64 1, .int .i64 1, .int .i64 0, .slice none 0 0, .int .i64 0, .pointer (some ⟨db, 0, none⟩), .int .i32 1073741824, .int .i32 0, .int .i32 0, .int .i32 0, .int .i32 0, .int .i32 0, .int .i32 0, .int .i64 0, .int .i64 0, .pointer (some ⟨q, 0, none⟩), .pointer (some ⟨h1, 0, none⟩), .pointer (some ⟨h2, 0, none⟩), .pointer (some ⟨h3, 0, none⟩), .int .i64 0, .bool false, .int .i32 0, .int .i32 0, .int .i32 0, .pointer none, .bool false, .int .u32 0, .int .i64 0, .int .i64 0, .int .i64 0, .int .i64 0] 106)
  have q2 := q1.alloc (.cells #[.int .i64 1, .int .i64 1, .int .i64 0, .slice none 0 0, .int .i64 0, .pointer (some ⟨db, 0, none⟩), .int .i32 1073741824, .int .i32 0, .int .i32 0, .int .i32 0, .int .i32 0, .int .i32 0, .int .i32 0, .int .i64 0, .int .i64 0, .pointer (some ⟨q, 0, none⟩), .pointer (some ⟨h1, 0, none⟩), .pointer (some ⟨h2, 0, none⟩), .pointer (some ⟨h3, 0, none⟩), .int .i64 0, .bool false, .int .i32 0, .int .i32 0, .int .i32 0, .pointer none, .bool false, .int .u32 0, .int .i64 0, .int .i64 0, .int .i64 0, .int .i64 0] 106)
  have m2 := m1.alloc (.cells #[.int .i64 1, .int .i64 1, .int .i64 0, .slice none 0 0, .int .i64 0, .pointer (some ⟨db, 0, none⟩), .int .i32 1073741824, .int .i32 0, .int .i32 0, .int .i32 0, .int .i32 0, .int .i32 0, .int .i32 0, .int .i64 0, .int .i64 0, .pointer (some ⟨q, 0, none⟩), .pointer (some ⟨h1, 0, none⟩), .pointer (some ⟨h2, 0, none⟩), .pointer (some ⟨h3, 0, none⟩), .int .i64 0, .bool false, .int .i32 0, .int .i32 0, .int .i32 0, .pointer none, .bool false, .int .u32 0, .int .i64 0, .int .i64 0, .int .i64 0, .int .i64 0] 106)
  have b2 := b1.alloc b1.size (.cells #[.int .i64 1, .int .i64 1, .int .i64 0, .slice none 0 0, .int .i64 0, .pointer (some ⟨db, 0, none⟩), .int .i32 1073741824, .int .i32 0, .int .i32 0, .int .i32 0, .int .i32 0, .int .i32 0, .int .i32 0, .int .i64 0, .int .i64 0, .pointer (some ⟨q, 0, none⟩), .pointer (some ⟨h1, 0, none⟩), .pointer (some ⟨h2, 0, none⟩), .pointer (some ⟨h3, 0, none⟩), .int .i64 0, .bool false, .int .i32 0, .int .i32 0, .int .i32 0, .pointer none, .bool false, .int .u32 0, .int .i64 0, .int .i64 0, .int .i64 0, .int .i64 0] 106)
  have hws := b1.size
  have hlt : w6.heap.size < (w6.alloc (.cells #[.int .i64 1, .int .i64 1, .int .i64 0, .slice none 0 0, .int .i64 0, .pointer (some ⟨db, 0, none⟩), .int .i32 1073741824, .int .i32 0, .int .i32 0, .int .i32 0, .int .i32 0, .int .i32 0, .int .i32 0, .int .i64 0, .int .i64 0, .pointer (some ⟨q, 0, none⟩), .pointer (some ⟨h1, 0, none⟩), .pointer (some ⟨h2, 0, none⟩), .pointer (some ⟨h3, 0, none⟩), .int .i64 0, .bool false, .int .i32 0, .int .i32 0, .int .i32 0, .pointer none, .bool false, .int .u32 0, .int .i64 0, .int .i64 0, .int .i64 0, .int .i64 0] 106)).heap.size := by simp
  generalize w6.alloc (.cells #[.int .i64 1, .int .i64 1, .int .i64 0, .slice none 0 0, .int .i64 0, .pointer (some ⟨db, 0, none⟩), .int .i32 1073741824, .int .i32 0, .int .i32 0, .int .i32 0, .int .i32 0, .int .i32 0, .int .i32 0, .int .i64 0, .int .i64 0, .pointer (some ⟨q, 0, none⟩), .pointer (some ⟨h1, 0, none⟩), .pointer (some ⟨h2, 0, none⟩), .pointer (some ⟨h3, 0, none⟩), .int .i64 0, .bool false, .int .i32 0, .int .i32 0, .int .i32 0, .pointer none, .bool false, .int .u32 0, .int .i64 0, .int .i64 0, .int .i64 0, .int .i64 0] 106) = W0 at *
  generalize w6.heap.size = nb at *
  have hmn := m2.ne_ e1
  have hmd := m2.ne_ d2
  have hqn := q2.ne_ e1 (by decide)
  have hqd := q2.ne_ d2 (by decide)
  have hqm : m ≤ q := by omega
  have hmW := m2.lt
  have hqW := q2.lt
  have hdW := d2.lt
  have E1 := hid e1
  have D2 := hid d2
  have B2 := hid b2
  have HS0 := hid (d_Set0 q m W0 q2 m2)
  have t15 : W0.cell? ⟨nb, 15, none⟩ = some (.pointer (some ⟨q, 0, none⟩)) := e1.cell 15
  clear d1 q1 m1 b1 e1 d2 q2 m2 b2 hq hm
  go_wp2_with fail
  refine HS0.out.mono ?_
  rintro e w7 ⟨rfl, A, c, k1, k2, k3, k4, k5⟩
  have e3 := k5.blk E1.out (fun h => h.elim (fun e => hqn e.symm) (fun e => hmn e.symm))
  have d3 := k5.blk D2.out (fun h => h.elim (fun e => hqd e.symm) (fun e => hmd e.symm))
  have b3 := B2.out.trans (k5.to_below (B := w.heap.size) (fun i h => h.elim (fun e => by omega) (fun e => by omega)) B2.out.size)
  have hW7 := k5.below.size
  have HS1 := hid (d_Set1 q m c W0.heap.size W0.heap.size A w7 k1 k2 k3 k4 (Nat.le_refl _))
  have E3 := hid e3
  have D3 := hid d3
  have B3 := hid b3
  clear t15
  have t15 : w7.cell? ⟨nb, 15, none⟩ = some (.pointer (some ⟨q, 0, none⟩)) := e3.cell 15
  clear k1 k2 k3 k4 k5 e3 d3 b3 E1 D2 B2 HS0
  go_wp2_with fail
  refine HS1.out.mono ?_
  rintro e w8 ⟨rfl, g, cap, k1, k2, k3⟩
  have e4 := k3.blk E3.out (fun h => or3 h (fun e => hqn e.symm) (fun e => hmn e.symm) (fun e => absurd e (by omega)))
  have d4 := k3.blk D3.out (fun h => or3 h (fun e => hqd e.symm) (fun e => hmd e.symm) (fun e => absurd e (by omega)))
  have b4 := B3.out.trans (k3.to_below (B := w.heap.size) (fun i h => or3 h (fun e => by omega) (fun e => by omega) (fun e => by omega)) B3.out.size)
  have HF : Hid (Made w (.returned (.pointer (some ⟨nb, 0, none⟩))) w8) := hid ⟨nb, db, wa, q, m, g, cap, W0.heap.size, w7.heap.size, _, _, _, rfl, ⟨e4, d4, k1⟩, b4, fun i h => by rcases h with rfl | rfl | rfl | rfl <;> omega⟩
  clear t15 e4 d4 b4 k1 k2 k3 E3 D3 B3 HS1
  go_wp2_with fail
  go_ret
  exact HF.out
end Go.Proofs.YtldoocndhfgjhaaGreat
