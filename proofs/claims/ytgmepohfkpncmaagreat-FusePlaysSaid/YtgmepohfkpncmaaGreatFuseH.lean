/- Chapter 42: the start, the word, what must come. -/
import Derived.Test.YtgmepohfkpncmaaGreatFuseG
namespace Go.Proofs.YtgmepohfkpncmaaGreat
open Go.RowKit
set_option linter.unusedVariables false
set_option linter.unusedSimpArgs false

theorem f10_One (w : World) :
  Calls Tryz.prog 16 #[] w fun e w' => e = .returned (.agg #[.int .i32 1073741824, .int .i32 0, .int .i32 0, .int .i32 0]) ∧ Below w.heap.size w w' := by
 go_enter Tryz.func16, Tryz.ntmps16
 go_wp2
 simp [bodyPost, results, Tryz.results16, go_sem]
 exact (Below.refl _ w).alloc (Nat.le_refl _) _
theorem f_Start (w : World) :
  Calls Tryz.prog 14 #[] w fun e w' => e = .returned (.agg #[.int .i32 1073741824, .int .i32 0, .int .i32 0, .int .i32 0, .int .i32 0, .int .i32 0, .int .i32 0, .int .i64 0, .int .i64 0]) ∧ Below w.heap.size w w' := by
 have hz := Blk.new w 34 #[.int .i32 0, .int .i32 0, .int .i32 0, .int .i32 0, .int .i32 0, .int .i32 0, .int .i32 0, .int .i64 0, .int .i64 0]
 have hb : Below w.heap.size w (w.alloc (.cells #[.int .i32 0, .int .i32 0, .int .i32 0, .int .i32 0, .int .i32 0, .int .i32 0, .int .i32 0, .int .i64 0, .int .i64 0] 34)) := (Below.refl _ w).alloc (Nat.le_refl _) _
 go_enter Tryz.func14, Tryz.ntmps14
 go_upto_region 1 with fail
 generalize w.alloc (.cells #[.int .i32 0, .int .i32 0, .int .i32 0, .int .i32 0, .int .i32 0, .int .i32 0, .int .i32 0, .int .i64 0, .int .i64 0] 34) = W0 at *
 go_wp2_with fail
 refine ((q_One) _).mono ?_
 rintro e w1 ⟨rfl, b1⟩
 replace hz := hz.below b1 hz.lt
 replace hb := f_on hb b1
 clear b1
 have r0_ : (w1).cell? ⟨w.heap.size, 0, none⟩ = some (.int .i32 0) := hz.cell 0
 have z0_ := hz.frozen 0
 have r1_ : (w1).cell? ⟨w.heap.size, 1, none⟩ = some (.int .i32 0) := hz.cell 1
 have z1_ := hz.frozen 1
 have r2_ : (w1).cell? ⟨w.heap.size, 2, none⟩ = some (.int .i32 0) := hz.cell 2
 have z2_ := hz.frozen 2
 have r3_ : (w1).cell? ⟨w.heap.size, 3, none⟩ = some (.int .i32 0) := hz.cell 3
 have z3_ := hz.frozen 3
 have r4_ : (w1).cell? ⟨w.heap.size, 4, none⟩ = some (.int .i32 0) := hz.cell 4
 have z4_ := hz.frozen 4
 have r5_ : (w1).cell? ⟨w.heap.size, 5, none⟩ = some (.int .i32 0) := hz.cell 5
 have z5_ := hz.frozen 5
 have r6_ : (w1).cell? ⟨w.heap.size, 6, none⟩ = some (.int .i32 0) := hz.cell 6
 have z6_ := hz.frozen 6
 have r7_ : (w1).cell? ⟨w.heap.size, 7, none⟩ = some (.int .i64 0) := hz.cell 7
 have z7_ := hz.frozen 7
 have r8_ : (w1).cell? ⟨w.heap.size, 8, none⟩ = some (.int .i64 0) := hz.cell 8
 have z8_ := hz.frozen 8
 have hf : Blk (((((((((w1.setCell ⟨w.heap.size, 0, none⟩ (.int .i32 1073741824)).setCell ⟨w.heap.size, 1, none⟩ (.int .i32 0)).setCell ⟨w.heap.size, 2, none⟩ (.int .i32 0)).setCell ⟨w.heap.size, 3, none⟩ (.int .i32 0)).setCell ⟨w.heap.size, 4, none⟩ (.int .i32 0)).setCell ⟨w.heap.size, 5, none⟩ (.int .i32 0)).setCell ⟨w.heap.size, 6, none⟩ (.int .i32 0)).setCell ⟨w.heap.size, 7, none⟩ (.int .i64 0)).setCell ⟨w.heap.size, 8, none⟩ (.int .i64 0)) w.heap.size 34 #[.int .i32 1073741824, .int .i32 0, .int .i32 0, .int .i32 0, .int .i32 0, .int .i32 0, .int .i32 0, .int .i64 0, .int .i64 0] := (((((((((hz.set_ 0 (.int .i32 1073741824)).set_ 1 (.int .i32 0)).set_ 2 (.int .i32 0)).set_ 3 (.int .i32 0)).set_ 4 (.int .i32 0)).set_ 5 (.int .i32 0)).set_ 6 (.int .i32 0)).set_ 7 (.int .i64 0)).set_ 8 (.int .i64 0))
 have hbf : Below w.heap.size w (((((((((w1.setCell ⟨w.heap.size, 0, none⟩ (.int .i32 1073741824)).setCell ⟨w.heap.size, 1, none⟩ (.int .i32 0)).setCell ⟨w.heap.size, 2, none⟩ (.int .i32 0)).setCell ⟨w.heap.size, 3, none⟩ (.int .i32 0)).setCell ⟨w.heap.size, 4, none⟩ (.int .i32 0)).setCell ⟨w.heap.size, 5, none⟩ (.int .i32 0)).setCell ⟨w.heap.size, 6, none⟩ (.int .i32 0)).setCell ⟨w.heap.size, 7, none⟩ (.int .i64 0)).setCell ⟨w.heap.size, 8, none⟩ (.int .i64 0)) := (((((((((hb.sc (w.heap.size) 0 (by omega) (.int .i32 1073741824)).sc (w.heap.size) 1 (by omega) (.int .i32 0)).sc (w.heap.size) 2 (by omega) (.int .i32 0)).sc (w.heap.size) 3 (by omega) (.int .i32 0)).sc (w.heap.size) 4 (by omega) (.int .i32 0)).sc (w.heap.size) 5 (by omega) (.int .i32 0)).sc (w.heap.size) 6 (by omega) (.int .i32 0)).sc (w.heap.size) 7 (by omega) (.int .i64 0)).sc (w.heap.size) 8 (by omega) (.int .i64 0))
 go_wp2
 generalize (((((((((w1.setCell ⟨w.heap.size, 0, none⟩ (.int .i32 1073741824)).setCell ⟨w.heap.size, 1, none⟩ (.int .i32 0)).setCell ⟨w.heap.size, 2, none⟩ (.int .i32 0)).setCell ⟨w.heap.size, 3, none⟩ (.int .i32 0)).setCell ⟨w.heap.size, 4, none⟩ (.int .i32 0)).setCell ⟨w.heap.size, 5, none⟩ (.int .i32 0)).setCell ⟨w.heap.size, 6, none⟩ (.int .i32 0)).setCell ⟨w.heap.size, 7, none⟩ (.int .i64 0)).setCell ⟨w.heap.size, 8, none⟩ (.int .i64 0)) = wf at *
 have f0_ : wf.cell? ⟨w.heap.size, 0, none⟩ = some (.int .i32 1073741824) := hf.cell 0
 have f1_ : wf.cell? ⟨w.heap.size, 1, none⟩ = some (.int .i32 0) := hf.cell 1
 have f2_ : wf.cell? ⟨w.heap.size, 2, none⟩ = some (.int .i32 0) := hf.cell 2
 have f3_ : wf.cell? ⟨w.heap.size, 3, none⟩ = some (.int .i32 0) := hf.cell 3
 have f4_ : wf.cell? ⟨w.heap.size, 4, none⟩ = some (.int .i32 0) := hf.cell 4
 have f5_ : wf.cell? ⟨w.heap.size, 5, none⟩ = some (.int .i32 0) := hf.cell 5
 have f6_ : wf.cell? ⟨w.heap.size, 6, none⟩ = some (.int .i32 0) := hf.cell 6
 have f7_ : wf.cell? ⟨w.heap.size, 7, none⟩ = some (.int .i64 0) := hf.cell 7
 have f8_ : wf.cell? ⟨w.heap.size, 8, none⟩ = some (.int .i64 0) := hf.cell 8
 simp [bodyPost, results, Tryz.results14, go_sem, f0_, f1_, f2_, f3_, f4_, f5_, f6_, f7_, f8_]
 exact hbf
theorem f_Word (n c q0 q1 q2 q3 b0 b1 b2 : Int) (w : World) (iq0 : I32 q0) (iq1 : I32 q1) (iq2 : I32 q2) (iq3 : I32 q3) (hu : isP (sqP [q0, q1, q2, q3]) = true) :
  Calls Tryz.prog 12 #[.agg #[.int .i32 q0, .int .i32 q1, .int .i32 q2, .int .i32 q3, .int .i32 b0, .int .i32 b1, .int .i32 b2, .int .i64 n, .int .i64 c]] w fun e w' => e = .returned (.int .u32 (joinV widL (packL q0 q1 q2 q3 (farI q0 q1 q2 q3) (upK 3)))) ∧ Below w.heap.size w w' := by
 have HP := hid fun w => s_Pack q0 q1 q2 q3 w iq0 iq1 iq2 iq3 hu
 generalize joinV widL (packL q0 q1 q2 q3 (farI q0 q1 q2 q3) (upK 3)) = u at *
 generalize joinB widL (packL q0 q1 q2 q3 (farI q0 q1 q2 q3) (upK 3)) = ok at *
 clear hu iq0 iq1 iq2 iq3
 have hb : Below w.heap.size w (w.alloc (.cells #[.int .i32 q0, .int .i32 q1, .int .i32 q2, .int .i32 q3, .int .i32 b0, .int .i32 b1, .int .i32 b2, .int .i64 n, .int .i64 c] 34)) := (Below.refl _ w).alloc (Nat.le_refl _) _
 have hs := Blk.new w 34 #[.int .i32 q0, .int .i32 q1, .int .i32 q2, .int .i32 q3, .int .i32 b0, .int .i32 b1, .int .i32 b2, .int .i64 n, .int .i64 c]
 have f0 : (w.alloc (.cells #[.int .i32 q0, .int .i32 q1, .int .i32 q2, .int .i32 q3, .int .i32 b0, .int .i32 b1, .int .i32 b2, .int .i64 n, .int .i64 c] 34)).cell? ⟨w.heap.size, 0, none⟩ = some (.int .i32 q0) := hs.cell 0
 have f1 : (w.alloc (.cells #[.int .i32 q0, .int .i32 q1, .int .i32 q2, .int .i32 q3, .int .i32 b0, .int .i32 b1, .int .i32 b2, .int .i64 n, .int .i64 c] 34)).cell? ⟨w.heap.size, 1, none⟩ = some (.int .i32 q1) := hs.cell 1
 have f2 : (w.alloc (.cells #[.int .i32 q0, .int .i32 q1, .int .i32 q2, .int .i32 q3, .int .i32 b0, .int .i32 b1, .int .i32 b2, .int .i64 n, .int .i64 c] 34)).cell? ⟨w.heap.size, 2, none⟩ = some (.int .i32 q2) := hs.cell 2
 have f3 : (w.alloc (.cells #[.int .i32 q0, .int .i32 q1, .int .i32 q2, .int .i32 q3, .int .i32 b0, .int .i32 b1, .int .i32 b2, .int .i64 n, .int .i64 c] 34)).cell? ⟨w.heap.size, 3, none⟩ = some (.int .i32 q3) := hs.cell 3
 go_enter Tryz.func12, Tryz.ntmps12
 go_wp2_with fail
 refine (HP.out _).mono ?_
 rintro e w1 ⟨rfl, b1⟩
 go_wp2
 go_ret
 exact ⟨rfl, f_on hb b1⟩
theorem one_word : isP (sqP [1073741824, 0, 0, 0]) = true ∧ joinV widL (packL 1073741824 0 0 0 (farI 1073741824 0 0 0) (upK 3)) = 537395712 := ⟨by decide +kernel, by decide +kernel⟩
/-- Who stands upright and is turned by the bias alone. -/
theorem f_rest (b0 b1 b2 x0 x1 x2 d : Int) (w : World) (h0 : -16384 ≤ b0 ∧ b0 ≤ 16384) (h1 : -16384 ≤ b1 ∧ b1 ≤ 16384) (h2 : -16384 ≤ b2 ∧ b2 ≤ 16384) (ix0 : I32 x0) (ix1 : I32 x1) (ix2 : I32 x2) (id_ : I32 d)
  (h : erOk x0 x1 x2 = true → er0 1073741824 0 0 0 x0 x1 x2 = 0 ∧ er1 1073741824 0 0 0 x0 x1 x2 = 0 ∧ er2 1073741824 0 0 0 x0 x1 x2 = 0) :
  Calls Tryz.prog 10 #[.agg #[.int .i32 1073741824, .int .i32 0, .int .i32 0, .int .i32 0, .int .i32 b0, .int .i32 b1, .int .i32 b2, .int .i64 0, .int .i64 0], .agg #[.int .i32 b0, .int .i32 b1, .int .i32 b2], .agg #[.int .i32 x0, .int .i32 x1, .int .i32 x2], .int .i32 d] w fun e w' => e = .returned (.agg #[.int .i32 1073741824, .int .i32 0, .int .i32 0, .int .i32 0, .int .i32 b0, .int .i32 b1, .int .i32 b2, .int .i64 1, .int .i64 0]) ∧ Below w.heap.size w w' := by
 have z : I32 0 := by unfold I32; omega
 have hs := f_Step 0 0 1073741824 0 0 0 b0 b1 b2 b0 b1 b2 x0 x1 x2 d w (by unfold I32; omega) z z z (by unfold I32; omega) (by unfold I32; omega) (by unfold I32; omega) (by unfold I32; omega) (by unfold I32; omega) (by unfold I32; omega) ix0 ix1 ix2 id_ (by omega) (by omega)
 unfold Fused at hs
 obtain ⟨s0, s1, s2, s3, s4, s5, s6, s7⟩ := rest_law b0 b1 b2 x0 x1 x2 d h0 h1 h2 h
 rw [s0, s1, s2, s3, s4, s5, s6, s7] at hs
 exact hs
set_option maxRecDepth 20000 in
set_option maxHeartbeats 4000000 in
theorem law42_knows (w : World) :
  Calls Tryz.prog 6 #[] w fun e w' => e = .returned (.bool true) ∧ Below w.heap.size w w' := by
 have z : I32 0 := by unfold I32; omega
 have H1 := hid f_Start
 have H2 := hid fun w => f_rest 0 0 0 0 0 65536 655 w (by omega) (by omega) (by omega) z z (by unfold I32; omega) (by unfold I32; omega) (fun _ => up_law 65536)
 have h3 := fun w => f_Word 0 0 1073741824 0 0 0 0 0 0 w (by unfold I32; omega) z z z one_word.1
 rw [one_word.2] at h3
 have H3 := hid h3
 clear h3 z
 go_enter Tryz.func6, Tryz.ntmps6
 go_wp2_with fail
 refine (H1.out _).mono ?_
 rintro e w1 ⟨rfl, hb⟩
 go_wp2_with fail
 refine (H2.out _).mono ?_
 rintro e w2 ⟨rfl, b2⟩
 replace hb := f_on hb b2
 clear b2
 have hs := Blk.new w2 34 #[.int .i32 1073741824, .int .i32 0, .int .i32 0, .int .i32 0, .int .i32 0, .int .i32 0, .int .i32 0, .int .i64 1, .int .i64 0]
 replace hb := hb.alloc hb.size (.cells #[.int .i32 1073741824, .int .i32 0, .int .i32 0, .int .i32 0, .int .i32 0, .int .i32 0, .int .i32 0, .int .i64 1, .int .i64 0] 34)
 go_upto_region 2 with fail
 generalize w2.alloc (.cells #[.int .i32 1073741824, .int .i32 0, .int .i32 0, .int .i32 0, .int .i32 0, .int .i32 0, .int .i32 0, .int .i64 1, .int .i64 0] 34) = W2 at *
 generalize w2.heap.size = gs at *
 refine wp_region_noPanic ?_
 refine wp_region_held_drew (S := (fun w' : World => w'.cell? ⟨gs, 0, none⟩ = some (.int .i32 1073741824) ∧ w'.cell? ⟨gs, 1, none⟩ = some (.int .i32 0) ∧ w'.cell? ⟨gs, 2, none⟩ = some (.int .i32 0) ∧ w'.cell? ⟨gs, 3, none⟩ = some (.int .i32 0) ∧ w'.cell? ⟨gs, 7, none⟩ = some (.int .i64 1) ∧ w'.cell? ⟨gs, 8, none⟩ = some (.int .i64 0))) (by kernel_rfl) ⟨hs.cell 0, hs.cell 1, hs.cell 2, hs.cell 3, hs.cell 7, hs.cell 8⟩ (fun hH => ?_)
 refine (show wpAnyH _ _ _ _ _ 30 _ _ _ from ?_)
 try (simp only [Act.put, List.setIfInBounds_toArray, List.set_cons_zero, List.set_cons_succ])
 replace hs := hs.drew
 replace hb := hb.drew
 generalize (W2).drew = V1 at *
 refine rd1 0 (fun K hK => ?_)
 go_simp
 refine (H1.out _).mono ?_
 rintro e V2 ⟨rfl, bb⟩
 go_wp2_with fail
 replace hs := hs.below bb hs.lt
 replace hb := f_on hb bb
 clear bb
 refine hK.out _ _ ⟨hs.cell 0, hs.cell 1, hs.cell 2, hs.cell 3, hs.cell 7, hs.cell 8⟩ (fun hH => ?_)
 clear hK K
 try (simp only [Act.put, List.setIfInBounds_toArray, List.set_cons_zero, List.set_cons_succ])
 refine rd1 1 (fun K hK => ?_)
 go_simp
 refine (H3.out _).mono ?_
 rintro e V3 ⟨rfl, bb⟩
 go_wp2_with fail
 replace hs := hs.below bb hs.lt
 replace hb := f_on hb bb
 clear bb
 refine hK.out _ _ ⟨hs.cell 0, hs.cell 1, hs.cell 2, hs.cell 3, hs.cell 7, hs.cell 8⟩ (fun hH => ?_)
 clear hK K
 try (simp only [Act.put, List.setIfInBounds_toArray, List.set_cons_zero, List.set_cons_succ])
 refine tk 2 hH ?_
 refine tk 3 hH ?_
 refine tk 4 hH ?_
 refine tk 5 hH ?_
 refine rd1 6 (fun K hK => ?_)
 go_simp
 refine (f10_One _).mono ?_
 rintro e V4 ⟨rfl, bb⟩
 go_wp2_with fail
 replace hs := hs.below bb hs.lt
 replace hb := f_on hb bb
 clear bb
 refine hK.out _ _ ⟨hs.cell 0, hs.cell 1, hs.cell 2, hs.cell 3, hs.cell 7, hs.cell 8⟩ (fun hH => ?_)
 clear hK K
 try (simp only [Act.put, List.setIfInBounds_toArray, List.set_cons_zero, List.set_cons_succ])
 refine tk 7 hH ?_
 refine tk 8 hH ?_
 refine tk 9 hH ?_
 refine tk 10 hH ?_
 refine tk 11 hH ?_
 refine tk 12 hH ?_
 refine tk 13 hH ?_
 refine tk 14 hH ?_
 refine tk 15 hH ?_
 refine tk 16 hH ?_
 refine tk 17 hH ?_
 refine tk 18 hH ?_
 refine tk 19 hH ?_
 refine tk 20 hH ?_
 refine tk 21 hH ?_
 refine tk 22 hH ?_
 refine tk 23 hH ?_
 refine tk 24 hH ?_
 refine tk 25 hH ?_
 refine tk 26 hH ?_
 refine tk 27 hH ?_
 refine tk 28 hH ?_
 refine tk 29 hH ?_
 refine wpAnyH_done (by kernel_rfl) ?_ _
 refine NoPanic.normal ?_
 clear hH
 go_wp2
 go_ret
 exact ⟨rfl, hb⟩
end Go.Proofs.YtgmepohfkpncmaaGreat
