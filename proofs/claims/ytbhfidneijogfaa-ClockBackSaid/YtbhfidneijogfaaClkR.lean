/- Chapter 24: the walk of ClockDates. -/
import Derived.Test.YtbhfidneijogfaaClkQ
namespace Go.Proofs.Ytbhfidneijogfaa
open Go.RowKit
set_option linter.unusedVariables false
set_option linter.unusedSimpArgs false
attribute [local go_sem] Oper.semAt_some
set_option maxRecDepth 20000 in
set_option maxHeartbeats 8000000 in
theorem clockDates_walk (i : Bool) (d m y : Int) (t : ByteArray) (w : World) (wd : (Lit.int .i64 d).wf = true) (wm : (Lit.int .i64 m).wf = true) (wy : (Lit.int .i64 y).wf = true) (wt : t.size ≤ maxLen) :
    Calls Try.prog 11 #[.agg #[.bool i, .int .i64 d, .int .i64 m, .int .i64 y], .string t] w fun e w' => e = .returned (.bool true) ∧ Below w.heap.size w w' := by
  have HK := hid law24_knows
  unfold maxLen at wt
  have im : I64 m := bounds_i64 wm
  have iy : I64 y := bounds_i64 wy
  clear wd wm wy
  by_cases hl : 100 < t.size
  · have dl : decide (100 < (t.size : Int)) = true := by simp; omega
    have hp := Blk.new w 60 #[.bool i, .int .i64 d, .int .i64 m, .int .i64 y]
    have hb := (Below.refl w.heap.size w).alloc (Nat.le_refl _) (.cells #[.bool i, .int .i64 d, .int .i64 m, .int .i64 y] 60)
    go_enter Try.func11, Try.ntmps11
    go_wp2_with fail
    generalize w.alloc (.cells #[.bool i, .int .i64 d, .int .i64 m, .int .i64 y] 60) = W0 at *
    refine (HK.out _).mono ?_
    rintro e w1 ⟨rfl, b1⟩
    go_wp2
    go_ret
    exact ⟨rfl, below24 hb b1⟩
  · have dl : decide (100 < (t.size : Int)) = false := by simp; omega
    have h1 := fun w => c_PutDate i d m y w im iy
    have h2 := fun w => r_PutDate i d m y w im iy
    obtain ⟨x0, x1, x2, x3, hx⟩ := takeDC_is t
    have h3 := fun w => c_TakeDate t w (by omega)
    have h4 := fun w => r_TakeDate t w (by omega)
    have h5 := fun w => c_Days m y w im iy
    have h6 := fun w => r_Days m y w im iy
    unfold TakenD at h3 h4
    rw [hx] at h3 h4
    generalize putDV i d m y = S at *
    generalize putDE i d m y = E at *
    generalize takeDE t = G at *
    generalize daysP m y = N at *
    have H1 := hid h1
    have H2 := hid h2
    have H3 := hid h3
    have H4 := hid h4
    have H5 := hid h5
    have H6 := hid h6
    clear h1 h2 h3 h4 h5 h6 hx im iy
    have hp := Blk.new w 60 #[.bool i, .int .i64 d, .int .i64 m, .int .i64 y]
    have hb := (Below.refl w.heap.size w).alloc (Nat.le_refl _) (.cells #[.bool i, .int .i64 d, .int .i64 m, .int .i64 y] 60)
    go_enter Try.func11, Try.ntmps11
    go_wp2_with fail
    generalize w.alloc (.cells #[.bool i, .int .i64 d, .int .i64 m, .int .i64 y] 60) = W0 at *
    refine (HK.out _).mono ?_
    rintro e w1 ⟨rfl, b1⟩
    replace hp := hp.below b1 hp.lt
    replace hb := below24 hb b1
    have f0 : (w1).cell? ⟨w.heap.size, 0, none⟩ = some (.bool i) := hp.cell 0
    have f1 : (w1).cell? ⟨w.heap.size, 1, none⟩ = some (.int .i64 d) := hp.cell 1
    have f2 : (w1).cell? ⟨w.heap.size, 2, none⟩ = some (.int .i64 m) := hp.cell 2
    have f3 : (w1).cell? ⟨w.heap.size, 3, none⟩ = some (.int .i64 y) := hp.cell 3
    go_wp2_with fail
    clear f0 f1 f2 f3
    refine (H1.out _).mono ?_
    rintro e w2 ⟨rfl, b2⟩
    replace hp := hp.below b2 hp.lt
    replace hb := below24 hb b2
    have f0 : (w2).cell? ⟨w.heap.size, 0, none⟩ = some (.bool i) := hp.cell 0
    have f1 : (w2).cell? ⟨w.heap.size, 1, none⟩ = some (.int .i64 d) := hp.cell 1
    have f2 : (w2).cell? ⟨w.heap.size, 2, none⟩ = some (.int .i64 m) := hp.cell 2
    have f3 : (w2).cell? ⟨w.heap.size, 3, none⟩ = some (.int .i64 y) := hp.cell 3
    go_wp2_with fail
    clear f0 f1 f2 f3
    refine (H2.out _).mono ?_
    rintro e w3 ⟨rfl, b3⟩
    replace hb := below24 hb b3
    replace hp := hp.below b3 hp.lt
    clear b1 b2 b3
    go_wp2_with fail
    refine (H3.out _).mono ?_
    rintro e w4 ⟨rfl, b4⟩
    replace hb := below24 hb b4
    replace hp := (hp.below b4 hp.lt).alloc (.cells #[.bool x0, .int .i64 x1, .int .i64 x2, .int .i64 x3] 60)
    have ea := Blk.new w4 60 #[.bool x0, .int .i64 x1, .int .i64 x2, .int .i64 x3]
    have hs4 := hb.size
    replace hb := hb.alloc hb.size (.cells #[.bool x0, .int .i64 x1, .int .i64 x2, .int .i64 x3] 60)
    go_wp2_with fail
    generalize w4.alloc (.cells #[.bool x0, .int .i64 x1, .int .i64 x2, .int .i64 x3] 60) = W4 at *
    generalize w4.heap.size = g4 at *
    refine (H4.out _).mono ?_
    rintro e w5 ⟨rfl, b5⟩
    replace hb := below24 hb b5
    replace ea := (ea.below b5 ea.lt).alloc (.cells #[.bool x0, .int .i64 x1, .int .i64 x2, .int .i64 x3] 60)
    replace hp := (hp.below b5 hp.lt).alloc (.cells #[.bool x0, .int .i64 x1, .int .i64 x2, .int .i64 x3] 60)
    have eb := Blk.new w5 60 #[.bool x0, .int .i64 x1, .int .i64 x2, .int .i64 x3]
    have hs5 := hb.size
    replace hb := hb.alloc hb.size (.cells #[.bool x0, .int .i64 x1, .int .i64 x2, .int .i64 x3] 60)
    have ss : (S.toList == S.toList) = true := by simp
    have x00 : (x0 == x0) = true := by simp
    have p0 : (w5.alloc (.cells #[.bool x0, .int .i64 x1, .int .i64 x2, .int .i64 x3] 60)).cell? ⟨g4, 0, none⟩ = some (.bool x0) := ea.cell 0
    have p1 : (w5.alloc (.cells #[.bool x0, .int .i64 x1, .int .i64 x2, .int .i64 x3] 60)).cell? ⟨g4, 1, none⟩ = some (.int .i64 x1) := ea.cell 1
    have p2 : (w5.alloc (.cells #[.bool x0, .int .i64 x1, .int .i64 x2, .int .i64 x3] 60)).cell? ⟨g4, 2, none⟩ = some (.int .i64 x2) := ea.cell 2
    have p3 : (w5.alloc (.cells #[.bool x0, .int .i64 x1, .int .i64 x2, .int .i64 x3] 60)).cell? ⟨g4, 3, none⟩ = some (.int .i64 x3) := ea.cell 3
    have q0 : (w5.alloc (.cells #[.bool x0, .int .i64 x1, .int .i64 x2, .int .i64 x3] 60)).cell? ⟨w5.heap.size, 0, none⟩ = some (.bool x0) := eb.cell 0
    have q1 : (w5.alloc (.cells #[.bool x0, .int .i64 x1, .int .i64 x2, .int .i64 x3] 60)).cell? ⟨w5.heap.size, 1, none⟩ = some (.int .i64 x1) := eb.cell 1
    have q2 : (w5.alloc (.cells #[.bool x0, .int .i64 x1, .int .i64 x2, .int .i64 x3] 60)).cell? ⟨w5.heap.size, 2, none⟩ = some (.int .i64 x2) := eb.cell 2
    have q3 : (w5.alloc (.cells #[.bool x0, .int .i64 x1, .int .i64 x2, .int .i64 x3] 60)).cell? ⟨w5.heap.size, 3, none⟩ = some (.int .i64 x3) := eb.cell 3
    have f0 : (w5.alloc (.cells #[.bool x0, .int .i64 x1, .int .i64 x2, .int .i64 x3] 60)).cell? ⟨w.heap.size, 0, none⟩ = some (.bool i) := hp.cell 0
    have f1 : (w5.alloc (.cells #[.bool x0, .int .i64 x1, .int .i64 x2, .int .i64 x3] 60)).cell? ⟨w.heap.size, 1, none⟩ = some (.int .i64 d) := hp.cell 1
    have f2 : (w5.alloc (.cells #[.bool x0, .int .i64 x1, .int .i64 x2, .int .i64 x3] 60)).cell? ⟨w.heap.size, 2, none⟩ = some (.int .i64 m) := hp.cell 2
    have f3 : (w5.alloc (.cells #[.bool x0, .int .i64 x1, .int .i64 x2, .int .i64 x3] 60)).cell? ⟨w.heap.size, 3, none⟩ = some (.int .i64 y) := hp.cell 3
    go_wp2_with fail
    generalize w5.alloc (.cells #[.bool x0, .int .i64 x1, .int .i64 x2, .int .i64 x3] 60) = W5 at *
    generalize w5.heap.size = g5 at *
    refine wp_region_noPanic ?_
    refine wp_region_held_drew (S := (fun w' : World => w'.cell? ⟨g4, 0, none⟩ = some (.bool x0) ∧ w'.cell? ⟨g4, 1, none⟩ = some (.int .i64 x1) ∧ w'.cell? ⟨g4, 2, none⟩ = some (.int .i64 x2) ∧ w'.cell? ⟨g4, 3, none⟩ = some (.int .i64 x3) ∧ w'.cell? ⟨g5, 0, none⟩ = some (.bool x0) ∧ w'.cell? ⟨g5, 1, none⟩ = some (.int .i64 x1) ∧ w'.cell? ⟨g5, 2, none⟩ = some (.int .i64 x2) ∧ w'.cell? ⟨g5, 3, none⟩ = some (.int .i64 x3) ∧ w'.cell? ⟨w.heap.size, 0, none⟩ = some (.bool i) ∧ w'.cell? ⟨w.heap.size, 1, none⟩ = some (.int .i64 d) ∧ w'.cell? ⟨w.heap.size, 2, none⟩ = some (.int .i64 m) ∧ w'.cell? ⟨w.heap.size, 3, none⟩ = some (.int .i64 y))) (by kernel_rfl) ⟨ea.cell 0, ea.cell 1, ea.cell 2, ea.cell 3, eb.cell 0, eb.cell 1, eb.cell 2, eb.cell 3, hp.cell 0, hp.cell 1, hp.cell 2, hp.cell 3⟩ (fun hHeld => ?_)
    refine (show wpAnyH _ _ _ _ _ 36 _ _ _ from ?_)
    try (simp only [Act.put, List.setIfInBounds_toArray, List.set_cons_zero, List.set_cons_succ])
    replace ea := ea.drew
    replace eb := eb.drew
    replace hp := hp.drew
    replace hb := hb.drew
    clear p0 q0 f0 p1 q1 f1 p2 q2 f2 p3 q3 f3
    generalize W5.drew = V0 at *
    refine tk 0 hHeld ?_
    refine tk 1 hHeld ?_
    refine tk 2 hHeld ?_
    refine tk 3 hHeld ?_
    refine tk 4 hHeld ?_
    refine tk 6 hHeld ?_
    refine rd1 5 (fun K hK => ?_)
    go_simp
    refine (l24_num _ _).mono ?_
    rintro e w' ⟨rfl, rfl⟩
    go_wp2_with fail
    refine hK.out _ _ hHeld (fun hHeld => ?_)
    clear hK K
    try (simp only [Act.put, List.setIfInBounds_toArray, List.set_cons_zero, List.set_cons_succ])
    refine rd1 7 (fun K hK => ?_)
    go_simp
    refine (l24_num _ _).mono ?_
    rintro e w' ⟨rfl, rfl⟩
    go_wp2_with fail
    refine hK.out _ _ hHeld (fun hHeld => ?_)
    clear hK K
    try (simp only [Act.put, List.setIfInBounds_toArray, List.set_cons_zero, List.set_cons_succ])
    refine tk 8 hHeld ?_
    refine tk 9 hHeld ?_
    refine tk 10 hHeld ?_
    refine tk 11 hHeld ?_
    refine tk 12 hHeld ?_
    refine tk 13 hHeld ?_
    refine tk 14 hHeld ?_
    refine tk 15 hHeld ?_
    refine tk 16 hHeld ?_
    refine tk 18 hHeld ?_
    refine rd1 17 (fun K hK => ?_)
    go_simp
    refine (l24_num _ _).mono ?_
    rintro e w' ⟨rfl, rfl⟩
    go_wp2_with fail
    refine hK.out _ _ hHeld (fun hHeld => ?_)
    clear hK K
    try (simp only [Act.put, List.setIfInBounds_toArray, List.set_cons_zero, List.set_cons_succ])
    refine rd1 19 (fun K hK => ?_)
    go_simp
    refine (l24_num _ _).mono ?_
    rintro e w' ⟨rfl, rfl⟩
    go_wp2_with fail
    refine hK.out _ _ hHeld (fun hHeld => ?_)
    clear hK K
    try (simp only [Act.put, List.setIfInBounds_toArray, List.set_cons_zero, List.set_cons_succ])
    refine tk 20 hHeld ?_
    refine tk 21 hHeld ?_
    refine tk 22 hHeld ?_
    refine tk 23 hHeld ?_
    refine tk 24 hHeld ?_
    refine tk 25 hHeld ?_
    refine tk 26 hHeld ?_
    refine tk 28 hHeld ?_
    refine tk 29 hHeld ?_
    refine tk 30 hHeld ?_
    refine tk 31 hHeld ?_
    refine rd1 27 (fun K hK => ?_)
    go_simp
    refine (H5.out _).mono ?_
    rintro e V1 ⟨rfl, b6⟩
    go_wp2_with fail
    replace ea := ea.below b6 ea.lt
    replace eb := eb.below b6 eb.lt
    replace hp := hp.below b6 hp.lt
    replace hb := below24 hb b6
    refine hK.out _ _ ⟨ea.cell 0, ea.cell 1, ea.cell 2, ea.cell 3, eb.cell 0, eb.cell 1, eb.cell 2, eb.cell 3, hp.cell 0, hp.cell 1, hp.cell 2, hp.cell 3⟩ (fun hHeld => ?_)
    clear hK K
    try (simp only [Act.put, List.setIfInBounds_toArray, List.set_cons_zero, List.set_cons_succ])
    refine rd1 32 (fun K hK => ?_)
    go_simp
    refine (H6.out _).mono ?_
    rintro e w' ⟨rfl, rfl⟩
    go_wp2_with fail
    refine hK.out _ _ hHeld (fun hHeld => ?_)
    clear hK K
    try (simp only [Act.put, List.setIfInBounds_toArray, List.set_cons_zero, List.set_cons_succ])
    refine tk 33 hHeld ?_
    refine tk 34 hHeld ?_
    refine tk 35 hHeld ?_
    refine wpAnyH_done (by kernel_rfl) ?_ _
    refine NoPanic.normal ?_
    go_wp2
    go_ret
    exact ⟨rfl, hb⟩
end Go.Proofs.Ytbhfidneijogfaa
