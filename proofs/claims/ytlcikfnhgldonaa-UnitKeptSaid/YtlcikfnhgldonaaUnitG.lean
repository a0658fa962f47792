/- Chapter 11: the walks of UnitTells and UnitMade. -/
import Derived.Test.YtlcikfnhgldonaaUnitF
namespace Go.Proofs.Ytlcikfnhgldonaa
open Go.RowKit
set_option linter.unusedVariables false
set_option linter.unusedSimpArgs false

set_option maxHeartbeats 8000000 in
theorem unitTells_walk (a0 a1 a2 a3 : Int) (w : World) (va0 : (Lit.int .i32 a0).wf = true) (va1 : (Lit.int .i32 a1).wf = true) (va2 : (Lit.int .i32 a2).wf = true) (va3 : (Lit.int .i32 a3).wf = true) :
    Calls Try.prog 7 #[.agg #[.int .i32 a0, .int .i32 a1, .int .i32 a2, .int .i32 a3]] w fun e w' => e = .returned (.bool true) ∧ Below w.heap.size w w' := by
  have ia0 : I32 a0 := bounds_i32 va0
  have ia1 : I32 a1 := bounds_i32 va1
  have ia2 : I32 a2 := bounds_i32 va2
  have ia3 : I32 a3 := bounds_i32 va3
  clear va0 va1 va2 va3
  have h1 := fun w => u_Make a0 a1 a2 a3 w ia0 ia1 ia2 ia3
  have h2 := fun w => r11_Make a0 a1 a2 a3 w ia0 ia1 ia2 ia3
  have H3 := hid fun w => u_Off a0 a1 a2 a3 w ia0 ia1 ia2 ia3
  have H4 := hid fun w => r11_Off a0 a1 a2 a3 w ia0 ia1 ia2 ia3
  have H5 := hid fun w => u_Is a0 a1 a2 a3 w ia0 ia1 ia2 ia3
  have H6 := hid fun w => r11_Is a0 a1 a2 a3 w ia0 ia1 ia2 ia3
  have HK := hid fun w => law11_knows w
  clear ia0 ia1 ia2 ia3
  unfold Makes at h1 h2
  generalize makeP [a0, a1, a2, a3] a0 = x0 at *
  generalize makeP [a0, a1, a2, a3] a1 = x1 at *
  generalize makeP [a0, a1, a2, a3] a2 = x2 at *
  generalize makeP [a0, a1, a2, a3] a3 = x3 at *
  generalize decide (0 < farP [a0, a1, a2, a3]) = B at *
  generalize isP (sqP [a0, a1, a2, a3]) = C at *
  generalize offP (sqP [a0, a1, a2, a3]) = n at *
  have H1 := hid h1
  have H2 := hid h2
  clear h1 h2
  go_enter Try.func7, Try.ntmps7
  have hp0 : Blk (w.alloc (.cells #[.int .i32 a0, .int .i32 a1, .int .i32 a2, .int .i32 a3] 23)) w.heap.size 23 #[.int .i32 a0, .int .i32 a1, .int .i32 a2, .int .i32 a3] := Blk.new w _ _
  have hb : Below w.heap.size w (w.alloc (.cells #[.int .i32 a0, .int .i32 a1, .int .i32 a2, .int .i32 a3] 23)) := (Below.refl _ w).alloc (Nat.le_refl _) _
  go_wp2_with fail
  generalize w.alloc (.cells #[.int .i32 a0, .int .i32 a1, .int .i32 a2, .int .i32 a3] 23) = W0 at *
  refine (H1.out _).mono ?_
  rintro e w1 ⟨rfl, b1⟩
  replace hp0 := hp0.below b1 hp0.lt
  replace hb := hb.on b1
  clear b1
  replace hp0 := hp0.alloc (.cells #[.int .i32 x0, .int .i32 x1, .int .i32 x2, .int .i32 x3] 23)
  have hn1 : Blk (w1.alloc (.cells #[.int .i32 x0, .int .i32 x1, .int .i32 x2, .int .i32 x3] 23)) w1.heap.size 23 #[.int .i32 x0, .int .i32 x1, .int .i32 x2, .int .i32 x3] := Blk.new w1 _ _
  replace hb := hb.alloc hb.size (.cells #[.int .i32 x0, .int .i32 x1, .int .i32 x2, .int .i32 x3] 23)
  have f0 : (w1.alloc (.cells #[.int .i32 x0, .int .i32 x1, .int .i32 x2, .int .i32 x3] 23)).cell? ⟨w.heap.size, 0, none⟩ = some (.int .i32 a0) := hp0.cell 0
  have f1 : (w1.alloc (.cells #[.int .i32 x0, .int .i32 x1, .int .i32 x2, .int .i32 x3] 23)).cell? ⟨w.heap.size, 1, none⟩ = some (.int .i32 a1) := hp0.cell 1
  have f2 : (w1.alloc (.cells #[.int .i32 x0, .int .i32 x1, .int .i32 x2, .int .i32 x3] 23)).cell? ⟨w.heap.size, 2, none⟩ = some (.int .i32 a2) := hp0.cell 2
  have f3 : (w1.alloc (.cells #[.int .i32 x0, .int .i32 x1, .int .i32 x2, .int .i32 x3] 23)).cell? ⟨w.heap.size, 3, none⟩ = some (.int .i32 a3) := hp0.cell 3
  have f4 : (w1.alloc (.cells #[.int .i32 x0, .int .i32 x1, .int .i32 x2, .int .i32 x3] 23)).cell? ⟨w1.heap.size, 0, none⟩ = some (.int .i32 x0) := hn1.cell 0
  have f5 : (w1.alloc (.cells #[.int .i32 x0, .int .i32 x1, .int .i32 x2, .int .i32 x3] 23)).cell? ⟨w1.heap.size, 1, none⟩ = some (.int .i32 x1) := hn1.cell 1
  have f6 : (w1.alloc (.cells #[.int .i32 x0, .int .i32 x1, .int .i32 x2, .int .i32 x3] 23)).cell? ⟨w1.heap.size, 2, none⟩ = some (.int .i32 x2) := hn1.cell 2
  have f7 : (w1.alloc (.cells #[.int .i32 x0, .int .i32 x1, .int .i32 x2, .int .i32 x3] 23)).cell? ⟨w1.heap.size, 3, none⟩ = some (.int .i32 x3) := hn1.cell 3
  go_wp2_with fail
  clear f0 f1 f2 f3 f4 f5 f6 f7
  generalize w1.alloc (.cells #[.int .i32 x0, .int .i32 x1, .int .i32 x2, .int .i32 x3] 23) = W1 at *
  refine (H2.out _).mono ?_
  rintro e w2 ⟨rfl, b2⟩
  replace hp0 := hp0.below b2 hp0.lt
  replace hn1 := hn1.below b2 hn1.lt
  replace hb := hb.on b2
  clear b2
  replace hp0 := hp0.alloc (.cells #[.int .i32 x0, .int .i32 x1, .int .i32 x2, .int .i32 x3] 23)
  replace hn1 := hn1.alloc (.cells #[.int .i32 x0, .int .i32 x1, .int .i32 x2, .int .i32 x3] 23)
  have hn2 : Blk (w2.alloc (.cells #[.int .i32 x0, .int .i32 x1, .int .i32 x2, .int .i32 x3] 23)) w2.heap.size 23 #[.int .i32 x0, .int .i32 x1, .int .i32 x2, .int .i32 x3] := Blk.new w2 _ _
  replace hb := hb.alloc hb.size (.cells #[.int .i32 x0, .int .i32 x1, .int .i32 x2, .int .i32 x3] 23)
  have f0 : (w2.alloc (.cells #[.int .i32 x0, .int .i32 x1, .int .i32 x2, .int .i32 x3] 23)).cell? ⟨w.heap.size, 0, none⟩ = some (.int .i32 a0) := hp0.cell 0
  have f1 : (w2.alloc (.cells #[.int .i32 x0, .int .i32 x1, .int .i32 x2, .int .i32 x3] 23)).cell? ⟨w.heap.size, 1, none⟩ = some (.int .i32 a1) := hp0.cell 1
  have f2 : (w2.alloc (.cells #[.int .i32 x0, .int .i32 x1, .int .i32 x2, .int .i32 x3] 23)).cell? ⟨w.heap.size, 2, none⟩ = some (.int .i32 a2) := hp0.cell 2
  have f3 : (w2.alloc (.cells #[.int .i32 x0, .int .i32 x1, .int .i32 x2, .int .i32 x3] 23)).cell? ⟨w.heap.size, 3, none⟩ = some (.int .i32 a3) := hp0.cell 3
  have f4 : (w2.alloc (.cells #[.int .i32 x0, .int .i32 x1, .int .i32 x2, .int .i32 x3] 23)).cell? ⟨w1.heap.size, 0, none⟩ = some (.int .i32 x0) := hn1.cell 0
  have f5 : (w2.alloc (.cells #[.int .i32 x0, .int .i32 x1, .int .i32 x2, .int .i32 x3] 23)).cell? ⟨w1.heap.size, 1, none⟩ = some (.int .i32 x1) := hn1.cell 1
  have f6 : (w2.alloc (.cells #[.int .i32 x0, .int .i32 x1, .int .i32 x2, .int .i32 x3] 23)).cell? ⟨w1.heap.size, 2, none⟩ = some (.int .i32 x2) := hn1.cell 2
  have f7 : (w2.alloc (.cells #[.int .i32 x0, .int .i32 x1, .int .i32 x2, .int .i32 x3] 23)).cell? ⟨w1.heap.size, 3, none⟩ = some (.int .i32 x3) := hn1.cell 3
  have f8 : (w2.alloc (.cells #[.int .i32 x0, .int .i32 x1, .int .i32 x2, .int .i32 x3] 23)).cell? ⟨w2.heap.size, 0, none⟩ = some (.int .i32 x0) := hn2.cell 0
  have f9 : (w2.alloc (.cells #[.int .i32 x0, .int .i32 x1, .int .i32 x2, .int .i32 x3] 23)).cell? ⟨w2.heap.size, 1, none⟩ = some (.int .i32 x1) := hn2.cell 1
  have f10 : (w2.alloc (.cells #[.int .i32 x0, .int .i32 x1, .int .i32 x2, .int .i32 x3] 23)).cell? ⟨w2.heap.size, 2, none⟩ = some (.int .i32 x2) := hn2.cell 2
  have f11 : (w2.alloc (.cells #[.int .i32 x0, .int .i32 x1, .int .i32 x2, .int .i32 x3] 23)).cell? ⟨w2.heap.size, 3, none⟩ = some (.int .i32 x3) := hn2.cell 3
  go_upto_region 3 with fail
  clear f0 f1 f2 f3 f4 f5 f6 f7 f8 f9 f10 f11
  generalize w2.alloc (.cells #[.int .i32 x0, .int .i32 x1, .int .i32 x2, .int .i32 x3] 23) = W2 at *
  refine wp_region_noPanic ?_
  refine wp_region_held_drew (S := (fun w' : World => w'.cell? ⟨w.heap.size, 0, none⟩ = some (.int .i32 a0) ∧ w'.cell? ⟨w.heap.size, 1, none⟩ = some (.int .i32 a1) ∧ w'.cell? ⟨w.heap.size, 2, none⟩ = some (.int .i32 a2) ∧ w'.cell? ⟨w.heap.size, 3, none⟩ = some (.int .i32 a3) ∧ w'.cell? ⟨w1.heap.size, 0, none⟩ = some (.int .i32 x0) ∧ w'.cell? ⟨w1.heap.size, 1, none⟩ = some (.int .i32 x1) ∧ w'.cell? ⟨w1.heap.size, 2, none⟩ = some (.int .i32 x2) ∧ w'.cell? ⟨w1.heap.size, 3, none⟩ = some (.int .i32 x3) ∧ w'.cell? ⟨w2.heap.size, 0, none⟩ = some (.int .i32 x0) ∧ w'.cell? ⟨w2.heap.size, 1, none⟩ = some (.int .i32 x1) ∧ w'.cell? ⟨w2.heap.size, 2, none⟩ = some (.int .i32 x2) ∧ w'.cell? ⟨w2.heap.size, 3, none⟩ = some (.int .i32 x3))) (by kernel_rfl) ⟨hp0.cell 0, hp0.cell 1, hp0.cell 2, hp0.cell 3, hn1.cell 0, hn1.cell 1, hn1.cell 2, hn1.cell 3, hn2.cell 0, hn2.cell 1, hn2.cell 2, hn2.cell 3⟩ (fun hHeld => ?_)
  refine (show wpAnyH _ _ _ _ _ 26 _ _ _ from ?_)
  try (simp only [Act.put, List.setIfInBounds_toArray, List.set_cons_zero, List.set_cons_succ])
  replace hp0 := hp0.drew
  replace hn1 := hn1.drew
  replace hn2 := hn2.drew
  replace hb := hb.drew
  generalize W2.drew = W1 at *
  refine tk 0 hHeld ?_
  refine tk 2 hHeld ?_
  refine rd1 1 (fun K hK => ?_)
  go_simp
  refine (H3.out _).mono ?_
  rintro e w2x ⟨rfl, b2x⟩
  go_wp2_with fail
  refine hK.out _ _ ⟨(hp0.below b2x hp0.lt).cell 0, (hp0.below b2x hp0.lt).cell 1, (hp0.below b2x hp0.lt).cell 2, (hp0.below b2x hp0.lt).cell 3, (hn1.below b2x hn1.lt).cell 0, (hn1.below b2x hn1.lt).cell 1, (hn1.below b2x hn1.lt).cell 2, (hn1.below b2x hn1.lt).cell 3, (hn2.below b2x hn2.lt).cell 0, (hn2.below b2x hn2.lt).cell 1, (hn2.below b2x hn2.lt).cell 2, (hn2.below b2x hn2.lt).cell 3⟩ (fun hHeld => ?_)
  clear hK K
  try (simp only [Act.put, List.setIfInBounds_toArray, List.set_cons_zero, List.set_cons_succ])
  refine rd1 3 (fun K hK => ?_)
  go_simp
  refine (H4.out _).mono ?_
  rintro e w3x ⟨rfl, b3x⟩
  go_wp2_with fail
  have B3x := b2x.on b3x
  refine hK.out _ _ ⟨(hp0.below B3x hp0.lt).cell 0, (hp0.below B3x hp0.lt).cell 1, (hp0.below B3x hp0.lt).cell 2, (hp0.below B3x hp0.lt).cell 3, (hn1.below B3x hn1.lt).cell 0, (hn1.below B3x hn1.lt).cell 1, (hn1.below B3x hn1.lt).cell 2, (hn1.below B3x hn1.lt).cell 3, (hn2.below B3x hn2.lt).cell 0, (hn2.below B3x hn2.lt).cell 1, (hn2.below B3x hn2.lt).cell 2, (hn2.below B3x hn2.lt).cell 3⟩ (fun hHeld => ?_)
  clear hK K
  try (simp only [Act.put, List.setIfInBounds_toArray, List.set_cons_zero, List.set_cons_succ])
  refine tk 4 hHeld ?_
  refine tk 5 hHeld ?_
  refine tk 6 hHeld ?_
  refine tk 8 hHeld ?_
  refine rd1 7 (fun K hK => ?_)
  go_simp
  refine (H5.out _).mono ?_
  rintro e w4x ⟨rfl, b4x⟩
  go_wp2_with fail
  have B4x := B3x.on b4x
  refine hK.out _ _ ⟨(hp0.below B4x hp0.lt).cell 0, (hp0.below B4x hp0.lt).cell 1, (hp0.below B4x hp0.lt).cell 2, (hp0.below B4x hp0.lt).cell 3, (hn1.below B4x hn1.lt).cell 0, (hn1.below B4x hn1.lt).cell 1, (hn1.below B4x hn1.lt).cell 2, (hn1.below B4x hn1.lt).cell 3, (hn2.below B4x hn2.lt).cell 0, (hn2.below B4x hn2.lt).cell 1, (hn2.below B4x hn2.lt).cell 2, (hn2.below B4x hn2.lt).cell 3⟩ (fun hHeld => ?_)
  clear hK K
  try (simp only [Act.put, List.setIfInBounds_toArray, List.set_cons_zero, List.set_cons_succ])
  refine rd1 9 (fun K hK => ?_)
  go_simp
  refine (H6.out _).mono ?_
  rintro e w5x ⟨rfl, b5x⟩
  go_wp2_with fail
  have B5x := B4x.on b5x
  refine hK.out _ _ ⟨(hp0.below B5x hp0.lt).cell 0, (hp0.below B5x hp0.lt).cell 1, (hp0.below B5x hp0.lt).cell 2, (hp0.below B5x hp0.lt).cell 3, (hn1.below B5x hn1.lt).cell 0, (hn1.below B5x hn1.lt).cell 1, (hn1.below B5x hn1.lt).cell 2, (hn1.below B5x hn1.lt).cell 3, (hn2.below B5x hn2.lt).cell 0, (hn2.below B5x hn2.lt).cell 1, (hn2.below B5x hn2.lt).cell 2, (hn2.below B5x hn2.lt).cell 3⟩ (fun hHeld => ?_)
  clear hK K
  try (simp only [Act.put, List.setIfInBounds_toArray, List.set_cons_zero, List.set_cons_succ])
  refine tk 10 hHeld ?_
  refine tk 11 hHeld ?_
  refine tk 12 hHeld ?_
  refine tk 13 hHeld ?_
  refine tk 14 hHeld ?_
  refine tk 15 hHeld ?_
  refine tk 16 hHeld ?_
  refine tk 17 hHeld ?_
  refine tk 18 hHeld ?_
  refine tk 19 hHeld ?_
  refine tk 20 hHeld ?_
  refine tk 21 hHeld ?_
  refine tk 22 hHeld ?_
  refine rd1 23 (fun K hK => ?_)
  go_simp
  refine (HK.out _).mono ?_
  rintro e w6x ⟨rfl, b6x⟩
  go_wp2_with fail
  have B6x := B5x.on b6x
  refine hK.out _ _ ⟨(hp0.below B6x hp0.lt).cell 0, (hp0.below B6x hp0.lt).cell 1, (hp0.below B6x hp0.lt).cell 2, (hp0.below B6x hp0.lt).cell 3, (hn1.below B6x hn1.lt).cell 0, (hn1.below B6x hn1.lt).cell 1, (hn1.below B6x hn1.lt).cell 2, (hn1.below B6x hn1.lt).cell 3, (hn2.below B6x hn2.lt).cell 0, (hn2.below B6x hn2.lt).cell 1, (hn2.below B6x hn2.lt).cell 2, (hn2.below B6x hn2.lt).cell 3⟩ (fun hHeld => ?_)
  clear hK K
  try (simp only [Act.put, List.setIfInBounds_toArray, List.set_cons_zero, List.set_cons_succ])
  refine tk 24 hHeld ?_
  refine tk 25 hHeld ?_
  refine wpAnyH_done ?hru7 ?hqu7 _
  case hru7 => kernel_rfl
  refine NoPanic.normal ?_
  go_wp2
  go_ret
  exact ⟨rfl, hb.on B6x⟩

theorem makeP_32 (a0 a1 a2 a3 x : Int) (ia0 : I32 a0) (ia1 : I32 a1) (ia2 : I32 a2) (ia3 : I32 a3) (h : x ∈ [a0, a1, a2, a3]) : I32 (makeP [a0, a1, a2, a3] x) := by
  unfold makeP
  rcases far_zero a0 a1 a2 a3 ia0 ia1 ia2 ia3 with hz | hz
  · rw [if_pos hz]; unfold I32; omega
  · rw [if_neg (by omega)]
    have := oneP_bd [a0, a1, a2, a3] (by unfold I32 at *; simp; omega) hz x h
    unfold I32; omega

set_option maxHeartbeats 8000000 in
theorem unitMade_walk (a0 a1 a2 a3 : Int) (w : World) (va0 : (Lit.int .i32 a0).wf = true) (va1 : (Lit.int .i32 a1).wf = true) (va2 : (Lit.int .i32 a2).wf = true) (va3 : (Lit.int .i32 a3).wf = true) :
    Calls Try.prog 8 #[.agg #[.int .i32 a0, .int .i32 a1, .int .i32 a2, .int .i32 a3]] w fun e w' => e = .returned (.bool true) ∧ Below w.heap.size w w' := by
  have ia0 : I32 a0 := bounds_i32 va0
  have ia1 : I32 a1 := bounds_i32 va1
  have ia2 : I32 a2 := bounds_i32 va2
  have ia3 : I32 a3 := bounds_i32 va3
  clear va0 va1 va2 va3
  have HK := hid fun w => law11_knows w
  have h1 := fun w => u_Make a0 a1 a2 a3 w ia0 ia1 ia2 ia3
  unfold Makes at h1
  rcases far_zero a0 a1 a2 a3 ia0 ia1 ia2 ia3 with hz | hz
  · obtain ⟨rfl, rfl, rfl, rfl⟩ := far_zero' a0 a1 a2 a3 ia0 ia1 ia2 ia3 hz
    have e1 : ∀ x, makeP [0, 0, 0, 0] x = 0 := fun x => by unfold makeP; rw [if_pos hz]
    have e2 : decide (0 < farP [0, 0, 0, 0]) = false := by rw [hz]; rfl
    simp only [e1, e2] at h1
    have H1 := hid h1
    clear h1 e1 e2 hz ia0 ia1 ia2 ia3
    go_enter Try.func8, Try.ntmps8
    have hp0 : Blk (w.alloc (.cells #[.int .i32 0, .int .i32 0, .int .i32 0, .int .i32 0] 23)) w.heap.size 23 #[.int .i32 0, .int .i32 0, .int .i32 0, .int .i32 0] := Blk.new w _ _
    have hb : Below w.heap.size w (w.alloc (.cells #[.int .i32 0, .int .i32 0, .int .i32 0, .int .i32 0] 23)) := (Below.refl _ w).alloc (Nat.le_refl _) _
    go_wp2_with fail
    generalize w.alloc (.cells #[.int .i32 0, .int .i32 0, .int .i32 0, .int .i32 0] 23) = W0 at *
    refine (H1.out _).mono ?_
    rintro e w1 ⟨rfl, b1⟩
    replace hp0 := hp0.below b1 hp0.lt
    replace hb := hb.on b1
    clear b1
    replace hp0 := hp0.alloc (.cells #[.int .i32 0, .int .i32 0, .int .i32 0, .int .i32 0] 23)
    have hn1 : Blk (w1.alloc (.cells #[.int .i32 0, .int .i32 0, .int .i32 0, .int .i32 0] 23)) w1.heap.size 23 #[.int .i32 0, .int .i32 0, .int .i32 0, .int .i32 0] := Blk.new w1 _ _
    replace hb := hb.alloc hb.size (.cells #[.int .i32 0, .int .i32 0, .int .i32 0, .int .i32 0] 23)
    have f0 : (w1.alloc (.cells #[.int .i32 0, .int .i32 0, .int .i32 0, .int .i32 0] 23)).cell? ⟨w.heap.size, 0, none⟩ = some (.int .i32 0) := hp0.cell 0
    have f1 : (w1.alloc (.cells #[.int .i32 0, .int .i32 0, .int .i32 0, .int .i32 0] 23)).cell? ⟨w.heap.size, 1, none⟩ = some (.int .i32 0) := hp0.cell 1
    have f2 : (w1.alloc (.cells #[.int .i32 0, .int .i32 0, .int .i32 0, .int .i32 0] 23)).cell? ⟨w.heap.size, 2, none⟩ = some (.int .i32 0) := hp0.cell 2
    have f3 : (w1.alloc (.cells #[.int .i32 0, .int .i32 0, .int .i32 0, .int .i32 0] 23)).cell? ⟨w.heap.size, 3, none⟩ = some (.int .i32 0) := hp0.cell 3
    have f4 : (w1.alloc (.cells #[.int .i32 0, .int .i32 0, .int .i32 0, .int .i32 0] 23)).cell? ⟨w1.heap.size, 0, none⟩ = some (.int .i32 0) := hn1.cell 0
    have f5 : (w1.alloc (.cells #[.int .i32 0, .int .i32 0, .int .i32 0, .int .i32 0] 23)).cell? ⟨w1.heap.size, 1, none⟩ = some (.int .i32 0) := hn1.cell 1
    have f6 : (w1.alloc (.cells #[.int .i32 0, .int .i32 0, .int .i32 0, .int .i32 0] 23)).cell? ⟨w1.heap.size, 2, none⟩ = some (.int .i32 0) := hn1.cell 2
    have f7 : (w1.alloc (.cells #[.int .i32 0, .int .i32 0, .int .i32 0, .int .i32 0] 23)).cell? ⟨w1.heap.size, 3, none⟩ = some (.int .i32 0) := hn1.cell 3
    go_wp2_with fail
    clear f0 f1 f2 f3 f4 f5 f6 f7
    generalize w1.alloc (.cells #[.int .i32 0, .int .i32 0, .int .i32 0, .int .i32 0] 23) = W1 at *
    refine (HK.out _).mono ?_
    rintro e w2 ⟨rfl, b2⟩
    replace hp0 := hp0.below b2 hp0.lt
    replace hn1 := hn1.below b2 hn1.lt
    replace hb := hb.on b2
    clear b2
    go_wp2
    go_ret
    exact ⟨rfl, hb⟩
  · obtain ⟨q1, q2⟩ := unit_law a0 a1 a2 a3 ia0 ia1 ia2 ia3 hz
    have e2 : decide (0 < farP [a0, a1, a2, a3]) = true := decide_eq_true hz
    rw [e2] at h1
    clear e2
    have j0 : I32 (makeP [a0, a1, a2, a3] a0) := makeP_32 a0 a1 a2 a3 a0 ia0 ia1 ia2 ia3 (by simp)
    have j1 : I32 (makeP [a0, a1, a2, a3] a1) := makeP_32 a0 a1 a2 a3 a1 ia0 ia1 ia2 ia3 (by simp)
    have j2 : I32 (makeP [a0, a1, a2, a3] a2) := makeP_32 a0 a1 a2 a3 a2 ia0 ia1 ia2 ia3 (by simp)
    have j3 : I32 (makeP [a0, a1, a2, a3] a3) := makeP_32 a0 a1 a2 a3 a3 ia0 ia1 ia2 ia3 (by simp)
    generalize makeP [a0, a1, a2, a3] a0 = x0 at *
    generalize makeP [a0, a1, a2, a3] a1 = x1 at *
    generalize makeP [a0, a1, a2, a3] a2 = x2 at *
    generalize makeP [a0, a1, a2, a3] a3 = x3 at *
    have h3 := fun w => r10_Norm x0 x1 x2 x3 w j0 j1 j2 j3
    have h4 := fun w => u_Is x0 x1 x2 x3 w j0 j1 j2 j3
    have h5 := fun w => u_Off x0 x1 x2 x3 w j0 j1 j2 j3
    unfold isP at h4
    generalize sqP [x0, x1, x2, x3] = n at *
    have o1 : 0 ≤ offP n ∧ offP n ≤ 8589934592 := by unfold offP; split <;> omega
    have e3 : decide (offP n ≤ 1099511627776) = true := by simp; omega
    rw [e3] at h4
    generalize offP n = f at *
    have d1 : decide (n ≤ 1152921513196781568) = true := by simpa using q2
    have d2 : decide (1152921496016912384 ≤ n) = true := by simpa using q1
    have d3 : decide (f ≤ 8589934592) = true := by simpa using o1.2
    have H1 := hid h1
    have H3 := hid h3
    have H4 := hid h4
    have H5 := hid h5
    clear h1 h3 h4 h5 e3 o1 q1 q2 hz ia0 ia1 ia2 ia3 j0 j1 j2 j3
    go_enter Try.func8, Try.ntmps8
    have hp0 : Blk (w.alloc (.cells #[.int .i32 a0, .int .i32 a1, .int .i32 a2, .int .i32 a3] 23)) w.heap.size 23 #[.int .i32 a0, .int .i32 a1, .int .i32 a2, .int .i32 a3] := Blk.new w _ _
    have hb : Below w.heap.size w (w.alloc (.cells #[.int .i32 a0, .int .i32 a1, .int .i32 a2, .int .i32 a3] 23)) := (Below.refl _ w).alloc (Nat.le_refl _) _
    go_wp2_with fail
    generalize w.alloc (.cells #[.int .i32 a0, .int .i32 a1, .int .i32 a2, .int .i32 a3] 23) = W0 at *
    refine (H1.out _).mono ?_
    rintro e w1 ⟨rfl, b1⟩
    replace hp0 := hp0.below b1 hp0.lt
    replace hb := hb.on b1
    clear b1
    replace hp0 := hp0.alloc (.cells #[.int .i32 x0, .int .i32 x1, .int .i32 x2, .int .i32 x3] 23)
    have hn1 : Blk (w1.alloc (.cells #[.int .i32 x0, .int .i32 x1, .int .i32 x2, .int .i32 x3] 23)) w1.heap.size 23 #[.int .i32 x0, .int .i32 x1, .int .i32 x2, .int .i32 x3] := Blk.new w1 _ _
    replace hb := hb.alloc hb.size (.cells #[.int .i32 x0, .int .i32 x1, .int .i32 x2, .int .i32 x3] 23)
    have f0 : (w1.alloc (.cells #[.int .i32 x0, .int .i32 x1, .int .i32 x2, .int .i32 x3] 23)).cell? ⟨w.heap.size, 0, none⟩ = some (.int .i32 a0) := hp0.cell 0
    have f1 : (w1.alloc (.cells #[.int .i32 x0, .int .i32 x1, .int .i32 x2, .int .i32 x3] 23)).cell? ⟨w.heap.size, 1, none⟩ = some (.int .i32 a1) := hp0.cell 1
    have f2 : (w1.alloc (.cells #[.int .i32 x0, .int .i32 x1, .int .i32 x2, .int .i32 x3] 23)).cell? ⟨w.heap.size, 2, none⟩ = some (.int .i32 a2) := hp0.cell 2
    have f3 : (w1.alloc (.cells #[.int .i32 x0, .int .i32 x1, .int .i32 x2, .int .i32 x3] 23)).cell? ⟨w.heap.size, 3, none⟩ = some (.int .i32 a3) := hp0.cell 3
    have f4 : (w1.alloc (.cells #[.int .i32 x0, .int .i32 x1, .int .i32 x2, .int .i32 x3] 23)).cell? ⟨w1.heap.size, 0, none⟩ = some (.int .i32 x0) := hn1.cell 0
    have f5 : (w1.alloc (.cells #[.int .i32 x0, .int .i32 x1, .int .i32 x2, .int .i32 x3] 23)).cell? ⟨w1.heap.size, 1, none⟩ = some (.int .i32 x1) := hn1.cell 1
    have f6 : (w1.alloc (.cells #[.int .i32 x0, .int .i32 x1, .int .i32 x2, .int .i32 x3] 23)).cell? ⟨w1.heap.size, 2, none⟩ = some (.int .i32 x2) := hn1.cell 2
    have f7 : (w1.alloc (.cells #[.int .i32 x0, .int .i32 x1, .int .i32 x2, .int .i32 x3] 23)).cell? ⟨w1.heap.size, 3, none⟩ = some (.int .i32 x3) := hn1.cell 3
    go_wp2_with fail
    clear f0 f1 f2 f3 f4 f5 f6 f7
    generalize w1.alloc (.cells #[.int .i32 x0, .int .i32 x1, .int .i32 x2, .int .i32 x3] 23) = W1 at *
    refine (H3.out _).mono ?_
    rintro e w2 ⟨rfl, b2⟩
    replace hp0 := hp0.below b2 hp0.lt
    replace hn1 := hn1.below b2 hn1.lt
    replace hb := hb.on b2
    clear b2
    have f0 : (w2).cell? ⟨w.heap.size, 0, none⟩ = some (.int .i32 a0) := hp0.cell 0
    have f1 : (w2).cell? ⟨w.heap.size, 1, none⟩ = some (.int .i32 a1) := hp0.cell 1
    have f2 : (w2).cell? ⟨w.heap.size, 2, none⟩ = some (.int .i32 a2) := hp0.cell 2
    have f3 : (w2).cell? ⟨w.heap.size, 3, none⟩ = some (.int .i32 a3) := hp0.cell 3
    have f4 : (w2).cell? ⟨w1.heap.size, 0, none⟩ = some (.int .i32 x0) := hn1.cell 0
    have f5 : (w2).cell? ⟨w1.heap.size, 1, none⟩ = some (.int .i32 x1) := hn1.cell 1
    have f6 : (w2).cell? ⟨w1.heap.size, 2, none⟩ = some (.int .i32 x2) := hn1.cell 2
    have f7 : (w2).cell? ⟨w1.heap.size, 3, none⟩ = some (.int .i32 x3) := hn1.cell 3
    go_wp2_with fail
    clear f0 f1 f2 f3 f4 f5 f6 f7
    generalize w2 = W2 at *
    refine (H3.out _).mono ?_
    rintro e w3 ⟨rfl, b3⟩
    replace hp0 := hp0.below b3 hp0.lt
    replace hn1 := hn1.below b3 hn1.lt
    replace hb := hb.on b3
    clear b3
    have f0 : (w3).cell? ⟨w.heap.size, 0, none⟩ = some (.int .i32 a0) := hp0.cell 0
    have f1 : (w3).cell? ⟨w.heap.size, 1, none⟩ = some (.int .i32 a1) := hp0.cell 1
    have f2 : (w3).cell? ⟨w.heap.size, 2, none⟩ = some (.int .i32 a2) := hp0.cell 2
    have f3 : (w3).cell? ⟨w.heap.size, 3, none⟩ = some (.int .i32 a3) := hp0.cell 3
    have f4 : (w3).cell? ⟨w1.heap.size, 0, none⟩ = some (.int .i32 x0) := hn1.cell 0
    have f5 : (w3).cell? ⟨w1.heap.size, 1, none⟩ = some (.int .i32 x1) := hn1.cell 1
    have f6 : (w3).cell? ⟨w1.heap.size, 2, none⟩ = some (.int .i32 x2) := hn1.cell 2
    have f7 : (w3).cell? ⟨w1.heap.size, 3, none⟩ = some (.int .i32 x3) := hn1.cell 3
    go_wp2_with fail
    clear f0 f1 f2 f3 f4 f5 f6 f7
    generalize w3 = W3 at *
    refine (H4.out _).mono ?_
    rintro e w4 ⟨rfl, b4⟩
    replace hp0 := hp0.below b4 hp0.lt
    replace hn1 := hn1.below b4 hn1.lt
    replace hb := hb.on b4
    clear b4
    have f0 : (w4).cell? ⟨w.heap.size, 0, none⟩ = some (.int .i32 a0) := hp0.cell 0
    have f1 : (w4).cell? ⟨w.heap.size, 1, none⟩ = some (.int .i32 a1) := hp0.cell 1
    have f2 : (w4).cell? ⟨w.heap.size, 2, none⟩ = some (.int .i32 a2) := hp0.cell 2
    have f3 : (w4).cell? ⟨w.heap.size, 3, none⟩ = some (.int .i32 a3) := hp0.cell 3
    have f4 : (w4).cell? ⟨w1.heap.size, 0, none⟩ = some (.int .i32 x0) := hn1.cell 0
    have f5 : (w4).cell? ⟨w1.heap.size, 1, none⟩ = some (.int .i32 x1) := hn1.cell 1
    have f6 : (w4).cell? ⟨w1.heap.size, 2, none⟩ = some (.int .i32 x2) := hn1.cell 2
    have f7 : (w4).cell? ⟨w1.heap.size, 3, none⟩ = some (.int .i32 x3) := hn1.cell 3
    go_wp2_with fail
    clear f0 f1 f2 f3 f4 f5 f6 f7
    generalize w4 = W4 at *
    refine (H5.out _).mono ?_
    rintro e w5 ⟨rfl, b5⟩
    replace hp0 := hp0.below b5 hp0.lt
    replace hn1 := hn1.below b5 hn1.lt
    replace hb := hb.on b5
    clear b5
    have f0 : (w5).cell? ⟨w.heap.size, 0, none⟩ = some (.int .i32 a0) := hp0.cell 0
    have f1 : (w5).cell? ⟨w.heap.size, 1, none⟩ = some (.int .i32 a1) := hp0.cell 1
    have f2 : (w5).cell? ⟨w.heap.size, 2, none⟩ = some (.int .i32 a2) := hp0.cell 2
    have f3 : (w5).cell? ⟨w.heap.size, 3, none⟩ = some (.int .i32 a3) := hp0.cell 3
    have f4 : (w5).cell? ⟨w1.heap.size, 0, none⟩ = some (.int .i32 x0) := hn1.cell 0
    have f5 : (w5).cell? ⟨w1.heap.size, 1, none⟩ = some (.int .i32 x1) := hn1.cell 1
    have f6 : (w5).cell? ⟨w1.heap.size, 2, none⟩ = some (.int .i32 x2) := hn1.cell 2
    have f7 : (w5).cell? ⟨w1.heap.size, 3, none⟩ = some (.int .i32 x3) := hn1.cell 3
    go_wp2_with fail
    clear f0 f1 f2 f3 f4 f5 f6 f7
    generalize w5 = W5 at *
    refine (HK.out _).mono ?_
    rintro e w6 ⟨rfl, b6⟩
    replace hp0 := hp0.below b6 hp0.lt
    replace hn1 := hn1.below b6 hn1.lt
    replace hb := hb.on b6
    clear b6
    go_wp2
    go_ret
    exact ⟨rfl, hb⟩
end Go.Proofs.Ytlcikfnhgldonaa
