/- Chapter 10: the walk of QuatTells. -/
import Derived.Test.YtlcikfnhgldonaaQuatM
namespace Go.Proofs.Ytlcikfnhgldonaa
open Go.RowKit
set_option linter.unusedVariables false
set_option linter.unusedSimpArgs false

set_option maxHeartbeats 8000000 in
theorem quatTells_walk (a0 a1 a2 a3 b0 b1 b2 b3 : Int) (w : World) (va0 : (Lit.int .i32 a0).wf = true) (va1 : (Lit.int .i32 a1).wf = true) (va2 : (Lit.int .i32 a2).wf = true) (va3 : (Lit.int .i32 a3).wf = true) (vb0 : (Lit.int .i32 b0).wf = true) (vb1 : (Lit.int .i32 b1).wf = true) (vb2 : (Lit.int .i32 b2).wf = true) (vb3 : (Lit.int .i32 b3).wf = true) :
    Calls Try.prog 3 #[.agg #[.int .i32 a0, .int .i32 a1, .int .i32 a2, .int .i32 a3], .agg #[.int .i32 b0, .int .i32 b1, .int .i32 b2, .int .i32 b3]] w fun e w' => e = .returned (.bool true) ∧ Below w.heap.size w w' := by
  have ia0 : I32 a0 := bounds_i32 va0
  have ia1 : I32 a1 := bounds_i32 va1
  have ia2 : I32 a2 := bounds_i32 va2
  have ia3 : I32 a3 := bounds_i32 va3
  have ib0 : I32 b0 := bounds_i32 vb0
  have ib1 : I32 b1 := bounds_i32 vb1
  have ib2 : I32 b2 := bounds_i32 vb2
  have ib3 : I32 b3 := bounds_i32 vb3
  clear va0 va1 va2 va3 vb0 vb1 vb2 vb3
  have h1 := fun w => q_Mul a0 a1 a2 a3 b0 b1 b2 b3 w ia0 ia1 ia2 ia3 ib0 ib1 ib2 ib3
  have h2 := fun w => r10_Mul a0 a1 a2 a3 b0 b1 b2 b3 w ia0 ia1 ia2 ia3 ib0 ib1 ib2 ib3
  have h3 := fun w => q_Dot a0 a1 a2 a3 b0 b1 b2 b3 w ia0 ia1 ia2 ia3 ib0 ib1 ib2 ib3
  have h4 := fun w => r10_Dot a0 a1 a2 a3 b0 b1 b2 b3 w ia0 ia1 ia2 ia3 ib0 ib1 ib2 ib3
  have HK := hid fun w => law10_knows w
  clear ia0 ia1 ia2 ia3 ib0 ib1 ib2 ib3
  unfold Muls at h1 h2
  generalize cutC (mulW a0 a1 a2 a3 b0 b1 b2 b3) + cutC (mulX a0 a1 a2 a3 b0 b1 b2 b3) + cutC (mulY a0 a1 a2 a3 b0 b1 b2 b3) + cutC (mulZ a0 a1 a2 a3 b0 b1 b2 b3) = m at *
  generalize clampP (mulW a0 a1 a2 a3 b0 b1 b2 b3) = xW at *
  generalize clampP (mulX a0 a1 a2 a3 b0 b1 b2 b3) = xX at *
  generalize clampP (mulY a0 a1 a2 a3 b0 b1 b2 b3) = xY at *
  generalize clampP (mulZ a0 a1 a2 a3 b0 b1 b2 b3) = xZ at *
  generalize dotP a0 a1 a2 a3 b0 b1 b2 b3 = d at *
  have H1 := hid h1
  have H2 := hid h2
  have H3 := hid h3
  have H4 := hid h4
  clear h1 h2 h3 h4
  go_enter Try.func3, Try.ntmps3
  have hp0 : Blk (w.alloc (.cells #[.int .i32 a0, .int .i32 a1, .int .i32 a2, .int .i32 a3] 23)) w.heap.size 23 #[.int .i32 a0, .int .i32 a1, .int .i32 a2, .int .i32 a3] := Blk.new w _ _
  have hb : Below w.heap.size w (w.alloc (.cells #[.int .i32 a0, .int .i32 a1, .int .i32 a2, .int .i32 a3] 23)) := (Below.refl _ w).alloc (Nat.le_refl _) _
  replace hp0 := hp0.alloc (.cells #[.int .i32 b0, .int .i32 b1, .int .i32 b2, .int .i32 b3] 23)
  have hp1 : Blk ((w.alloc (.cells #[.int .i32 a0, .int .i32 a1, .int .i32 a2, .int .i32 a3] 23)).alloc (.cells #[.int .i32 b0, .int .i32 b1, .int .i32 b2, .int .i32 b3] 23)) (w.heap.size + 1) 23 #[.int .i32 b0, .int .i32 b1, .int .i32 b2, .int .i32 b3] := by have := Blk.new (w.alloc (.cells #[.int .i32 a0, .int .i32 a1, .int .i32 a2, .int .i32 a3] 23)) 23 #[.int .i32 b0, .int .i32 b1, .int .i32 b2, .int .i32 b3]; simpa using this
  replace hb := hb.alloc hb.size (.cells #[.int .i32 b0, .int .i32 b1, .int .i32 b2, .int .i32 b3] 23)
  go_wp2_with fail
  generalize (w.alloc (.cells #[.int .i32 a0, .int .i32 a1, .int .i32 a2, .int .i32 a3] 23)).alloc (.cells #[.int .i32 b0, .int .i32 b1, .int .i32 b2, .int .i32 b3] 23) = W0 at *
  refine (H1.out _).mono ?_
  rintro e w1 ⟨rfl, b1⟩
  replace hp0 := hp0.below b1 hp0.lt
  replace hp1 := hp1.below b1 hp1.lt
  replace hb := hb.on b1
  clear b1
  replace hp0 := hp0.alloc (.cells #[.int .i32 xW, .int .i32 xX, .int .i32 xY, .int .i32 xZ] 23)
  replace hp1 := hp1.alloc (.cells #[.int .i32 xW, .int .i32 xX, .int .i32 xY, .int .i32 xZ] 23)
  have hn1 : Blk (w1.alloc (.cells #[.int .i32 xW, .int .i32 xX, .int .i32 xY, .int .i32 xZ] 23)) w1.heap.size 23 #[.int .i32 xW, .int .i32 xX, .int .i32 xY, .int .i32 xZ] := Blk.new w1 _ _
  replace hb := hb.alloc hb.size (.cells #[.int .i32 xW, .int .i32 xX, .int .i32 xY, .int .i32 xZ] 23)
  have f0 : (w1.alloc (.cells #[.int .i32 xW, .int .i32 xX, .int .i32 xY, .int .i32 xZ] 23)).cell? ⟨w.heap.size, 0, none⟩ = some (.int .i32 a0) := hp0.cell 0
  have f1 : (w1.alloc (.cells #[.int .i32 xW, .int .i32 xX, .int .i32 xY, .int .i32 xZ] 23)).cell? ⟨w.heap.size, 1, none⟩ = some (.int .i32 a1) := hp0.cell 1
  have f2 : (w1.alloc (.cells #[.int .i32 xW, .int .i32 xX, .int .i32 xY, .int .i32 xZ] 23)).cell? ⟨w.heap.size, 2, none⟩ = some (.int .i32 a2) := hp0.cell 2
  have f3 : (w1.alloc (.cells #[.int .i32 xW, .int .i32 xX, .int .i32 xY, .int .i32 xZ] 23)).cell? ⟨w.heap.size, 3, none⟩ = some (.int .i32 a3) := hp0.cell 3
  have f4 : (w1.alloc (.cells #[.int .i32 xW, .int .i32 xX, .int .i32 xY, .int .i32 xZ] 23)).cell? ⟨w.heap.size + 1, 0, none⟩ = some (.int .i32 b0) := hp1.cell 0
  have f5 : (w1.alloc (.cells #[.int .i32 xW, .int .i32 xX, .int .i32 xY, .int .i32 xZ] 23)).cell? ⟨w.heap.size + 1, 1, none⟩ = some (.int .i32 b1) := hp1.cell 1
  have f6 : (w1.alloc (.cells #[.int .i32 xW, .int .i32 xX, .int .i32 xY, .int .i32 xZ] 23)).cell? ⟨w.heap.size + 1, 2, none⟩ = some (.int .i32 b2) := hp1.cell 2
  have f7 : (w1.alloc (.cells #[.int .i32 xW, .int .i32 xX, .int .i32 xY, .int .i32 xZ] 23)).cell? ⟨w.heap.size + 1, 3, none⟩ = some (.int .i32 b3) := hp1.cell 3
  have f8 : (w1.alloc (.cells #[.int .i32 xW, .int .i32 xX, .int .i32 xY, .int .i32 xZ] 23)).cell? ⟨w1.heap.size, 0, none⟩ = some (.int .i32 xW) := hn1.cell 0
  have f9 : (w1.alloc (.cells #[.int .i32 xW, .int .i32 xX, .int .i32 xY, .int .i32 xZ] 23)).cell? ⟨w1.heap.size, 1, none⟩ = some (.int .i32 xX) := hn1.cell 1
  have f10 : (w1.alloc (.cells #[.int .i32 xW, .int .i32 xX, .int .i32 xY, .int .i32 xZ] 23)).cell? ⟨w1.heap.size, 2, none⟩ = some (.int .i32 xY) := hn1.cell 2
  have f11 : (w1.alloc (.cells #[.int .i32 xW, .int .i32 xX, .int .i32 xY, .int .i32 xZ] 23)).cell? ⟨w1.heap.size, 3, none⟩ = some (.int .i32 xZ) := hn1.cell 3
  go_wp2_with fail
  clear f0 f1 f2 f3 f4 f5 f6 f7 f8 f9 f10 f11
  generalize w1.alloc (.cells #[.int .i32 xW, .int .i32 xX, .int .i32 xY, .int .i32 xZ] 23) = W1 at *
  refine (H2.out _).mono ?_
  rintro e w2 ⟨rfl, b2⟩
  replace hp0 := hp0.below b2 hp0.lt
  replace hp1 := hp1.below b2 hp1.lt
  replace hn1 := hn1.below b2 hn1.lt
  replace hb := hb.on b2
  clear b2
  replace hp0 := hp0.alloc (.cells #[.int .i32 xW, .int .i32 xX, .int .i32 xY, .int .i32 xZ] 23)
  replace hp1 := hp1.alloc (.cells #[.int .i32 xW, .int .i32 xX, .int .i32 xY, .int .i32 xZ] 23)
  replace hn1 := hn1.alloc (.cells #[.int .i32 xW, .int .i32 xX, .int .i32 xY, .int .i32 xZ] 23)
  have hn2 : Blk (w2.alloc (.cells #[.int .i32 xW, .int .i32 xX, .int .i32 xY, .int .i32 xZ] 23)) w2.heap.size 23 #[.int .i32 xW, .int .i32 xX, .int .i32 xY, .int .i32 xZ] := Blk.new w2 _ _
  replace hb := hb.alloc hb.size (.cells #[.int .i32 xW, .int .i32 xX, .int .i32 xY, .int .i32 xZ] 23)
  have f0 : (w2.alloc (.cells #[.int .i32 xW, .int .i32 xX, .int .i32 xY, .int .i32 xZ] 23)).cell? ⟨w.heap.size, 0, none⟩ = some (.int .i32 a0) := hp0.cell 0
  have f1 : (w2.alloc (.cells #[.int .i32 xW, .int .i32 xX, .int .i32 xY, .int .i32 xZ] 23)).cell? ⟨w.heap.size, 1, none⟩ = some (.int .i32 a1) := hp0.cell 1
  have f2 : (w2.alloc (.cells #[.int .i32 xW, .int .i32 xX, .int .i32 xY, .int .i32 xZ] 23)).cell? ⟨w.heap.size, 2, none⟩ = some (.int .i32 a2) := hp0.cell 2
  have f3 : (w2.alloc (.cells #[.int .i32 xW, .int .i32 xX, .int .i32 xY, .int .i32 xZ] 23)).cell? ⟨w.heap.size, 3, none⟩ = some (.int .i32 a3) := hp0.cell 3
  have f4 : (w2.alloc (.cells #[.int .i32 xW, .int .i32 xX, .int .i32 xY, .int .i32 xZ] 23)).cell? ⟨w.heap.size + 1, 0, none⟩ = some (.int .i32 b0) := hp1.cell 0
  have f5 : (w2.alloc (.cells #[.int .i32 xW, .int .i32 xX, .int .i32 xY, .int .i32 xZ] 23)).cell? ⟨w.heap.size + 1, 1, none⟩ = some (.int .i32 b1) := hp1.cell 1
  have f6 : (w2.alloc (.cells #[.int .i32 xW, .int .i32 xX, .int .i32 xY, .int .i32 xZ] 23)).cell? ⟨w.heap.size + 1, 2, none⟩ = some (.int .i32 b2) := hp1.cell 2
  have f7 : (w2.alloc (.cells #[.int .i32 xW, .int .i32 xX, .int .i32 xY, .int .i32 xZ] 23)).cell? ⟨w.heap.size + 1, 3, none⟩ = some (.int .i32 b3) := hp1.cell 3
  have f8 : (w2.alloc (.cells #[.int .i32 xW, .int .i32 xX, .int .i32 xY, .int .i32 xZ] 23)).cell? ⟨w1.heap.size, 0, none⟩ = some (.int .i32 xW) := hn1.cell 0
  have f9 : (w2.alloc (.cells #[.int .i32 xW, .int .i32 xX, .int .i32 xY, .int .i32 xZ] 23)).cell? ⟨w1.heap.size, 1, none⟩ = some (.int .i32 xX) := hn1.cell 1
  have f10 : (w2.alloc (.cells #[.int .i32 xW, .int .i32 xX, .int .i32 xY, .int .i32 xZ] 23)).cell? ⟨w1.heap.size, 2, none⟩ = some (.int .i32 xY) := hn1.cell 2
  have f11 : (w2.alloc (.cells #[.int .i32 xW, .int .i32 xX, .int .i32 xY, .int .i32 xZ] 23)).cell? ⟨w1.heap.size, 3, none⟩ = some (.int .i32 xZ) := hn1.cell 3
  have f12 : (w2.alloc (.cells #[.int .i32 xW, .int .i32 xX, .int .i32 xY, .int .i32 xZ] 23)).cell? ⟨w2.heap.size, 0, none⟩ = some (.int .i32 xW) := hn2.cell 0
  have f13 : (w2.alloc (.cells #[.int .i32 xW, .int .i32 xX, .int .i32 xY, .int .i32 xZ] 23)).cell? ⟨w2.heap.size, 1, none⟩ = some (.int .i32 xX) := hn2.cell 1
  have f14 : (w2.alloc (.cells #[.int .i32 xW, .int .i32 xX, .int .i32 xY, .int .i32 xZ] 23)).cell? ⟨w2.heap.size, 2, none⟩ = some (.int .i32 xY) := hn2.cell 2
  have f15 : (w2.alloc (.cells #[.int .i32 xW, .int .i32 xX, .int .i32 xY, .int .i32 xZ] 23)).cell? ⟨w2.heap.size, 3, none⟩ = some (.int .i32 xZ) := hn2.cell 3
  go_upto_region 3 with fail
  clear f0 f1 f2 f3 f4 f5 f6 f7 f8 f9 f10 f11 f12 f13 f14 f15
  generalize w2.alloc (.cells #[.int .i32 xW, .int .i32 xX, .int .i32 xY, .int .i32 xZ] 23) = W2 at *
  refine wp_region_noPanic ?_
  refine wp_region_held_drew (S := (fun w' : World => w'.cell? ⟨w.heap.size, 0, none⟩ = some (.int .i32 a0) ∧ w'.cell? ⟨w.heap.size, 1, none⟩ = some (.int .i32 a1) ∧ w'.cell? ⟨w.heap.size, 2, none⟩ = some (.int .i32 a2) ∧ w'.cell? ⟨w.heap.size, 3, none⟩ = some (.int .i32 a3) ∧ w'.cell? ⟨w.heap.size + 1, 0, none⟩ = some (.int .i32 b0) ∧ w'.cell? ⟨w.heap.size + 1, 1, none⟩ = some (.int .i32 b1) ∧ w'.cell? ⟨w.heap.size + 1, 2, none⟩ = some (.int .i32 b2) ∧ w'.cell? ⟨w.heap.size + 1, 3, none⟩ = some (.int .i32 b3) ∧ w'.cell? ⟨w1.heap.size, 0, none⟩ = some (.int .i32 xW) ∧ w'.cell? ⟨w1.heap.size, 1, none⟩ = some (.int .i32 xX) ∧ w'.cell? ⟨w1.heap.size, 2, none⟩ = some (.int .i32 xY) ∧ w'.cell? ⟨w1.heap.size, 3, none⟩ = some (.int .i32 xZ) ∧ w'.cell? ⟨w2.heap.size, 0, none⟩ = some (.int .i32 xW) ∧ w'.cell? ⟨w2.heap.size, 1, none⟩ = some (.int .i32 xX) ∧ w'.cell? ⟨w2.heap.size, 2, none⟩ = some (.int .i32 xY) ∧ w'.cell? ⟨w2.heap.size, 3, none⟩ = some (.int .i32 xZ))) (by kernel_rfl) ⟨hp0.cell 0, hp0.cell 1, hp0.cell 2, hp0.cell 3, hp1.cell 0, hp1.cell 1, hp1.cell 2, hp1.cell 3, hn1.cell 0, hn1.cell 1, hn1.cell 2, hn1.cell 3, hn2.cell 0, hn2.cell 1, hn2.cell 2, hn2.cell 3⟩ (fun hHeld => ?_)
  refine (show wpAnyH _ _ _ _ _ 21 _ _ _ from ?_)
  try (simp only [Act.put, List.setIfInBounds_toArray, List.set_cons_zero, List.set_cons_succ])
  replace hp0 := hp0.drew
  replace hp1 := hp1.drew
  replace hn1 := hn1.drew
  replace hn2 := hn2.drew
  replace hb := hb.drew
  generalize W2.drew = W1 at *
  refine tk 0 hHeld ?_
  refine tk 1 hHeld ?_
  refine tk 2 hHeld ?_
  refine tk 3 hHeld ?_
  refine tk 4 hHeld ?_
  refine tk 5 hHeld ?_
  refine tk 6 hHeld ?_
  refine tk 7 hHeld ?_
  refine tk 8 hHeld ?_
  refine tk 9 hHeld ?_
  refine tk 10 hHeld ?_
  refine tk 12 hHeld ?_
  refine tk 13 hHeld ?_
  refine rd1 11 (fun K hK => ?_)
  go_simp
  refine (H3.out _).mono ?_
  rintro e w2x ⟨rfl, b2x⟩
  go_wp2_with fail
  refine hK.out _ _ ⟨(hp0.below b2x hp0.lt).cell 0, (hp0.below b2x hp0.lt).cell 1, (hp0.below b2x hp0.lt).cell 2, (hp0.below b2x hp0.lt).cell 3, (hp1.below b2x hp1.lt).cell 0, (hp1.below b2x hp1.lt).cell 1, (hp1.below b2x hp1.lt).cell 2, (hp1.below b2x hp1.lt).cell 3, (hn1.below b2x hn1.lt).cell 0, (hn1.below b2x hn1.lt).cell 1, (hn1.below b2x hn1.lt).cell 2, (hn1.below b2x hn1.lt).cell 3, (hn2.below b2x hn2.lt).cell 0, (hn2.below b2x hn2.lt).cell 1, (hn2.below b2x hn2.lt).cell 2, (hn2.below b2x hn2.lt).cell 3⟩ (fun hHeld => ?_)
  clear hK K
  try (simp only [Act.put, List.setIfInBounds_toArray, List.set_cons_zero, List.set_cons_succ])
  refine rd1 14 (fun K hK => ?_)
  go_simp
  refine (H4.out _).mono ?_
  rintro e w3x ⟨rfl, b3x⟩
  go_wp2_with fail
  have B3x := b2x.on b3x
  refine hK.out _ _ ⟨(hp0.below B3x hp0.lt).cell 0, (hp0.below B3x hp0.lt).cell 1, (hp0.below B3x hp0.lt).cell 2, (hp0.below B3x hp0.lt).cell 3, (hp1.below B3x hp1.lt).cell 0, (hp1.below B3x hp1.lt).cell 1, (hp1.below B3x hp1.lt).cell 2, (hp1.below B3x hp1.lt).cell 3, (hn1.below B3x hn1.lt).cell 0, (hn1.below B3x hn1.lt).cell 1, (hn1.below B3x hn1.lt).cell 2, (hn1.below B3x hn1.lt).cell 3, (hn2.below B3x hn2.lt).cell 0, (hn2.below B3x hn2.lt).cell 1, (hn2.below B3x hn2.lt).cell 2, (hn2.below B3x hn2.lt).cell 3⟩ (fun hHeld => ?_)
  clear hK K
  try (simp only [Act.put, List.setIfInBounds_toArray, List.set_cons_zero, List.set_cons_succ])
  refine tk 15 hHeld ?_
  refine tk 16 hHeld ?_
  refine tk 17 hHeld ?_
  refine rd1 18 (fun K hK => ?_)
  go_simp
  refine (HK.out _).mono ?_
  rintro e w4x ⟨rfl, b4x⟩
  go_wp2_with fail
  have B4x := B3x.on b4x
  refine hK.out _ _ ⟨(hp0.below B4x hp0.lt).cell 0, (hp0.below B4x hp0.lt).cell 1, (hp0.below B4x hp0.lt).cell 2, (hp0.below B4x hp0.lt).cell 3, (hp1.below B4x hp1.lt).cell 0, (hp1.below B4x hp1.lt).cell 1, (hp1.below B4x hp1.lt).cell 2, (hp1.below B4x hp1.lt).cell 3, (hn1.below B4x hn1.lt).cell 0, (hn1.below B4x hn1.lt).cell 1, (hn1.below B4x hn1.lt).cell 2, (hn1.below B4x hn1.lt).cell 3, (hn2.below B4x hn2.lt).cell 0, (hn2.below B4x hn2.lt).cell 1, (hn2.below B4x hn2.lt).cell 2, (hn2.below B4x hn2.lt).cell 3⟩ (fun hHeld => ?_)
  clear hK K
  try (simp only [Act.put, List.setIfInBounds_toArray, List.set_cons_zero, List.set_cons_succ])
  refine tk 19 hHeld ?_
  refine tk 20 hHeld ?_
  refine wpAnyH_done ?hru5 ?hqu5 _
  case hru5 => kernel_rfl
  refine NoPanic.normal ?_
  go_wp2
  go_ret
  exact ⟨rfl, hb.on B4x⟩
end Go.Proofs.Ytlcikfnhgldonaa
