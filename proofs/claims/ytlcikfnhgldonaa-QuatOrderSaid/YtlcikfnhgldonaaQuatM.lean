/- Chapter 10: near; the walk of QuatParts. -/
import Derived.Test.YtlcikfnhgldonaaQuatL
import Derived.Test.YtlcikfnhgldonaaHeld
import Derived.Laws.StructEq
namespace Go.Proofs.Ytlcikfnhgldonaa
open Go.RowKit
set_option linter.unusedVariables false
set_option linter.unusedSimpArgs false

theorem law10_near (n b : Int) (w : World) (hn : 0 ≤ n ∧ n ≤ 18446744073709551615) (hb : 0 ≤ b ∧ b ≤ 1152921504606846976) :
    Calls Try.prog 21 #[.int .u64 n, .int .u64 b] w fun e w' => e = .returned (.bool (decide (n ≤ 1152921504606846976 + b) && decide (1152921504606846976 - b ≤ n))) ∧ w = w' := by
  have u1 : IntKind.u64.wrap (1152921504606846976 + b) = 1152921504606846976 + b := IntWalk.u64_in _ (by omega)
  have u2 : IntKind.u64.wrap (1152921504606846976 - b) = 1152921504606846976 - b := IntWalk.u64_in _ (by omega)
  by_cases g : n ≤ 1152921504606846976 + b
  · have d1 : decide (n ≤ 1152921504606846976 + b) = true := by simpa using g
    clear g hn hb
    go_enter Try.func21, Try.ntmps21
    go_wp2
    go_ret
    simpa using fun _ => d1
  · have d1 : decide (n ≤ 1152921504606846976 + b) = false := by simpa using g
    clear g hn hb
    go_enter Try.func21, Try.ntmps21
    go_wp2
    go_ret
    simpa using fun h => absurd h (by simpa using d1)

set_option maxHeartbeats 8000000 in
theorem quatParts_walk (a0 a1 a2 a3 : Int) (w : World) (v0 : (Lit.int .i32 a0).wf = true) (v1 : (Lit.int .i32 a1).wf = true) (v2 : (Lit.int .i32 a2).wf = true) (v3 : (Lit.int .i32 a3).wf = true) :
    Calls Try.prog 6 #[.agg #[.int .i32 a0, .int .i32 a1, .int .i32 a2, .int .i32 a3]] w fun e w' => e = .returned (.bool true) ∧ Below w.heap.size w w' := by
  have i0 : I32 a0 := bounds_i32 v0
  have i1 : I32 a1 := bounds_i32 v1
  have i2 : I32 a2 := bounds_i32 v2
  have i3 : I32 a3 := bounds_i32 v3
  have h1 := fun w => q_Conj a0 a1 a2 a3 w i0 i1 i2 i3
  have h2 := fun w => r10_Conj a0 a1 a2 a3 w i0 i1 i2 i3
  have h3 := fun w => q_Neg a0 a1 a2 a3 w i0 i1 i2 i3
  have h4 := fun w => r10_Neg a0 a1 a2 a3 w i0 i1 i2 i3
  have h5 := fun w => q_Norm a0 a1 a2 a3 w i0 i1 i2 i3
  have h6 := fun w => r10_Norm a0 a1 a2 a3 w i0 i1 i2 i3
  have HK := hid fun w => law10_knows w
  clear v0 v1 v2 v3 i0 i1 i2 i3
  generalize clampP a0 = x0 at *
  generalize clampP (-a0) = y0 at *
  generalize clampP (-a1) = x1 at *
  generalize clampP (-a2) = x2 at *
  generalize clampP (-a3) = x3 at *
  generalize cutC a0 + cutC (-a1) + cutC (-a2) + cutC (-a3) = m at *
  generalize cutC (-a0) + cutC (-a1) + cutC (-a2) + cutC (-a3) = n at *
  generalize sqP [a0, a1, a2, a3] = s at *
  have H1 := hid h1
  have H2 := hid h2
  have H3 := hid h3
  have H4 := hid h4
  have H5 := hid h5
  have H6 := hid h6
  clear h1 h2 h3 h4 h5 h6
  go_enter Try.func6, Try.ntmps6
  have hp : Blk (w.alloc (.cells #[.int .i32 a0, .int .i32 a1, .int .i32 a2, .int .i32 a3] 23)) w.heap.size 23 #[.int .i32 a0, .int .i32 a1, .int .i32 a2, .int .i32 a3] := Blk.new w _ _
  have hb : Below w.heap.size w (w.alloc (.cells #[.int .i32 a0, .int .i32 a1, .int .i32 a2, .int .i32 a3] 23)) := (Below.refl _ w).alloc (Nat.le_refl _) _
  go_wp2_with fail
  generalize w.alloc (.cells #[.int .i32 a0, .int .i32 a1, .int .i32 a2, .int .i32 a3] 23) = W0 at *
  refine (H1.out _).mono ?_
  rintro e w1 ⟨rfl, b1⟩
  replace hp := (hp.below b1 hp.lt).alloc (.cells #[.int .i32 x0, .int .i32 x1, .int .i32 x2, .int .i32 x3] 23)
  have hn1 : Blk (w1.alloc (.cells #[.int .i32 x0, .int .i32 x1, .int .i32 x2, .int .i32 x3] 23)) w1.heap.size 23 #[.int .i32 x0, .int .i32 x1, .int .i32 x2, .int .i32 x3] := Blk.new w1 _ _
  replace hb := (hb.on b1).alloc (hb.on b1).size (.cells #[.int .i32 x0, .int .i32 x1, .int .i32 x2, .int .i32 x3] 23)
  have f0 : (w1.alloc (.cells #[.int .i32 x0, .int .i32 x1, .int .i32 x2, .int .i32 x3] 23)).cell? ⟨w.heap.size, 0, none⟩ = some (.int .i32 a0) := hp.cell 0
  have f1 : (w1.alloc (.cells #[.int .i32 x0, .int .i32 x1, .int .i32 x2, .int .i32 x3] 23)).cell? ⟨w.heap.size, 1, none⟩ = some (.int .i32 a1) := hp.cell 1
  have f2 : (w1.alloc (.cells #[.int .i32 x0, .int .i32 x1, .int .i32 x2, .int .i32 x3] 23)).cell? ⟨w.heap.size, 2, none⟩ = some (.int .i32 a2) := hp.cell 2
  have f3 : (w1.alloc (.cells #[.int .i32 x0, .int .i32 x1, .int .i32 x2, .int .i32 x3] 23)).cell? ⟨w.heap.size, 3, none⟩ = some (.int .i32 a3) := hp.cell 3
  go_wp2_with fail
  clear f0 f1 f2 f3
  generalize w1.alloc (.cells #[.int .i32 x0, .int .i32 x1, .int .i32 x2, .int .i32 x3] 23) = W1 at *
  refine (H2.out _).mono ?_
  rintro e w2 ⟨rfl, b2⟩
  replace hp := (hp.below b2 hp.lt).alloc (.cells #[.int .i32 x0, .int .i32 x1, .int .i32 x2, .int .i32 x3] 23)
  replace hn1 := (hn1.below b2 hn1.lt).alloc (.cells #[.int .i32 x0, .int .i32 x1, .int .i32 x2, .int .i32 x3] 23)
  have hn2 : Blk (w2.alloc (.cells #[.int .i32 x0, .int .i32 x1, .int .i32 x2, .int .i32 x3] 23)) w2.heap.size 23 #[.int .i32 x0, .int .i32 x1, .int .i32 x2, .int .i32 x3] := Blk.new w2 _ _
  replace hb := (hb.on b2).alloc (hb.on b2).size (.cells #[.int .i32 x0, .int .i32 x1, .int .i32 x2, .int .i32 x3] 23)
  have f0 : (w2.alloc (.cells #[.int .i32 x0, .int .i32 x1, .int .i32 x2, .int .i32 x3] 23)).cell? ⟨w.heap.size, 0, none⟩ = some (.int .i32 a0) := hp.cell 0
  have f1 : (w2.alloc (.cells #[.int .i32 x0, .int .i32 x1, .int .i32 x2, .int .i32 x3] 23)).cell? ⟨w.heap.size, 1, none⟩ = some (.int .i32 a1) := hp.cell 1
  have f2 : (w2.alloc (.cells #[.int .i32 x0, .int .i32 x1, .int .i32 x2, .int .i32 x3] 23)).cell? ⟨w.heap.size, 2, none⟩ = some (.int .i32 a2) := hp.cell 2
  have f3 : (w2.alloc (.cells #[.int .i32 x0, .int .i32 x1, .int .i32 x2, .int .i32 x3] 23)).cell? ⟨w.heap.size, 3, none⟩ = some (.int .i32 a3) := hp.cell 3
  go_wp2_with fail
  clear f0 f1 f2 f3
  generalize w2.alloc (.cells #[.int .i32 x0, .int .i32 x1, .int .i32 x2, .int .i32 x3] 23) = W2 at *
  refine (H3.out _).mono ?_
  rintro e w3 ⟨rfl, b3⟩
  replace hp := (hp.below b3 hp.lt).alloc (.cells #[.int .i32 y0, .int .i32 x1, .int .i32 x2, .int .i32 x3] 23)
  replace hn1 := (hn1.below b3 hn1.lt).alloc (.cells #[.int .i32 y0, .int .i32 x1, .int .i32 x2, .int .i32 x3] 23)
  replace hn2 := (hn2.below b3 hn2.lt).alloc (.cells #[.int .i32 y0, .int .i32 x1, .int .i32 x2, .int .i32 x3] 23)
  have hn3 : Blk (w3.alloc (.cells #[.int .i32 y0, .int .i32 x1, .int .i32 x2, .int .i32 x3] 23)) w3.heap.size 23 #[.int .i32 y0, .int .i32 x1, .int .i32 x2, .int .i32 x3] := Blk.new w3 _ _
  replace hb := (hb.on b3).alloc (hb.on b3).size (.cells #[.int .i32 y0, .int .i32 x1, .int .i32 x2, .int .i32 x3] 23)
  have f0 : (w3.alloc (.cells #[.int .i32 y0, .int .i32 x1, .int .i32 x2, .int .i32 x3] 23)).cell? ⟨w.heap.size, 0, none⟩ = some (.int .i32 a0) := hp.cell 0
  have f1 : (w3.alloc (.cells #[.int .i32 y0, .int .i32 x1, .int .i32 x2, .int .i32 x3] 23)).cell? ⟨w.heap.size, 1, none⟩ = some (.int .i32 a1) := hp.cell 1
  have f2 : (w3.alloc (.cells #[.int .i32 y0, .int .i32 x1, .int .i32 x2, .int .i32 x3] 23)).cell? ⟨w.heap.size, 2, none⟩ = some (.int .i32 a2) := hp.cell 2
  have f3 : (w3.alloc (.cells #[.int .i32 y0, .int .i32 x1, .int .i32 x2, .int .i32 x3] 23)).cell? ⟨w.heap.size, 3, none⟩ = some (.int .i32 a3) := hp.cell 3
  go_wp2_with fail
  clear f0 f1 f2 f3
  generalize w3.alloc (.cells #[.int .i32 y0, .int .i32 x1, .int .i32 x2, .int .i32 x3] 23) = W3 at *
  refine (H4.out _).mono ?_
  rintro e w4 ⟨rfl, b4⟩
  replace hp := (hp.below b4 hp.lt).alloc (.cells #[.int .i32 y0, .int .i32 x1, .int .i32 x2, .int .i32 x3] 23)
  replace hn1 := (hn1.below b4 hn1.lt).alloc (.cells #[.int .i32 y0, .int .i32 x1, .int .i32 x2, .int .i32 x3] 23)
  replace hn2 := (hn2.below b4 hn2.lt).alloc (.cells #[.int .i32 y0, .int .i32 x1, .int .i32 x2, .int .i32 x3] 23)
  replace hn3 := (hn3.below b4 hn3.lt).alloc (.cells #[.int .i32 y0, .int .i32 x1, .int .i32 x2, .int .i32 x3] 23)
  have hn4 : Blk (w4.alloc (.cells #[.int .i32 y0, .int .i32 x1, .int .i32 x2, .int .i32 x3] 23)) w4.heap.size 23 #[.int .i32 y0, .int .i32 x1, .int .i32 x2, .int .i32 x3] := Blk.new w4 _ _
  replace hb := (hb.on b4).alloc (hb.on b4).size (.cells #[.int .i32 y0, .int .i32 x1, .int .i32 x2, .int .i32 x3] 23)
  go_upto_region 5 with fail
  generalize w4.alloc (.cells #[.int .i32 y0, .int .i32 x1, .int .i32 x2, .int .i32 x3] 23) = W4 at *
  refine wp_region_noPanic ?_
  refine wp_region_held_drew (S := (fun w' : World => w'.cell? ⟨w.heap.size, 0, none⟩ = some (.int .i32 a0) ∧ w'.cell? ⟨w.heap.size, 1, none⟩ = some (.int .i32 a1) ∧ w'.cell? ⟨w.heap.size, 2, none⟩ = some (.int .i32 a2) ∧ w'.cell? ⟨w.heap.size, 3, none⟩ = some (.int .i32 a3) ∧ w'.cell? ⟨w1.heap.size, 0, none⟩ = some (.int .i32 x0) ∧ w'.cell? ⟨w1.heap.size, 1, none⟩ = some (.int .i32 x1) ∧ w'.cell? ⟨w1.heap.size, 2, none⟩ = some (.int .i32 x2) ∧ w'.cell? ⟨w1.heap.size, 3, none⟩ = some (.int .i32 x3) ∧ w'.cell? ⟨w2.heap.size, 0, none⟩ = some (.int .i32 x0) ∧ w'.cell? ⟨w2.heap.size, 1, none⟩ = some (.int .i32 x1) ∧ w'.cell? ⟨w2.heap.size, 2, none⟩ = some (.int .i32 x2) ∧ w'.cell? ⟨w2.heap.size, 3, none⟩ = some (.int .i32 x3) ∧ w'.cell? ⟨w3.heap.size, 0, none⟩ = some (.int .i32 y0) ∧ w'.cell? ⟨w3.heap.size, 1, none⟩ = some (.int .i32 x1) ∧ w'.cell? ⟨w3.heap.size, 2, none⟩ = some (.int .i32 x2) ∧ w'.cell? ⟨w3.heap.size, 3, none⟩ = some (.int .i32 x3) ∧ w'.cell? ⟨w4.heap.size, 0, none⟩ = some (.int .i32 y0) ∧ w'.cell? ⟨w4.heap.size, 1, none⟩ = some (.int .i32 x1) ∧ w'.cell? ⟨w4.heap.size, 2, none⟩ = some (.int .i32 x2) ∧ w'.cell? ⟨w4.heap.size, 3, none⟩ = some (.int .i32 x3))) (by kernel_rfl) ⟨hp.cell 0, hp.cell 1, hp.cell 2, hp.cell 3, hn1.cell 0, hn1.cell 1, hn1.cell 2, hn1.cell 3, hn2.cell 0, hn2.cell 1, hn2.cell 2, hn2.cell 3, hn3.cell 0, hn3.cell 1, hn3.cell 2, hn3.cell 3, hn4.cell 0, hn4.cell 1, hn4.cell 2, hn4.cell 3⟩ (fun hHeld => ?_)
  refine (show wpAnyH _ _ _ _ _ 29 _ _ _ from ?_)
  try (simp only [Act.put, List.setIfInBounds_toArray, List.set_cons_zero, List.set_cons_succ])
  replace hp := hp.drew
  replace hn1 := hn1.drew
  replace hn2 := hn2.drew
  replace hn3 := hn3.drew
  replace hn4 := hn4.drew
  replace hb := hb.drew
  generalize W4.drew = W1 at *
  refine tk 0 hHeld ?_
  refine tk 1 hHeld ?_
  refine tk 2 hHeld ?_
  refine tk 3 hHeld ?_
  refine tk 4 hHeld ?_
  refine tk 5 hHeld ?_
  refine tk 6 hHeld ?_
  refine tk 7 hHeld ?_
  refine tk 8 hHeld ?_
  refine tk 9 hHeld ?_
  refine tk 10 hHeld ?_
  refine tk 11 hHeld ?_
  refine tk 12 hHeld ?_
  refine tk 13 hHeld ?_
  refine tk 14 hHeld ?_
  refine tk 15 hHeld ?_
  refine tk 16 hHeld ?_
  refine tk 17 hHeld ?_
  refine tk 18 hHeld ?_
  refine tk 19 hHeld ?_
  refine tk 21 hHeld ?_
  refine rd1 20 (fun K hK => ?_)
  go_simp
  refine (H5.out _).mono ?_
  rintro e w2x ⟨rfl, b2x⟩
  go_wp2_with fail
  refine hK.out _ _ ⟨(hp.below b2x hp.lt).cell 0, (hp.below b2x hp.lt).cell 1, (hp.below b2x hp.lt).cell 2, (hp.below b2x hp.lt).cell 3, (hn1.below b2x hn1.lt).cell 0, (hn1.below b2x hn1.lt).cell 1, (hn1.below b2x hn1.lt).cell 2, (hn1.below b2x hn1.lt).cell 3, (hn2.below b2x hn2.lt).cell 0, (hn2.below b2x hn2.lt).cell 1, (hn2.below b2x hn2.lt).cell 2, (hn2.below b2x hn2.lt).cell 3, (hn3.below b2x hn3.lt).cell 0, (hn3.below b2x hn3.lt).cell 1, (hn3.below b2x hn3.lt).cell 2, (hn3.below b2x hn3.lt).cell 3, (hn4.below b2x hn4.lt).cell 0, (hn4.below b2x hn4.lt).cell 1, (hn4.below b2x hn4.lt).cell 2, (hn4.below b2x hn4.lt).cell 3⟩ (fun hHeld => ?_)
  clear hK K
  try (simp only [Act.put, List.setIfInBounds_toArray, List.set_cons_zero, List.set_cons_succ])
  refine rd1 22 (fun K hK => ?_)
  go_simp
  refine (H6.out _).mono ?_
  rintro e w3x ⟨rfl, b3x⟩
  go_wp2_with fail
  have B3x := b2x.on b3x
  refine hK.out _ _ ⟨(hp.below B3x hp.lt).cell 0, (hp.below B3x hp.lt).cell 1, (hp.below B3x hp.lt).cell 2, (hp.below B3x hp.lt).cell 3, (hn1.below B3x hn1.lt).cell 0, (hn1.below B3x hn1.lt).cell 1, (hn1.below B3x hn1.lt).cell 2, (hn1.below B3x hn1.lt).cell 3, (hn2.below B3x hn2.lt).cell 0, (hn2.below B3x hn2.lt).cell 1, (hn2.below B3x hn2.lt).cell 2, (hn2.below B3x hn2.lt).cell 3, (hn3.below B3x hn3.lt).cell 0, (hn3.below B3x hn3.lt).cell 1, (hn3.below B3x hn3.lt).cell 2, (hn3.below B3x hn3.lt).cell 3, (hn4.below B3x hn4.lt).cell 0, (hn4.below B3x hn4.lt).cell 1, (hn4.below B3x hn4.lt).cell 2, (hn4.below B3x hn4.lt).cell 3⟩ (fun hHeld => ?_)
  clear hK K
  try (simp only [Act.put, List.setIfInBounds_toArray, List.set_cons_zero, List.set_cons_succ])
  refine tk 23 hHeld ?_
  refine tk 24 hHeld ?_
  refine tk 25 hHeld ?_
  refine rd1 26 (fun K hK => ?_)
  go_simp
  refine (HK.out _).mono ?_
  rintro e w4x ⟨rfl, b4x⟩
  go_wp2_with fail
  have B4x := B3x.on b4x
  refine hK.out _ _ ⟨(hp.below B4x hp.lt).cell 0, (hp.below B4x hp.lt).cell 1, (hp.below B4x hp.lt).cell 2, (hp.below B4x hp.lt).cell 3, (hn1.below B4x hn1.lt).cell 0, (hn1.below B4x hn1.lt).cell 1, (hn1.below B4x hn1.lt).cell 2, (hn1.below B4x hn1.lt).cell 3, (hn2.below B4x hn2.lt).cell 0, (hn2.below B4x hn2.lt).cell 1, (hn2.below B4x hn2.lt).cell 2, (hn2.below B4x hn2.lt).cell 3, (hn3.below B4x hn3.lt).cell 0, (hn3.below B4x hn3.lt).cell 1, (hn3.below B4x hn3.lt).cell 2, (hn3.below B4x hn3.lt).cell 3, (hn4.below B4x hn4.lt).cell 0, (hn4.below B4x hn4.lt).cell 1, (hn4.below B4x hn4.lt).cell 2, (hn4.below B4x hn4.lt).cell 3⟩ (fun hHeld => ?_)
  clear hK K
  try (simp only [Act.put, List.setIfInBounds_toArray, List.set_cons_zero, List.set_cons_succ])
  refine tk 27 hHeld ?_
  refine tk 28 hHeld ?_
  refine wpAnyH_done ?hru5 ?hqu5 _
  case hru5 => kernel_rfl
  refine NoPanic.normal ?_
  go_wp2
  go_ret
  exact ⟨rfl, hb.on B4x⟩
end Go.Proofs.Ytlcikfnhgldonaa
