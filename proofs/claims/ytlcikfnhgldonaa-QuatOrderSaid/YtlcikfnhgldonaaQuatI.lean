/- Chapter 10: quaternions: the reference's products. -/
import Derived.Test.YtlcikfnhgldonaaQuatF
namespace Go.Proofs.Ytlcikfnhgldonaa
open Go.RowKit
set_option linter.unusedVariables false

def dotP (a0 a1 a2 a3 b0 b1 b2 b3 : Int) : Int := tmP a0 b0 + tmP a1 b1 + tmP a2 b2 + tmP a3 b3
set_option linter.unusedSimpArgs false in
set_option maxHeartbeats 8000000 in
theorem r10_Dot (a0 a1 a2 a3 b0 b1 b2 b3 : Int) (w : World) (ha0 : I32 a0) (ha1 : I32 a1) (ha2 : I32 a2) (ha3 : I32 a3) (hb0 : I32 b0) (hb1 : I32 b1) (hb2 : I32 b2) (hb3 : I32 b3) :
    Calls Try.prog 17 #[.agg #[.int .i32 a0, .int .i32 a1, .int .i32 a2, .int .i32 a3], .agg #[.int .i32 b0, .int .i32 b1, .int .i32 b2, .int .i32 b3]] w fun e w' => e = .returned (.int .i64 (dotP a0 a1 a2 a3 b0 b1 b2 b3)) ∧ Below w.heap.size w w' := by
  have HT00 := hid fun w => r10_times a0 b0 w ha0 hb0
  have m00 := tm_bd a0 b0 ha0 hb0
  have HT11 := hid fun w => r10_times a1 b1 w ha1 hb1
  have m11 := tm_bd a1 b1 ha1 hb1
  have HT22 := hid fun w => r10_times a2 b2 w ha2 hb2
  have m22 := tm_bd a2 b2 ha2 hb2
  have HT33 := hid fun w => r10_times a3 b3 w ha3 hb3
  have m33 := tm_bd a3 b3 ha3 hb3
  have u0 : IntKind.i64.wrap (tmP a0 b0 + tmP a1 b1) = tmP a0 b0 + tmP a1 b1 := IntWalk.i64_in _ (by omega)
  have u1 : IntKind.i64.wrap (tmP a0 b0 + tmP a1 b1 + tmP a2 b2) = tmP a0 b0 + tmP a1 b1 + tmP a2 b2 := IntWalk.i64_in _ (by omega)
  have u2 : IntKind.i64.wrap (tmP a0 b0 + tmP a1 b1 + tmP a2 b2 + tmP a3 b3) = tmP a0 b0 + tmP a1 b1 + tmP a2 b2 + tmP a3 b3 := IntWalk.i64_in _ (by omega)
  have HE : Hid (tmP a0 b0 + tmP a1 b1 + tmP a2 b2 + tmP a3 b3 = dotP a0 a1 a2 a3 b0 b1 b2 b3) := rfl
  clear ha0 hb0 ha1 hb1 ha2 hb2 ha3 hb3 m00 m11 m22 m33
  go_enter Try.func17, Try.ntmps17
  go_wp2_with fail
  have hp : Blk ((w.alloc (.cells #[.int .i32 a0, .int .i32 a1, .int .i32 a2, .int .i32 a3] 23)).alloc (.cells #[.int .i32 b0, .int .i32 b1, .int .i32 b2, .int .i32 b3] 23)) w.heap.size 23 #[.int .i32 a0, .int .i32 a1, .int .i32 a2, .int .i32 a3] := (Blk.new w _ _).alloc _
  have hq : Blk ((w.alloc (.cells #[.int .i32 a0, .int .i32 a1, .int .i32 a2, .int .i32 a3] 23)).alloc (.cells #[.int .i32 b0, .int .i32 b1, .int .i32 b2, .int .i32 b3] 23)) (w.heap.size + 1) 23 #[.int .i32 b0, .int .i32 b1, .int .i32 b2, .int .i32 b3] := by have := Blk.new (w.alloc (.cells #[.int .i32 a0, .int .i32 a1, .int .i32 a2, .int .i32 a3] 23)) 23 #[.int .i32 b0, .int .i32 b1, .int .i32 b2, .int .i32 b3]; simpa using this
  have hbe : Below w.heap.size w ((w.alloc (.cells #[.int .i32 a0, .int .i32 a1, .int .i32 a2, .int .i32 a3] 23)).alloc (.cells #[.int .i32 b0, .int .i32 b1, .int .i32 b2, .int .i32 b3] 23)) := ((Below.refl _ w).alloc (Nat.le_refl _) _).alloc (by simp) _
  generalize (w.alloc (.cells #[.int .i32 a0, .int .i32 a1, .int .i32 a2, .int .i32 a3] 23)).alloc (.cells #[.int .i32 b0, .int .i32 b1, .int .i32 b2, .int .i32 b3] 23) = W at *
  refine wp_region_noPanic ?_
  refine wp_region_held_drew (S := fun w' : World => w'.cell? ⟨w.heap.size, 0, none⟩ = some (.int .i32 a0) ∧ w'.cell? ⟨w.heap.size, 1, none⟩ = some (.int .i32 a1) ∧ w'.cell? ⟨w.heap.size, 2, none⟩ = some (.int .i32 a2) ∧ w'.cell? ⟨w.heap.size, 3, none⟩ = some (.int .i32 a3) ∧ w'.cell? ⟨w.heap.size + 1, 0, none⟩ = some (.int .i32 b0) ∧ w'.cell? ⟨w.heap.size + 1, 1, none⟩ = some (.int .i32 b1) ∧ w'.cell? ⟨w.heap.size + 1, 2, none⟩ = some (.int .i32 b2) ∧ w'.cell? ⟨w.heap.size + 1, 3, none⟩ = some (.int .i32 b3)) (by kernel_rfl) ⟨hp.cell 0, hp.cell 1, hp.cell 2, hp.cell 3, hq.cell 0, hq.cell 1, hq.cell 2, hq.cell 3⟩ (fun hHeld => ?_)
  refine (show wpAnyH _ _ _ _ _ 24 _ _ _ from ?_)
  try (simp only [Act.put, List.setIfInBounds_toArray, List.set_cons_zero, List.set_cons_succ])
  replace hp := hp.drew
  replace hq := hq.drew
  replace hbe := hbe.drew
  generalize W.drew = w0 at *
  refine tk 0 hHeld ?_
  refine tk 1 hHeld ?_
  refine tk 2 hHeld ?_
  refine tk 3 hHeld ?_
  refine tk 5 hHeld ?_
  refine tk 6 hHeld ?_
  refine tk 7 hHeld ?_
  refine tk 8 hHeld ?_
  refine tk 11 hHeld ?_
  refine tk 12 hHeld ?_
  refine tk 13 hHeld ?_
  refine tk 14 hHeld ?_
  refine tk 17 hHeld ?_
  refine tk 18 hHeld ?_
  refine tk 19 hHeld ?_
  refine tk 20 hHeld ?_
  refine rd1 4 (fun K hK => ?hcd4)
  go_simp
  refine (HT00.out _).mono ?_
  rintro e w' ⟨rfl, rfl⟩
  go_wp2_with fail
  refine hK.out _ _ ⟨hp.cell 0, hp.cell 1, hp.cell 2, hp.cell 3, hq.cell 0, hq.cell 1, hq.cell 2, hq.cell 3⟩ (fun hHeld => ?_)
  clear hK K
  try (simp only [Act.put, List.setIfInBounds_toArray, List.set_cons_zero, List.set_cons_succ])
  refine rd1 9 (fun K hK => ?hcd9)
  go_simp
  refine (HT11.out _).mono ?_
  rintro e w' ⟨rfl, rfl⟩
  go_wp2_with fail
  refine hK.out _ _ ⟨hp.cell 0, hp.cell 1, hp.cell 2, hp.cell 3, hq.cell 0, hq.cell 1, hq.cell 2, hq.cell 3⟩ (fun hHeld => ?_)
  clear hK K
  try (simp only [Act.put, List.setIfInBounds_toArray, List.set_cons_zero, List.set_cons_succ])
  refine tk 10 hHeld ?_
  refine rd1 15 (fun K hK => ?hcd15)
  go_simp
  refine (HT22.out _).mono ?_
  rintro e w' ⟨rfl, rfl⟩
  go_wp2_with fail
  refine hK.out _ _ ⟨hp.cell 0, hp.cell 1, hp.cell 2, hp.cell 3, hq.cell 0, hq.cell 1, hq.cell 2, hq.cell 3⟩ (fun hHeld => ?_)
  clear hK K
  try (simp only [Act.put, List.setIfInBounds_toArray, List.set_cons_zero, List.set_cons_succ])
  refine tk 16 hHeld ?_
  refine rd1 21 (fun K hK => ?hcd21)
  go_simp
  refine (HT33.out _).mono ?_
  rintro e w' ⟨rfl, rfl⟩
  go_wp2_with fail
  refine hK.out _ _ ⟨hp.cell 0, hp.cell 1, hp.cell 2, hp.cell 3, hq.cell 0, hq.cell 1, hq.cell 2, hq.cell 3⟩ (fun hHeld => ?_)
  clear hK K
  try (simp only [Act.put, List.setIfInBounds_toArray, List.set_cons_zero, List.set_cons_succ])
  refine tk 22 hHeld ?_
  refine tk 23 hHeld ?_
  refine wpAnyH_done ?hrzd ?hqzd _
  case hrzd => kernel_rfl
  refine NoPanic.normal ?_
  go_wp2
  go_ret
  exact ⟨by rw [HE.out]; rfl, hbe⟩
end Go.Proofs.Ytlcikfnhgldonaa
