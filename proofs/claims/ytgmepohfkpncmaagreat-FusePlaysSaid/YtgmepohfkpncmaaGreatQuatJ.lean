/- Chapter 10: quaternions: the reference's Conj, Neg, Norm. -/
import Derived.Test.YtgmepohfkpncmaaGreatQuatE
import Derived.Test.YtgmepohfkpncmaaGreatQuatF
namespace Go.Proofs.YtgmepohfkpncmaaGreat
open Go.RowKit

theorem r10_Norm (a b c d : Int) (w : World) (ha : I32 a) (hb : I32 b) (hc : I32 c) (hd : I32 d) :
  Calls Tryz.prog 113 #[.agg #[.int .i32 a, .int .i32 b, .int .i32 c, .int .i32 d]] w fun e w' => e = .returned (.int .u64 (sqP [a, b, c, d])) ∧ Below w.heap.size w w' := by
 have H2 := hid fun (f : Nat) (w : World) (g : Nat) (h : Row .i32 w w.heap.size (some ⟨g, 0, none⟩) 4 [a, b, c, d]) => ref_Squares (some ⟨g, 0, none⟩) 4 f [a, b, c, d] w h (by unfold I32 at *; simp; omega) (by omega)
 clear ha hb hc hd
 generalize sqP [a, b, c, d] = n at *
 go_enter Tryz.func113, Tryz.ntmps113
 go_wp2_with fail
 refine (H2.out _ _ _ (by have := Row.blk (k := .i32) (xs := [a, b, c, d]) (Blk.new (w.alloc (.cells #[.int .i32 a, .int .i32 b, .int .i32 c, .int .i32 d] 23)) 21 #[.int .i32 a, .int .i32 b, .int .i32 c, .int .i32 d]) rfl (B := ((w.alloc (.cells #[.int .i32 a, .int .i32 b, .int .i32 c, .int .i32 d] 23)).alloc (.cells #[.int .i32 a, .int .i32 b, .int .i32 c, .int .i32 d] 21)).heap.size) (by simp); simpa using this)).mono ?_
 rintro e w2 ⟨rfl, b2⟩
 go_wp2
 go_ret
 exact ⟨rfl, (((Below.refl _ w).alloc (Nat.le_refl _) _).alloc (by simp) _).trans (b2.mono (by simp; omega))⟩
end Go.Proofs.YtgmepohfkpncmaaGreat
namespace Go.Proofs.YtgmepohfkpncmaaGreat
open Go.RowKit
set_option linter.unusedVariables false

end Go.Proofs.YtgmepohfkpncmaaGreat
namespace Go.Proofs.YtgmepohfkpncmaaGreat
open Go.RowKit
set_option linter.unusedVariables false
set_option linter.unusedSimpArgs false in
set_option maxRecDepth 100000 in
set_option maxHeartbeats 40000000 in
theorem r10_Mul (a0 a1 a2 a3 b0 b1 b2 b3 : Int) (w : World) (ha0 : I32 a0) (ha1 : I32 a1) (ha2 : I32 a2) (ha3 : I32 a3) (hb0 : I32 b0) (hb1 : I32 b1) (hb2 : I32 b2) (hb3 : I32 b3) :
  Calls Tryz.prog 63 #[.agg #[.int .i32 a0, .int .i32 a1, .int .i32 a2, .int .i32 a3], .agg #[.int .i32 b0, .int .i32 b1, .int .i32 b2, .int .i32 b3]] w (Muls a0 a1 a2 a3 b0 b1 b2 b3 w) := by
 have HT00 := hid fun w => r10_times a0 b0 w ha0 hb0
 have m00 := tm_bd a0 b0 ha0 hb0
 have HT01 := hid fun w => r10_times a0 b1 w ha0 hb1
 have m01 := tm_bd a0 b1 ha0 hb1
 have HT02 := hid fun w => r10_times a0 b2 w ha0 hb2
 have m02 := tm_bd a0 b2 ha0 hb2
 have HT03 := hid fun w => r10_times a0 b3 w ha0 hb3
 have m03 := tm_bd a0 b3 ha0 hb3
 have HT10 := hid fun w => r10_times a1 b0 w ha1 hb0
 have m10 := tm_bd a1 b0 ha1 hb0
 have HT11 := hid fun w => r10_times a1 b1 w ha1 hb1
 have m11 := tm_bd a1 b1 ha1 hb1
 have HT12 := hid fun w => r10_times a1 b2 w ha1 hb2
 have m12 := tm_bd a1 b2 ha1 hb2
 have HT13 := hid fun w => r10_times a1 b3 w ha1 hb3
 have m13 := tm_bd a1 b3 ha1 hb3
 have HT20 := hid fun w => r10_times a2 b0 w ha2 hb0
 have m20 := tm_bd a2 b0 ha2 hb0
 have HT21 := hid fun w => r10_times a2 b1 w ha2 hb1
 have m21 := tm_bd a2 b1 ha2 hb1
 have HT22 := hid fun w => r10_times a2 b2 w ha2 hb2
 have m22 := tm_bd a2 b2 ha2 hb2
 have HT23 := hid fun w => r10_times a2 b3 w ha2 hb3
 have m23 := tm_bd a2 b3 ha2 hb3
 have HT30 := hid fun w => r10_times a3 b0 w ha3 hb0
 have m30 := tm_bd a3 b0 ha3 hb0
 have HT31 := hid fun w => r10_times a3 b1 w ha3 hb1
 have m31 := tm_bd a3 b1 ha3 hb1
 have HT32 := hid fun w => r10_times a3 b2 w ha3 hb2
 have m32 := tm_bd a3 b2 ha3 hb2
 have HT33 := hid fun w => r10_times a3 b3 w ha3 hb3
 have m33 := tm_bd a3 b3 ha3 hb3
 have u0 : IntKind.i64.wrap (tmP a0 b0 - tmP a1 b1) = tmP a0 b0 - tmP a1 b1 := IntWalk.i64_in _ (by omega)
 have u1 : IntKind.i64.wrap (tmP a0 b0 - tmP a1 b1 - tmP a2 b2) = tmP a0 b0 - tmP a1 b1 - tmP a2 b2 := IntWalk.i64_in _ (by omega)
 have u2 : IntKind.i64.wrap (tmP a0 b0 - tmP a1 b1 - tmP a2 b2 - tmP a3 b3) = tmP a0 b0 - tmP a1 b1 - tmP a2 b2 - tmP a3 b3 := IntWalk.i64_in _ (by omega)
 have u3 : IntKind.i64.wrap (tmP a0 b1 + tmP a1 b0) = tmP a0 b1 + tmP a1 b0 := IntWalk.i64_in _ (by omega)
 have u4 : IntKind.i64.wrap (tmP a0 b1 + tmP a1 b0 + tmP a2 b3) = tmP a0 b1 + tmP a1 b0 + tmP a2 b3 := IntWalk.i64_in _ (by omega)
 have u5 : IntKind.i64.wrap (tmP a0 b1 + tmP a1 b0 + tmP a2 b3 - tmP a3 b2) = tmP a0 b1 + tmP a1 b0 + tmP a2 b3 - tmP a3 b2 := IntWalk.i64_in _ (by omega)
 have u6 : IntKind.i64.wrap (tmP a0 b2 + tmP a2 b0) = tmP a0 b2 + tmP a2 b0 := IntWalk.i64_in _ (by omega)
 have u7 : IntKind.i64.wrap (tmP a0 b2 + tmP a2 b0 + tmP a3 b1) = tmP a0 b2 + tmP a2 b0 + tmP a3 b1 := IntWalk.i64_in _ (by omega)
 have u8 : IntKind.i64.wrap (tmP a0 b2 + tmP a2 b0 + tmP a3 b1 - tmP a1 b3) = tmP a0 b2 + tmP a2 b0 + tmP a3 b1 - tmP a1 b3 := IntWalk.i64_in _ (by omega)
 have u9 : IntKind.i64.wrap (tmP a0 b3 + tmP a3 b0) = tmP a0 b3 + tmP a3 b0 := IntWalk.i64_in _ (by omega)
 have u10 : IntKind.i64.wrap (tmP a0 b3 + tmP a3 b0 + tmP a1 b2) = tmP a0 b3 + tmP a3 b0 + tmP a1 b2 := IntWalk.i64_in _ (by omega)
 have u11 : IntKind.i64.wrap (tmP a0 b3 + tmP a3 b0 + tmP a1 b2 - tmP a2 b1) = tmP a0 b3 + tmP a3 b0 + tmP a1 b2 - tmP a2 b1 := IntWalk.i64_in _ (by omega)
 have HC := hid fun w => r10_Cut (mulW a0 a1 a2 a3 b0 b1 b2 b3) (mulX a0 a1 a2 a3 b0 b1 b2 b3) (mulY a0 a1 a2 a3 b0 b1 b2 b3) (mulZ a0 a1 a2 a3 b0 b1 b2 b3) w (by unfold I64 mulW; omega) (by unfold I64 mulX; omega) (by unfold I64 mulY; omega) (by unfold I64 mulZ; omega)
 have HE0 : Hid (tmP a0 b0 - tmP a1 b1 - tmP a2 b2 - tmP a3 b3 = mulW a0 a1 a2 a3 b0 b1 b2 b3) := rfl
 have HE1 : Hid (tmP a0 b1 + tmP a1 b0 + tmP a2 b3 - tmP a3 b2 = mulX a0 a1 a2 a3 b0 b1 b2 b3) := rfl
 have HE2 : Hid (tmP a0 b2 + tmP a2 b0 + tmP a3 b1 - tmP a1 b3 = mulY a0 a1 a2 a3 b0 b1 b2 b3) := rfl
 have HE3 : Hid (tmP a0 b3 + tmP a3 b0 + tmP a1 b2 - tmP a2 b1 = mulZ a0 a1 a2 a3 b0 b1 b2 b3) := rfl
 have hM : Hid (∀ e w', e = .returned (.tuple #[.agg #[.int .i32 (clampP (mulW a0 a1 a2 a3 b0 b1 b2 b3)), .int .i32 (clampP (mulX a0 a1 a2 a3 b0 b1 b2 b3)), .int .i32 (clampP (mulY a0 a1 a2 a3 b0 b1 b2 b3)), .int .i32 (clampP (mulZ a0 a1 a2 a3 b0 b1 b2 b3))], .int .i64 (cutC (mulW a0 a1 a2 a3 b0 b1 b2 b3) + cutC (mulX a0 a1 a2 a3 b0 b1 b2 b3) + cutC (mulY a0 a1 a2 a3 b0 b1 b2 b3) + cutC (mulZ a0 a1 a2 a3 b0 b1 b2 b3))]) → Below w.heap.size w w' → Muls a0 a1 a2 a3 b0 b1 b2 b3 w e w') := fun e w' h1 h2 => ⟨h1, h2⟩
 clear ha0 hb0 ha1 hb1 ha2 hb2 ha3 hb3 m00 m01 m02 m03 m10 m11 m12 m13 m20 m21 m22 m23 m30 m31 m32 m33
 go_enter Tryz.func63, Tryz.ntmps63
 go_wp2_with fail
 have hp : Blk (((w.alloc (.cells #[.int .i32 a0, .int .i32 a1, .int .i32 a2, .int .i32 a3] 23)).alloc (.cells #[.int .i32 b0, .int .i32 b1, .int .i32 b2, .int .i32 b3] 23)).alloc (.cells #[.int .i32 0, .int .i32 0, .int .i32 0, .int .i32 0] 23)) w.heap.size 23 #[.int .i32 a0, .int .i32 a1, .int .i32 a2, .int .i32 a3] := ((Blk.new w _ _).alloc _).alloc _
 have hq : Blk (((w.alloc (.cells #[.int .i32 a0, .int .i32 a1, .int .i32 a2, .int .i32 a3] 23)).alloc (.cells #[.int .i32 b0, .int .i32 b1, .int .i32 b2, .int .i32 b3] 23)).alloc (.cells #[.int .i32 0, .int .i32 0, .int .i32 0, .int .i32 0] 23)) (w.heap.size + 1) 23 #[.int .i32 b0, .int .i32 b1, .int .i32 b2, .int .i32 b3] := by have := (Blk.new (w.alloc (.cells #[.int .i32 a0, .int .i32 a1, .int .i32 a2, .int .i32 a3] 23)) 23 #[.int .i32 b0, .int .i32 b1, .int .i32 b2, .int .i32 b3]).alloc (.cells #[.int .i32 0, .int .i32 0, .int .i32 0, .int .i32 0] 23); simpa using this
 have hr : Blk (((w.alloc (.cells #[.int .i32 a0, .int .i32 a1, .int .i32 a2, .int .i32 a3] 23)).alloc (.cells #[.int .i32 b0, .int .i32 b1, .int .i32 b2, .int .i32 b3] 23)).alloc (.cells #[.int .i32 0, .int .i32 0, .int .i32 0, .int .i32 0] 23)) (w.heap.size + 1 + 1) 23 #[.int .i32 0, .int .i32 0, .int .i32 0, .int .i32 0] := by have := Blk.new ((w.alloc (.cells #[.int .i32 a0, .int .i32 a1, .int .i32 a2, .int .i32 a3] 23)).alloc (.cells #[.int .i32 b0, .int .i32 b1, .int .i32 b2, .int .i32 b3] 23)) 23 #[.int .i32 0, .int .i32 0, .int .i32 0, .int .i32 0]; simpa using this
 have hbe : Below w.heap.size w (((w.alloc (.cells #[.int .i32 a0, .int .i32 a1, .int .i32 a2, .int .i32 a3] 23)).alloc (.cells #[.int .i32 b0, .int .i32 b1, .int .i32 b2, .int .i32 b3] 23)).alloc (.cells #[.int .i32 0, .int .i32 0, .int .i32 0, .int .i32 0] 23)) := (((Below.refl _ w).alloc (Nat.le_refl _) _).alloc (by simp) _).alloc (by simp; omega) _
 generalize ((w.alloc (.cells #[.int .i32 a0, .int .i32 a1, .int .i32 a2, .int .i32 a3] 23)).alloc (.cells #[.int .i32 b0, .int .i32 b1, .int .i32 b2, .int .i32 b3] 23)).alloc (.cells #[.int .i32 0, .int .i32 0, .int .i32 0, .int .i32 0] 23) = W at *
 refine wp_region_noPanic ?_
 refine wp_region_held_drew (S := fun w' : World => w'.cell? ⟨w.heap.size, 0, none⟩ = some (.int .i32 a0) ∧ w'.cell? ⟨w.heap.size, 1, none⟩ = some (.int .i32 a1) ∧ w'.cell? ⟨w.heap.size, 2, none⟩ = some (.int .i32 a2) ∧ w'.cell? ⟨w.heap.size, 3, none⟩ = some (.int .i32 a3) ∧ w'.cell? ⟨w.heap.size + 1, 0, none⟩ = some (.int .i32 b0) ∧ w'.cell? ⟨w.heap.size + 1, 1, none⟩ = some (.int .i32 b1) ∧ w'.cell? ⟨w.heap.size + 1, 2, none⟩ = some (.int .i32 b2) ∧ w'.cell? ⟨w.heap.size + 1, 3, none⟩ = some (.int .i32 b3)) (by kernel_rfl) ⟨hp.cell 0, hp.cell 1, hp.cell 2, hp.cell 3, hq.cell 0, hq.cell 1, hq.cell 2, hq.cell 3⟩ (fun hH => ?_)
 refine (show wpAnyH _ _ _ _ _ 24 _ _ _ from ?_)
 try (simp only [Act.put, List.setIfInBounds_toArray, List.set_cons_zero, List.set_cons_succ])
 replace hp := hp.drew
 replace hq := hq.drew
 replace hbe := hbe.drew
 replace hr := hr.drew
 generalize W.drew = w0 at *
 refine tk 0 hH ?_
 refine tk 1 hH ?_
 refine tk 2 hH ?_
 refine tk 3 hH ?_
 refine tk 5 hH ?_
 refine tk 6 hH ?_
 refine tk 7 hH ?_
 refine tk 8 hH ?_
 refine tk 11 hH ?_
 refine tk 12 hH ?_
 refine tk 13 hH ?_
 refine tk 14 hH ?_
 refine tk 17 hH ?_
 refine tk 18 hH ?_
 refine tk 19 hH ?_
 refine tk 20 hH ?_
 refine rd1 4 (fun K hK => ?hcm04)
 go_simp
 refine (HT00.out _).mono ?_
 rintro e w' ⟨rfl, rfl⟩
 go_wp2_with fail
 refine hK.out _ _ ⟨hp.cell 0, hp.cell 1, hp.cell 2, hp.cell 3, hq.cell 0, hq.cell 1, hq.cell 2, hq.cell 3⟩ (fun hH => ?_)
 clear hK K
 try (simp only [Act.put, List.setIfInBounds_toArray, List.set_cons_zero, List.set_cons_succ])
 refine rd1 9 (fun K hK => ?hcm09)
 go_simp
 refine (HT11.out _).mono ?_
 rintro e w' ⟨rfl, rfl⟩
 go_wp2_with fail
 refine hK.out _ _ ⟨hp.cell 0, hp.cell 1, hp.cell 2, hp.cell 3, hq.cell 0, hq.cell 1, hq.cell 2, hq.cell 3⟩ (fun hH => ?_)
 clear hK K
 try (simp only [Act.put, List.setIfInBounds_toArray, List.set_cons_zero, List.set_cons_succ])
 refine tk 10 hH ?_
 refine rd1 15 (fun K hK => ?hcm015)
 go_simp
 refine (HT22.out _).mono ?_
 rintro e w' ⟨rfl, rfl⟩
 go_wp2_with fail
 refine hK.out _ _ ⟨hp.cell 0, hp.cell 1, hp.cell 2, hp.cell 3, hq.cell 0, hq.cell 1, hq.cell 2, hq.cell 3⟩ (fun hH => ?_)
 clear hK K
 try (simp only [Act.put, List.setIfInBounds_toArray, List.set_cons_zero, List.set_cons_succ])
 refine tk 16 hH ?_
 refine rd1 21 (fun K hK => ?hcm021)
 go_simp
 refine (HT33.out _).mono ?_
 rintro e w' ⟨rfl, rfl⟩
 go_wp2_with fail
 refine hK.out _ _ ⟨hp.cell 0, hp.cell 1, hp.cell 2, hp.cell 3, hq.cell 0, hq.cell 1, hq.cell 2, hq.cell 3⟩ (fun hH => ?_)
 clear hK K
 try (simp only [Act.put, List.setIfInBounds_toArray, List.set_cons_zero, List.set_cons_succ])
 refine tk 22 hH ?_
 refine tk 23 hH ?_
 refine wpAnyH_done ?hrzm0 ?hqzm0 _
 case hrzm0 => kernel_rfl
 refine NoPanic.normal ?_
 go_wp2_with fail
 refine wp_region_noPanic ?_
 refine wp_region_held_drew (S := fun w' : World => w'.cell? ⟨w.heap.size, 0, none⟩ = some (.int .i32 a0) ∧ w'.cell? ⟨w.heap.size, 1, none⟩ = some (.int .i32 a1) ∧ w'.cell? ⟨w.heap.size, 2, none⟩ = some (.int .i32 a2) ∧ w'.cell? ⟨w.heap.size, 3, none⟩ = some (.int .i32 a3) ∧ w'.cell? ⟨w.heap.size + 1, 0, none⟩ = some (.int .i32 b0) ∧ w'.cell? ⟨w.heap.size + 1, 1, none⟩ = some (.int .i32 b1) ∧ w'.cell? ⟨w.heap.size + 1, 2, none⟩ = some (.int .i32 b2) ∧ w'.cell? ⟨w.heap.size + 1, 3, none⟩ = some (.int .i32 b3)) (by kernel_rfl) ⟨hp.cell 0, hp.cell 1, hp.cell 2, hp.cell 3, hq.cell 0, hq.cell 1, hq.cell 2, hq.cell 3⟩ (fun hH => ?_)
 refine (show wpAnyH _ _ _ _ _ 24 _ _ _ from ?_)
 try (simp only [Act.put, List.setIfInBounds_toArray, List.set_cons_zero, List.set_cons_succ])
 replace hp := hp.drew
 replace hq := hq.drew
 replace hbe := hbe.drew
 replace hr := hr.drew
 generalize w0.drew = w1 at *
 refine tk 0 hH ?_
 refine tk 1 hH ?_
 refine tk 2 hH ?_
 refine tk 3 hH ?_
 refine tk 5 hH ?_
 refine tk 6 hH ?_
 refine tk 7 hH ?_
 refine tk 8 hH ?_
 refine tk 11 hH ?_
 refine tk 12 hH ?_
 refine tk 13 hH ?_
 refine tk 14 hH ?_
 refine tk 17 hH ?_
 refine tk 18 hH ?_
 refine tk 19 hH ?_
 refine tk 20 hH ?_
 refine rd1 4 (fun K hK => ?hcm14)
 go_simp
 refine (HT01.out _).mono ?_
 rintro e w' ⟨rfl, rfl⟩
 go_wp2_with fail
 refine hK.out _ _ ⟨hp.cell 0, hp.cell 1, hp.cell 2, hp.cell 3, hq.cell 0, hq.cell 1, hq.cell 2, hq.cell 3⟩ (fun hH => ?_)
 clear hK K
 try (simp only [Act.put, List.setIfInBounds_toArray, List.set_cons_zero, List.set_cons_succ])
 refine rd1 9 (fun K hK => ?hcm19)
 go_simp
 refine (HT10.out _).mono ?_
 rintro e w' ⟨rfl, rfl⟩
 go_wp2_with fail
 refine hK.out _ _ ⟨hp.cell 0, hp.cell 1, hp.cell 2, hp.cell 3, hq.cell 0, hq.cell 1, hq.cell 2, hq.cell 3⟩ (fun hH => ?_)
 clear hK K
 try (simp only [Act.put, List.setIfInBounds_toArray, List.set_cons_zero, List.set_cons_succ])
 refine tk 10 hH ?_
 refine rd1 15 (fun K hK => ?hcm115)
 go_simp
 refine (HT23.out _).mono ?_
 rintro e w' ⟨rfl, rfl⟩
 go_wp2_with fail
 refine hK.out _ _ ⟨hp.cell 0, hp.cell 1, hp.cell 2, hp.cell 3, hq.cell 0, hq.cell 1, hq.cell 2, hq.cell 3⟩ (fun hH => ?_)
 clear hK K
 try (simp only [Act.put, List.setIfInBounds_toArray, List.set_cons_zero, List.set_cons_succ])
 refine tk 16 hH ?_
 refine rd1 21 (fun K hK => ?hcm121)
 go_simp
 refine (HT32.out _).mono ?_
 rintro e w' ⟨rfl, rfl⟩
 go_wp2_with fail
 refine hK.out _ _ ⟨hp.cell 0, hp.cell 1, hp.cell 2, hp.cell 3, hq.cell 0, hq.cell 1, hq.cell 2, hq.cell 3⟩ (fun hH => ?_)
 clear hK K
 try (simp only [Act.put, List.setIfInBounds_toArray, List.set_cons_zero, List.set_cons_succ])
 refine tk 22 hH ?_
 refine tk 23 hH ?_
 refine wpAnyH_done ?hrzm1 ?hqzm1 _
 case hrzm1 => kernel_rfl
 refine NoPanic.normal ?_
 go_wp2_with fail
 refine wp_region_noPanic ?_
 refine wp_region_held_drew (S := fun w' : World => w'.cell? ⟨w.heap.size, 0, none⟩ = some (.int .i32 a0) ∧ w'.cell? ⟨w.heap.size, 1, none⟩ = some (.int .i32 a1) ∧ w'.cell? ⟨w.heap.size, 2, none⟩ = some (.int .i32 a2) ∧ w'.cell? ⟨w.heap.size, 3, none⟩ = some (.int .i32 a3) ∧ w'.cell? ⟨w.heap.size + 1, 0, none⟩ = some (.int .i32 b0) ∧ w'.cell? ⟨w.heap.size + 1, 1, none⟩ = some (.int .i32 b1) ∧ w'.cell? ⟨w.heap.size + 1, 2, none⟩ = some (.int .i32 b2) ∧ w'.cell? ⟨w.heap.size + 1, 3, none⟩ = some (.int .i32 b3)) (by kernel_rfl) ⟨hp.cell 0, hp.cell 1, hp.cell 2, hp.cell 3, hq.cell 0, hq.cell 1, hq.cell 2, hq.cell 3⟩ (fun hH => ?_)
 refine (show wpAnyH _ _ _ _ _ 24 _ _ _ from ?_)
 try (simp only [Act.put, List.setIfInBounds_toArray, List.set_cons_zero, List.set_cons_succ])
 replace hp := hp.drew
 replace hq := hq.drew
 replace hbe := hbe.drew
 replace hr := hr.drew
 generalize w1.drew = w2 at *
 refine tk 0 hH ?_
 refine tk 1 hH ?_
 refine tk 2 hH ?_
 refine tk 3 hH ?_
 refine tk 5 hH ?_
 refine tk 6 hH ?_
 refine tk 7 hH ?_
 refine tk 8 hH ?_
 refine tk 11 hH ?_
 refine tk 12 hH ?_
 refine tk 13 hH ?_
 refine tk 14 hH ?_
 refine tk 17 hH ?_
 refine tk 18 hH ?_
 refine tk 19 hH ?_
 refine tk 20 hH ?_
 refine rd1 4 (fun K hK => ?hcm24)
 go_simp
 refine (HT02.out _).mono ?_
 rintro e w' ⟨rfl, rfl⟩
 go_wp2_with fail
 refine hK.out _ _ ⟨hp.cell 0, hp.cell 1, hp.cell 2, hp.cell 3, hq.cell 0, hq.cell 1, hq.cell 2, hq.cell 3⟩ (fun hH => ?_)
 clear hK K
 try (simp only [Act.put, List.setIfInBounds_toArray, List.set_cons_zero, List.set_cons_succ])
 refine rd1 9 (fun K hK => ?hcm29)
 go_simp
 refine (HT20.out _).mono ?_
 rintro e w' ⟨rfl, rfl⟩
 go_wp2_with fail
 refine hK.out _ _ ⟨hp.cell 0, hp.cell 1, hp.cell 2, hp.cell 3, hq.cell 0, hq.cell 1, hq.cell 2, hq.cell 3⟩ (fun hH => ?_)
 clear hK K
 try (simp only [Act.put, List.setIfInBounds_toArray, List.set_cons_zero, List.set_cons_succ])
 refine tk 10 hH ?_
 refine rd1 15 (fun K hK => ?hcm215)
 go_simp
 refine (HT31.out _).mono ?_
 rintro e w' ⟨rfl, rfl⟩
 go_wp2_with fail
 refine hK.out _ _ ⟨hp.cell 0, hp.cell 1, hp.cell 2, hp.cell 3, hq.cell 0, hq.cell 1, hq.cell 2, hq.cell 3⟩ (fun hH => ?_)
 clear hK K
 try (simp only [Act.put, List.setIfInBounds_toArray, List.set_cons_zero, List.set_cons_succ])
 refine tk 16 hH ?_
 refine rd1 21 (fun K hK => ?hcm221)
 go_simp
 refine (HT13.out _).mono ?_
 rintro e w' ⟨rfl, rfl⟩
 go_wp2_with fail
 refine hK.out _ _ ⟨hp.cell 0, hp.cell 1, hp.cell 2, hp.cell 3, hq.cell 0, hq.cell 1, hq.cell 2, hq.cell 3⟩ (fun hH => ?_)
 clear hK K
 try (simp only [Act.put, List.setIfInBounds_toArray, List.set_cons_zero, List.set_cons_succ])
 refine tk 22 hH ?_
 refine tk 23 hH ?_
 refine wpAnyH_done ?hrzm2 ?hqzm2 _
 case hrzm2 => kernel_rfl
 refine NoPanic.normal ?_
 go_wp2_with fail
 refine wp_region_noPanic ?_
 refine wp_region_held_drew (S := fun w' : World => w'.cell? ⟨w.heap.size, 0, none⟩ = some (.int .i32 a0) ∧ w'.cell? ⟨w.heap.size, 1, none⟩ = some (.int .i32 a1) ∧ w'.cell? ⟨w.heap.size, 2, none⟩ = some (.int .i32 a2) ∧ w'.cell? ⟨w.heap.size, 3, none⟩ = some (.int .i32 a3) ∧ w'.cell? ⟨w.heap.size + 1, 0, none⟩ = some (.int .i32 b0) ∧ w'.cell? ⟨w.heap.size + 1, 1, none⟩ = some (.int .i32 b1) ∧ w'.cell? ⟨w.heap.size + 1, 2, none⟩ = some (.int .i32 b2) ∧ w'.cell? ⟨w.heap.size + 1, 3, none⟩ = some (.int .i32 b3)) (by kernel_rfl) ⟨hp.cell 0, hp.cell 1, hp.cell 2, hp.cell 3, hq.cell 0, hq.cell 1, hq.cell 2, hq.cell 3⟩ (fun hH => ?_)
 refine (show wpAnyH _ _ _ _ _ 24 _ _ _ from ?_)
 try (simp only [Act.put, List.setIfInBounds_toArray, List.set_cons_zero, List.set_cons_succ])
 replace hp := hp.drew
 replace hq := hq.drew
 replace hbe := hbe.drew
 replace hr := hr.drew
 generalize w2.drew = w3 at *
 refine tk 0 hH ?_
 refine tk 1 hH ?_
 refine tk 2 hH ?_
 refine tk 3 hH ?_
 refine tk 5 hH ?_
 refine tk 6 hH ?_
 refine tk 7 hH ?_
 refine tk 8 hH ?_
 refine tk 11 hH ?_
 refine tk 12 hH ?_
 refine tk 13 hH ?_
 refine tk 14 hH ?_
 refine tk 17 hH ?_
 refine tk 18 hH ?_
 refine tk 19 hH ?_
 refine tk 20 hH ?_
 refine rd1 4 (fun K hK => ?hcm34)
 go_simp
 refine (HT03.out _).mono ?_
 rintro e w' ⟨rfl, rfl⟩
 go_wp2_with fail
 refine hK.out _ _ ⟨hp.cell 0, hp.cell 1, hp.cell 2, hp.cell 3, hq.cell 0, hq.cell 1, hq.cell 2, hq.cell 3⟩ (fun hH => ?_)
 clear hK K
 try (simp only [Act.put, List.setIfInBounds_toArray, List.set_cons_zero, List.set_cons_succ])
 refine rd1 9 (fun K hK => ?hcm39)
 go_simp
 refine (HT30.out _).mono ?_
 rintro e w' ⟨rfl, rfl⟩
 go_wp2_with fail
 refine hK.out _ _ ⟨hp.cell 0, hp.cell 1, hp.cell 2, hp.cell 3, hq.cell 0, hq.cell 1, hq.cell 2, hq.cell 3⟩ (fun hH => ?_)
 clear hK K
 try (simp only [Act.put, List.setIfInBounds_toArray, List.set_cons_zero, List.set_cons_succ])
 refine tk 10 hH ?_
 refine rd1 15 (fun K hK => ?hcm315)
 go_simp
 refine (HT12.out _).mono ?_
 rintro e w' ⟨rfl, rfl⟩
 go_wp2_with fail
 refine hK.out _ _ ⟨hp.cell 0, hp.cell 1, hp.cell 2, hp.cell 3, hq.cell 0, hq.cell 1, hq.cell 2, hq.cell 3⟩ (fun hH => ?_)
 clear hK K
 try (simp only [Act.put, List.setIfInBounds_toArray, List.set_cons_zero, List.set_cons_succ])
 refine tk 16 hH ?_
 refine rd1 21 (fun K hK => ?hcm321)
 go_simp
 refine (HT21.out _).mono ?_
 rintro e w' ⟨rfl, rfl⟩
 go_wp2_with fail
 refine hK.out _ _ ⟨hp.cell 0, hp.cell 1, hp.cell 2, hp.cell 3, hq.cell 0, hq.cell 1, hq.cell 2, hq.cell 3⟩ (fun hH => ?_)
 clear hK K
 try (simp only [Act.put, List.setIfInBounds_toArray, List.set_cons_zero, List.set_cons_succ])
 refine tk 22 hH ?_
 refine tk 23 hH ?_
 refine wpAnyH_done ?hrzm3 ?hqzm3 _
 case hrzm3 => kernel_rfl
 refine NoPanic.normal ?_
 go_wp2_with fail
 rw [HE0.out, HE1.out, HE2.out, HE3.out]
 refine (HC.out _).mono ?_
 rintro e w9 ⟨rfl, bb⟩
 replace hr := hr.below bb hr.lt
 replace hbe := hbe.on bb
 clear bb hp hq hH
 generalize clampP (mulW a0 a1 a2 a3 b0 b1 b2 b3) = x0 at *
 generalize clampP (mulX a0 a1 a2 a3 b0 b1 b2 b3) = x1 at *
 generalize clampP (mulY a0 a1 a2 a3 b0 b1 b2 b3) = x2 at *
 generalize clampP (mulZ a0 a1 a2 a3 b0 b1 b2 b3) = x3 at *
 generalize cutC (mulW a0 a1 a2 a3 b0 b1 b2 b3) + cutC (mulX a0 a1 a2 a3 b0 b1 b2 b3) + cutC (mulY a0 a1 a2 a3 b0 b1 b2 b3) + cutC (mulZ a0 a1 a2 a3 b0 b1 b2 b3) = nn at *
 replace hr := hr.alloc (.cells #[.int .i32 x0, .int .i32 x1, .int .i32 x2, .int .i32 x3] 23)
 replace hbe := hbe.alloc hbe.size (.cells #[.int .i32 x0, .int .i32 x1, .int .i32 x2, .int .i32 x3] 23)
 have y0 : (w9.alloc (.cells #[.int .i32 x0, .int .i32 x1, .int .i32 x2, .int .i32 x3] 23)).cell? ⟨w.heap.size + 1 + 1, 0, none⟩ = some (.int .i32 0) := hr.cell 0
 have v0 := hr.frozen 0
 have y1 : (w9.alloc (.cells #[.int .i32 x0, .int .i32 x1, .int .i32 x2, .int .i32 x3] 23)).cell? ⟨w.heap.size + 1 + 1, 1, none⟩ = some (.int .i32 0) := hr.cell 1
 have v1 := hr.frozen 1
 have y2 : (w9.alloc (.cells #[.int .i32 x0, .int .i32 x1, .int .i32 x2, .int .i32 x3] 23)).cell? ⟨w.heap.size + 1 + 1, 2, none⟩ = some (.int .i32 0) := hr.cell 2
 have v2 := hr.frozen 2
 have y3 : (w9.alloc (.cells #[.int .i32 x0, .int .i32 x1, .int .i32 x2, .int .i32 x3] 23)).cell? ⟨w.heap.size + 1 + 1, 3, none⟩ = some (.int .i32 0) := hr.cell 3
 have v3 := hr.frozen 3
 go_wp2
 have hb9 := ((((hr.set_ 0 (.int .i32 x0)).set_ 1 (.int .i32 x1)).set_ 2 (.int .i32 x2)).set_ 3 (.int .i32 x3))
 have hbf : Below w.heap.size w (((((w9.alloc (.cells #[.int .i32 x0, .int .i32 x1, .int .i32 x2, .int .i32 x3] 23)).setCell ⟨w.heap.size + 1 + 1, 0, none⟩ (.int .i32 x0)).setCell ⟨w.heap.size + 1 + 1, 1, none⟩ (.int .i32 x1)).setCell ⟨w.heap.size + 1 + 1, 2, none⟩ (.int .i32 x2)).setCell ⟨w.heap.size + 1 + 1, 3, none⟩ (.int .i32 x3)) := ((((hbe.setCell (by dsimp only; omega) _).setCell (by dsimp only; omega) _).setCell (by dsimp only; omega) _).setCell (by dsimp only; omega) _)
 generalize (((((w9.alloc (.cells #[.int .i32 x0, .int .i32 x1, .int .i32 x2, .int .i32 x3] 23)).setCell ⟨w.heap.size + 1 + 1, 0, none⟩ (.int .i32 x0)).setCell ⟨w.heap.size + 1 + 1, 1, none⟩ (.int .i32 x1)).setCell ⟨w.heap.size + 1 + 1, 2, none⟩ (.int .i32 x2)).setCell ⟨w.heap.size + 1 + 1, 3, none⟩ (.int .i32 x3)) = WW at *
 have e0 : WW.cell? ⟨w.heap.size + 1 + 1, 0, none⟩ = some (.int .i32 x0) := hb9.cell 0
 have e1 : WW.cell? ⟨w.heap.size + 1 + 1, 1, none⟩ = some (.int .i32 x1) := hb9.cell 1
 have e2 : WW.cell? ⟨w.heap.size + 1 + 1, 2, none⟩ = some (.int .i32 x2) := hb9.cell 2
 have e3 : WW.cell? ⟨w.heap.size + 1 + 1, 3, none⟩ = some (.int .i32 x3) := hb9.cell 3
 clear hb9 hr y0 y1 y2 y3
 simp [bodyPost, results, Tryz.results63, go_sem, e0, e1, e2, e3]
 exact hM.out _ _ rfl hbf
end Go.Proofs.YtgmepohfkpncmaaGreat
