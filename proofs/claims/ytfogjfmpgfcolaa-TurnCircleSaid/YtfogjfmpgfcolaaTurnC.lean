/- Chapter 13: the closures of Rotate. -/
import Derived.Test.YtfogjfmpgfcolaaTurnB
namespace Go.Proofs.Ytfogjfmpgfcolaa
open Go.RowKit
set_option linter.unusedVariables false
set_option linter.unusedSimpArgs false

theorem ac_bd (a b c d : Int) (ha : I32 a) (hb : I32 b) (hc : I32 c) (hd : I32 d) : -8589934594 ≤ acP a b c d ∧ acP a b c d ≤ 8589934594 := by
  have h1 := tm_bd a d ha hd
  have h2 := tm_bd b c hb hc
  unfold acP
  omega

theorem c_Rot1_0 (gu gv : Nat) (u0 u1 u2 v0 v1 v2 : Int) (w : World) (iu0 : I32 u0) (iu1 : I32 u1) (iu2 : I32 u2) (iv0 : I32 v0) (iv1 : I32 v1) (iv2 : I32 v2) (hu : Blk w gu 57 #[.int .i32 u0, .int .i32 u1, .int .i32 u2]) (hv : Blk w gv 57 #[.int .i32 v0, .int .i32 v1, .int .i32 v2]) :
    Calls Try.prog 39 #[.int .i64 0, .pointer (some ⟨gu, 0, none⟩), .pointer (some ⟨gv, 0, none⟩)] w fun e w' => e = .returned (.int .i64 (2 * acP u1 u2 v1 v2)) ∧ Below w.heap.size w w' := by
  have H := hid fun w => t_across0 u0 u1 u2 v0 v1 v2 w iu0 iu1 iu2 iv0 iv1 iv2
  have hbd := ac_bd u1 u2 v1 v2 iu1 iu2 iv1 iv2
  generalize acP u1 u2 v1 v2 = x at *
  have ww1 : IntKind.i64.wrap (2 * x) = 2 * x := IntWalk.i64_in _ (by omega)
  have f0 : w.cell? ⟨gu, 0, none⟩ = some (.int .i32 u0) := hu.cell 0
  have g0 : w.cell? ⟨gv, 0, none⟩ = some (.int .i32 v0) := hv.cell 0
  have f1 : w.cell? ⟨gu, 1, none⟩ = some (.int .i32 u1) := hu.cell 1
  have g1 : w.cell? ⟨gv, 1, none⟩ = some (.int .i32 v1) := hv.cell 1
  have f2 : w.cell? ⟨gu, 2, none⟩ = some (.int .i32 u2) := hu.cell 2
  have g2 : w.cell? ⟨gv, 2, none⟩ = some (.int .i32 v2) := hv.cell 2
  clear hbd iu0 iu1 iu2 iv0 iv1 iv2
  go_enter Try.func39, Try.ntmps39
  go_wp2_with fail
  refine (H.out _).mono ?_
  rintro e w' ⟨rfl, hb⟩
  go_wp2
  go_ret
  exact ⟨rfl, hb⟩

theorem c_Rot1_1 (gu gv : Nat) (u0 u1 u2 v0 v1 v2 : Int) (w : World) (iu0 : I32 u0) (iu1 : I32 u1) (iu2 : I32 u2) (iv0 : I32 v0) (iv1 : I32 v1) (iv2 : I32 v2) (hu : Blk w gu 57 #[.int .i32 u0, .int .i32 u1, .int .i32 u2]) (hv : Blk w gv 57 #[.int .i32 v0, .int .i32 v1, .int .i32 v2]) :
    Calls Try.prog 39 #[.int .i64 1, .pointer (some ⟨gu, 0, none⟩), .pointer (some ⟨gv, 0, none⟩)] w fun e w' => e = .returned (.int .i64 (2 * acP u2 u0 v2 v0)) ∧ Below w.heap.size w w' := by
  have H := hid fun w => t_across1 u0 u1 u2 v0 v1 v2 w iu0 iu1 iu2 iv0 iv1 iv2
  have hbd := ac_bd u2 u0 v2 v0 iu2 iu0 iv2 iv0
  generalize acP u2 u0 v2 v0 = x at *
  have ww1 : IntKind.i64.wrap (2 * x) = 2 * x := IntWalk.i64_in _ (by omega)
  have f0 : w.cell? ⟨gu, 0, none⟩ = some (.int .i32 u0) := hu.cell 0
  have g0 : w.cell? ⟨gv, 0, none⟩ = some (.int .i32 v0) := hv.cell 0
  have f1 : w.cell? ⟨gu, 1, none⟩ = some (.int .i32 u1) := hu.cell 1
  have g1 : w.cell? ⟨gv, 1, none⟩ = some (.int .i32 v1) := hv.cell 1
  have f2 : w.cell? ⟨gu, 2, none⟩ = some (.int .i32 u2) := hu.cell 2
  have g2 : w.cell? ⟨gv, 2, none⟩ = some (.int .i32 v2) := hv.cell 2
  clear hbd iu0 iu1 iu2 iv0 iv1 iv2
  go_enter Try.func39, Try.ntmps39
  go_wp2_with fail
  refine (H.out _).mono ?_
  rintro e w' ⟨rfl, hb⟩
  go_wp2
  go_ret
  exact ⟨rfl, hb⟩

theorem c_Rot1_2 (gu gv : Nat) (u0 u1 u2 v0 v1 v2 : Int) (w : World) (iu0 : I32 u0) (iu1 : I32 u1) (iu2 : I32 u2) (iv0 : I32 v0) (iv1 : I32 v1) (iv2 : I32 v2) (hu : Blk w gu 57 #[.int .i32 u0, .int .i32 u1, .int .i32 u2]) (hv : Blk w gv 57 #[.int .i32 v0, .int .i32 v1, .int .i32 v2]) :
    Calls Try.prog 39 #[.int .i64 2, .pointer (some ⟨gu, 0, none⟩), .pointer (some ⟨gv, 0, none⟩)] w fun e w' => e = .returned (.int .i64 (2 * acP u0 u1 v0 v1)) ∧ Below w.heap.size w w' := by
  have H := hid fun w => t_across2 u0 u1 u2 v0 v1 v2 w iu0 iu1 iu2 iv0 iv1 iv2
  have hbd := ac_bd u0 u1 v0 v1 iu0 iu1 iv0 iv1
  generalize acP u0 u1 v0 v1 = x at *
  have ww1 : IntKind.i64.wrap (2 * x) = 2 * x := IntWalk.i64_in _ (by omega)
  have f0 : w.cell? ⟨gu, 0, none⟩ = some (.int .i32 u0) := hu.cell 0
  have g0 : w.cell? ⟨gv, 0, none⟩ = some (.int .i32 v0) := hv.cell 0
  have f1 : w.cell? ⟨gu, 1, none⟩ = some (.int .i32 u1) := hu.cell 1
  have g1 : w.cell? ⟨gv, 1, none⟩ = some (.int .i32 v1) := hv.cell 1
  have f2 : w.cell? ⟨gu, 2, none⟩ = some (.int .i32 u2) := hu.cell 2
  have g2 : w.cell? ⟨gv, 2, none⟩ = some (.int .i32 v2) := hv.cell 2
  clear hbd iu0 iu1 iu2 iv0 iv1 iv2
  go_enter Try.func39, Try.ntmps39
  go_wp2_with fail
  refine (H.out _).mono ?_
  rintro e w' ⟨rfl, hb⟩
  go_wp2
  go_ret
  exact ⟨rfl, hb⟩

set_option maxHeartbeats 4000000 in
theorem c_Rot2_0 (gv gq gt gu : Nat) (q0 u0 u1 u2 v0 v1 v2 t0 t1 t2 : Int) (w : World) (iq0 : I32 q0) (iu0 : I32 u0) (iu1 : I32 u1) (iu2 : I32 u2) (iv0 : I32 v0) (iv1 : I32 v1) (iv2 : I32 v2) (it0 : I32 t0) (it1 : I32 t1) (it2 : I32 t2) (hv : Blk w gv 57 #[.int .i32 v0, .int .i32 v1, .int .i32 v2]) (hq : Blk w gq 23 #[.int .i32 q0, .int .i32 u0, .int .i32 u1, .int .i32 u2]) (ht : Blk w gt 57 #[.int .i32 t0, .int .i32 t1, .int .i32 t2]) (hu : Blk w gu 57 #[.int .i32 u0, .int .i32 u1, .int .i32 u2]) :
    Calls Try.prog 41 #[.int .i64 0, .pointer (some ⟨gv, 0, none⟩), .pointer (some ⟨gq, 0, none⟩), .pointer (some ⟨gt, 0, none⟩), .pointer (some ⟨gu, 0, none⟩)] w fun e w' => e = .returned (.int .i64 (v0 + tmP q0 t0 + acP u1 u2 t1 t2)) ∧ Below w.heap.size w w' := by
  have H1 := hid fun w => t_by q0 t0 w iq0 it0
  have H2 := hid fun w => t_across0 u0 u1 u2 t0 t1 t2 w iu0 iu1 iu2 it0 it1 it2
  have b1 := tm_bd q0 t0 iq0 it0
  have b2 := ac_bd u1 u2 t1 t2 iu1 iu2 it1 it2
  generalize acP u1 u2 t1 t2 = x at *
  generalize tmP q0 t0 = y at *
  have ww0 : IntKind.i64.wrap v0 = v0 := IntWalk.i64_in _ (by unfold I32 at *; omega)
  have ww1 : IntKind.i64.wrap (v0 + y) = v0 + y := IntWalk.i64_in _ (by unfold I32 at *; omega)
  have ww2 : IntKind.i64.wrap (v0 + y + x) = v0 + y + x := IntWalk.i64_in _ (by unfold I32 at *; omega)
  have hb : Below w.heap.size w w := Below.refl _ w
  clear b1 b2 iq0 iu0 iu1 iu2 iv0 iv1 iv2 it0 it1 it2
  go_enter Try.func41, Try.ntmps41
  go_wp2_with fail
  refine wp_region_noPanic ?_
  refine wp_region_held_drew (S := (fun w' : World => w'.cell? ⟨gv, 0, none⟩ = some (.int .i32 v0) ∧ w'.cell? ⟨gv, 1, none⟩ = some (.int .i32 v1) ∧ w'.cell? ⟨gv, 2, none⟩ = some (.int .i32 v2) ∧ w'.cell? ⟨gq, 0, none⟩ = some (.int .i32 q0) ∧ w'.cell? ⟨gq, 1, none⟩ = some (.int .i32 u0) ∧ w'.cell? ⟨gq, 2, none⟩ = some (.int .i32 u1) ∧ w'.cell? ⟨gq, 3, none⟩ = some (.int .i32 u2) ∧ w'.cell? ⟨gt, 0, none⟩ = some (.int .i32 t0) ∧ w'.cell? ⟨gt, 1, none⟩ = some (.int .i32 t1) ∧ w'.cell? ⟨gt, 2, none⟩ = some (.int .i32 t2) ∧ w'.cell? ⟨gu, 0, none⟩ = some (.int .i32 u0) ∧ w'.cell? ⟨gu, 1, none⟩ = some (.int .i32 u1) ∧ w'.cell? ⟨gu, 2, none⟩ = some (.int .i32 u2))) (by kernel_rfl) ⟨hv.cell 0, hv.cell 1, hv.cell 2, hq.cell 0, hq.cell 1, hq.cell 2, hq.cell 3, ht.cell 0, ht.cell 1, ht.cell 2, hu.cell 0, hu.cell 1, hu.cell 2⟩ (fun hHeld => ?_)
  refine (show wpAnyH _ _ _ _ _ 17 _ _ _ from ?_)
  try (simp only [Act.put, List.setIfInBounds_toArray, List.set_cons_zero, List.set_cons_succ])
  replace hv := hv.drew
  replace hq := hq.drew
  replace ht := ht.drew
  replace hu := hu.drew
  replace hb := hb.drew
  generalize w.drew = W1 at *
  refine tk 0 hHeld ?_
  refine tk 1 hHeld ?_
  refine tk 2 hHeld ?_
  refine tk 3 hHeld ?_
  refine tk 4 hHeld ?_
  refine tk 5 hHeld ?_
  refine tk 6 hHeld ?_
  refine tk 7 hHeld ?_
  refine tk 8 hHeld ?_
  refine tk 11 hHeld ?_
  refine tk 12 hHeld ?_
  refine tk 13 hHeld ?_
  refine rd1 9 (fun K hK => ?_)
  go_simp
  refine (H1.out _).mono ?_
  rintro e w2x ⟨rfl, b2x⟩
  go_wp2_with fail
  refine hK.out _ _ ⟨(hv.below b2x hv.lt).cell 0, (hv.below b2x hv.lt).cell 1, (hv.below b2x hv.lt).cell 2, (hq.below b2x hq.lt).cell 0, (hq.below b2x hq.lt).cell 1, (hq.below b2x hq.lt).cell 2, (hq.below b2x hq.lt).cell 3, (ht.below b2x ht.lt).cell 0, (ht.below b2x ht.lt).cell 1, (ht.below b2x ht.lt).cell 2, (hu.below b2x hu.lt).cell 0, (hu.below b2x hu.lt).cell 1, (hu.below b2x hu.lt).cell 2⟩ (fun hHeld => ?_)
  clear hK K
  try (simp only [Act.put, List.setIfInBounds_toArray, List.set_cons_zero, List.set_cons_succ])
  refine tk 10 hHeld ?_
  refine rd1 14 (fun K hK => ?_)
  go_simp
  refine (H2.out _).mono ?_
  rintro e w3x ⟨rfl, b3x⟩
  go_wp2_with fail
  have B3x := b2x.on b3x
  refine hK.out _ _ ⟨(hv.below B3x hv.lt).cell 0, (hv.below B3x hv.lt).cell 1, (hv.below B3x hv.lt).cell 2, (hq.below B3x hq.lt).cell 0, (hq.below B3x hq.lt).cell 1, (hq.below B3x hq.lt).cell 2, (hq.below B3x hq.lt).cell 3, (ht.below B3x ht.lt).cell 0, (ht.below B3x ht.lt).cell 1, (ht.below B3x ht.lt).cell 2, (hu.below B3x hu.lt).cell 0, (hu.below B3x hu.lt).cell 1, (hu.below B3x hu.lt).cell 2⟩ (fun hHeld => ?_)
  clear hK K
  try (simp only [Act.put, List.setIfInBounds_toArray, List.set_cons_zero, List.set_cons_succ])
  refine tk 15 hHeld ?_
  refine tk 16 hHeld ?_
  refine wpAnyH_done ?hru4 ?hqu4 _
  case hru4 => kernel_rfl
  refine NoPanic.normal ?_
  go_wp2
  go_ret
  exact ⟨rfl, hb.on B3x⟩

set_option maxHeartbeats 4000000 in
theorem c_Rot2_1 (gv gq gt gu : Nat) (q0 u0 u1 u2 v0 v1 v2 t0 t1 t2 : Int) (w : World) (iq0 : I32 q0) (iu0 : I32 u0) (iu1 : I32 u1) (iu2 : I32 u2) (iv0 : I32 v0) (iv1 : I32 v1) (iv2 : I32 v2) (it0 : I32 t0) (it1 : I32 t1) (it2 : I32 t2) (hv : Blk w gv 57 #[.int .i32 v0, .int .i32 v1, .int .i32 v2]) (hq : Blk w gq 23 #[.int .i32 q0, .int .i32 u0, .int .i32 u1, .int .i32 u2]) (ht : Blk w gt 57 #[.int .i32 t0, .int .i32 t1, .int .i32 t2]) (hu : Blk w gu 57 #[.int .i32 u0, .int .i32 u1, .int .i32 u2]) :
    Calls Try.prog 41 #[.int .i64 1, .pointer (some ⟨gv, 0, none⟩), .pointer (some ⟨gq, 0, none⟩), .pointer (some ⟨gt, 0, none⟩), .pointer (some ⟨gu, 0, none⟩)] w fun e w' => e = .returned (.int .i64 (v1 + tmP q0 t1 + acP u2 u0 t2 t0)) ∧ Below w.heap.size w w' := by
  have H1 := hid fun w => t_by q0 t1 w iq0 it1
  have H2 := hid fun w => t_across1 u0 u1 u2 t0 t1 t2 w iu0 iu1 iu2 it0 it1 it2
  have b1 := tm_bd q0 t1 iq0 it1
  have b2 := ac_bd u2 u0 t2 t0 iu2 iu0 it2 it0
  generalize acP u2 u0 t2 t0 = x at *
  generalize tmP q0 t1 = y at *
  have ww0 : IntKind.i64.wrap v1 = v1 := IntWalk.i64_in _ (by unfold I32 at *; omega)
  have ww1 : IntKind.i64.wrap (v1 + y) = v1 + y := IntWalk.i64_in _ (by unfold I32 at *; omega)
  have ww2 : IntKind.i64.wrap (v1 + y + x) = v1 + y + x := IntWalk.i64_in _ (by unfold I32 at *; omega)
  have hb : Below w.heap.size w w := Below.refl _ w
  clear b1 b2 iq0 iu0 iu1 iu2 iv0 iv1 iv2 it0 it1 it2
  go_enter Try.func41, Try.ntmps41
  go_wp2_with fail
  refine wp_region_noPanic ?_
  refine wp_region_held_drew (S := (fun w' : World => w'.cell? ⟨gv, 0, none⟩ = some (.int .i32 v0) ∧ w'.cell? ⟨gv, 1, none⟩ = some (.int .i32 v1) ∧ w'.cell? ⟨gv, 2, none⟩ = some (.int .i32 v2) ∧ w'.cell? ⟨gq, 0, none⟩ = some (.int .i32 q0) ∧ w'.cell? ⟨gq, 1, none⟩ = some (.int .i32 u0) ∧ w'.cell? ⟨gq, 2, none⟩ = some (.int .i32 u1) ∧ w'.cell? ⟨gq, 3, none⟩ = some (.int .i32 u2) ∧ w'.cell? ⟨gt, 0, none⟩ = some (.int .i32 t0) ∧ w'.cell? ⟨gt, 1, none⟩ = some (.int .i32 t1) ∧ w'.cell? ⟨gt, 2, none⟩ = some (.int .i32 t2) ∧ w'.cell? ⟨gu, 0, none⟩ = some (.int .i32 u0) ∧ w'.cell? ⟨gu, 1, none⟩ = some (.int .i32 u1) ∧ w'.cell? ⟨gu, 2, none⟩ = some (.int .i32 u2))) (by kernel_rfl) ⟨hv.cell 0, hv.cell 1, hv.cell 2, hq.cell 0, hq.cell 1, hq.cell 2, hq.cell 3, ht.cell 0, ht.cell 1, ht.cell 2, hu.cell 0, hu.cell 1, hu.cell 2⟩ (fun hHeld => ?_)
  refine (show wpAnyH _ _ _ _ _ 17 _ _ _ from ?_)
  try (simp only [Act.put, List.setIfInBounds_toArray, List.set_cons_zero, List.set_cons_succ])
  replace hv := hv.drew
  replace hq := hq.drew
  replace ht := ht.drew
  replace hu := hu.drew
  replace hb := hb.drew
  generalize w.drew = W5 at *
  refine tk 0 hHeld ?_
  refine tk 1 hHeld ?_
  refine tk 2 hHeld ?_
  refine tk 3 hHeld ?_
  refine tk 4 hHeld ?_
  refine tk 5 hHeld ?_
  refine tk 6 hHeld ?_
  refine tk 7 hHeld ?_
  refine tk 8 hHeld ?_
  refine tk 11 hHeld ?_
  refine tk 12 hHeld ?_
  refine tk 13 hHeld ?_
  refine rd1 9 (fun K hK => ?_)
  go_simp
  refine (H1.out _).mono ?_
  rintro e w6x ⟨rfl, b6x⟩
  go_wp2_with fail
  refine hK.out _ _ ⟨(hv.below b6x hv.lt).cell 0, (hv.below b6x hv.lt).cell 1, (hv.below b6x hv.lt).cell 2, (hq.below b6x hq.lt).cell 0, (hq.below b6x hq.lt).cell 1, (hq.below b6x hq.lt).cell 2, (hq.below b6x hq.lt).cell 3, (ht.below b6x ht.lt).cell 0, (ht.below b6x ht.lt).cell 1, (ht.below b6x ht.lt).cell 2, (hu.below b6x hu.lt).cell 0, (hu.below b6x hu.lt).cell 1, (hu.below b6x hu.lt).cell 2⟩ (fun hHeld => ?_)
  clear hK K
  try (simp only [Act.put, List.setIfInBounds_toArray, List.set_cons_zero, List.set_cons_succ])
  refine tk 10 hHeld ?_
  refine rd1 14 (fun K hK => ?_)
  go_simp
  refine (H2.out _).mono ?_
  rintro e w7x ⟨rfl, b7x⟩
  go_wp2_with fail
  have B7x := b6x.on b7x
  refine hK.out _ _ ⟨(hv.below B7x hv.lt).cell 0, (hv.below B7x hv.lt).cell 1, (hv.below B7x hv.lt).cell 2, (hq.below B7x hq.lt).cell 0, (hq.below B7x hq.lt).cell 1, (hq.below B7x hq.lt).cell 2, (hq.below B7x hq.lt).cell 3, (ht.below B7x ht.lt).cell 0, (ht.below B7x ht.lt).cell 1, (ht.below B7x ht.lt).cell 2, (hu.below B7x hu.lt).cell 0, (hu.below B7x hu.lt).cell 1, (hu.below B7x hu.lt).cell 2⟩ (fun hHeld => ?_)
  clear hK K
  try (simp only [Act.put, List.setIfInBounds_toArray, List.set_cons_zero, List.set_cons_succ])
  refine tk 15 hHeld ?_
  refine tk 16 hHeld ?_
  refine wpAnyH_done ?hru8 ?hqu8 _
  case hru8 => kernel_rfl
  refine NoPanic.normal ?_
  go_wp2
  go_ret
  exact ⟨rfl, hb.on B7x⟩

set_option maxHeartbeats 4000000 in
theorem c_Rot2_2 (gv gq gt gu : Nat) (q0 u0 u1 u2 v0 v1 v2 t0 t1 t2 : Int) (w : World) (iq0 : I32 q0) (iu0 : I32 u0) (iu1 : I32 u1) (iu2 : I32 u2) (iv0 : I32 v0) (iv1 : I32 v1) (iv2 : I32 v2) (it0 : I32 t0) (it1 : I32 t1) (it2 : I32 t2) (hv : Blk w gv 57 #[.int .i32 v0, .int .i32 v1, .int .i32 v2]) (hq : Blk w gq 23 #[.int .i32 q0, .int .i32 u0, .int .i32 u1, .int .i32 u2]) (ht : Blk w gt 57 #[.int .i32 t0, .int .i32 t1, .int .i32 t2]) (hu : Blk w gu 57 #[.int .i32 u0, .int .i32 u1, .int .i32 u2]) :
    Calls Try.prog 41 #[.int .i64 2, .pointer (some ⟨gv, 0, none⟩), .pointer (some ⟨gq, 0, none⟩), .pointer (some ⟨gt, 0, none⟩), .pointer (some ⟨gu, 0, none⟩)] w fun e w' => e = .returned (.int .i64 (v2 + tmP q0 t2 + acP u0 u1 t0 t1)) ∧ Below w.heap.size w w' := by
  have H1 := hid fun w => t_by q0 t2 w iq0 it2
  have H2 := hid fun w => t_across2 u0 u1 u2 t0 t1 t2 w iu0 iu1 iu2 it0 it1 it2
  have b1 := tm_bd q0 t2 iq0 it2
  have b2 := ac_bd u0 u1 t0 t1 iu0 iu1 it0 it1
  generalize acP u0 u1 t0 t1 = x at *
  generalize tmP q0 t2 = y at *
  have ww0 : IntKind.i64.wrap v2 = v2 := IntWalk.i64_in _ (by unfold I32 at *; omega)
  have ww1 : IntKind.i64.wrap (v2 + y) = v2 + y := IntWalk.i64_in _ (by unfold I32 at *; omega)
  have ww2 : IntKind.i64.wrap (v2 + y + x) = v2 + y + x := IntWalk.i64_in _ (by unfold I32 at *; omega)
  have hb : Below w.heap.size w w := Below.refl _ w
  clear b1 b2 iq0 iu0 iu1 iu2 iv0 iv1 iv2 it0 it1 it2
  go_enter Try.func41, Try.ntmps41
  go_wp2_with fail
  refine wp_region_noPanic ?_
  refine wp_region_held_drew (S := (fun w' : World => w'.cell? ⟨gv, 0, none⟩ = some (.int .i32 v0) ∧ w'.cell? ⟨gv, 1, none⟩ = some (.int .i32 v1) ∧ w'.cell? ⟨gv, 2, none⟩ = some (.int .i32 v2) ∧ w'.cell? ⟨gq, 0, none⟩ = some (.int .i32 q0) ∧ w'.cell? ⟨gq, 1, none⟩ = some (.int .i32 u0) ∧ w'.cell? ⟨gq, 2, none⟩ = some (.int .i32 u1) ∧ w'.cell? ⟨gq, 3, none⟩ = some (.int .i32 u2) ∧ w'.cell? ⟨gt, 0, none⟩ = some (.int .i32 t0) ∧ w'.cell? ⟨gt, 1, none⟩ = some (.int .i32 t1) ∧ w'.cell? ⟨gt, 2, none⟩ = some (.int .i32 t2) ∧ w'.cell? ⟨gu, 0, none⟩ = some (.int .i32 u0) ∧ w'.cell? ⟨gu, 1, none⟩ = some (.int .i32 u1) ∧ w'.cell? ⟨gu, 2, none⟩ = some (.int .i32 u2))) (by kernel_rfl) ⟨hv.cell 0, hv.cell 1, hv.cell 2, hq.cell 0, hq.cell 1, hq.cell 2, hq.cell 3, ht.cell 0, ht.cell 1, ht.cell 2, hu.cell 0, hu.cell 1, hu.cell 2⟩ (fun hHeld => ?_)
  refine (show wpAnyH _ _ _ _ _ 17 _ _ _ from ?_)
  try (simp only [Act.put, List.setIfInBounds_toArray, List.set_cons_zero, List.set_cons_succ])
  replace hv := hv.drew
  replace hq := hq.drew
  replace ht := ht.drew
  replace hu := hu.drew
  replace hb := hb.drew
  generalize w.drew = W9 at *
  refine tk 0 hHeld ?_
  refine tk 1 hHeld ?_
  refine tk 2 hHeld ?_
  refine tk 3 hHeld ?_
  refine tk 4 hHeld ?_
  refine tk 5 hHeld ?_
  refine tk 6 hHeld ?_
  refine tk 7 hHeld ?_
  refine tk 8 hHeld ?_
  refine tk 11 hHeld ?_
  refine tk 12 hHeld ?_
  refine tk 13 hHeld ?_
  refine rd1 9 (fun K hK => ?_)
  go_simp
  refine (H1.out _).mono ?_
  rintro e w10x ⟨rfl, b10x⟩
  go_wp2_with fail
  refine hK.out _ _ ⟨(hv.below b10x hv.lt).cell 0, (hv.below b10x hv.lt).cell 1, (hv.below b10x hv.lt).cell 2, (hq.below b10x hq.lt).cell 0, (hq.below b10x hq.lt).cell 1, (hq.below b10x hq.lt).cell 2, (hq.below b10x hq.lt).cell 3, (ht.below b10x ht.lt).cell 0, (ht.below b10x ht.lt).cell 1, (ht.below b10x ht.lt).cell 2, (hu.below b10x hu.lt).cell 0, (hu.below b10x hu.lt).cell 1, (hu.below b10x hu.lt).cell 2⟩ (fun hHeld => ?_)
  clear hK K
  try (simp only [Act.put, List.setIfInBounds_toArray, List.set_cons_zero, List.set_cons_succ])
  refine tk 10 hHeld ?_
  refine rd1 14 (fun K hK => ?_)
  go_simp
  refine (H2.out _).mono ?_
  rintro e w11x ⟨rfl, b11x⟩
  go_wp2_with fail
  have B11x := b10x.on b11x
  refine hK.out _ _ ⟨(hv.below B11x hv.lt).cell 0, (hv.below B11x hv.lt).cell 1, (hv.below B11x hv.lt).cell 2, (hq.below B11x hq.lt).cell 0, (hq.below B11x hq.lt).cell 1, (hq.below B11x hq.lt).cell 2, (hq.below B11x hq.lt).cell 3, (ht.below B11x ht.lt).cell 0, (ht.below B11x ht.lt).cell 1, (ht.below B11x ht.lt).cell 2, (hu.below B11x hu.lt).cell 0, (hu.below B11x hu.lt).cell 1, (hu.below B11x hu.lt).cell 2⟩ (fun hHeld => ?_)
  clear hK K
  try (simp only [Act.put, List.setIfInBounds_toArray, List.set_cons_zero, List.set_cons_succ])
  refine tk 15 hHeld ?_
  refine tk 16 hHeld ?_
  refine wpAnyH_done ?hru12 ?hqu12 _
  case hru12 => kernel_rfl
  refine NoPanic.normal ?_
  go_wp2
  go_ret
  exact ⟨rfl, hb.on B11x⟩
end Go.Proofs.Ytfogjfmpgfcolaa
