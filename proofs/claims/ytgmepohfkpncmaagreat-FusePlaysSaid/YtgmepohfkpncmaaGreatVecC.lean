/- Chapter 09: the closures that tell a vector's numbers. -/
import Derived.Test.YtgmepohfkpncmaaGreatVecB
namespace Go.Proofs.YtgmepohfkpncmaaGreat
open Go.RowKit
set_option linter.unusedVariables false
set_option linter.unusedSimpArgs false

theorem tv_bd (a b : Int) (ha : I32 a) (hb : I32 b) : -70368744177665 ≤ tvP a b ∧ tvP a b ≤ 70368744177665 := by
  have hm := mul_bd a b ha hb
  unfold tvP roundP fracP
  have e : (2 : Int) ^ (max (0:Int) (min 16 62)).toNat = 65536 := by decide +kernel
  rw [e]
  generalize a * b = n at *
  unfold overP absP
  simp only [show ¬ ((65536 : Int) = 0) by omega, show ¬ ((65536 : Int) < 0) by omega, if_false]
  split <;> omega

set_option maxHeartbeats 4000000 in
theorem c_Add0 (gp gq : Nat) (a0 a1 a2 b0 b1 b2 : Int) (w : World) (ia0 : I32 a0) (ia1 : I32 a1) (ia2 : I32 a2) (ib0 : I32 b0) (ib1 : I32 b1) (ib2 : I32 b2) (hp : Blk w gp 69 #[.int .i32 a0, .int .i32 a1, .int .i32 a2]) (hq : Blk w gq 69 #[.int .i32 b0, .int .i32 b1, .int .i32 b2]) :
    Calls Tryz.prog 86 #[.int .i64 0, .pointer (some ⟨gp, 0, none⟩), .pointer (some ⟨gq, 0, none⟩)] w fun e w' => e = .returned (.int .i64 (a0 + b0)) ∧ Below w.heap.size w w' := by
  have u1 : IntKind.i64.wrap (a0 + b0) = a0 + b0 := IntWalk.i64_in _ (by unfold I32 at *; omega)
  have u2 : IntKind.i64.wrap a0 = a0 := IntWalk.i64_in _ (by unfold I32 at *; omega)
  have u3 : IntKind.i64.wrap b0 = b0 := IntWalk.i64_in _ (by unfold I32 at *; omega)
  have cp : w.cell? ⟨gp, 0, none⟩ = some (.int .i32 a0) := hp.cell 0
  have cq : w.cell? ⟨gq, 0, none⟩ = some (.int .i32 b0) := hq.cell 0
  go_enter Tryz.func86, Tryz.ntmps86
  go_wp2
  go_quiet (fail)
  go_wp2
  go_ret
  exact ⟨rfl, (Below.refl _ w).drewN' _⟩

set_option maxHeartbeats 4000000 in
theorem c_Add1 (gp gq : Nat) (a0 a1 a2 b0 b1 b2 : Int) (w : World) (ia0 : I32 a0) (ia1 : I32 a1) (ia2 : I32 a2) (ib0 : I32 b0) (ib1 : I32 b1) (ib2 : I32 b2) (hp : Blk w gp 69 #[.int .i32 a0, .int .i32 a1, .int .i32 a2]) (hq : Blk w gq 69 #[.int .i32 b0, .int .i32 b1, .int .i32 b2]) :
    Calls Tryz.prog 86 #[.int .i64 1, .pointer (some ⟨gp, 0, none⟩), .pointer (some ⟨gq, 0, none⟩)] w fun e w' => e = .returned (.int .i64 (a1 + b1)) ∧ Below w.heap.size w w' := by
  have u1 : IntKind.i64.wrap (a1 + b1) = a1 + b1 := IntWalk.i64_in _ (by unfold I32 at *; omega)
  have u2 : IntKind.i64.wrap a1 = a1 := IntWalk.i64_in _ (by unfold I32 at *; omega)
  have u3 : IntKind.i64.wrap b1 = b1 := IntWalk.i64_in _ (by unfold I32 at *; omega)
  have cp : w.cell? ⟨gp, 1, none⟩ = some (.int .i32 a1) := hp.cell 1
  have cq : w.cell? ⟨gq, 1, none⟩ = some (.int .i32 b1) := hq.cell 1
  go_enter Tryz.func86, Tryz.ntmps86
  go_wp2
  go_quiet (fail)
  go_wp2
  go_ret
  exact ⟨rfl, (Below.refl _ w).drewN' _⟩

set_option maxHeartbeats 4000000 in
theorem c_Add2 (gp gq : Nat) (a0 a1 a2 b0 b1 b2 : Int) (w : World) (ia0 : I32 a0) (ia1 : I32 a1) (ia2 : I32 a2) (ib0 : I32 b0) (ib1 : I32 b1) (ib2 : I32 b2) (hp : Blk w gp 69 #[.int .i32 a0, .int .i32 a1, .int .i32 a2]) (hq : Blk w gq 69 #[.int .i32 b0, .int .i32 b1, .int .i32 b2]) :
    Calls Tryz.prog 86 #[.int .i64 2, .pointer (some ⟨gp, 0, none⟩), .pointer (some ⟨gq, 0, none⟩)] w fun e w' => e = .returned (.int .i64 (a2 + b2)) ∧ Below w.heap.size w w' := by
  have u1 : IntKind.i64.wrap (a2 + b2) = a2 + b2 := IntWalk.i64_in _ (by unfold I32 at *; omega)
  have u2 : IntKind.i64.wrap a2 = a2 := IntWalk.i64_in _ (by unfold I32 at *; omega)
  have u3 : IntKind.i64.wrap b2 = b2 := IntWalk.i64_in _ (by unfold I32 at *; omega)
  have cp : w.cell? ⟨gp, 2, none⟩ = some (.int .i32 a2) := hp.cell 2
  have cq : w.cell? ⟨gq, 2, none⟩ = some (.int .i32 b2) := hq.cell 2
  go_enter Tryz.func86, Tryz.ntmps86
  go_wp2
  go_quiet (fail)
  go_wp2
  go_ret
  exact ⟨rfl, (Below.refl _ w).drewN' _⟩

set_option maxHeartbeats 4000000 in
theorem c_Sub0 (gp gq : Nat) (a0 a1 a2 b0 b1 b2 : Int) (w : World) (ia0 : I32 a0) (ia1 : I32 a1) (ia2 : I32 a2) (ib0 : I32 b0) (ib1 : I32 b1) (ib2 : I32 b2) (hp : Blk w gp 69 #[.int .i32 a0, .int .i32 a1, .int .i32 a2]) (hq : Blk w gq 69 #[.int .i32 b0, .int .i32 b1, .int .i32 b2]) :
    Calls Tryz.prog 85 #[.int .i64 0, .pointer (some ⟨gp, 0, none⟩), .pointer (some ⟨gq, 0, none⟩)] w fun e w' => e = .returned (.int .i64 (a0 - b0)) ∧ Below w.heap.size w w' := by
  have u1 : IntKind.i64.wrap (a0 - b0) = a0 - b0 := IntWalk.i64_in _ (by unfold I32 at *; omega)
  have u2 : IntKind.i64.wrap a0 = a0 := IntWalk.i64_in _ (by unfold I32 at *; omega)
  have u3 : IntKind.i64.wrap b0 = b0 := IntWalk.i64_in _ (by unfold I32 at *; omega)
  have cp : w.cell? ⟨gp, 0, none⟩ = some (.int .i32 a0) := hp.cell 0
  have cq : w.cell? ⟨gq, 0, none⟩ = some (.int .i32 b0) := hq.cell 0
  go_enter Tryz.func85, Tryz.ntmps85
  go_wp2
  go_quiet (fail)
  go_wp2
  go_ret
  exact ⟨rfl, (Below.refl _ w).drewN' _⟩

set_option maxHeartbeats 4000000 in
theorem c_Sub1 (gp gq : Nat) (a0 a1 a2 b0 b1 b2 : Int) (w : World) (ia0 : I32 a0) (ia1 : I32 a1) (ia2 : I32 a2) (ib0 : I32 b0) (ib1 : I32 b1) (ib2 : I32 b2) (hp : Blk w gp 69 #[.int .i32 a0, .int .i32 a1, .int .i32 a2]) (hq : Blk w gq 69 #[.int .i32 b0, .int .i32 b1, .int .i32 b2]) :
    Calls Tryz.prog 85 #[.int .i64 1, .pointer (some ⟨gp, 0, none⟩), .pointer (some ⟨gq, 0, none⟩)] w fun e w' => e = .returned (.int .i64 (a1 - b1)) ∧ Below w.heap.size w w' := by
  have u1 : IntKind.i64.wrap (a1 - b1) = a1 - b1 := IntWalk.i64_in _ (by unfold I32 at *; omega)
  have u2 : IntKind.i64.wrap a1 = a1 := IntWalk.i64_in _ (by unfold I32 at *; omega)
  have u3 : IntKind.i64.wrap b1 = b1 := IntWalk.i64_in _ (by unfold I32 at *; omega)
  have cp : w.cell? ⟨gp, 1, none⟩ = some (.int .i32 a1) := hp.cell 1
  have cq : w.cell? ⟨gq, 1, none⟩ = some (.int .i32 b1) := hq.cell 1
  go_enter Tryz.func85, Tryz.ntmps85
  go_wp2
  go_quiet (fail)
  go_wp2
  go_ret
  exact ⟨rfl, (Below.refl _ w).drewN' _⟩

set_option maxHeartbeats 4000000 in
theorem c_Sub2 (gp gq : Nat) (a0 a1 a2 b0 b1 b2 : Int) (w : World) (ia0 : I32 a0) (ia1 : I32 a1) (ia2 : I32 a2) (ib0 : I32 b0) (ib1 : I32 b1) (ib2 : I32 b2) (hp : Blk w gp 69 #[.int .i32 a0, .int .i32 a1, .int .i32 a2]) (hq : Blk w gq 69 #[.int .i32 b0, .int .i32 b1, .int .i32 b2]) :
    Calls Tryz.prog 85 #[.int .i64 2, .pointer (some ⟨gp, 0, none⟩), .pointer (some ⟨gq, 0, none⟩)] w fun e w' => e = .returned (.int .i64 (a2 - b2)) ∧ Below w.heap.size w w' := by
  have u1 : IntKind.i64.wrap (a2 - b2) = a2 - b2 := IntWalk.i64_in _ (by unfold I32 at *; omega)
  have u2 : IntKind.i64.wrap a2 = a2 := IntWalk.i64_in _ (by unfold I32 at *; omega)
  have u3 : IntKind.i64.wrap b2 = b2 := IntWalk.i64_in _ (by unfold I32 at *; omega)
  have cp : w.cell? ⟨gp, 2, none⟩ = some (.int .i32 a2) := hp.cell 2
  have cq : w.cell? ⟨gq, 2, none⟩ = some (.int .i32 b2) := hq.cell 2
  go_enter Tryz.func85, Tryz.ntmps85
  go_wp2
  go_quiet (fail)
  go_wp2
  go_ret
  exact ⟨rfl, (Below.refl _ w).drewN' _⟩

set_option maxHeartbeats 4000000 in
theorem c_Scale0 (gp gk : Nat) (a0 a1 a2 k : Int) (w : World) (ia0 : I32 a0) (ia1 : I32 a1) (ia2 : I32 a2) (ik : I32 k) (hp : Blk w gp 69 #[.int .i32 a0, .int .i32 a1, .int .i32 a2]) (hk : Blk w gk 21 #[.int .i32 k]) :
    Calls Tryz.prog 87 #[.int .i64 0, .pointer (some ⟨gp, 0, none⟩), .pointer (some ⟨gk, 0, none⟩)] w fun e w' => e = .returned (.int .i64 (tvP a0 k)) ∧ Below w.heap.size w w' := by
  have HT := hid fun w => v_times a0 k w ia0 ik
  have hb : Below w.heap.size w w := Below.refl _ w
  go_enter Tryz.func87, Tryz.ntmps87
  go_wp2
  refine wp_region_noPanic ?_
  refine wp_region_held_drew (S := (fun w' : World => w'.cell? ⟨gp, 0, none⟩ = some (.int .i32 a0) ∧ w'.cell? ⟨gp, 1, none⟩ = some (.int .i32 a1) ∧ w'.cell? ⟨gp, 2, none⟩ = some (.int .i32 a2) ∧ w'.cell? ⟨gk, 0, none⟩ = some (.int .i32 k))) (by kernel_rfl) ⟨hp.cell 0, hp.cell 1, hp.cell 2, hk.cell 0⟩ (fun hH => ?_)
  refine (show wpAnyH _ _ _ _ _ 6 _ _ _ from ?_)
  try (simp only [Act.put, List.setIfInBounds_toArray, List.set_cons_zero, List.set_cons_succ])
  replace hp := hp.drew
  replace hk := hk.drew
  replace hb := hb.drew
  generalize w.drew = W1 at *
  refine tk 0 hH ?_
  refine tk 1 hH ?_
  refine tk 2 hH ?_
  refine tk 3 hH ?_
  refine rd1 4 (fun K hK => ?_)
  go_simp
  refine (HT.out _).mono ?_
  rintro e w2x ⟨rfl, b2x⟩
  go_wp2_with fail
  refine hK.out _ _ ⟨(hp.below b2x hp.lt).cell 0, (hp.below b2x hp.lt).cell 1, (hp.below b2x hp.lt).cell 2, (hk.below b2x hk.lt).cell 0⟩ (fun hH => ?_)
  clear hK K
  try (simp only [Act.put, List.setIfInBounds_toArray, List.set_cons_zero, List.set_cons_succ])
  refine tk 5 hH ?_
  refine wpAnyH_done ?hru3 ?hqu3 _
  case hru3 => kernel_rfl
  refine NoPanic.normal ?_
  go_wp2
  go_ret
  exact ⟨rfl, hb.on b2x⟩

set_option maxHeartbeats 4000000 in
theorem c_Scale1 (gp gk : Nat) (a0 a1 a2 k : Int) (w : World) (ia0 : I32 a0) (ia1 : I32 a1) (ia2 : I32 a2) (ik : I32 k) (hp : Blk w gp 69 #[.int .i32 a0, .int .i32 a1, .int .i32 a2]) (hk : Blk w gk 21 #[.int .i32 k]) :
    Calls Tryz.prog 87 #[.int .i64 1, .pointer (some ⟨gp, 0, none⟩), .pointer (some ⟨gk, 0, none⟩)] w fun e w' => e = .returned (.int .i64 (tvP a1 k)) ∧ Below w.heap.size w w' := by
  have HT := hid fun w => v_times a1 k w ia1 ik
  have hb : Below w.heap.size w w := Below.refl _ w
  go_enter Tryz.func87, Tryz.ntmps87
  go_wp2
  refine wp_region_noPanic ?_
  refine wp_region_held_drew (S := (fun w' : World => w'.cell? ⟨gp, 0, none⟩ = some (.int .i32 a0) ∧ w'.cell? ⟨gp, 1, none⟩ = some (.int .i32 a1) ∧ w'.cell? ⟨gp, 2, none⟩ = some (.int .i32 a2) ∧ w'.cell? ⟨gk, 0, none⟩ = some (.int .i32 k))) (by kernel_rfl) ⟨hp.cell 0, hp.cell 1, hp.cell 2, hk.cell 0⟩ (fun hH => ?_)
  refine (show wpAnyH _ _ _ _ _ 6 _ _ _ from ?_)
  try (simp only [Act.put, List.setIfInBounds_toArray, List.set_cons_zero, List.set_cons_succ])
  replace hp := hp.drew
  replace hk := hk.drew
  replace hb := hb.drew
  generalize w.drew = W4 at *
  refine tk 0 hH ?_
  refine tk 1 hH ?_
  refine tk 2 hH ?_
  refine tk 3 hH ?_
  refine rd1 4 (fun K hK => ?_)
  go_simp
  refine (HT.out _).mono ?_
  rintro e w5x ⟨rfl, b5x⟩
  go_wp2_with fail
  refine hK.out _ _ ⟨(hp.below b5x hp.lt).cell 0, (hp.below b5x hp.lt).cell 1, (hp.below b5x hp.lt).cell 2, (hk.below b5x hk.lt).cell 0⟩ (fun hH => ?_)
  clear hK K
  try (simp only [Act.put, List.setIfInBounds_toArray, List.set_cons_zero, List.set_cons_succ])
  refine tk 5 hH ?_
  refine wpAnyH_done ?hru6 ?hqu6 _
  case hru6 => kernel_rfl
  refine NoPanic.normal ?_
  go_wp2
  go_ret
  exact ⟨rfl, hb.on b5x⟩

set_option maxHeartbeats 4000000 in
theorem c_Scale2 (gp gk : Nat) (a0 a1 a2 k : Int) (w : World) (ia0 : I32 a0) (ia1 : I32 a1) (ia2 : I32 a2) (ik : I32 k) (hp : Blk w gp 69 #[.int .i32 a0, .int .i32 a1, .int .i32 a2]) (hk : Blk w gk 21 #[.int .i32 k]) :
    Calls Tryz.prog 87 #[.int .i64 2, .pointer (some ⟨gp, 0, none⟩), .pointer (some ⟨gk, 0, none⟩)] w fun e w' => e = .returned (.int .i64 (tvP a2 k)) ∧ Below w.heap.size w w' := by
  have HT := hid fun w => v_times a2 k w ia2 ik
  have hb : Below w.heap.size w w := Below.refl _ w
  go_enter Tryz.func87, Tryz.ntmps87
  go_wp2
  refine wp_region_noPanic ?_
  refine wp_region_held_drew (S := (fun w' : World => w'.cell? ⟨gp, 0, none⟩ = some (.int .i32 a0) ∧ w'.cell? ⟨gp, 1, none⟩ = some (.int .i32 a1) ∧ w'.cell? ⟨gp, 2, none⟩ = some (.int .i32 a2) ∧ w'.cell? ⟨gk, 0, none⟩ = some (.int .i32 k))) (by kernel_rfl) ⟨hp.cell 0, hp.cell 1, hp.cell 2, hk.cell 0⟩ (fun hH => ?_)
  refine (show wpAnyH _ _ _ _ _ 6 _ _ _ from ?_)
  try (simp only [Act.put, List.setIfInBounds_toArray, List.set_cons_zero, List.set_cons_succ])
  replace hp := hp.drew
  replace hk := hk.drew
  replace hb := hb.drew
  generalize w.drew = W7 at *
  refine tk 0 hH ?_
  refine tk 1 hH ?_
  refine tk 2 hH ?_
  refine tk 3 hH ?_
  refine rd1 4 (fun K hK => ?_)
  go_simp
  refine (HT.out _).mono ?_
  rintro e w8x ⟨rfl, b8x⟩
  go_wp2_with fail
  refine hK.out _ _ ⟨(hp.below b8x hp.lt).cell 0, (hp.below b8x hp.lt).cell 1, (hp.below b8x hp.lt).cell 2, (hk.below b8x hk.lt).cell 0⟩ (fun hH => ?_)
  clear hK K
  try (simp only [Act.put, List.setIfInBounds_toArray, List.set_cons_zero, List.set_cons_succ])
  refine tk 5 hH ?_
  refine wpAnyH_done ?hru9 ?hqu9 _
  case hru9 => kernel_rfl
  refine NoPanic.normal ?_
  go_wp2
  go_ret
  exact ⟨rfl, hb.on b8x⟩

set_option maxHeartbeats 4000000 in
theorem c_Unit0 (gp gl : Nat) (a0 a1 a2 L : Int) (w : World) (ia0 : I32 a0) (ia1 : I32 a1) (ia2 : I32 a2) (iL : I64 L) (hp : Blk w gp 69 #[.int .i32 a0, .int .i32 a1, .int .i32 a2]) (hl : Blk w gl 2 #[.int .i64 L]) :
    Calls Tryz.prog 42 #[.int .i64 0, .pointer (some ⟨gp, 0, none⟩), .pointer (some ⟨gl, 0, none⟩)] w fun e w' => e = .returned (.int .i64 (overP (1073741824 * a0) L)) ∧ Below w.heap.size w w' := by
  have HT := hid fun w => fx_Over (1073741824 * a0) L w (by unfold I32 I64 at *; omega) iL
  have u1 : IntKind.i64.wrap (1073741824 * a0) = 1073741824 * a0 := IntWalk.i64_in _ (by unfold I32 at *; omega)
  have u2 : IntKind.i64.wrap a0 = a0 := IntWalk.i64_in _ (by unfold I32 at *; omega)
  have hb : Below w.heap.size w w := Below.refl _ w
  go_enter Tryz.func42, Tryz.ntmps42
  go_wp2
  refine wp_region_noPanic ?_
  refine wp_region_held_drew (S := (fun w' : World => w'.cell? ⟨gp, 0, none⟩ = some (.int .i32 a0) ∧ w'.cell? ⟨gp, 1, none⟩ = some (.int .i32 a1) ∧ w'.cell? ⟨gp, 2, none⟩ = some (.int .i32 a2) ∧ w'.cell? ⟨gl, 0, none⟩ = some (.int .i64 L))) (by kernel_rfl) ⟨hp.cell 0, hp.cell 1, hp.cell 2, hl.cell 0⟩ (fun hH => ?_)
  refine (show wpAnyH _ _ _ _ _ 8 _ _ _ from ?_)
  try (simp only [Act.put, List.setIfInBounds_toArray, List.set_cons_zero, List.set_cons_succ])
  replace hp := hp.drew
  replace hl := hl.drew
  replace hb := hb.drew
  generalize w.drew = W22 at *
  refine tk 0 hH ?_
  refine tk 1 hH ?_
  refine tk 2 hH ?_
  refine tk 3 hH ?_
  refine tk 4 hH ?_
  refine tk 5 hH ?_
  refine rd1 6 (fun K hK => ?_)
  go_simp
  refine (HT.out _).mono ?_
  rintro e w23x ⟨rfl, b23x⟩
  go_wp2_with fail
  refine hK.out _ _ ⟨(hp.below b23x hp.lt).cell 0, (hp.below b23x hp.lt).cell 1, (hp.below b23x hp.lt).cell 2, (hl.below b23x hl.lt).cell 0⟩ (fun hH => ?_)
  clear hK K
  try (simp only [Act.put, List.setIfInBounds_toArray, List.set_cons_zero, List.set_cons_succ])
  refine tk 7 hH ?_
  refine wpAnyH_done ?hru24 ?hqu24 _
  case hru24 => kernel_rfl
  refine NoPanic.normal ?_
  go_wp2
  go_ret
  exact ⟨rfl, hb.on b23x⟩

set_option maxHeartbeats 4000000 in
theorem c_Unit1 (gp gl : Nat) (a0 a1 a2 L : Int) (w : World) (ia0 : I32 a0) (ia1 : I32 a1) (ia2 : I32 a2) (iL : I64 L) (hp : Blk w gp 69 #[.int .i32 a0, .int .i32 a1, .int .i32 a2]) (hl : Blk w gl 2 #[.int .i64 L]) :
    Calls Tryz.prog 42 #[.int .i64 1, .pointer (some ⟨gp, 0, none⟩), .pointer (some ⟨gl, 0, none⟩)] w fun e w' => e = .returned (.int .i64 (overP (1073741824 * a1) L)) ∧ Below w.heap.size w w' := by
  have HT := hid fun w => fx_Over (1073741824 * a1) L w (by unfold I32 I64 at *; omega) iL
  have u1 : IntKind.i64.wrap (1073741824 * a1) = 1073741824 * a1 := IntWalk.i64_in _ (by unfold I32 at *; omega)
  have u2 : IntKind.i64.wrap a1 = a1 := IntWalk.i64_in _ (by unfold I32 at *; omega)
  have hb : Below w.heap.size w w := Below.refl _ w
  go_enter Tryz.func42, Tryz.ntmps42
  go_wp2
  refine wp_region_noPanic ?_
  refine wp_region_held_drew (S := (fun w' : World => w'.cell? ⟨gp, 0, none⟩ = some (.int .i32 a0) ∧ w'.cell? ⟨gp, 1, none⟩ = some (.int .i32 a1) ∧ w'.cell? ⟨gp, 2, none⟩ = some (.int .i32 a2) ∧ w'.cell? ⟨gl, 0, none⟩ = some (.int .i64 L))) (by kernel_rfl) ⟨hp.cell 0, hp.cell 1, hp.cell 2, hl.cell 0⟩ (fun hH => ?_)
  refine (show wpAnyH _ _ _ _ _ 8 _ _ _ from ?_)
  try (simp only [Act.put, List.setIfInBounds_toArray, List.set_cons_zero, List.set_cons_succ])
  replace hp := hp.drew
  replace hl := hl.drew
  replace hb := hb.drew
  generalize w.drew = W25 at *
  refine tk 0 hH ?_
  refine tk 1 hH ?_
  refine tk 2 hH ?_
  refine tk 3 hH ?_
  refine tk 4 hH ?_
  refine tk 5 hH ?_
  refine rd1 6 (fun K hK => ?_)
  go_simp
  refine (HT.out _).mono ?_
  rintro e w26x ⟨rfl, b26x⟩
  go_wp2_with fail
  refine hK.out _ _ ⟨(hp.below b26x hp.lt).cell 0, (hp.below b26x hp.lt).cell 1, (hp.below b26x hp.lt).cell 2, (hl.below b26x hl.lt).cell 0⟩ (fun hH => ?_)
  clear hK K
  try (simp only [Act.put, List.setIfInBounds_toArray, List.set_cons_zero, List.set_cons_succ])
  refine tk 7 hH ?_
  refine wpAnyH_done ?hru27 ?hqu27 _
  case hru27 => kernel_rfl
  refine NoPanic.normal ?_
  go_wp2
  go_ret
  exact ⟨rfl, hb.on b26x⟩

set_option maxHeartbeats 4000000 in
theorem c_Unit2 (gp gl : Nat) (a0 a1 a2 L : Int) (w : World) (ia0 : I32 a0) (ia1 : I32 a1) (ia2 : I32 a2) (iL : I64 L) (hp : Blk w gp 69 #[.int .i32 a0, .int .i32 a1, .int .i32 a2]) (hl : Blk w gl 2 #[.int .i64 L]) :
    Calls Tryz.prog 42 #[.int .i64 2, .pointer (some ⟨gp, 0, none⟩), .pointer (some ⟨gl, 0, none⟩)] w fun e w' => e = .returned (.int .i64 (overP (1073741824 * a2) L)) ∧ Below w.heap.size w w' := by
  have HT := hid fun w => fx_Over (1073741824 * a2) L w (by unfold I32 I64 at *; omega) iL
  have u1 : IntKind.i64.wrap (1073741824 * a2) = 1073741824 * a2 := IntWalk.i64_in _ (by unfold I32 at *; omega)
  have u2 : IntKind.i64.wrap a2 = a2 := IntWalk.i64_in _ (by unfold I32 at *; omega)
  have hb : Below w.heap.size w w := Below.refl _ w
  go_enter Tryz.func42, Tryz.ntmps42
  go_wp2
  refine wp_region_noPanic ?_
  refine wp_region_held_drew (S := (fun w' : World => w'.cell? ⟨gp, 0, none⟩ = some (.int .i32 a0) ∧ w'.cell? ⟨gp, 1, none⟩ = some (.int .i32 a1) ∧ w'.cell? ⟨gp, 2, none⟩ = some (.int .i32 a2) ∧ w'.cell? ⟨gl, 0, none⟩ = some (.int .i64 L))) (by kernel_rfl) ⟨hp.cell 0, hp.cell 1, hp.cell 2, hl.cell 0⟩ (fun hH => ?_)
  refine (show wpAnyH _ _ _ _ _ 8 _ _ _ from ?_)
  try (simp only [Act.put, List.setIfInBounds_toArray, List.set_cons_zero, List.set_cons_succ])
  replace hp := hp.drew
  replace hl := hl.drew
  replace hb := hb.drew
  generalize w.drew = W28 at *
  refine tk 0 hH ?_
  refine tk 1 hH ?_
  refine tk 2 hH ?_
  refine tk 3 hH ?_
  refine tk 4 hH ?_
  refine tk 5 hH ?_
  refine rd1 6 (fun K hK => ?_)
  go_simp
  refine (HT.out _).mono ?_
  rintro e w29x ⟨rfl, b29x⟩
  go_wp2_with fail
  refine hK.out _ _ ⟨(hp.below b29x hp.lt).cell 0, (hp.below b29x hp.lt).cell 1, (hp.below b29x hp.lt).cell 2, (hl.below b29x hl.lt).cell 0⟩ (fun hH => ?_)
  clear hK K
  try (simp only [Act.put, List.setIfInBounds_toArray, List.set_cons_zero, List.set_cons_succ])
  refine tk 7 hH ?_
  refine wpAnyH_done ?hru30 ?hqu30 _
  case hru30 => kernel_rfl
  refine NoPanic.normal ?_
  go_wp2
  go_ret
  exact ⟨rfl, hb.on b29x⟩
end Go.Proofs.YtgmepohfkpncmaaGreat
