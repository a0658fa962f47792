/- Chapter 13: products, and what is across two. -/
import Derived.Test.YtfogjfmpgfcolaaQuatF
import Derived.Test.YtfogjfmpgfcolaaQuatE
import Derived.Test.YtfogjfmpgfcolaaHeld
import Derived.Laws.EntriesVeiled
namespace Go.Proofs.Ytfogjfmpgfcolaa
open Go.RowKit
set_option linter.unusedVariables false
set_option linter.unusedSimpArgs false

theorem t_by (a b : Int) (w : World) (ha : I32 a) (hb : I32 b) :
    Calls Try.prog 42 #[.int .i32 a, .int .i32 b] w fun e w' => e = .returned (.int .i64 (tmP a b)) ∧ Below w.heap.size w w' := by
  have hm := mul_bd a b ha hb
  have H := hid fun w => fx_Round (a * b) 30 w (by unfold I64; omega) (by unfold I64; omega)
  have HT : Hid (tmP a b = roundP (a * b) 30) := rfl
  obtain ⟨a1, a2⟩ := ha
  obtain ⟨b1, b2⟩ := hb
  generalize roundP (a * b) 30 = r at *
  go_enter Try.func42, Try.ntmps42
  go_wp2_with fail
  refine (H.out _).mono ?_
  rintro e w' ⟨rfl, hb⟩
  go_wp2
  go_ret
  exact ⟨by rw [HT.out]; rfl, hb⟩
theorem r13_by (a b : Int) (w : World) (ha : I32 a) (hb : I32 b) :
    Calls Try.prog 44 #[.int .i32 a, .int .i32 b] w fun e w' => e = .returned (.int .i64 (tmP a b)) ∧ w = w' := by
  have H := hid (r9_Times a b 30 w ha hb (by unfold I64; omega))
  have HT : Hid (tmP a b = roundP (a * b) 30) := rfl
  generalize roundP (a * b) 30 = r at *
  clear ha hb
  go_enter Try.func44, Try.ntmps44
  go_wp2_with fail
  refine (H.out).mono ?_
  rintro e w' ⟨rfl, rfl⟩
  go_wp2
  go_ret
  exact ⟨by rw [HT.out]; rfl, rfl⟩
/-- What is across two, in the i-th part. -/
def acP (a b c d : Int) : Int := tmP a d - tmP b c

set_option maxHeartbeats 4000000 in
theorem t_across0 (a0 a1 a2 b0 b1 b2 : Int) (w : World) (ia0 : I32 a0) (ia1 : I32 a1) (ia2 : I32 a2) (ib0 : I32 b0) (ib1 : I32 b1) (ib2 : I32 b2) :
    Calls Try.prog 40 #[.agg #[.int .i32 a0, .int .i32 a1, .int .i32 a2], .agg #[.int .i32 b0, .int .i32 b1, .int .i32 b2], .int .i64 0] w fun e w' => e = .returned (.int .i64 (acP a1 a2 b1 b2)) ∧ Below w.heap.size w w' := by
  have H1 := hid fun w => t_by a1 b2 w ia1 ib2
  have H2 := hid fun w => t_by a2 b1 w ia2 ib1
  have t1 := tm_bd a1 b2 ia1 ib2
  have t2 := tm_bd a2 b1 ia2 ib1
  have HA : Hid (acP a1 a2 b1 b2 = tmP a1 b2 - tmP a2 b1) := rfl
  generalize tmP a1 b2 = x at *
  generalize tmP a2 b1 = y at *
  have u1 : IntKind.i64.wrap (x - y) = x - y := IntWalk.i64_in _ (by omega)
  have hp : Blk ((w.alloc (.cells #[.int .i32 a0, .int .i32 a1, .int .i32 a2] 57)).alloc (.cells #[.int .i32 b0, .int .i32 b1, .int .i32 b2] 57)) w.heap.size 57 #[.int .i32 a0, .int .i32 a1, .int .i32 a2] := (Blk.new w _ _).alloc _
  have hq : Blk ((w.alloc (.cells #[.int .i32 a0, .int .i32 a1, .int .i32 a2] 57)).alloc (.cells #[.int .i32 b0, .int .i32 b1, .int .i32 b2] 57)) (w.heap.size + 1) 57 #[.int .i32 b0, .int .i32 b1, .int .i32 b2] := by have := Blk.new (w.alloc (.cells #[.int .i32 a0, .int .i32 a1, .int .i32 a2] 57)) 57 #[.int .i32 b0, .int .i32 b1, .int .i32 b2]; simpa using this
  have hb : Below w.heap.size w ((w.alloc (.cells #[.int .i32 a0, .int .i32 a1, .int .i32 a2] 57)).alloc (.cells #[.int .i32 b0, .int .i32 b1, .int .i32 b2] 57)) := ((Below.refl _ w).alloc (Nat.le_refl _) _).alloc (by simp) _
  clear t1 t2
  go_enter Try.func40, Try.ntmps40
  go_wp2_with fail
  generalize (w.alloc (.cells #[.int .i32 a0, .int .i32 a1, .int .i32 a2] 57)).alloc (.cells #[.int .i32 b0, .int .i32 b1, .int .i32 b2] 57) = W0 at *
  refine wp_region_noPanic ?_
  refine wp_region_held_drew (S := (fun w' : World => w'.cell? ⟨w.heap.size, 0, none⟩ = some (.int .i32 a0) ∧ w'.cell? ⟨w.heap.size, 1, none⟩ = some (.int .i32 a1) ∧ w'.cell? ⟨w.heap.size, 2, none⟩ = some (.int .i32 a2) ∧ w'.cell? ⟨w.heap.size + 1, 0, none⟩ = some (.int .i32 b0) ∧ w'.cell? ⟨w.heap.size + 1, 1, none⟩ = some (.int .i32 b1) ∧ w'.cell? ⟨w.heap.size + 1, 2, none⟩ = some (.int .i32 b2))) (by kernel_rfl) ⟨hp.cell 0, hp.cell 1, hp.cell 2, hq.cell 0, hq.cell 1, hq.cell 2⟩ (fun hHeld => ?_)
  refine (show wpAnyH _ _ _ _ _ 16 _ _ _ from ?_)
  try (simp only [Act.put, List.setIfInBounds_toArray, List.set_cons_zero, List.set_cons_succ])
  replace hp := hp.drew
  replace hq := hq.drew
  replace hb := hb.drew
  generalize W0.drew = W1 at *
  refine tk 0 hHeld ?_
  refine tk 1 hHeld ?_
  refine tk 2 hHeld ?_
  refine tk 3 hHeld ?_
  refine tk 4 hHeld ?_
  refine tk 5 hHeld ?_
  refine tk 7 hHeld ?_
  refine tk 8 hHeld ?_
  refine tk 9 hHeld ?_
  refine tk 10 hHeld ?_
  refine tk 11 hHeld ?_
  refine tk 12 hHeld ?_
  refine rd1 6 (fun K hK => ?_)
  go_simp
  refine (H1.out _).mono ?_
  rintro e w2x ⟨rfl, b2x⟩
  go_wp2_with fail
  refine hK.out _ _ ⟨(hp.below b2x hp.lt).cell 0, (hp.below b2x hp.lt).cell 1, (hp.below b2x hp.lt).cell 2, (hq.below b2x hq.lt).cell 0, (hq.below b2x hq.lt).cell 1, (hq.below b2x hq.lt).cell 2⟩ (fun hHeld => ?_)
  clear hK K
  try (simp only [Act.put, List.setIfInBounds_toArray, List.set_cons_zero, List.set_cons_succ])
  refine rd1 13 (fun K hK => ?_)
  go_simp
  refine (H2.out _).mono ?_
  rintro e w3x ⟨rfl, b3x⟩
  go_wp2_with fail
  have B3x := b2x.on b3x
  refine hK.out _ _ ⟨(hp.below B3x hp.lt).cell 0, (hp.below B3x hp.lt).cell 1, (hp.below B3x hp.lt).cell 2, (hq.below B3x hq.lt).cell 0, (hq.below B3x hq.lt).cell 1, (hq.below B3x hq.lt).cell 2⟩ (fun hHeld => ?_)
  clear hK K
  try (simp only [Act.put, List.setIfInBounds_toArray, List.set_cons_zero, List.set_cons_succ])
  refine tk 14 hHeld ?_
  refine tk 15 hHeld ?_
  refine wpAnyH_done ?hru4 ?hqu4 _
  case hru4 => kernel_rfl
  refine NoPanic.normal ?_
  go_wp2
  go_ret
  exact ⟨by rw [HA.out]; rfl, hb.on B3x⟩

set_option maxHeartbeats 4000000 in
theorem t_across1 (a0 a1 a2 b0 b1 b2 : Int) (w : World) (ia0 : I32 a0) (ia1 : I32 a1) (ia2 : I32 a2) (ib0 : I32 b0) (ib1 : I32 b1) (ib2 : I32 b2) :
    Calls Try.prog 40 #[.agg #[.int .i32 a0, .int .i32 a1, .int .i32 a2], .agg #[.int .i32 b0, .int .i32 b1, .int .i32 b2], .int .i64 1] w fun e w' => e = .returned (.int .i64 (acP a2 a0 b2 b0)) ∧ Below w.heap.size w w' := by
  have H1 := hid fun w => t_by a2 b0 w ia2 ib0
  have H2 := hid fun w => t_by a0 b2 w ia0 ib2
  have t1 := tm_bd a2 b0 ia2 ib0
  have t2 := tm_bd a0 b2 ia0 ib2
  have HA : Hid (acP a2 a0 b2 b0 = tmP a2 b0 - tmP a0 b2) := rfl
  generalize tmP a2 b0 = x at *
  generalize tmP a0 b2 = y at *
  have u1 : IntKind.i64.wrap (x - y) = x - y := IntWalk.i64_in _ (by omega)
  have hp : Blk ((w.alloc (.cells #[.int .i32 a0, .int .i32 a1, .int .i32 a2] 57)).alloc (.cells #[.int .i32 b0, .int .i32 b1, .int .i32 b2] 57)) w.heap.size 57 #[.int .i32 a0, .int .i32 a1, .int .i32 a2] := (Blk.new w _ _).alloc _
  have hq : Blk ((w.alloc (.cells #[.int .i32 a0, .int .i32 a1, .int .i32 a2] 57)).alloc (.cells #[.int .i32 b0, .int .i32 b1, .int .i32 b2] 57)) (w.heap.size + 1) 57 #[.int .i32 b0, .int .i32 b1, .int .i32 b2] := by have := Blk.new (w.alloc (.cells #[.int .i32 a0, .int .i32 a1, .int .i32 a2] 57)) 57 #[.int .i32 b0, .int .i32 b1, .int .i32 b2]; simpa using this
  have hb : Below w.heap.size w ((w.alloc (.cells #[.int .i32 a0, .int .i32 a1, .int .i32 a2] 57)).alloc (.cells #[.int .i32 b0, .int .i32 b1, .int .i32 b2] 57)) := ((Below.refl _ w).alloc (Nat.le_refl _) _).alloc (by simp) _
  clear t1 t2
  go_enter Try.func40, Try.ntmps40
  go_wp2_with fail
  generalize (w.alloc (.cells #[.int .i32 a0, .int .i32 a1, .int .i32 a2] 57)).alloc (.cells #[.int .i32 b0, .int .i32 b1, .int .i32 b2] 57) = W0 at *
  refine wp_region_noPanic ?_
  refine wp_region_held_drew (S := (fun w' : World => w'.cell? ⟨w.heap.size, 0, none⟩ = some (.int .i32 a0) ∧ w'.cell? ⟨w.heap.size, 1, none⟩ = some (.int .i32 a1) ∧ w'.cell? ⟨w.heap.size, 2, none⟩ = some (.int .i32 a2) ∧ w'.cell? ⟨w.heap.size + 1, 0, none⟩ = some (.int .i32 b0) ∧ w'.cell? ⟨w.heap.size + 1, 1, none⟩ = some (.int .i32 b1) ∧ w'.cell? ⟨w.heap.size + 1, 2, none⟩ = some (.int .i32 b2))) (by kernel_rfl) ⟨hp.cell 0, hp.cell 1, hp.cell 2, hq.cell 0, hq.cell 1, hq.cell 2⟩ (fun hHeld => ?_)
  refine (show wpAnyH _ _ _ _ _ 16 _ _ _ from ?_)
  try (simp only [Act.put, List.setIfInBounds_toArray, List.set_cons_zero, List.set_cons_succ])
  replace hp := hp.drew
  replace hq := hq.drew
  replace hb := hb.drew
  generalize W0.drew = W5 at *
  refine tk 0 hHeld ?_
  refine tk 1 hHeld ?_
  refine tk 2 hHeld ?_
  refine tk 3 hHeld ?_
  refine tk 4 hHeld ?_
  refine tk 5 hHeld ?_
  refine tk 7 hHeld ?_
  refine tk 8 hHeld ?_
  refine tk 9 hHeld ?_
  refine tk 10 hHeld ?_
  refine tk 11 hHeld ?_
  refine tk 12 hHeld ?_
  refine rd1 6 (fun K hK => ?_)
  go_simp
  refine (H1.out _).mono ?_
  rintro e w6x ⟨rfl, b6x⟩
  go_wp2_with fail
  refine hK.out _ _ ⟨(hp.below b6x hp.lt).cell 0, (hp.below b6x hp.lt).cell 1, (hp.below b6x hp.lt).cell 2, (hq.below b6x hq.lt).cell 0, (hq.below b6x hq.lt).cell 1, (hq.below b6x hq.lt).cell 2⟩ (fun hHeld => ?_)
  clear hK K
  try (simp only [Act.put, List.setIfInBounds_toArray, List.set_cons_zero, List.set_cons_succ])
  refine rd1 13 (fun K hK => ?_)
  go_simp
  refine (H2.out _).mono ?_
  rintro e w7x ⟨rfl, b7x⟩
  go_wp2_with fail
  have B7x := b6x.on b7x
  refine hK.out _ _ ⟨(hp.below B7x hp.lt).cell 0, (hp.below B7x hp.lt).cell 1, (hp.below B7x hp.lt).cell 2, (hq.below B7x hq.lt).cell 0, (hq.below B7x hq.lt).cell 1, (hq.below B7x hq.lt).cell 2⟩ (fun hHeld => ?_)
  clear hK K
  try (simp only [Act.put, List.setIfInBounds_toArray, List.set_cons_zero, List.set_cons_succ])
  refine tk 14 hHeld ?_
  refine tk 15 hHeld ?_
  refine wpAnyH_done ?hru8 ?hqu8 _
  case hru8 => kernel_rfl
  refine NoPanic.normal ?_
  go_wp2
  go_ret
  exact ⟨by rw [HA.out]; rfl, hb.on B7x⟩

set_option maxHeartbeats 4000000 in
theorem t_across2 (a0 a1 a2 b0 b1 b2 : Int) (w : World) (ia0 : I32 a0) (ia1 : I32 a1) (ia2 : I32 a2) (ib0 : I32 b0) (ib1 : I32 b1) (ib2 : I32 b2) :
    Calls Try.prog 40 #[.agg #[.int .i32 a0, .int .i32 a1, .int .i32 a2], .agg #[.int .i32 b0, .int .i32 b1, .int .i32 b2], .int .i64 2] w fun e w' => e = .returned (.int .i64 (acP a0 a1 b0 b1)) ∧ Below w.heap.size w w' := by
  have H1 := hid fun w => t_by a0 b1 w ia0 ib1
  have H2 := hid fun w => t_by a1 b0 w ia1 ib0
  have t1 := tm_bd a0 b1 ia0 ib1
  have t2 := tm_bd a1 b0 ia1 ib0
  have HA : Hid (acP a0 a1 b0 b1 = tmP a0 b1 - tmP a1 b0) := rfl
  generalize tmP a0 b1 = x at *
  generalize tmP a1 b0 = y at *
  have u1 : IntKind.i64.wrap (x - y) = x - y := IntWalk.i64_in _ (by omega)
  have hp : Blk ((w.alloc (.cells #[.int .i32 a0, .int .i32 a1, .int .i32 a2] 57)).alloc (.cells #[.int .i32 b0, .int .i32 b1, .int .i32 b2] 57)) w.heap.size 57 #[.int .i32 a0, .int .i32 a1, .int .i32 a2] := (Blk.new w _ _).alloc _
  have hq : Blk ((w.alloc (.cells #[.int .i32 a0, .int .i32 a1, .int .i32 a2] 57)).alloc (.cells #[.int .i32 b0, .int .i32 b1, .int .i32 b2] 57)) (w.heap.size + 1) 57 #[.int .i32 b0, .int .i32 b1, .int .i32 b2] := by have := Blk.new (w.alloc (.cells #[.int .i32 a0, .int .i32 a1, .int .i32 a2] 57)) 57 #[.int .i32 b0, .int .i32 b1, .int .i32 b2]; simpa using this
  have hb : Below w.heap.size w ((w.alloc (.cells #[.int .i32 a0, .int .i32 a1, .int .i32 a2] 57)).alloc (.cells #[.int .i32 b0, .int .i32 b1, .int .i32 b2] 57)) := ((Below.refl _ w).alloc (Nat.le_refl _) _).alloc (by simp) _
  clear t1 t2
  go_enter Try.func40, Try.ntmps40
  go_wp2_with fail
  generalize (w.alloc (.cells #[.int .i32 a0, .int .i32 a1, .int .i32 a2] 57)).alloc (.cells #[.int .i32 b0, .int .i32 b1, .int .i32 b2] 57) = W0 at *
  refine wp_region_noPanic ?_
  refine wp_region_held_drew (S := (fun w' : World => w'.cell? ⟨w.heap.size, 0, none⟩ = some (.int .i32 a0) ∧ w'.cell? ⟨w.heap.size, 1, none⟩ = some (.int .i32 a1) ∧ w'.cell? ⟨w.heap.size, 2, none⟩ = some (.int .i32 a2) ∧ w'.cell? ⟨w.heap.size + 1, 0, none⟩ = some (.int .i32 b0) ∧ w'.cell? ⟨w.heap.size + 1, 1, none⟩ = some (.int .i32 b1) ∧ w'.cell? ⟨w.heap.size + 1, 2, none⟩ = some (.int .i32 b2))) (by kernel_rfl) ⟨hp.cell 0, hp.cell 1, hp.cell 2, hq.cell 0, hq.cell 1, hq.cell 2⟩ (fun hHeld => ?_)
  refine (show wpAnyH _ _ _ _ _ 16 _ _ _ from ?_)
  try (simp only [Act.put, List.setIfInBounds_toArray, List.set_cons_zero, List.set_cons_succ])
  replace hp := hp.drew
  replace hq := hq.drew
  replace hb := hb.drew
  generalize W0.drew = W9 at *
  refine tk 0 hHeld ?_
  refine tk 1 hHeld ?_
  refine tk 2 hHeld ?_
  refine tk 3 hHeld ?_
  refine tk 4 hHeld ?_
  refine tk 5 hHeld ?_
  refine tk 7 hHeld ?_
  refine tk 8 hHeld ?_
  refine tk 9 hHeld ?_
  refine tk 10 hHeld ?_
  refine tk 11 hHeld ?_
  refine tk 12 hHeld ?_
  refine rd1 6 (fun K hK => ?_)
  go_simp
  refine (H1.out _).mono ?_
  rintro e w10x ⟨rfl, b10x⟩
  go_wp2_with fail
  refine hK.out _ _ ⟨(hp.below b10x hp.lt).cell 0, (hp.below b10x hp.lt).cell 1, (hp.below b10x hp.lt).cell 2, (hq.below b10x hq.lt).cell 0, (hq.below b10x hq.lt).cell 1, (hq.below b10x hq.lt).cell 2⟩ (fun hHeld => ?_)
  clear hK K
  try (simp only [Act.put, List.setIfInBounds_toArray, List.set_cons_zero, List.set_cons_succ])
  refine rd1 13 (fun K hK => ?_)
  go_simp
  refine (H2.out _).mono ?_
  rintro e w11x ⟨rfl, b11x⟩
  go_wp2_with fail
  have B11x := b10x.on b11x
  refine hK.out _ _ ⟨(hp.below B11x hp.lt).cell 0, (hp.below B11x hp.lt).cell 1, (hp.below B11x hp.lt).cell 2, (hq.below B11x hq.lt).cell 0, (hq.below B11x hq.lt).cell 1, (hq.below B11x hq.lt).cell 2⟩ (fun hHeld => ?_)
  clear hK K
  try (simp only [Act.put, List.setIfInBounds_toArray, List.set_cons_zero, List.set_cons_succ])
  refine tk 14 hHeld ?_
  refine tk 15 hHeld ?_
  refine wpAnyH_done ?hru12 ?hqu12 _
  case hru12 => kernel_rfl
  refine NoPanic.normal ?_
  go_wp2
  go_ret
  exact ⟨by rw [HA.out]; rfl, hb.on B11x⟩
end Go.Proofs.Ytfogjfmpgfcolaa
