/- Chapter 13: a hand that is turned, and its rounds. -/
import Derived.Test.YtfogjfmpgfcolaaTurnH
namespace Go.Proofs.Ytfogjfmpgfcolaa
open Go.RowKit
set_option linter.unusedVariables false
set_option linter.unusedSimpArgs false

set_option maxHeartbeats 4000000 in
theorem t_turned_true (k : Nat) (x y a B : Int) (w : World) (hk : k < 31) (hB : 0 ≤ B ∧ B ≤ 1152921504606846976) (hx : -B ≤ x ∧ x ≤ B) (hy : -B ≤ y ∧ y ≤ B) (ha : -34359738368 ≤ a ∧ a ≤ 34359738368) :
    Calls Try.prog 86 #[.agg #[.int .i64 x, .int .i64 y, .int .i64 a], .int .i64 k, .bool true] w fun e w' => e = .returned (.agg #[.int .i64 (turnP k true x y a).1, .int .i64 (turnP k true x y a).2.1, .int .i64 (turnP k true x y a).2.2]) ∧ Below w.heap.size w w' := by
  have HA := hid fun w => t_angle k w hk
  have k1 : (0 : Int) ≤ (k : Int) := by omega
  have k2 : (k : Int) < 31 := by omega
  have hT := tab_bd k
  have HP : Hid (turnP k true x y a = (x - Int.tdiv y (2 ^ k), y + Int.tdiv x (2 ^ k), a - tabP k)) := rfl
  generalize turnP k true x y a = R at *
  obtain ⟨R0, R1, R2⟩ := R
  generalize tabP k = T at *
  obtain ⟨D, hD⟩ : ∃ D : Int, D = 2 ^ k := ⟨_, rfl⟩
  have hD0 : 1 ≤ D ∧ D ≤ 1073741824 := by
    have : ∀ k, k < 31 → (1:Int) ≤ 2 ^ k ∧ (2:Int) ^ k ≤ 1073741824 := by decide
    rw [hD]; exact this k hk
  have e1 : wrap64 ((2 : Int) ^ k) = D := by rw [← hD]; exact IntWalk.wrap64_in D (by omega)
  have e2 : ¬ (D = 0) := by omega
  rw [← hD] at HP
  have q1 := tdiv_le x B D (by omega) hx.1 hx.2
  have q2 := tdiv_le y B D (by omega) hy.1 hy.2
  have q3 : B / D ≤ B := Int.ediv_le_self _ hB.1
  have q4 : 0 ≤ B / D := Int.ediv_nonneg hB.1 (by omega)
  have w1 : IntKind.i64.wrap (x - y.tdiv D) = R0 := (IntWalk.i64_in _ (by omega)).trans (congrArg (fun p : Int × Int × Int => p.1) HP.out).symm
  have w2 : IntKind.i64.wrap (y + x.tdiv D) = R1 := (IntWalk.i64_in _ (by omega)).trans (congrArg (fun p : Int × Int × Int => p.2.1) HP.out).symm
  have w3 : IntKind.i64.wrap (a - T) = R2 := (IntWalk.i64_in _ (by omega)).trans (congrArg (fun p : Int × Int × Int => p.2.2) HP.out).symm
  have v1 : wrap64 (x.tdiv D) = x.tdiv D := IntWalk.wrap64_in _ (by omega)
  have v2 : wrap64 (y.tdiv D) = y.tdiv D := IntWalk.wrap64_in _ (by omega)
  have hp : Blk ((w.alloc (.cells #[.int .i64 x, .int .i64 y, .int .i64 a] 70)).alloc (.cells #[.int .i64 0, .int .i64 0, .int .i64 0] 70)) w.heap.size 70 #[.int .i64 x, .int .i64 y, .int .i64 a] := (Blk.new w _ _).alloc _
  have hr : Blk ((w.alloc (.cells #[.int .i64 x, .int .i64 y, .int .i64 a] 70)).alloc (.cells #[.int .i64 0, .int .i64 0, .int .i64 0] 70)) (w.heap.size + 1) 70 #[.int .i64 0, .int .i64 0, .int .i64 0] := by have := Blk.new (w.alloc (.cells #[.int .i64 x, .int .i64 y, .int .i64 a] 70)) 70 #[.int .i64 0, .int .i64 0, .int .i64 0]; simpa using this
  have hb : Below w.heap.size w ((w.alloc (.cells #[.int .i64 x, .int .i64 y, .int .i64 a] 70)).alloc (.cells #[.int .i64 0, .int .i64 0, .int .i64 0] 70)) := ((Below.refl _ w).alloc (Nat.le_refl _) _).alloc (by simp) _
  clear hD hD0 hT HP q1 q2 q3 q4 hx hy ha hB
  go_enter Try.func86, Try.ntmps86
  go_upto_region 2 with fail
  generalize (w.alloc (.cells #[.int .i64 x, .int .i64 y, .int .i64 a] 70)).alloc (.cells #[.int .i64 0, .int .i64 0, .int .i64 0] 70) = W0 at *
  have c0 : W0.cell? ⟨w.heap.size, 0, none⟩ = some (.int .i64 x) := hp.cell 0
  have c1 : W0.cell? ⟨w.heap.size, 1, none⟩ = some (.int .i64 y) := hp.cell 1
  go_quiet (fail)
  replace hp : Blk (W0.drewN nq) w.heap.size 70 #[.int .i64 x, .int .i64 y, .int .i64 a] := hp
  replace hr : Blk (W0.drewN nq) (w.heap.size + 1) 70 #[.int .i64 0, .int .i64 0, .int .i64 0] := hr
  replace hb : Below w.heap.size w (W0.drewN nq) := hb.drewN' nq
  clear c0 c1
  go_upto_region 4 with fail
  generalize W0.drewN nq = W1 at *
  refine wp_region_noPanic ?_
  refine wp_region_held_drew (S := (fun w' : World => w'.cell? ⟨w.heap.size, 0, none⟩ = some (.int .i64 x) ∧ w'.cell? ⟨w.heap.size, 1, none⟩ = some (.int .i64 y) ∧ w'.cell? ⟨w.heap.size, 2, none⟩ = some (.int .i64 a))) (by kernel_rfl) ⟨hp.cell 0, hp.cell 1, hp.cell 2⟩ (fun hHeld => ?_)
  refine (show wpAnyH _ _ _ _ _ 15 _ _ _ from ?_)
  try (simp only [Act.put, List.setIfInBounds_toArray, List.set_cons_zero, List.set_cons_succ])
  replace hp := hp.drew
  replace hr := hr.drew
  replace hb := hb.drew
  generalize W1.drew = W2 at *
  refine tk 0 hHeld ?_
  refine tk 1 hHeld ?_
  refine tk 2 hHeld ?_
  refine tk 3 hHeld ?_
  refine tk 4 hHeld ?_
  refine tk 5 hHeld ?_
  refine tk 6 hHeld ?_
  refine tk 7 hHeld ?_
  refine tk 8 hHeld ?_
  refine tk 9 hHeld ?_
  refine tk 10 hHeld ?_
  refine rd1 11 (fun K hK => ?_)
  go_simp
  refine (HA.out _).mono ?_
  rintro e W3 ⟨rfl, bb⟩
  go_wp2_with fail
  replace hp := hp.below bb hp.lt
  replace hr := hr.below bb hr.lt
  replace hb := hb.trans (bb.mono hb.size)
  refine hK.out _ _ ⟨hp.cell 0, hp.cell 1, hp.cell 2⟩ (fun hHeld => ?_)
  clear hK K
  try (simp only [Act.put, List.setIfInBounds_toArray, List.set_cons_zero, List.set_cons_succ])
  refine tk 12 hHeld ?_
  refine tk 13 hHeld ?_
  refine rd1 14 (fun K hK => ?_)
  have d0 : W3.cell? ⟨w.heap.size + 1, 0, none⟩ = some (.int .i64 0) := hr.cell 0
  have z0 := hr.frozen 0
  have d1 : W3.cell? ⟨w.heap.size + 1, 1, none⟩ = some (.int .i64 0) := hr.cell 1
  have z1 := hr.frozen 1
  have d2 : W3.cell? ⟨w.heap.size + 1, 2, none⟩ = some (.int .i64 0) := hr.cell 2
  have z2 := hr.frozen 2
  go_simp
  try go_wp2_with fail
  have hf : Blk (((W3.setCell ⟨w.heap.size + 1, 0, none⟩ (.int .i64 R0)).setCell ⟨w.heap.size + 1, 1, none⟩ (.int .i64 R1)).setCell ⟨w.heap.size + 1, 2, none⟩ (.int .i64 R2)) (w.heap.size + 1) 70 #[.int .i64 R0, .int .i64 R1, .int .i64 R2] := (((hr.set_ 0 (.int .i64 R0)).set_ 1 (.int .i64 R1)).set_ 2 (.int .i64 R2))
  have hbf : Below w.heap.size w (((W3.setCell ⟨w.heap.size + 1, 0, none⟩ (.int .i64 R0)).setCell ⟨w.heap.size + 1, 1, none⟩ (.int .i64 R1)).setCell ⟨w.heap.size + 1, 2, none⟩ (.int .i64 R2)) := (((hb.setCell (p := ⟨w.heap.size + 1, 0, none⟩) (by dsimp only; omega) (.int .i64 R0)).setCell (p := ⟨w.heap.size + 1, 1, none⟩) (by dsimp only; omega) (.int .i64 R1)).setCell (p := ⟨w.heap.size + 1, 2, none⟩) (by dsimp only; omega) (.int .i64 R2))
  have hpf : Blk (((W3.setCell ⟨w.heap.size + 1, 0, none⟩ (.int .i64 R0)).setCell ⟨w.heap.size + 1, 1, none⟩ (.int .i64 R1)).setCell ⟨w.heap.size + 1, 2, none⟩ (.int .i64 R2)) w.heap.size 70 #[.int .i64 x, .int .i64 y, .int .i64 a] := (((hp.far (p := ⟨w.heap.size + 1, 0, none⟩) (by dsimp only; omega) (.int .i64 R0)).far (p := ⟨w.heap.size + 1, 1, none⟩) (by dsimp only; omega) (.int .i64 R1)).far (p := ⟨w.heap.size + 1, 2, none⟩) (by dsimp only; omega) (.int .i64 R2))
  generalize (((W3.setCell ⟨w.heap.size + 1, 0, none⟩ (.int .i64 R0)).setCell ⟨w.heap.size + 1, 1, none⟩ (.int .i64 R1)).setCell ⟨w.heap.size + 1, 2, none⟩ (.int .i64 R2)) = wf at *
  refine hK.out _ _ ⟨hpf.cell 0, hpf.cell 1, hpf.cell 2⟩ (fun hHeld => ?_)
  clear hK K
  try (simp only [Act.put, List.setIfInBounds_toArray, List.set_cons_zero, List.set_cons_succ])
  refine wpAnyH_done ?hr1 ?hq1 _
  case hr1 => kernel_rfl
  refine NoPanic.normal ?_
  go_wp2_with fail
  have f0 : wf.cell? ⟨w.heap.size + 1, 0, none⟩ = some (.int .i64 R0) := hf.cell 0
  have f1 : wf.cell? ⟨w.heap.size + 1, 1, none⟩ = some (.int .i64 R1) := hf.cell 1
  have f2 : wf.cell? ⟨w.heap.size + 1, 2, none⟩ = some (.int .i64 R2) := hf.cell 2
  try go_wp2
  simp [bodyPost, results, Try.results86, go_sem, f0, f1, f2]
  exact hbf
set_option maxHeartbeats 4000000 in
theorem t_turned_false (k : Nat) (x y a B : Int) (w : World) (hk : k < 31) (hB : 0 ≤ B ∧ B ≤ 1152921504606846976) (hx : -B ≤ x ∧ x ≤ B) (hy : -B ≤ y ∧ y ≤ B) (ha : -34359738368 ≤ a ∧ a ≤ 34359738368) :
    Calls Try.prog 86 #[.agg #[.int .i64 x, .int .i64 y, .int .i64 a], .int .i64 k, .bool false] w fun e w' => e = .returned (.agg #[.int .i64 (turnP k false x y a).1, .int .i64 (turnP k false x y a).2.1, .int .i64 (turnP k false x y a).2.2]) ∧ Below w.heap.size w w' := by
  have HA := hid fun w => t_angle k w hk
  have k1 : (0 : Int) ≤ (k : Int) := by omega
  have k2 : (k : Int) < 31 := by omega
  have hT := tab_bd k
  have HP : Hid (turnP k false x y a = (x + Int.tdiv y (2 ^ k), y - Int.tdiv x (2 ^ k), a + tabP k)) := rfl
  generalize turnP k false x y a = R at *
  obtain ⟨R0, R1, R2⟩ := R
  generalize tabP k = T at *
  obtain ⟨D, hD⟩ : ∃ D : Int, D = 2 ^ k := ⟨_, rfl⟩
  have hD0 : 1 ≤ D ∧ D ≤ 1073741824 := by
    have : ∀ k, k < 31 → (1:Int) ≤ 2 ^ k ∧ (2:Int) ^ k ≤ 1073741824 := by decide
    rw [hD]; exact this k hk
  have e1 : wrap64 ((2 : Int) ^ k) = D := by rw [← hD]; exact IntWalk.wrap64_in D (by omega)
  have e2 : ¬ (D = 0) := by omega
  rw [← hD] at HP
  have q1 := tdiv_le x B D (by omega) hx.1 hx.2
  have q2 := tdiv_le y B D (by omega) hy.1 hy.2
  have q3 : B / D ≤ B := Int.ediv_le_self _ hB.1
  have q4 : 0 ≤ B / D := Int.ediv_nonneg hB.1 (by omega)
  have w1 : IntKind.i64.wrap (x + y.tdiv D) = R0 := (IntWalk.i64_in _ (by omega)).trans (congrArg (fun p : Int × Int × Int => p.1) HP.out).symm
  have w2 : IntKind.i64.wrap (y - x.tdiv D) = R1 := (IntWalk.i64_in _ (by omega)).trans (congrArg (fun p : Int × Int × Int => p.2.1) HP.out).symm
  have w3 : IntKind.i64.wrap (a + T) = R2 := (IntWalk.i64_in _ (by omega)).trans (congrArg (fun p : Int × Int × Int => p.2.2) HP.out).symm
  have v1 : wrap64 (x.tdiv D) = x.tdiv D := IntWalk.wrap64_in _ (by omega)
  have v2 : wrap64 (y.tdiv D) = y.tdiv D := IntWalk.wrap64_in _ (by omega)
  have hp : Blk ((w.alloc (.cells #[.int .i64 x, .int .i64 y, .int .i64 a] 70)).alloc (.cells #[.int .i64 0, .int .i64 0, .int .i64 0] 70)) w.heap.size 70 #[.int .i64 x, .int .i64 y, .int .i64 a] := (Blk.new w _ _).alloc _
  have hr : Blk ((w.alloc (.cells #[.int .i64 x, .int .i64 y, .int .i64 a] 70)).alloc (.cells #[.int .i64 0, .int .i64 0, .int .i64 0] 70)) (w.heap.size + 1) 70 #[.int .i64 0, .int .i64 0, .int .i64 0] := by have := Blk.new (w.alloc (.cells #[.int .i64 x, .int .i64 y, .int .i64 a] 70)) 70 #[.int .i64 0, .int .i64 0, .int .i64 0]; simpa using this
  have hb : Below w.heap.size w ((w.alloc (.cells #[.int .i64 x, .int .i64 y, .int .i64 a] 70)).alloc (.cells #[.int .i64 0, .int .i64 0, .int .i64 0] 70)) := ((Below.refl _ w).alloc (Nat.le_refl _) _).alloc (by simp) _
  clear hD hD0 hT HP q1 q2 q3 q4 hx hy ha hB
  go_enter Try.func86, Try.ntmps86
  go_upto_region 2 with fail
  generalize (w.alloc (.cells #[.int .i64 x, .int .i64 y, .int .i64 a] 70)).alloc (.cells #[.int .i64 0, .int .i64 0, .int .i64 0] 70) = W0 at *
  have c0 : W0.cell? ⟨w.heap.size, 0, none⟩ = some (.int .i64 x) := hp.cell 0
  have c1 : W0.cell? ⟨w.heap.size, 1, none⟩ = some (.int .i64 y) := hp.cell 1
  go_quiet (fail)
  replace hp : Blk (W0.drewN nq) w.heap.size 70 #[.int .i64 x, .int .i64 y, .int .i64 a] := hp
  replace hr : Blk (W0.drewN nq) (w.heap.size + 1) 70 #[.int .i64 0, .int .i64 0, .int .i64 0] := hr
  replace hb : Below w.heap.size w (W0.drewN nq) := hb.drewN' nq
  clear c0 c1
  go_upto_region 5 with fail
  generalize W0.drewN nq = W1 at *
  refine wp_region_noPanic ?_
  refine wp_region_held_drew (S := (fun w' : World => w'.cell? ⟨w.heap.size, 0, none⟩ = some (.int .i64 x) ∧ w'.cell? ⟨w.heap.size, 1, none⟩ = some (.int .i64 y) ∧ w'.cell? ⟨w.heap.size, 2, none⟩ = some (.int .i64 a))) (by kernel_rfl) ⟨hp.cell 0, hp.cell 1, hp.cell 2⟩ (fun hHeld => ?_)
  refine (show wpAnyH _ _ _ _ _ 15 _ _ _ from ?_)
  try (simp only [Act.put, List.setIfInBounds_toArray, List.set_cons_zero, List.set_cons_succ])
  replace hp := hp.drew
  replace hr := hr.drew
  replace hb := hb.drew
  generalize W1.drew = W2 at *
  refine tk 0 hHeld ?_
  refine tk 1 hHeld ?_
  refine tk 2 hHeld ?_
  refine tk 3 hHeld ?_
  refine tk 4 hHeld ?_
  refine tk 5 hHeld ?_
  refine tk 6 hHeld ?_
  refine tk 7 hHeld ?_
  refine tk 8 hHeld ?_
  refine tk 9 hHeld ?_
  refine tk 10 hHeld ?_
  refine rd1 11 (fun K hK => ?_)
  go_simp
  refine (HA.out _).mono ?_
  rintro e W3 ⟨rfl, bb⟩
  go_wp2_with fail
  replace hp := hp.below bb hp.lt
  replace hr := hr.below bb hr.lt
  replace hb := hb.trans (bb.mono hb.size)
  refine hK.out _ _ ⟨hp.cell 0, hp.cell 1, hp.cell 2⟩ (fun hHeld => ?_)
  clear hK K
  try (simp only [Act.put, List.setIfInBounds_toArray, List.set_cons_zero, List.set_cons_succ])
  refine tk 12 hHeld ?_
  refine tk 13 hHeld ?_
  refine rd1 14 (fun K hK => ?_)
  have d0 : W3.cell? ⟨w.heap.size + 1, 0, none⟩ = some (.int .i64 0) := hr.cell 0
  have z0 := hr.frozen 0
  have d1 : W3.cell? ⟨w.heap.size + 1, 1, none⟩ = some (.int .i64 0) := hr.cell 1
  have z1 := hr.frozen 1
  have d2 : W3.cell? ⟨w.heap.size + 1, 2, none⟩ = some (.int .i64 0) := hr.cell 2
  have z2 := hr.frozen 2
  go_simp
  try go_wp2_with fail
  have hf : Blk (((W3.setCell ⟨w.heap.size + 1, 0, none⟩ (.int .i64 R0)).setCell ⟨w.heap.size + 1, 1, none⟩ (.int .i64 R1)).setCell ⟨w.heap.size + 1, 2, none⟩ (.int .i64 R2)) (w.heap.size + 1) 70 #[.int .i64 R0, .int .i64 R1, .int .i64 R2] := (((hr.set_ 0 (.int .i64 R0)).set_ 1 (.int .i64 R1)).set_ 2 (.int .i64 R2))
  have hbf : Below w.heap.size w (((W3.setCell ⟨w.heap.size + 1, 0, none⟩ (.int .i64 R0)).setCell ⟨w.heap.size + 1, 1, none⟩ (.int .i64 R1)).setCell ⟨w.heap.size + 1, 2, none⟩ (.int .i64 R2)) := (((hb.setCell (p := ⟨w.heap.size + 1, 0, none⟩) (by dsimp only; omega) (.int .i64 R0)).setCell (p := ⟨w.heap.size + 1, 1, none⟩) (by dsimp only; omega) (.int .i64 R1)).setCell (p := ⟨w.heap.size + 1, 2, none⟩) (by dsimp only; omega) (.int .i64 R2))
  have hpf : Blk (((W3.setCell ⟨w.heap.size + 1, 0, none⟩ (.int .i64 R0)).setCell ⟨w.heap.size + 1, 1, none⟩ (.int .i64 R1)).setCell ⟨w.heap.size + 1, 2, none⟩ (.int .i64 R2)) w.heap.size 70 #[.int .i64 x, .int .i64 y, .int .i64 a] := (((hp.far (p := ⟨w.heap.size + 1, 0, none⟩) (by dsimp only; omega) (.int .i64 R0)).far (p := ⟨w.heap.size + 1, 1, none⟩) (by dsimp only; omega) (.int .i64 R1)).far (p := ⟨w.heap.size + 1, 2, none⟩) (by dsimp only; omega) (.int .i64 R2))
  generalize (((W3.setCell ⟨w.heap.size + 1, 0, none⟩ (.int .i64 R0)).setCell ⟨w.heap.size + 1, 1, none⟩ (.int .i64 R1)).setCell ⟨w.heap.size + 1, 2, none⟩ (.int .i64 R2)) = wf at *
  refine hK.out _ _ ⟨hpf.cell 0, hpf.cell 1, hpf.cell 2⟩ (fun hHeld => ?_)
  clear hK K
  try (simp only [Act.put, List.setIfInBounds_toArray, List.set_cons_zero, List.set_cons_succ])
  refine wpAnyH_done ?hr1 ?hq1 _
  case hr1 => kernel_rfl
  refine NoPanic.normal ?_
  go_wp2_with fail
  have f0 : wf.cell? ⟨w.heap.size + 1, 0, none⟩ = some (.int .i64 R0) := hf.cell 0
  have f1 : wf.cell? ⟨w.heap.size + 1, 1, none⟩ = some (.int .i64 R1) := hf.cell 1
  have f2 : wf.cell? ⟨w.heap.size + 1, 2, none⟩ = some (.int .i64 R2) := hf.cell 2
  try go_wp2
  simp [bodyPost, results, Try.results86, go_sem, f0, f1, f2]
  exact hbf
theorem t_turned (k : Nat) (up : Bool) (x y a B : Int) (w : World) (hk : k < 31) (hB : 0 ≤ B ∧ B ≤ 1152921504606846976) (hx : -B ≤ x ∧ x ≤ B) (hy : -B ≤ y ∧ y ≤ B) (ha : -34359738368 ≤ a ∧ a ≤ 34359738368) :
    Calls Try.prog 86 #[.agg #[.int .i64 x, .int .i64 y, .int .i64 a], .int .i64 k, .bool up] w fun e w' => e = .returned (.agg #[.int .i64 (turnP k up x y a).1, .int .i64 (turnP k up x y a).2.1, .int .i64 (turnP k up x y a).2.2]) ∧ Below w.heap.size w w' := by
  cases up
  · exact t_turned_false k x y a B w hk hB hx hy ha
  · exact t_turned_true k x y a B w hk hB hx hy ha

theorem c_Atan (x y a : Int) (w : World) :
    Calls Try.prog 49 #[.agg #[.int .i64 x, .int .i64 y, .int .i64 a]] w fun e w' => e = .returned (.tuple #[.bool (decide (y < 0)), .bool (y != 0)]) ∧ Below w.heap.size w w' := by
  have hp := Blk.new w 70 #[.int .i64 x, .int .i64 y, .int .i64 a]
  have hb : Below w.heap.size w (w.alloc (.cells #[.int .i64 x, .int .i64 y, .int .i64 a] 70)) := (Below.refl _ w).alloc (Nat.le_refl _) _
  have c1 : (w.alloc (.cells #[.int .i64 x, .int .i64 y, .int .i64 a] 70)).cell? ⟨w.heap.size, 1, none⟩ = some (.int .i64 y) := hp.cell 1
  go_enter Try.func49, Try.ntmps49
  go_wp2
  go_quiet (fail)
  go_wp2
  go_ret2
  exact ⟨rfl, hb.drewN' _⟩

theorem c_Circle (x y a : Int) (w : World) :
    Calls Try.prog 50 #[.agg #[.int .i64 x, .int .i64 y, .int .i64 a]] w fun e w' => e = .returned (.tuple #[.bool (decide (0 ≤ a)), .bool true]) ∧ Below w.heap.size w w' := by
  have hp := Blk.new w 70 #[.int .i64 x, .int .i64 y, .int .i64 a]
  have hb : Below w.heap.size w (w.alloc (.cells #[.int .i64 x, .int .i64 y, .int .i64 a] 70)) := (Below.refl _ w).alloc (Nat.le_refl _) _
  have c1 : (w.alloc (.cells #[.int .i64 x, .int .i64 y, .int .i64 a] 70)).cell? ⟨w.heap.size, 2, none⟩ = some (.int .i64 a) := hp.cell 2
  go_enter Try.func50, Try.ntmps50
  go_wp2
  go_ret2
  exact ⟨rfl, hb⟩
end Go.Proofs.Ytfogjfmpgfcolaa
