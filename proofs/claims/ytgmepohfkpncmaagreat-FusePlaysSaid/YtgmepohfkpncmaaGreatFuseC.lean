/- Chapter 42: one is turned by the rate. -/
import Derived.Test.YtgmepohfkpncmaaGreatFuseB
import Derived.Test.YtgmepohfkpncmaaGreatTurnR
namespace Go.Proofs.YtgmepohfkpncmaaGreat
open Go.RowKit
set_option linter.unusedVariables false
set_option linter.unusedSimpArgs false

/-- What one is turned to, and the cuts. -/
def tuQ (j : Nat) (z q0 q1 q2 q3 r0 r1 r2 d : Int) : Int := stO (stL q0 q1 q2 q3 r0 r1 r2 d) (stP j q0 q1 q2 q3 r0 r1 r2 d) z
def tuN (q0 q1 q2 q3 r0 r1 r2 d : Int) : Int := stN q0 q1 q2 q3 r0 r1 r2 d + (if 0 < farP (stL q0 q1 q2 q3 r0 r1 r2 d) then 0 else 1)
theorem tuN_bd (q0 q1 q2 q3 r0 r1 r2 d : Int) : 0 ≤ tuN q0 q1 q2 q3 r0 r1 r2 d ∧ tuN q0 q1 q2 q3 r0 r1 r2 d ≤ 8 := by
 have k := fun x => cutC_bd x
 unfold tuN stN
 have := k (stH r0 d)
 have := k (stH r1 d)
 have := k (stH r2 d)
 have := k (mulW q0 q1 q2 q3 1073741824 (clampP (stH r0 d)) (clampP (stH r1 d)) (clampP (stH r2 d)))
 have := k (mulX q0 q1 q2 q3 1073741824 (clampP (stH r0 d)) (clampP (stH r1 d)) (clampP (stH r2 d)))
 have := k (mulY q0 q1 q2 q3 1073741824 (clampP (stH r0 d)) (clampP (stH r1 d)) (clampP (stH r2 d)))
 have := k (mulZ q0 q1 q2 q3 1073741824 (clampP (stH r0 d)) (clampP (stH r1 d)) (clampP (stH r2 d)))
 split <;> omega
set_option maxRecDepth 20000 in
set_option maxHeartbeats 8000000 in
theorem f_turn (g : Nat) (q0 q1 q2 q3 b0 b1 b2 n c y0 y1 y2 x0 x1 x2 d r0 r1 r2 : Int) (w : World) (iq0 : I32 q0) (iq1 : I32 q1) (iq2 : I32 q2) (iq3 : I32 q3) (ir0 : I32 r0) (ir1 : I32 r1) (ir2 : I32 r2) (id : I32 d) (hc : 0 ≤ c ∧ c ≤ 2199023255552) (hn : 0 ≤ n ∧ n ≤ 2199023255552) (hB : Blk w g 56 #[.int .i32 q0, .int .i32 q1, .int .i32 q2, .int .i32 q3, .int .i32 b0, .int .i32 b1, .int .i32 b2, .int .i64 n, .int .i64 c, .int .i32 y0, .int .i32 y1, .int .i32 y2, .int .i32 x0, .int .i32 x1, .int .i32 x2, .int .i32 d, .int .i32 r0, .int .i32 r1, .int .i32 r2]) :
  Calls Tryz.prog 29 #[.pointer (some ⟨g, 0, none⟩)] w fun e w' => e = .returned (.tuple #[]) ∧ Blk w' g 56 #[.int .i32 (tuQ 0 1073741824 q0 q1 q2 q3 r0 r1 r2 d), .int .i32 (tuQ 1 0 q0 q1 q2 q3 r0 r1 r2 d), .int .i32 (tuQ 2 0 q0 q1 q2 q3 r0 r1 r2 d), .int .i32 (tuQ 3 0 q0 q1 q2 q3 r0 r1 r2 d), .int .i32 b0, .int .i32 b1, .int .i32 b2, .int .i64 (n + 1), .int .i64 (c + tuN q0 q1 q2 q3 r0 r1 r2 d), .int .i32 y0, .int .i32 y1, .int .i32 y2, .int .i32 x0, .int .i32 x1, .int .i32 x2, .int .i32 d, .int .i32 r0, .int .i32 r1, .int .i32 r2] ∧ w.grownBy w' (some g) := by
 have H0 := fun w => t_Step q0 q1 q2 q3 r0 r1 r2 d w iq0 iq1 iq2 iq3 ir0 ir1 ir2 id
 unfold Steps at H0
 have hk := tuN_bd q0 q1 q2 q3 r0 r1 r2 d
 have HN : Hid (tuN q0 q1 q2 q3 r0 r1 r2 d = stN q0 q1 q2 q3 r0 r1 r2 d + (if 0 < farP (stL q0 q1 q2 q3 r0 r1 r2 d) then 0 else 1)) := rfl
 rw [← HN.out] at H0
 clear HN
 have HQ0 : Hid (stO (stL q0 q1 q2 q3 r0 r1 r2 d) (stP 0 q0 q1 q2 q3 r0 r1 r2 d) 1073741824 = tuQ 0 1073741824 q0 q1 q2 q3 r0 r1 r2 d) := rfl
 rw [HQ0.out] at H0
 clear HQ0
 generalize tuQ 0 1073741824 q0 q1 q2 q3 r0 r1 r2 d = t0 at *
 have HQ1 : Hid (stO (stL q0 q1 q2 q3 r0 r1 r2 d) (stP 1 q0 q1 q2 q3 r0 r1 r2 d) 0 = tuQ 1 0 q0 q1 q2 q3 r0 r1 r2 d) := rfl
 rw [HQ1.out] at H0
 clear HQ1
 generalize tuQ 1 0 q0 q1 q2 q3 r0 r1 r2 d = t1 at *
 have HQ2 : Hid (stO (stL q0 q1 q2 q3 r0 r1 r2 d) (stP 2 q0 q1 q2 q3 r0 r1 r2 d) 0 = tuQ 2 0 q0 q1 q2 q3 r0 r1 r2 d) := rfl
 rw [HQ2.out] at H0
 clear HQ2
 generalize tuQ 2 0 q0 q1 q2 q3 r0 r1 r2 d = t2 at *
 have HQ3 : Hid (stO (stL q0 q1 q2 q3 r0 r1 r2 d) (stP 3 q0 q1 q2 q3 r0 r1 r2 d) 0 = tuQ 3 0 q0 q1 q2 q3 r0 r1 r2 d) := rfl
 rw [HQ3.out] at H0
 clear HQ3
 generalize tuQ 3 0 q0 q1 q2 q3 r0 r1 r2 d = t3 at *
 generalize tuN q0 q1 q2 q3 r0 r1 r2 d = k at *
 have HS := hid H0
 clear H0 iq0 iq1 iq2 iq3 ir0 ir1 ir2 id
 have uc : wrap64 (c + k) = c + k := IntWalk.wrap64_in _ (by omega)
 have un : wrap64 (n + 1) = n + 1 := IntWalk.wrap64_in _ (by omega)
 have hg : w.grownBy w (some g) := World.grownBy.refl _ _
 clear hk hc hn
 go_enter Tryz.func29, Tryz.ntmps29
 go_upto_region 0 with fail
 go_cut [2, 3] from 4 to 20 (fun p m wx => ∃ a : Nat, p = .pointer (some ⟨a, 0, none⟩) ∧ m = .int .i64 k ∧ Blk wx a 23 #[.int .i32 t0, .int .i32 t1, .int .i32 t2, .int .i32 t3] ∧ Blk wx g 56 #[.int .i32 q0, .int .i32 q1, .int .i32 q2, .int .i32 q3, .int .i32 b0, .int .i32 b1, .int .i32 b2, .int .i64 n, .int .i64 c, .int .i32 y0, .int .i32 y1, .int .i32 y2, .int .i32 x0, .int .i32 x1, .int .i32 x2, .int .i32 d, .int .i32 r0, .int .i32 r1, .int .i32 r2] ∧ w.grownBy wx (some g))
 case first =>
  refine wp_region_noPanic ?_
  refine wp_region_held_drew (S := (fun w' : World => w'.cell? ⟨g, 0, none⟩ = some (.int .i32 q0) ∧ w'.cell? ⟨g, 1, none⟩ = some (.int .i32 q1) ∧ w'.cell? ⟨g, 2, none⟩ = some (.int .i32 q2) ∧ w'.cell? ⟨g, 3, none⟩ = some (.int .i32 q3) ∧ w'.cell? ⟨g, 15, none⟩ = some (.int .i32 d) ∧ w'.cell? ⟨g, 16, none⟩ = some (.int .i32 r0) ∧ w'.cell? ⟨g, 17, none⟩ = some (.int .i32 r1) ∧ w'.cell? ⟨g, 18, none⟩ = some (.int .i32 r2))) (by kernel_rfl) ⟨hB.cell 0, hB.cell 1, hB.cell 2, hB.cell 3, hB.cell 15, hB.cell 16, hB.cell 17, hB.cell 18⟩ (fun hH => ?_)
  refine (show wpAnyH _ _ _ _ _ 20 _ _ _ from ?_)
  try (simp only [Act.put, List.setIfInBounds_toArray, List.set_cons_zero, List.set_cons_succ])
  replace hB := hB.drew
  replace hg := only_drew hg
  generalize (w).drew = V1 at *
  refine tk 0 hH ?_
  refine tk 1 hH ?_
  refine tk 2 hH ?_
  refine tk 3 hH ?_
  refine tk 4 hH ?_
  refine tk 5 hH ?_
  refine tk 6 hH ?_
  refine tk 7 hH ?_
  refine tk 8 hH ?_
  refine tk 9 hH ?_
  refine tk 10 hH ?_
  refine tk 11 hH ?_
  refine tk 12 hH ?_
  refine rd2 13 17 (fun K hK => ?hc2q13) (fun K hK => ?hc2q17)
  case hc2q13 =>
   go_simp
   refine (HS.out _).mono ?_
   rintro e V3 ⟨rfl, bb⟩
   go_wp2_with fail
   replace hB := hB.below bb hB.lt
   replace hg := hg.trans (f_gr bb (some g))
   clear bb
   refine hK.out _ _ ⟨hB.cell 0, hB.cell 1, hB.cell 2, hB.cell 3, hB.cell 15, hB.cell 16, hB.cell 17, hB.cell 18⟩ (fun hH => ?_)
   clear hK K
   try (simp only [Act.put, List.setIfInBounds_toArray, List.set_cons_zero, List.set_cons_succ])
   refine tk 14 hH ?_
   refine tk 15 hH ?_
   refine tk 16 hH ?_
   refine rd1 17 (fun K hK => ?_)
   go_simp
   try go_wp2_with fail
   have l5hB := hB.lt
   replace hB := hB.alloc (.cells #[.int .i32 0, .int .i32 0, .int .i32 0, .int .i32 0] 23)
   have hz5 := Blk.new V3 23 #[.int .i32 0, .int .i32 0, .int .i32 0, .int .i32 0]
   have lz5 := hg.size
   replace hg := only_alloc hg (.cells #[.int .i32 0, .int .i32 0, .int .i32 0, .int .i32 0] 23)
   generalize V3.alloc (.cells #[.int .i32 0, .int .i32 0, .int .i32 0, .int .i32 0] 23) = V5 at *
   generalize V3.heap.size = az5 at *
   refine hK.out _ _ ⟨hB.cell 0, hB.cell 1, hB.cell 2, hB.cell 3, hB.cell 15, hB.cell 16, hB.cell 17, hB.cell 18⟩ (fun hH => ?_)
   clear hK K
   try (simp only [Act.put, List.setIfInBounds_toArray, List.set_cons_zero, List.set_cons_succ])
   refine rd1 18 (fun K hK => ?_)
   have cc0 : V5.cell? ⟨az5, 0, none⟩ = some (.int .i32 0) := hz5.cell 0
   have zz0 := hz5.frozen 0
   have cc1 : V5.cell? ⟨az5, 1, none⟩ = some (.int .i32 0) := hz5.cell 1
   have zz1 := hz5.frozen 1
   have cc2 : V5.cell? ⟨az5, 2, none⟩ = some (.int .i32 0) := hz5.cell 2
   have zz2 := hz5.frozen 2
   have cc3 : V5.cell? ⟨az5, 3, none⟩ = some (.int .i32 0) := hz5.cell 3
   have zz3 := hz5.frozen 3
   go_simp
   try go_wp2_with fail
   replace hB := ((((hB.fr az5 0 (by omega) (.int .i32 t0)).fr az5 1 (by omega) (.int .i32 t1)).fr az5 2 (by omega) (.int .i32 t2)).fr az5 3 (by omega) (.int .i32 t3))
   clear cc0 zz0 cc1 zz1 cc2 zz2 cc3 zz3
   replace hz5 := ((((hz5.set_ 0 (.int .i32 t0)).set_ 1 (.int .i32 t1)).set_ 2 (.int .i32 t2)).set_ 3 (.int .i32 t3))
   replace hg := (only_setCell (only_setCell (only_setCell (only_setCell hg (p := ⟨az5, 0, none⟩) (.inr (by dsimp only; omega)) (.int .i32 t0)) (p := ⟨az5, 1, none⟩) (.inr (by dsimp only; omega)) (.int .i32 t1)) (p := ⟨az5, 2, none⟩) (.inr (by dsimp only; omega)) (.int .i32 t2)) (p := ⟨az5, 3, none⟩) (.inr (by dsimp only; omega)) (.int .i32 t3))
   generalize ((((V5.setCell ⟨az5, 0, none⟩ (.int .i32 t0)).setCell ⟨az5, 1, none⟩ (.int .i32 t1)).setCell ⟨az5, 2, none⟩ (.int .i32 t2)).setCell ⟨az5, 3, none⟩ (.int .i32 t3)) = V7 at *
   refine hK.out _ _ ⟨hB.cell 0, hB.cell 1, hB.cell 2, hB.cell 3, hB.cell 15, hB.cell 16, hB.cell 17, hB.cell 18⟩ (fun hH => ?_)
   clear hK K
   try (simp only [Act.put, List.setIfInBounds_toArray, List.set_cons_zero, List.set_cons_succ])
   refine tk 19 hH ?_
   refine wpAnyH_done (by kernel_rfl) ?_ _
   refine NoPanic.normal ?_
   try go_wp2_with fail
   go_meet
   exact ⟨az5, rfl, rfl, hz5, hB, hg⟩
  case hc2q17 =>
   go_simp
   try go_wp2_with fail
   have l8hB := hB.lt
   replace hB := hB.alloc (.cells #[.int .i32 0, .int .i32 0, .int .i32 0, .int .i32 0] 23)
   have hz8 := Blk.new V1 23 #[.int .i32 0, .int .i32 0, .int .i32 0, .int .i32 0]
   have lz8 := hg.size
   replace hg := only_alloc hg (.cells #[.int .i32 0, .int .i32 0, .int .i32 0, .int .i32 0] 23)
   generalize V1.alloc (.cells #[.int .i32 0, .int .i32 0, .int .i32 0, .int .i32 0] 23) = V8 at *
   generalize V1.heap.size = az8 at *
   refine hK.out _ _ ⟨hB.cell 0, hB.cell 1, hB.cell 2, hB.cell 3, hB.cell 15, hB.cell 16, hB.cell 17, hB.cell 18⟩ (fun hH => ?_)
   clear hK K
   try (simp only [Act.put, List.setIfInBounds_toArray, List.set_cons_zero, List.set_cons_succ])
   refine rd1 13 (fun K hK => ?_)
   go_simp
   refine (HS.out _).mono ?_
   rintro e V10 ⟨rfl, bb⟩
   go_wp2_with fail
   replace hB := hB.below bb hB.lt
   replace hz8 := hz8.below bb hz8.lt
   replace hg := hg.trans (f_gr bb (some g))
   clear bb
   refine hK.out _ _ ⟨hB.cell 0, hB.cell 1, hB.cell 2, hB.cell 3, hB.cell 15, hB.cell 16, hB.cell 17, hB.cell 18⟩ (fun hH => ?_)
   clear hK K
   try (simp only [Act.put, List.setIfInBounds_toArray, List.set_cons_zero, List.set_cons_succ])
   refine tk 14 hH ?_
   refine tk 15 hH ?_
   refine tk 16 hH ?_
   refine rd1 18 (fun K hK => ?_)
   have cc0 : V10.cell? ⟨az8, 0, none⟩ = some (.int .i32 0) := hz8.cell 0
   have zz0 := hz8.frozen 0
   have cc1 : V10.cell? ⟨az8, 1, none⟩ = some (.int .i32 0) := hz8.cell 1
   have zz1 := hz8.frozen 1
   have cc2 : V10.cell? ⟨az8, 2, none⟩ = some (.int .i32 0) := hz8.cell 2
   have zz2 := hz8.frozen 2
   have cc3 : V10.cell? ⟨az8, 3, none⟩ = some (.int .i32 0) := hz8.cell 3
   have zz3 := hz8.frozen 3
   go_simp
   try go_wp2_with fail
   replace hB := ((((hB.fr az8 0 (by omega) (.int .i32 t0)).fr az8 1 (by omega) (.int .i32 t1)).fr az8 2 (by omega) (.int .i32 t2)).fr az8 3 (by omega) (.int .i32 t3))
   clear cc0 zz0 cc1 zz1 cc2 zz2 cc3 zz3
   replace hz8 := ((((hz8.set_ 0 (.int .i32 t0)).set_ 1 (.int .i32 t1)).set_ 2 (.int .i32 t2)).set_ 3 (.int .i32 t3))
   replace hg := (only_setCell (only_setCell (only_setCell (only_setCell hg (p := ⟨az8, 0, none⟩) (.inr (by dsimp only; omega)) (.int .i32 t0)) (p := ⟨az8, 1, none⟩) (.inr (by dsimp only; omega)) (.int .i32 t1)) (p := ⟨az8, 2, none⟩) (.inr (by dsimp only; omega)) (.int .i32 t2)) (p := ⟨az8, 3, none⟩) (.inr (by dsimp only; omega)) (.int .i32 t3))
   generalize ((((V10.setCell ⟨az8, 0, none⟩ (.int .i32 t0)).setCell ⟨az8, 1, none⟩ (.int .i32 t1)).setCell ⟨az8, 2, none⟩ (.int .i32 t2)).setCell ⟨az8, 3, none⟩ (.int .i32 t3)) = V12 at *
   refine hK.out _ _ ⟨hB.cell 0, hB.cell 1, hB.cell 2, hB.cell 3, hB.cell 15, hB.cell 16, hB.cell 17, hB.cell 18⟩ (fun hH => ?_)
   clear hK K
   try (simp only [Act.put, List.setIfInBounds_toArray, List.set_cons_zero, List.set_cons_succ])
   refine tk 19 hH ?_
   refine wpAnyH_done (by kernel_rfl) ?_ _
   refine NoPanic.normal ?_
   try go_wp2_with fail
   go_meet
   exact ⟨az8, rfl, rfl, hz8, hB, hg⟩
 case rest =>
  clear hB hg HS
  obtain ⟨a, rfl, rfl, ha, hB, hg⟩ := hcut
  have a0 : wc.cell? ⟨a, 0, none⟩ = some (.int .i32 t0) := ha.cell 0
  have c0 : wc.cell? ⟨g, 0, none⟩ = some (.int .i32 q0) := hB.cell 0
  have z0 := hB.frozen 0
  have a1 : wc.cell? ⟨a, 1, none⟩ = some (.int .i32 t1) := ha.cell 1
  have c1 : wc.cell? ⟨g, 1, none⟩ = some (.int .i32 q1) := hB.cell 1
  have z1 := hB.frozen 1
  have a2 : wc.cell? ⟨a, 2, none⟩ = some (.int .i32 t2) := ha.cell 2
  have c2 : wc.cell? ⟨g, 2, none⟩ = some (.int .i32 q2) := hB.cell 2
  have z2 := hB.frozen 2
  have a3 : wc.cell? ⟨a, 3, none⟩ = some (.int .i32 t3) := ha.cell 3
  have c3 : wc.cell? ⟨g, 3, none⟩ = some (.int .i32 q3) := hB.cell 3
  have z3 := hB.frozen 3
  have c7 : wc.cell? ⟨g, 7, none⟩ = some (.int .i64 n) := hB.cell 7
  have c8 : wc.cell? ⟨g, 8, none⟩ = some (.int .i64 c) := hB.cell 8
  have z7 := hB.frozen 7
  have z8 := hB.frozen 8
  go_wp2
  go_end0
  exact ⟨rfl, ((((((hB.set_ 0 (.int .i32 t0)).set_ 1 (.int .i32 t1)).set_ 2 (.int .i32 t2)).set_ 3 (.int .i32 t3)).set_ 8 (.int .i64 (c + k))).set_ 7 (.int .i64 (n + 1))), (only_set (only_set (only_set (only_set (only_set (only_set hg 0 (.int .i32 t0)) 1 (.int .i32 t1)) 2 (.int .i32 t2)) 3 (.int .i32 t3)) 8 (.int .i64 (c + k))) 7 (.int .i64 (n + 1)))⟩
end Go.Proofs.YtgmepohfkpncmaaGreat
