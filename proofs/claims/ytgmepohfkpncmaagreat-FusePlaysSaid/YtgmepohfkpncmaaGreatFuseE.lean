/- Chapter 42: rate and bias, by the error. -/
import Derived.Test.YtgmepohfkpncmaaGreatFuseD
import Derived.Test.YtgmepohfkpncmaaGreatVecF
namespace Go.Proofs.YtgmepohfkpncmaaGreat
open Go.RowKit
set_option linter.unusedVariables false
set_option linter.unusedSimpArgs false

def coP (e k : Int) : Int := clampP (tvP e k)
def coR (r e : Int) : Int := clampP (r + coP e 65536)
def coY (e d : Int) : Int := clampP (tvP (coP e 655) d)
def coB (b e d : Int) : Int := clampP (b - coY e d)
def coN (r0 r1 r2 b0 b1 b2 e0 e1 e2 d : Int) : Int := (cutC (tvP e0 65536) + cutC (tvP e1 65536) + cutC (tvP e2 65536)) + (cutC (r0 + coP e0 65536) + cutC (r1 + coP e1 65536) + cutC (r2 + coP e2 65536)) + (cutC (tvP e0 655) + cutC (tvP e1 655) + cutC (tvP e2 655)) + (cutC (tvP (coP e0 655) d) + cutC (tvP (coP e1 655) d) + cutC (tvP (coP e2 655) d)) + (cutC (b0 - coY e0 d) + cutC (b1 - coY e1 d) + cutC (b2 - coY e2 d))
theorem s3_bd (a b c : Int) : 0 ≤ cutC a + cutC b + cutC c ∧ cutC a + cutC b + cutC c ≤ 3 := by
 have := cutC_bd a
 have := cutC_bd b
 have := cutC_bd c
 omega
theorem coN_bd (r0 r1 r2 b0 b1 b2 e0 e1 e2 d : Int) : 0 ≤ coN r0 r1 r2 b0 b1 b2 e0 e1 e2 d ∧ coN r0 r1 r2 b0 b1 b2 e0 e1 e2 d ≤ 15 := by
 unfold coN
 have h := fun a b c => s3_bd a b c
 have h1 := h (tvP e0 65536) (tvP e1 65536) (tvP e2 65536)
 have h2 := h (r0 + coP e0 65536) (r1 + coP e1 65536) (r2 + coP e2 65536)
 have h3 := h (tvP e0 655) (tvP e1 655) (tvP e2 655)
 have h4 := h (tvP (coP e0 655) d) (tvP (coP e1 655) d) (tvP (coP e2 655) d)
 have h5 := h (b0 - coY e0 d) (b1 - coY e1 d) (b2 - coY e2 d)
 omega
set_option maxRecDepth 20000 in
set_option maxHeartbeats 8000000 in
theorem f_correctN (g : Nat) (q0 q1 q2 q3 b0 b1 b2 n c y0 y1 y2 x0 x1 x2 d r0 r1 r2 : Int) (w : World) (ix0 : I32 x0) (ix1 : I32 x1) (ix2 : I32 x2) (h : erOk x0 x1 x2 = false) (hB : Blk w g 56 #[.int .i32 q0, .int .i32 q1, .int .i32 q2, .int .i32 q3, .int .i32 b0, .int .i32 b1, .int .i32 b2, .int .i64 n, .int .i64 c, .int .i32 y0, .int .i32 y1, .int .i32 y2, .int .i32 x0, .int .i32 x1, .int .i32 x2, .int .i32 d, .int .i32 r0, .int .i32 r1, .int .i32 r2]) :
  Calls Tryz.prog 27 #[.pointer (some ⟨g, 0, none⟩)] w fun e w' => e = .returned (.tuple #[]) ∧ Blk w' g 56 #[.int .i32 q0, .int .i32 q1, .int .i32 q2, .int .i32 q3, .int .i32 b0, .int .i32 b1, .int .i32 b2, .int .i64 n, .int .i64 c, .int .i32 y0, .int .i32 y1, .int .i32 y2, .int .i32 x0, .int .i32 x1, .int .i32 x2, .int .i32 d, .int .i32 r0, .int .i32 r1, .int .i32 r2] ∧ w.grownBy w' (some g) := by
 have HE := hid fun w => f_ErrorN q0 q1 q2 q3 x0 x1 x2 w ix0 ix1 ix2 h
 have hg : w.grownBy w (some g) := World.grownBy.refl _ _
 clear h ix0 ix1 ix2
 go_enter Tryz.func27, Tryz.ntmps27
 go_upto_region 0 with fail
 go_cut [2, 3] from 5 to 17 (fun p m wx => ∃ a : Nat, p = .pointer (some ⟨a, 0, none⟩) ∧ m = .bool false ∧ Blk wx g 56 #[.int .i32 q0, .int .i32 q1, .int .i32 q2, .int .i32 q3, .int .i32 b0, .int .i32 b1, .int .i32 b2, .int .i64 n, .int .i64 c, .int .i32 y0, .int .i32 y1, .int .i32 y2, .int .i32 x0, .int .i32 x1, .int .i32 x2, .int .i32 d, .int .i32 r0, .int .i32 r1, .int .i32 r2] ∧ w.grownBy wx (some g))
 case first =>
  refine wp_region_noPanic ?_
  refine wp_region_held_drew (S := (fun w' : World => w'.cell? ⟨g, 0, none⟩ = some (.int .i32 q0) ∧ w'.cell? ⟨g, 1, none⟩ = some (.int .i32 q1) ∧ w'.cell? ⟨g, 2, none⟩ = some (.int .i32 q2) ∧ w'.cell? ⟨g, 3, none⟩ = some (.int .i32 q3) ∧ w'.cell? ⟨g, 12, none⟩ = some (.int .i32 x0) ∧ w'.cell? ⟨g, 13, none⟩ = some (.int .i32 x1) ∧ w'.cell? ⟨g, 14, none⟩ = some (.int .i32 x2))) (by kernel_rfl) ⟨hB.cell 0, hB.cell 1, hB.cell 2, hB.cell 3, hB.cell 12, hB.cell 13, hB.cell 14⟩ (fun hH => ?_)
  refine (show wpAnyH _ _ _ _ _ 16 _ _ _ from ?_)
  try (simp only [Act.put, List.setIfInBounds_toArray, List.set_cons_zero, List.set_cons_succ])
  replace hB := hB.drew
  replace hg := only_drew hg
  generalize (w).drew = V1 at *
  refine tk 0 hH ?_
  refine tk 1 hH ?_
  refine tk 2 hH ?_
  refine tk 3 hH ?_
  refine tk 4 hH ?_
  refine tk 5 hH ?_
  refine tk 6 hH ?_
  refine tk 7 hH ?_
  refine tk 8 hH ?_
  refine rd2 9 13 (fun K hK => ?hc2q9) (fun K hK => ?hc2q13)
  case hc2q9 =>
   go_simp
   refine (HE.out _).mono ?_
   rintro e V3 ⟨rfl, bb⟩
   go_wp2_with fail
   replace hB := hB.below bb hB.lt
   replace hg := hg.trans (f_gr bb (some g))
   clear bb
   refine hK.out _ _ ⟨hB.cell 0, hB.cell 1, hB.cell 2, hB.cell 3, hB.cell 12, hB.cell 13, hB.cell 14⟩ (fun hH => ?_)
   clear hK K
   try (simp only [Act.put, List.setIfInBounds_toArray, List.set_cons_zero, List.set_cons_succ])
   refine tk 10 hH ?_
   refine tk 11 hH ?_
   refine tk 12 hH ?_
   refine rd1 13 (fun K hK => ?_)
   go_simp
   try go_wp2_with fail
   have l5hB := hB.lt
   replace hB := hB.alloc (.cells #[.int .i32 0, .int .i32 0, .int .i32 0] 25)
   have hz5 := Blk.new V3 25 #[.int .i32 0, .int .i32 0, .int .i32 0]
   have lz5 := hg.size
   replace hg := only_alloc hg (.cells #[.int .i32 0, .int .i32 0, .int .i32 0] 25)
   generalize V3.alloc (.cells #[.int .i32 0, .int .i32 0, .int .i32 0] 25) = V5 at *
   generalize V3.heap.size = az5 at *
   refine hK.out _ _ ⟨hB.cell 0, hB.cell 1, hB.cell 2, hB.cell 3, hB.cell 12, hB.cell 13, hB.cell 14⟩ (fun hH => ?_)
   clear hK K
   try (simp only [Act.put, List.setIfInBounds_toArray, List.set_cons_zero, List.set_cons_succ])
   refine rd1 14 (fun K hK => ?_)
   have cc0 : V5.cell? ⟨az5, 0, none⟩ = some (.int .i32 0) := hz5.cell 0
   have zz0 := hz5.frozen 0
   have cc1 : V5.cell? ⟨az5, 1, none⟩ = some (.int .i32 0) := hz5.cell 1
   have zz1 := hz5.frozen 1
   have cc2 : V5.cell? ⟨az5, 2, none⟩ = some (.int .i32 0) := hz5.cell 2
   have zz2 := hz5.frozen 2
   go_simp
   try go_wp2_with fail
   replace hB := (((hB.fr az5 0 (by omega) (.int .i32 0)).fr az5 1 (by omega) (.int .i32 0)).fr az5 2 (by omega) (.int .i32 0))
   clear cc0 zz0 cc1 zz1 cc2 zz2
   replace hz5 := (((hz5.set_ 0 (.int .i32 0)).set_ 1 (.int .i32 0)).set_ 2 (.int .i32 0))
   replace hg := (only_setCell (only_setCell (only_setCell hg (p := ⟨az5, 0, none⟩) (.inr (by dsimp only; omega)) (.int .i32 0)) (p := ⟨az5, 1, none⟩) (.inr (by dsimp only; omega)) (.int .i32 0)) (p := ⟨az5, 2, none⟩) (.inr (by dsimp only; omega)) (.int .i32 0))
   generalize (((V5.setCell ⟨az5, 0, none⟩ (.int .i32 0)).setCell ⟨az5, 1, none⟩ (.int .i32 0)).setCell ⟨az5, 2, none⟩ (.int .i32 0)) = V7 at *
   refine hK.out _ _ ⟨hB.cell 0, hB.cell 1, hB.cell 2, hB.cell 3, hB.cell 12, hB.cell 13, hB.cell 14⟩ (fun hH => ?_)
   clear hK K
   try (simp only [Act.put, List.setIfInBounds_toArray, List.set_cons_zero, List.set_cons_succ])
   refine tk 15 hH ?_
   refine wpAnyH_done (by kernel_rfl) ?_ _
   refine NoPanic.normal ?_
   try go_wp2_with fail
   go_meet
   exact ⟨az5, rfl, rfl, hB, hg⟩
  case hc2q13 =>
   go_simp
   try go_wp2_with fail
   have l8hB := hB.lt
   replace hB := hB.alloc (.cells #[.int .i32 0, .int .i32 0, .int .i32 0] 25)
   have hz8 := Blk.new V1 25 #[.int .i32 0, .int .i32 0, .int .i32 0]
   have lz8 := hg.size
   replace hg := only_alloc hg (.cells #[.int .i32 0, .int .i32 0, .int .i32 0] 25)
   generalize V1.alloc (.cells #[.int .i32 0, .int .i32 0, .int .i32 0] 25) = V8 at *
   generalize V1.heap.size = az8 at *
   refine hK.out _ _ ⟨hB.cell 0, hB.cell 1, hB.cell 2, hB.cell 3, hB.cell 12, hB.cell 13, hB.cell 14⟩ (fun hH => ?_)
   clear hK K
   try (simp only [Act.put, List.setIfInBounds_toArray, List.set_cons_zero, List.set_cons_succ])
   refine rd1 9 (fun K hK => ?_)
   go_simp
   refine (HE.out _).mono ?_
   rintro e V10 ⟨rfl, bb⟩
   go_wp2_with fail
   replace hB := hB.below bb hB.lt
   replace hz8 := hz8.below bb hz8.lt
   replace hg := hg.trans (f_gr bb (some g))
   clear bb
   refine hK.out _ _ ⟨hB.cell 0, hB.cell 1, hB.cell 2, hB.cell 3, hB.cell 12, hB.cell 13, hB.cell 14⟩ (fun hH => ?_)
   clear hK K
   try (simp only [Act.put, List.setIfInBounds_toArray, List.set_cons_zero, List.set_cons_succ])
   refine tk 10 hH ?_
   refine tk 11 hH ?_
   refine tk 12 hH ?_
   refine rd1 14 (fun K hK => ?_)
   have cc0 : V10.cell? ⟨az8, 0, none⟩ = some (.int .i32 0) := hz8.cell 0
   have zz0 := hz8.frozen 0
   have cc1 : V10.cell? ⟨az8, 1, none⟩ = some (.int .i32 0) := hz8.cell 1
   have zz1 := hz8.frozen 1
   have cc2 : V10.cell? ⟨az8, 2, none⟩ = some (.int .i32 0) := hz8.cell 2
   have zz2 := hz8.frozen 2
   go_simp
   try go_wp2_with fail
   replace hB := (((hB.fr az8 0 (by omega) (.int .i32 0)).fr az8 1 (by omega) (.int .i32 0)).fr az8 2 (by omega) (.int .i32 0))
   clear cc0 zz0 cc1 zz1 cc2 zz2
   replace hz8 := (((hz8.set_ 0 (.int .i32 0)).set_ 1 (.int .i32 0)).set_ 2 (.int .i32 0))
   replace hg := (only_setCell (only_setCell (only_setCell hg (p := ⟨az8, 0, none⟩) (.inr (by dsimp only; omega)) (.int .i32 0)) (p := ⟨az8, 1, none⟩) (.inr (by dsimp only; omega)) (.int .i32 0)) (p := ⟨az8, 2, none⟩) (.inr (by dsimp only; omega)) (.int .i32 0))
   generalize (((V10.setCell ⟨az8, 0, none⟩ (.int .i32 0)).setCell ⟨az8, 1, none⟩ (.int .i32 0)).setCell ⟨az8, 2, none⟩ (.int .i32 0)) = V12 at *
   refine hK.out _ _ ⟨hB.cell 0, hB.cell 1, hB.cell 2, hB.cell 3, hB.cell 12, hB.cell 13, hB.cell 14⟩ (fun hH => ?_)
   clear hK K
   try (simp only [Act.put, List.setIfInBounds_toArray, List.set_cons_zero, List.set_cons_succ])
   refine tk 15 hH ?_
   refine wpAnyH_done (by kernel_rfl) ?_ _
   refine NoPanic.normal ?_
   try go_wp2_with fail
   go_meet
   exact ⟨az8, rfl, rfl, hB, hg⟩
 case rest =>
  clear hB hg HE
  obtain ⟨a, rfl, rfl, hB, hg⟩ := hcut
  go_wp2
  (try simp only [Exit.inBlock, Exit.then])
  refine bodyPost_ret (results_none rfl _ _ _) rfl ?_
  exact ⟨rfl, hB, hg⟩
set_option maxRecDepth 20000 in
set_option maxHeartbeats 16000000 in
theorem f_correctY (g : Nat) (q0 q1 q2 q3 b0 b1 b2 n c y0 y1 y2 x0 x1 x2 d r0 r1 r2 : Int) (w : World) (iq0 : I32 q0) (iq1 : I32 q1) (iq2 : I32 q2) (iq3 : I32 q3) (ix0 : I32 x0) (ix1 : I32 x1) (ix2 : I32 x2) (ir0 : I32 r0) (ir1 : I32 r1) (ir2 : I32 r2) (ib0 : I32 b0) (ib1 : I32 b1) (ib2 : I32 b2) (id : I32 d) (hc : 0 ≤ c ∧ c ≤ 2199023255552) (h : erOk x0 x1 x2 = true) (hB : Blk w g 56 #[.int .i32 q0, .int .i32 q1, .int .i32 q2, .int .i32 q3, .int .i32 b0, .int .i32 b1, .int .i32 b2, .int .i64 n, .int .i64 c, .int .i32 y0, .int .i32 y1, .int .i32 y2, .int .i32 x0, .int .i32 x1, .int .i32 x2, .int .i32 d, .int .i32 r0, .int .i32 r1, .int .i32 r2]) :
  Calls Tryz.prog 27 #[.pointer (some ⟨g, 0, none⟩)] w fun e w' => e = .returned (.tuple #[]) ∧ Blk w' g 56 #[.int .i32 q0, .int .i32 q1, .int .i32 q2, .int .i32 q3, .int .i32 (coB b0 (er0 q0 q1 q2 q3 x0 x1 x2) d), .int .i32 (coB b1 (er1 q0 q1 q2 q3 x0 x1 x2) d), .int .i32 (coB b2 (er2 q0 q1 q2 q3 x0 x1 x2) d), .int .i64 n, .int .i64 (c + coN r0 r1 r2 b0 b1 b2 (er0 q0 q1 q2 q3 x0 x1 x2) (er1 q0 q1 q2 q3 x0 x1 x2) (er2 q0 q1 q2 q3 x0 x1 x2) d), .int .i32 y0, .int .i32 y1, .int .i32 y2, .int .i32 x0, .int .i32 x1, .int .i32 x2, .int .i32 d, .int .i32 (coR r0 (er0 q0 q1 q2 q3 x0 x1 x2)), .int .i32 (coR r1 (er1 q0 q1 q2 q3 x0 x1 x2)), .int .i32 (coR r2 (er2 q0 q1 q2 q3 x0 x1 x2))] ∧ w.grownBy w' (some g) := by
 have HE := hid fun w => f_ErrorY q0 q1 q2 q3 x0 x1 x2 w iq0 iq1 iq2 iq3 ix0 ix1 ix2 h
 have hg : w.grownBy w (some g) := World.grownBy.refl _ _
 have ie0 : I32 (er0 q0 q1 q2 q3 x0 x1 x2) := paP_32 _ _ _ _
 have ie1 : I32 (er1 q0 q1 q2 q3 x0 x1 x2) := paP_32 _ _ _ _
 have ie2 : I32 (er2 q0 q1 q2 q3 x0 x1 x2) := paP_32 _ _ _ _
 generalize er0 q0 q1 q2 q3 x0 x1 x2 = e0 at *
 generalize er1 q0 q1 q2 q3 x0 x1 x2 = e1 at *
 generalize er2 q0 q1 q2 q3 x0 x1 x2 = e2 at *
 have HS1 := hid fun w => v_Scale e0 e1 e2 65536 w ie0 ie1 ie2 (by unfold I32; omega)
 have HS3 := hid fun w => v_Scale e0 e1 e2 655 w ie0 ie1 ie2 (by unfold I32; omega)
 have ip0 : I32 (clampP (tvP e0 65536)) := clampP_bd _
 have is0 : I32 (clampP (tvP e0 655)) := clampP_bd _
 have ip1 : I32 (clampP (tvP e1 65536)) := clampP_bd _
 have is1 : I32 (clampP (tvP e1 655)) := clampP_bd _
 have ip2 : I32 (clampP (tvP e2 65536)) := clampP_bd _
 have is2 : I32 (clampP (tvP e2 655)) := clampP_bd _
 have HA := hid fun w => v_Add r0 r1 r2 (clampP (tvP e0 65536)) (clampP (tvP e1 65536)) (clampP (tvP e2 65536)) w ir0 ir1 ir2 ip0 ip1 ip2
 have HS4 := hid fun w => v_Scale (clampP (tvP e0 655)) (clampP (tvP e1 655)) (clampP (tvP e2 655)) d w is0 is1 is2 id
 have iy0 : I32 (clampP (tvP (clampP (tvP e0 655)) d)) := clampP_bd _
 have iy1 : I32 (clampP (tvP (clampP (tvP e1 655)) d)) := clampP_bd _
 have iy2 : I32 (clampP (tvP (clampP (tvP e2 655)) d)) := clampP_bd _
 have HD := hid fun w => v_Sub b0 b1 b2 (clampP (tvP (clampP (tvP e0 655)) d)) (clampP (tvP (clampP (tvP e1 655)) d)) (clampP (tvP (clampP (tvP e2 655)) d)) w ib0 ib1 ib2 iy0 iy1 iy2
 have hN : coN r0 r1 r2 b0 b1 b2 e0 e1 e2 d = (cutC (tvP e0 65536) + cutC (tvP e1 65536) + cutC (tvP e2 65536)) + (cutC (r0 + clampP (tvP e0 65536)) + cutC (r1 + clampP (tvP e1 65536)) + cutC (r2 + clampP (tvP e2 65536))) + (cutC (tvP e0 655) + cutC (tvP e1 655) + cutC (tvP e2 655)) + (cutC (tvP (clampP (tvP e0 655)) d) + cutC (tvP (clampP (tvP e1 655)) d) + cutC (tvP (clampP (tvP e2 655)) d)) + (cutC (b0 - clampP (tvP (clampP (tvP e0 655)) d)) + cutC (b1 - clampP (tvP (clampP (tvP e1 655)) d)) + cutC (b2 - clampP (tvP (clampP (tvP e2 655)) d))) := rfl
 have hR0 : coR r0 e0 = clampP (r0 + clampP (tvP e0 65536)) := rfl
 have hb0 : coB b0 e0 d = clampP (b0 - clampP (tvP (clampP (tvP e0 655)) d)) := rfl
 have hR1 : coR r1 e1 = clampP (r1 + clampP (tvP e1 65536)) := rfl
 have hb1 : coB b1 e1 d = clampP (b1 - clampP (tvP (clampP (tvP e1 655)) d)) := rfl
 have hR2 : coR r2 e2 = clampP (r2 + clampP (tvP e2 65536)) := rfl
 have hb2 : coB b2 e2 d = clampP (b2 - clampP (tvP (clampP (tvP e2 655)) d)) := rfl
 rw [hN, hR0, hR1, hR2, hb0, hb1, hb2]
 clear hN hR0 hR1 hR2 hb0 hb1 hb2
 have k1b := s3_bd (tvP e0 65536) (tvP e1 65536) (tvP e2 65536)
 have k2b := s3_bd (r0 + clampP (tvP e0 65536)) (r1 + clampP (tvP e1 65536)) (r2 + clampP (tvP e2 65536))
 have k3b := s3_bd (tvP e0 655) (tvP e1 655) (tvP e2 655)
 have k4b := s3_bd (tvP (clampP (tvP e0 655)) d) (tvP (clampP (tvP e1 655)) d) (tvP (clampP (tvP e2 655)) d)
 have k5b := s3_bd (b0 - clampP (tvP (clampP (tvP e0 655)) d)) (b1 - clampP (tvP (clampP (tvP e1 655)) d)) (b2 - clampP (tvP (clampP (tvP e2 655)) d))
 clear iq0 iq1 iq2 iq3 ix0 ix1 ix2 ir0 ir1 ir2 ib0 ib1 ib2 id ie0 ie1 ie2 ip0 ip1 ip2 is0 is1 is2 iy0 iy1 iy2 h
 generalize cutC (tvP e0 65536) + cutC (tvP e1 65536) + cutC (tvP e2 65536) = k1 at *
 generalize cutC (r0 + clampP (tvP e0 65536)) + cutC (r1 + clampP (tvP e1 65536)) + cutC (r2 + clampP (tvP e2 65536)) = k2 at *
 generalize cutC (tvP e0 655) + cutC (tvP e1 655) + cutC (tvP e2 655) = k3 at *
 generalize cutC (tvP (clampP (tvP e0 655)) d) + cutC (tvP (clampP (tvP e1 655)) d) + cutC (tvP (clampP (tvP e2 655)) d) = k4 at *
 generalize cutC (b0 - clampP (tvP (clampP (tvP e0 655)) d)) + cutC (b1 - clampP (tvP (clampP (tvP e1 655)) d)) + cutC (b2 - clampP (tvP (clampP (tvP e2 655)) d)) = k5 at *
 generalize clampP (r0 + clampP (tvP e0 65536)) = rr0 at *
 generalize clampP (tvP e0 65536) = p0 at *
 generalize clampP (b0 - clampP (tvP (clampP (tvP e0 655)) d)) = bn0 at *
 generalize clampP (tvP (clampP (tvP e0 655)) d) = yy0 at *
 generalize clampP (tvP e0 655) = s0 at *
 generalize clampP (r1 + clampP (tvP e1 65536)) = rr1 at *
 generalize clampP (tvP e1 65536) = p1 at *
 generalize clampP (b1 - clampP (tvP (clampP (tvP e1 655)) d)) = bn1 at *
 generalize clampP (tvP (clampP (tvP e1 655)) d) = yy1 at *
 generalize clampP (tvP e1 655) = s1 at *
 generalize clampP (r2 + clampP (tvP e2 65536)) = rr2 at *
 generalize clampP (tvP e2 65536) = p2 at *
 generalize clampP (b2 - clampP (tvP (clampP (tvP e2 655)) d)) = bn2 at *
 generalize clampP (tvP (clampP (tvP e2 655)) d) = yy2 at *
 generalize clampP (tvP e2 655) = s2 at *
 have HN1 := hid fun w h => f_note g q0 q1 q2 q3 b0 b1 b2 n c y0 y1 y2 x0 x1 x2 d r0 r1 r2 p0 p1 p2 k1 w (by omega) h
 have HN2 := hid fun w h => f_note g q0 q1 q2 q3 b0 b1 b2 n (c + k1) y0 y1 y2 x0 x1 x2 d r0 r1 r2 rr0 rr1 rr2 k2 w (by omega) h
 have HN3 := hid fun w h => f_note g q0 q1 q2 q3 b0 b1 b2 n (c + k1 + k2) y0 y1 y2 x0 x1 x2 d rr0 rr1 rr2 s0 s1 s2 k3 w (by omega) h
 have HN4 := hid fun w h => f_note g q0 q1 q2 q3 b0 b1 b2 n (c + k1 + k2 + k3) y0 y1 y2 x0 x1 x2 d rr0 rr1 rr2 yy0 yy1 yy2 k4 w (by omega) h
 have HN5 := hid fun w h => f_note g q0 q1 q2 q3 b0 b1 b2 n (c + k1 + k2 + k3 + k4) y0 y1 y2 x0 x1 x2 d rr0 rr1 rr2 bn0 bn1 bn2 k5 w (by omega) h
 have hC : c + (k1 + k2 + k3 + k4 + k5) = c + k1 + k2 + k3 + k4 + k5 := by omega
 rw [hC]
 clear hC k1b k2b k3b k4b k5b hc
 go_enter Tryz.func27, Tryz.ntmps27
 go_upto_region 0 with fail
 go_cut [2, 3] from 5 to 17 (fun p m wx => ∃ a : Nat, p = .pointer (some ⟨a, 0, none⟩) ∧ m = .bool true ∧ g < a ∧ Blk wx a 25 #[.int .i32 e0, .int .i32 e1, .int .i32 e2] ∧ Blk wx g 56 #[.int .i32 q0, .int .i32 q1, .int .i32 q2, .int .i32 q3, .int .i32 b0, .int .i32 b1, .int .i32 b2, .int .i64 n, .int .i64 c, .int .i32 y0, .int .i32 y1, .int .i32 y2, .int .i32 x0, .int .i32 x1, .int .i32 x2, .int .i32 d, .int .i32 r0, .int .i32 r1, .int .i32 r2] ∧ w.grownBy wx (some g) ∧ w.heap.size ≤ a)
 case first =>
  refine wp_region_noPanic ?_
  refine wp_region_held_drew (S := (fun w' : World => w'.cell? ⟨g, 0, none⟩ = some (.int .i32 q0) ∧ w'.cell? ⟨g, 1, none⟩ = some (.int .i32 q1) ∧ w'.cell? ⟨g, 2, none⟩ = some (.int .i32 q2) ∧ w'.cell? ⟨g, 3, none⟩ = some (.int .i32 q3) ∧ w'.cell? ⟨g, 12, none⟩ = some (.int .i32 x0) ∧ w'.cell? ⟨g, 13, none⟩ = some (.int .i32 x1) ∧ w'.cell? ⟨g, 14, none⟩ = some (.int .i32 x2))) (by kernel_rfl) ⟨hB.cell 0, hB.cell 1, hB.cell 2, hB.cell 3, hB.cell 12, hB.cell 13, hB.cell 14⟩ (fun hH => ?_)
  refine (show wpAnyH _ _ _ _ _ 16 _ _ _ from ?_)
  try (simp only [Act.put, List.setIfInBounds_toArray, List.set_cons_zero, List.set_cons_succ])
  replace hB := hB.drew
  replace hg := only_drew hg
  generalize (w).drew = V13 at *
  refine tk 0 hH ?_
  refine tk 1 hH ?_
  refine tk 2 hH ?_
  refine tk 3 hH ?_
  refine tk 4 hH ?_
  refine tk 5 hH ?_
  refine tk 6 hH ?_
  refine tk 7 hH ?_
  refine tk 8 hH ?_
  refine rd2 9 13 (fun K hK => ?hc14q9) (fun K hK => ?hc14q13)
  case hc14q9 =>
   go_simp
   refine (HE.out _).mono ?_
   rintro e V15 ⟨rfl, bb⟩
   go_wp2_with fail
   replace hB := hB.below bb hB.lt
   replace hg := hg.trans (f_gr bb (some g))
   clear bb
   refine hK.out _ _ ⟨hB.cell 0, hB.cell 1, hB.cell 2, hB.cell 3, hB.cell 12, hB.cell 13, hB.cell 14⟩ (fun hH => ?_)
   clear hK K
   try (simp only [Act.put, List.setIfInBounds_toArray, List.set_cons_zero, List.set_cons_succ])
   refine tk 10 hH ?_
   refine tk 11 hH ?_
   refine tk 12 hH ?_
   refine rd1 13 (fun K hK => ?_)
   go_simp
   try go_wp2_with fail
   have l17hB := hB.lt
   replace hB := hB.alloc (.cells #[.int .i32 0, .int .i32 0, .int .i32 0] 25)
   have hz17 := Blk.new V15 25 #[.int .i32 0, .int .i32 0, .int .i32 0]
   have lz17 := hg.size
   replace hg := only_alloc hg (.cells #[.int .i32 0, .int .i32 0, .int .i32 0] 25)
   generalize V15.alloc (.cells #[.int .i32 0, .int .i32 0, .int .i32 0] 25) = V17 at *
   generalize V15.heap.size = az17 at *
   refine hK.out _ _ ⟨hB.cell 0, hB.cell 1, hB.cell 2, hB.cell 3, hB.cell 12, hB.cell 13, hB.cell 14⟩ (fun hH => ?_)
   clear hK K
   try (simp only [Act.put, List.setIfInBounds_toArray, List.set_cons_zero, List.set_cons_succ])
   refine rd1 14 (fun K hK => ?_)
   have cc0 : V17.cell? ⟨az17, 0, none⟩ = some (.int .i32 0) := hz17.cell 0
   have zz0 := hz17.frozen 0
   have cc1 : V17.cell? ⟨az17, 1, none⟩ = some (.int .i32 0) := hz17.cell 1
   have zz1 := hz17.frozen 1
   have cc2 : V17.cell? ⟨az17, 2, none⟩ = some (.int .i32 0) := hz17.cell 2
   have zz2 := hz17.frozen 2
   go_simp
   try go_wp2_with fail
   replace hB := (((hB.fr az17 0 (by omega) (.int .i32 e0)).fr az17 1 (by omega) (.int .i32 e1)).fr az17 2 (by omega) (.int .i32 e2))
   clear cc0 zz0 cc1 zz1 cc2 zz2
   replace hz17 := (((hz17.set_ 0 (.int .i32 e0)).set_ 1 (.int .i32 e1)).set_ 2 (.int .i32 e2))
   replace hg := (only_setCell (only_setCell (only_setCell hg (p := ⟨az17, 0, none⟩) (.inr (by dsimp only; omega)) (.int .i32 e0)) (p := ⟨az17, 1, none⟩) (.inr (by dsimp only; omega)) (.int .i32 e1)) (p := ⟨az17, 2, none⟩) (.inr (by dsimp only; omega)) (.int .i32 e2))
   generalize (((V17.setCell ⟨az17, 0, none⟩ (.int .i32 e0)).setCell ⟨az17, 1, none⟩ (.int .i32 e1)).setCell ⟨az17, 2, none⟩ (.int .i32 e2)) = V19 at *
   refine hK.out _ _ ⟨hB.cell 0, hB.cell 1, hB.cell 2, hB.cell 3, hB.cell 12, hB.cell 13, hB.cell 14⟩ (fun hH => ?_)
   clear hK K
   try (simp only [Act.put, List.setIfInBounds_toArray, List.set_cons_zero, List.set_cons_succ])
   refine tk 15 hH ?_
   refine wpAnyH_done (by kernel_rfl) ?_ _
   refine NoPanic.normal ?_
   try go_wp2_with fail
   go_meet
   exact ⟨az17, rfl, rfl, by omega, hz17, hB, hg, by omega⟩
  case hc14q13 =>
   go_simp
   try go_wp2_with fail
   have l20hB := hB.lt
   replace hB := hB.alloc (.cells #[.int .i32 0, .int .i32 0, .int .i32 0] 25)
   have hz20 := Blk.new V13 25 #[.int .i32 0, .int .i32 0, .int .i32 0]
   have lz20 := hg.size
   replace hg := only_alloc hg (.cells #[.int .i32 0, .int .i32 0, .int .i32 0] 25)
   generalize V13.alloc (.cells #[.int .i32 0, .int .i32 0, .int .i32 0] 25) = V20 at *
   generalize V13.heap.size = az20 at *
   refine hK.out _ _ ⟨hB.cell 0, hB.cell 1, hB.cell 2, hB.cell 3, hB.cell 12, hB.cell 13, hB.cell 14⟩ (fun hH => ?_)
   clear hK K
   try (simp only [Act.put, List.setIfInBounds_toArray, List.set_cons_zero, List.set_cons_succ])
   refine rd1 9 (fun K hK => ?_)
   go_simp
   refine (HE.out _).mono ?_
   rintro e V22 ⟨rfl, bb⟩
   go_wp2_with fail
   replace hB := hB.below bb hB.lt
   replace hz20 := hz20.below bb hz20.lt
   replace hg := hg.trans (f_gr bb (some g))
   clear bb
   refine hK.out _ _ ⟨hB.cell 0, hB.cell 1, hB.cell 2, hB.cell 3, hB.cell 12, hB.cell 13, hB.cell 14⟩ (fun hH => ?_)
   clear hK K
   try (simp only [Act.put, List.setIfInBounds_toArray, List.set_cons_zero, List.set_cons_succ])
   refine tk 10 hH ?_
   refine tk 11 hH ?_
   refine tk 12 hH ?_
   refine rd1 14 (fun K hK => ?_)
   have cc0 : V22.cell? ⟨az20, 0, none⟩ = some (.int .i32 0) := hz20.cell 0
   have zz0 := hz20.frozen 0
   have cc1 : V22.cell? ⟨az20, 1, none⟩ = some (.int .i32 0) := hz20.cell 1
   have zz1 := hz20.frozen 1
   have cc2 : V22.cell? ⟨az20, 2, none⟩ = some (.int .i32 0) := hz20.cell 2
   have zz2 := hz20.frozen 2
   go_simp
   try go_wp2_with fail
   replace hB := (((hB.fr az20 0 (by omega) (.int .i32 e0)).fr az20 1 (by omega) (.int .i32 e1)).fr az20 2 (by omega) (.int .i32 e2))
   clear cc0 zz0 cc1 zz1 cc2 zz2
   replace hz20 := (((hz20.set_ 0 (.int .i32 e0)).set_ 1 (.int .i32 e1)).set_ 2 (.int .i32 e2))
   replace hg := (only_setCell (only_setCell (only_setCell hg (p := ⟨az20, 0, none⟩) (.inr (by dsimp only; omega)) (.int .i32 e0)) (p := ⟨az20, 1, none⟩) (.inr (by dsimp only; omega)) (.int .i32 e1)) (p := ⟨az20, 2, none⟩) (.inr (by dsimp only; omega)) (.int .i32 e2))
   generalize (((V22.setCell ⟨az20, 0, none⟩ (.int .i32 e0)).setCell ⟨az20, 1, none⟩ (.int .i32 e1)).setCell ⟨az20, 2, none⟩ (.int .i32 e2)) = V24 at *
   refine hK.out _ _ ⟨hB.cell 0, hB.cell 1, hB.cell 2, hB.cell 3, hB.cell 12, hB.cell 13, hB.cell 14⟩ (fun hH => ?_)
   clear hK K
   try (simp only [Act.put, List.setIfInBounds_toArray, List.set_cons_zero, List.set_cons_succ])
   refine tk 15 hH ?_
   refine wpAnyH_done (by kernel_rfl) ?_ _
   refine NoPanic.normal ?_
   try go_wp2_with fail
   go_meet
   exact ⟨az20, rfl, rfl, by omega, hz20, hB, hg, by omega⟩
 case rest =>
  clear hB hg HE
  obtain ⟨a, rfl, rfl, hga, ha, hB, hg, haw⟩ := hcut
  go_upto_region 2 with fail
  generalize wc = W1 at *
  go_cut [] from 20 to 37 (fun wx => Blk wx a 25 #[.int .i32 e0, .int .i32 e1, .int .i32 e2] ∧ Blk wx g 56 #[.int .i32 q0, .int .i32 q1, .int .i32 q2, .int .i32 q3, .int .i32 b0, .int .i32 b1, .int .i32 b2, .int .i64 n, .int .i64 (c + k1 + k2), .int .i32 y0, .int .i32 y1, .int .i32 y2, .int .i32 x0, .int .i32 x1, .int .i32 x2, .int .i32 d, .int .i32 rr0, .int .i32 rr1, .int .i32 rr2] ∧ w.grownBy wx (some g))
  case first =>
   refine wp_region_noPanic ?_
   refine wp_region_held_drew (S := (fun w' : World => w'.cell? ⟨a, 0, none⟩ = some (.int .i32 e0) ∧ w'.cell? ⟨a, 1, none⟩ = some (.int .i32 e1) ∧ w'.cell? ⟨a, 2, none⟩ = some (.int .i32 e2))) (by kernel_rfl) ⟨ha.cell 0, ha.cell 1, ha.cell 2⟩ (fun hH => ?_)
   refine (show wpAnyH _ _ _ _ _ 19 _ _ _ from ?_)
   try (simp only [Act.put, List.setIfInBounds_toArray, List.set_cons_zero, List.set_cons_succ])
   replace hB := hB.drew
   replace ha := ha.drew
   replace hg := only_drew hg
   generalize (W1).drew = V25 at *
   refine tk 0 hH ?_
   refine tk 1 hH ?_
   refine tk 2 hH ?_
   refine tk 3 hH ?_
   refine tk 4 hH ?_
   refine tk 6 hH ?_
   refine tk 7 hH ?_
   refine rd2 5 8 (fun K hK => ?hc26q5) (fun K hK => ?hc26q8)
   case hc26q5 =>
    have cc16 : V25.cell? ⟨g, 16, none⟩ = some (.int .i32 r0) := hB.cell 16
    have cc17 : V25.cell? ⟨g, 17, none⟩ = some (.int .i32 r1) := hB.cell 17
    have cc18 : V25.cell? ⟨g, 18, none⟩ = some (.int .i32 r2) := hB.cell 18
    go_simp
    try go_wp2_with fail
    clear cc16 cc17 cc18
    refine hK.out _ _ ⟨ha.cell 0, ha.cell 1, ha.cell 2⟩ (fun hH => ?_)
    clear hK K
    try (simp only [Act.put, List.setIfInBounds_toArray, List.set_cons_zero, List.set_cons_succ])
    refine rd1 8 (fun K hK => ?_)
    go_simp
    refine (HS1.out _).mono ?_
    rintro e V29 ⟨rfl, bb⟩
    go_wp2_with fail
    replace hB := hB.below bb hB.lt
    replace ha := ha.below bb ha.lt
    replace hg := hg.trans (f_gr bb (some g))
    clear bb
    refine hK.out _ _ ⟨ha.cell 0, ha.cell 1, ha.cell 2⟩ (fun hH => ?_)
    clear hK K
    try (simp only [Act.put, List.setIfInBounds_toArray, List.set_cons_zero, List.set_cons_succ])
    refine tk 9 hH ?_
    refine tk 10 hH ?_
    refine rd1 11 (fun K hK => ?_)
    go_simp
    refine (HN1.out _ hB).mono ?_
    rintro e V31 ⟨rfl, hX, gg⟩
    go_wp2_with fail
    replace ha := ha.grown gg (by rw [Ne, Option.some.injEq]; omega)
    clear hB
    have hB := hX
    clear hX
    replace hg := hg.trans gg
    clear gg
    refine hK.out _ _ ⟨ha.cell 0, ha.cell 1, ha.cell 2⟩ (fun hH => ?_)
    clear hK K
    try (simp only [Act.put, List.setIfInBounds_toArray, List.set_cons_zero, List.set_cons_succ])
    refine rd1 12 (fun K hK => ?_)
    go_simp
    refine (HA.out _).mono ?_
    rintro e V33 ⟨rfl, bb⟩
    go_wp2_with fail
    replace hB := hB.below bb hB.lt
    replace ha := ha.below bb ha.lt
    replace hg := hg.trans (f_gr bb (some g))
    clear bb
    refine hK.out _ _ ⟨ha.cell 0, ha.cell 1, ha.cell 2⟩ (fun hH => ?_)
    clear hK K
    try (simp only [Act.put, List.setIfInBounds_toArray, List.set_cons_zero, List.set_cons_succ])
    refine tk 13 hH ?_
    refine tk 14 hH ?_
    refine rd1 15 (fun K hK => ?_)
    go_simp
    refine (HN2.out _ hB).mono ?_
    rintro e V35 ⟨rfl, hX, gg⟩
    go_wp2_with fail
    replace ha := ha.grown gg (by rw [Ne, Option.some.injEq]; omega)
    clear hB
    have hB := hX
    clear hX
    replace hg := hg.trans gg
    clear gg
    refine hK.out _ _ ⟨ha.cell 0, ha.cell 1, ha.cell 2⟩ (fun hH => ?_)
    clear hK K
    try (simp only [Act.put, List.setIfInBounds_toArray, List.set_cons_zero, List.set_cons_succ])
    refine tk 16 hH ?_
    refine tk 17 hH ?_
    refine rd1 18 (fun K hK => ?_)
    have cc16 : V35.cell? ⟨g, 16, none⟩ = some (.int .i32 r0) := hB.cell 16
    have zz16 := hB.frozen 16
    have cc17 : V35.cell? ⟨g, 17, none⟩ = some (.int .i32 r1) := hB.cell 17
    have zz17 := hB.frozen 17
    have cc18 : V35.cell? ⟨g, 18, none⟩ = some (.int .i32 r2) := hB.cell 18
    have zz18 := hB.frozen 18
    go_simp
    try go_wp2_with fail
    replace ha := (((ha.fr g 16 (by omega) (.int .i32 rr0)).fr g 17 (by omega) (.int .i32 rr1)).fr g 18 (by omega) (.int .i32 rr2))
    clear cc16 zz16 cc17 zz17 cc18 zz18
    replace hB := (((hB.set_ 16 (.int .i32 rr0)).set_ 17 (.int .i32 rr1)).set_ 18 (.int .i32 rr2))
    replace hg := (only_set (only_set (only_set hg 16 (.int .i32 rr0)) 17 (.int .i32 rr1)) 18 (.int .i32 rr2))
    generalize (((V35.setCell ⟨g, 16, none⟩ (.int .i32 rr0)).setCell ⟨g, 17, none⟩ (.int .i32 rr1)).setCell ⟨g, 18, none⟩ (.int .i32 rr2)) = V37 at *
    refine hK.out _ _ ⟨ha.cell 0, ha.cell 1, ha.cell 2⟩ (fun hH => ?_)
    clear hK K
    try (simp only [Act.put, List.setIfInBounds_toArray, List.set_cons_zero, List.set_cons_succ])
    refine wpAnyH_done (by kernel_rfl) ?_ _
    refine NoPanic.normal ?_
    try go_wp2_with fail
    go_meet
    exact ⟨ha, hB, hg⟩
   case hc26q8 =>
    go_simp
    refine (HS1.out _).mono ?_
    rintro e V38 ⟨rfl, bb⟩
    go_wp2_with fail
    replace hB := hB.below bb hB.lt
    replace ha := ha.below bb ha.lt
    replace hg := hg.trans (f_gr bb (some g))
    clear bb
    refine hK.out _ _ ⟨ha.cell 0, ha.cell 1, ha.cell 2⟩ (fun hH => ?_)
    clear hK K
    try (simp only [Act.put, List.setIfInBounds_toArray, List.set_cons_zero, List.set_cons_succ])
    refine tk 9 hH ?_
    refine tk 10 hH ?_
    refine rd2 5 11 (fun K hK => ?hc39q5) (fun K hK => ?hc39q11)
    case hc39q5 =>
     have cc16 : V38.cell? ⟨g, 16, none⟩ = some (.int .i32 r0) := hB.cell 16
     have cc17 : V38.cell? ⟨g, 17, none⟩ = some (.int .i32 r1) := hB.cell 17
     have cc18 : V38.cell? ⟨g, 18, none⟩ = some (.int .i32 r2) := hB.cell 18
     go_simp
     try go_wp2_with fail
     clear cc16 cc17 cc18
     refine hK.out _ _ ⟨ha.cell 0, ha.cell 1, ha.cell 2⟩ (fun hH => ?_)
     clear hK K
     try (simp only [Act.put, List.setIfInBounds_toArray, List.set_cons_zero, List.set_cons_succ])
     refine rd1 11 (fun K hK => ?_)
     go_simp
     refine (HN1.out _ hB).mono ?_
     rintro e V42 ⟨rfl, hX, gg⟩
     go_wp2_with fail
     replace ha := ha.grown gg (by rw [Ne, Option.some.injEq]; omega)
     clear hB
     have hB := hX
     clear hX
     replace hg := hg.trans gg
     clear gg
     refine hK.out _ _ ⟨ha.cell 0, ha.cell 1, ha.cell 2⟩ (fun hH => ?_)
     clear hK K
     try (simp only [Act.put, List.setIfInBounds_toArray, List.set_cons_zero, List.set_cons_succ])
     refine rd1 12 (fun K hK => ?_)
     go_simp
     refine (HA.out _).mono ?_
     rintro e V44 ⟨rfl, bb⟩
     go_wp2_with fail
     replace hB := hB.below bb hB.lt
     replace ha := ha.below bb ha.lt
     replace hg := hg.trans (f_gr bb (some g))
     clear bb
     refine hK.out _ _ ⟨ha.cell 0, ha.cell 1, ha.cell 2⟩ (fun hH => ?_)
     clear hK K
     try (simp only [Act.put, List.setIfInBounds_toArray, List.set_cons_zero, List.set_cons_succ])
     refine tk 13 hH ?_
     refine tk 14 hH ?_
     refine rd1 15 (fun K hK => ?_)
     go_simp
     refine (HN2.out _ hB).mono ?_
     rintro e V46 ⟨rfl, hX, gg⟩
     go_wp2_with fail
     replace ha := ha.grown gg (by rw [Ne, Option.some.injEq]; omega)
     clear hB
     have hB := hX
     clear hX
     replace hg := hg.trans gg
     clear gg
     refine hK.out _ _ ⟨ha.cell 0, ha.cell 1, ha.cell 2⟩ (fun hH => ?_)
     clear hK K
     try (simp only [Act.put, List.setIfInBounds_toArray, List.set_cons_zero, List.set_cons_succ])
     refine tk 16 hH ?_
     refine tk 17 hH ?_
     refine rd1 18 (fun K hK => ?_)
     have cc16 : V46.cell? ⟨g, 16, none⟩ = some (.int .i32 r0) := hB.cell 16
     have zz16 := hB.frozen 16
     have cc17 : V46.cell? ⟨g, 17, none⟩ = some (.int .i32 r1) := hB.cell 17
     have zz17 := hB.frozen 17
     have cc18 : V46.cell? ⟨g, 18, none⟩ = some (.int .i32 r2) := hB.cell 18
     have zz18 := hB.frozen 18
     go_simp
     try go_wp2_with fail
     replace ha := (((ha.fr g 16 (by omega) (.int .i32 rr0)).fr g 17 (by omega) (.int .i32 rr1)).fr g 18 (by omega) (.int .i32 rr2))
     clear cc16 zz16 cc17 zz17 cc18 zz18
     replace hB := (((hB.set_ 16 (.int .i32 rr0)).set_ 17 (.int .i32 rr1)).set_ 18 (.int .i32 rr2))
     replace hg := (only_set (only_set (only_set hg 16 (.int .i32 rr0)) 17 (.int .i32 rr1)) 18 (.int .i32 rr2))
     generalize (((V46.setCell ⟨g, 16, none⟩ (.int .i32 rr0)).setCell ⟨g, 17, none⟩ (.int .i32 rr1)).setCell ⟨g, 18, none⟩ (.int .i32 rr2)) = V48 at *
     refine hK.out _ _ ⟨ha.cell 0, ha.cell 1, ha.cell 2⟩ (fun hH => ?_)
     clear hK K
     try (simp only [Act.put, List.setIfInBounds_toArray, List.set_cons_zero, List.set_cons_succ])
     refine wpAnyH_done (by kernel_rfl) ?_ _
     refine NoPanic.normal ?_
     try go_wp2_with fail
     go_meet
     exact ⟨ha, hB, hg⟩
    case hc39q11 =>
     go_simp
     refine (HN1.out _ hB).mono ?_
     rintro e V49 ⟨rfl, hX, gg⟩
     go_wp2_with fail
     replace ha := ha.grown gg (by rw [Ne, Option.some.injEq]; omega)
     clear hB
     have hB := hX
     clear hX
     replace hg := hg.trans gg
     clear gg
     refine hK.out _ _ ⟨ha.cell 0, ha.cell 1, ha.cell 2⟩ (fun hH => ?_)
     clear hK K
     try (simp only [Act.put, List.setIfInBounds_toArray, List.set_cons_zero, List.set_cons_succ])
     refine rd1 5 (fun K hK => ?_)
     have cc16 : V49.cell? ⟨g, 16, none⟩ = some (.int .i32 r0) := hB.cell 16
     have cc17 : V49.cell? ⟨g, 17, none⟩ = some (.int .i32 r1) := hB.cell 17
     have cc18 : V49.cell? ⟨g, 18, none⟩ = some (.int .i32 r2) := hB.cell 18
     go_simp
     try go_wp2_with fail
     clear cc16 cc17 cc18
     refine hK.out _ _ ⟨ha.cell 0, ha.cell 1, ha.cell 2⟩ (fun hH => ?_)
     clear hK K
     try (simp only [Act.put, List.setIfInBounds_toArray, List.set_cons_zero, List.set_cons_succ])
     refine rd1 12 (fun K hK => ?_)
     go_simp
     refine (HA.out _).mono ?_
     rintro e V53 ⟨rfl, bb⟩
     go_wp2_with fail
     replace hB := hB.below bb hB.lt
     replace ha := ha.below bb ha.lt
     replace hg := hg.trans (f_gr bb (some g))
     clear bb
     refine hK.out _ _ ⟨ha.cell 0, ha.cell 1, ha.cell 2⟩ (fun hH => ?_)
     clear hK K
     try (simp only [Act.put, List.setIfInBounds_toArray, List.set_cons_zero, List.set_cons_succ])
     refine tk 13 hH ?_
     refine tk 14 hH ?_
     refine rd1 15 (fun K hK => ?_)
     go_simp
     refine (HN2.out _ hB).mono ?_
     rintro e V55 ⟨rfl, hX, gg⟩
     go_wp2_with fail
     replace ha := ha.grown gg (by rw [Ne, Option.some.injEq]; omega)
     clear hB
     have hB := hX
     clear hX
     replace hg := hg.trans gg
     clear gg
     refine hK.out _ _ ⟨ha.cell 0, ha.cell 1, ha.cell 2⟩ (fun hH => ?_)
     clear hK K
     try (simp only [Act.put, List.setIfInBounds_toArray, List.set_cons_zero, List.set_cons_succ])
     refine tk 16 hH ?_
     refine tk 17 hH ?_
     refine rd1 18 (fun K hK => ?_)
     have cc16 : V55.cell? ⟨g, 16, none⟩ = some (.int .i32 r0) := hB.cell 16
     have zz16 := hB.frozen 16
     have cc17 : V55.cell? ⟨g, 17, none⟩ = some (.int .i32 r1) := hB.cell 17
     have zz17 := hB.frozen 17
     have cc18 : V55.cell? ⟨g, 18, none⟩ = some (.int .i32 r2) := hB.cell 18
     have zz18 := hB.frozen 18
     go_simp
     try go_wp2_with fail
     replace ha := (((ha.fr g 16 (by omega) (.int .i32 rr0)).fr g 17 (by omega) (.int .i32 rr1)).fr g 18 (by omega) (.int .i32 rr2))
     clear cc16 zz16 cc17 zz17 cc18 zz18
     replace hB := (((hB.set_ 16 (.int .i32 rr0)).set_ 17 (.int .i32 rr1)).set_ 18 (.int .i32 rr2))
     replace hg := (only_set (only_set (only_set hg 16 (.int .i32 rr0)) 17 (.int .i32 rr1)) 18 (.int .i32 rr2))
     generalize (((V55.setCell ⟨g, 16, none⟩ (.int .i32 rr0)).setCell ⟨g, 17, none⟩ (.int .i32 rr1)).setCell ⟨g, 18, none⟩ (.int .i32 rr2)) = V57 at *
     refine hK.out _ _ ⟨ha.cell 0, ha.cell 1, ha.cell 2⟩ (fun hH => ?_)
     clear hK K
     try (simp only [Act.put, List.setIfInBounds_toArray, List.set_cons_zero, List.set_cons_succ])
     refine wpAnyH_done (by kernel_rfl) ?_ _
     refine NoPanic.normal ?_
     try go_wp2_with fail
     go_meet
     exact ⟨ha, hB, hg⟩
  case rest =>
  clear hB hg ha
  obtain ⟨ha, hB, hg⟩ := hcut
  go_upto_region 3 with fail
  generalize wc = W2 at *
  go_cut [4] from 38 to 52 (fun p wx => ∃ b : Nat, p = .pointer (some ⟨b, 0, none⟩) ∧ g < b ∧ Blk wx b 25 #[.int .i32 yy0, .int .i32 yy1, .int .i32 yy2] ∧ Blk wx g 56 #[.int .i32 q0, .int .i32 q1, .int .i32 q2, .int .i32 q3, .int .i32 b0, .int .i32 b1, .int .i32 b2, .int .i64 n, .int .i64 (c + k1 + k2 + k3 + k4), .int .i32 y0, .int .i32 y1, .int .i32 y2, .int .i32 x0, .int .i32 x1, .int .i32 x2, .int .i32 d, .int .i32 rr0, .int .i32 rr1, .int .i32 rr2] ∧ w.grownBy wx (some g))
  case first =>
   refine wp_region_noPanic ?_
   refine wp_region_held_drew (S := (fun w' : World => w'.cell? ⟨g, 15, none⟩ = some (.int .i32 d) ∧ w'.cell? ⟨a, 0, none⟩ = some (.int .i32 e0) ∧ w'.cell? ⟨a, 1, none⟩ = some (.int .i32 e1) ∧ w'.cell? ⟨a, 2, none⟩ = some (.int .i32 e2))) (by kernel_rfl) ⟨hB.cell 15, ha.cell 0, ha.cell 1, ha.cell 2⟩ (fun hH => ?_)
   refine (show wpAnyH _ _ _ _ _ 17 _ _ _ from ?_)
   try (simp only [Act.put, List.setIfInBounds_toArray, List.set_cons_zero, List.set_cons_succ])
   replace hB := hB.drew
   replace ha := ha.drew
   replace hg := only_drew hg
   generalize (W2).drew = V58 at *
   refine tk 0 hH ?_
   refine tk 1 hH ?_
   refine tk 2 hH ?_
   refine tk 7 hH ?_
   refine tk 8 hH ?_
   refine tk 9 hH ?_
   refine tk 10 hH ?_
   refine rd2 3 15 (fun K hK => ?hc59q3) (fun K hK => ?hc59q15)
   case hc59q3 =>
    go_simp
    refine (HS3.out _).mono ?_
    rintro e V60 ⟨rfl, bb⟩
    go_wp2_with fail
    replace hB := hB.below bb hB.lt
    replace ha := ha.below bb ha.lt
    replace hg := hg.trans (f_gr bb (some g))
    clear bb
    refine hK.out _ _ ⟨hB.cell 15, ha.cell 0, ha.cell 1, ha.cell 2⟩ (fun hH => ?_)
    clear hK K
    try (simp only [Act.put, List.setIfInBounds_toArray, List.set_cons_zero, List.set_cons_succ])
    refine tk 4 hH ?_
    refine tk 5 hH ?_
    refine rd2 6 15 (fun K hK => ?hc61q6) (fun K hK => ?hc61q15)
    case hc61q6 =>
     go_simp
     refine (HN3.out _ hB).mono ?_
     rintro e V62 ⟨rfl, hX, gg⟩
     go_wp2_with fail
     replace ha := ha.grown gg (by rw [Ne, Option.some.injEq]; omega)
     clear hB
     have hB := hX
     clear hX
     replace hg := hg.trans gg
     clear gg
     refine hK.out _ _ ⟨hB.cell 15, ha.cell 0, ha.cell 1, ha.cell 2⟩ (fun hH => ?_)
     clear hK K
     try (simp only [Act.put, List.setIfInBounds_toArray, List.set_cons_zero, List.set_cons_succ])
     refine rd2 11 15 (fun K hK => ?hc63q11) (fun K hK => ?hc63q15)
     case hc63q11 =>
      go_simp
      refine (HS4.out _).mono ?_
      rintro e V64 ⟨rfl, bb⟩
      go_wp2_with fail
      replace hB := hB.below bb hB.lt
      replace ha := ha.below bb ha.lt
      replace hg := hg.trans (f_gr bb (some g))
      clear bb
      refine hK.out _ _ ⟨hB.cell 15, ha.cell 0, ha.cell 1, ha.cell 2⟩ (fun hH => ?_)
      clear hK K
      try (simp only [Act.put, List.setIfInBounds_toArray, List.set_cons_zero, List.set_cons_succ])
      refine tk 12 hH ?_
      refine tk 13 hH ?_
      refine rd2 14 15 (fun K hK => ?hc65q14) (fun K hK => ?hc65q15)
      case hc65q14 =>
       go_simp
       refine (HN4.out _ hB).mono ?_
       rintro e V66 ⟨rfl, hX, gg⟩
       go_wp2_with fail
       replace ha := ha.grown gg (by rw [Ne, Option.some.injEq]; omega)
       clear hB
       have hB := hX
       clear hX
       replace hg := hg.trans gg
       clear gg
       refine hK.out _ _ ⟨hB.cell 15, ha.cell 0, ha.cell 1, ha.cell 2⟩ (fun hH => ?_)
       clear hK K
       try (simp only [Act.put, List.setIfInBounds_toArray, List.set_cons_zero, List.set_cons_succ])
       refine rd1 15 (fun K hK => ?_)
       go_simp
       try go_wp2_with fail
       have l68hB := hB.lt
       have l68ha := ha.lt
       replace hB := hB.alloc (.cells #[.int .i32 0, .int .i32 0, .int .i32 0] 25)
       replace ha := ha.alloc (.cells #[.int .i32 0, .int .i32 0, .int .i32 0] 25)
       have hz68 := Blk.new V66 25 #[.int .i32 0, .int .i32 0, .int .i32 0]
       have lz68 := hg.size
       replace hg := only_alloc hg (.cells #[.int .i32 0, .int .i32 0, .int .i32 0] 25)
       generalize V66.alloc (.cells #[.int .i32 0, .int .i32 0, .int .i32 0] 25) = V68 at *
       generalize V66.heap.size = az68 at *
       refine hK.out _ _ ⟨hB.cell 15, ha.cell 0, ha.cell 1, ha.cell 2⟩ (fun hH => ?_)
       clear hK K
       try (simp only [Act.put, List.setIfInBounds_toArray, List.set_cons_zero, List.set_cons_succ])
       refine rd1 16 (fun K hK => ?_)
       have cc0 : V68.cell? ⟨az68, 0, none⟩ = some (.int .i32 0) := hz68.cell 0
       have zz0 := hz68.frozen 0
       have cc1 : V68.cell? ⟨az68, 1, none⟩ = some (.int .i32 0) := hz68.cell 1
       have zz1 := hz68.frozen 1
       have cc2 : V68.cell? ⟨az68, 2, none⟩ = some (.int .i32 0) := hz68.cell 2
       have zz2 := hz68.frozen 2
       go_simp
       try go_wp2_with fail
       replace hB := (((hB.fr az68 0 (by omega) (.int .i32 yy0)).fr az68 1 (by omega) (.int .i32 yy1)).fr az68 2 (by omega) (.int .i32 yy2))
       replace ha := (((ha.fr az68 0 (by omega) (.int .i32 yy0)).fr az68 1 (by omega) (.int .i32 yy1)).fr az68 2 (by omega) (.int .i32 yy2))
       clear cc0 zz0 cc1 zz1 cc2 zz2
       replace hz68 := (((hz68.set_ 0 (.int .i32 yy0)).set_ 1 (.int .i32 yy1)).set_ 2 (.int .i32 yy2))
       replace hg := (only_setCell (only_setCell (only_setCell hg (p := ⟨az68, 0, none⟩) (.inr (by dsimp only; omega)) (.int .i32 yy0)) (p := ⟨az68, 1, none⟩) (.inr (by dsimp only; omega)) (.int .i32 yy1)) (p := ⟨az68, 2, none⟩) (.inr (by dsimp only; omega)) (.int .i32 yy2))
       generalize (((V68.setCell ⟨az68, 0, none⟩ (.int .i32 yy0)).setCell ⟨az68, 1, none⟩ (.int .i32 yy1)).setCell ⟨az68, 2, none⟩ (.int .i32 yy2)) = V70 at *
       refine hK.out _ _ ⟨hB.cell 15, ha.cell 0, ha.cell 1, ha.cell 2⟩ (fun hH => ?_)
       clear hK K
       try (simp only [Act.put, List.setIfInBounds_toArray, List.set_cons_zero, List.set_cons_succ])
       refine wpAnyH_done (by kernel_rfl) ?_ _
       refine NoPanic.normal ?_
       try go_wp2_with fail
       go_meet
       exact ⟨az68, rfl, by omega, hz68, hB, hg⟩
      case hc65q15 =>
       go_simp
       try go_wp2_with fail
       have l71hB := hB.lt
       have l71ha := ha.lt
       replace hB := hB.alloc (.cells #[.int .i32 0, .int .i32 0, .int .i32 0] 25)
       replace ha := ha.alloc (.cells #[.int .i32 0, .int .i32 0, .int .i32 0] 25)
       have hz71 := Blk.new V64 25 #[.int .i32 0, .int .i32 0, .int .i32 0]
       have lz71 := hg.size
       replace hg := only_alloc hg (.cells #[.int .i32 0, .int .i32 0, .int .i32 0] 25)
       generalize V64.alloc (.cells #[.int .i32 0, .int .i32 0, .int .i32 0] 25) = V71 at *
       generalize V64.heap.size = az71 at *
       refine hK.out _ _ ⟨hB.cell 15, ha.cell 0, ha.cell 1, ha.cell 2⟩ (fun hH => ?_)
       clear hK K
       try (simp only [Act.put, List.setIfInBounds_toArray, List.set_cons_zero, List.set_cons_succ])
       refine rd1 14 (fun K hK => ?_)
       go_simp
       refine (HN4.out _ hB).mono ?_
       rintro e V73 ⟨rfl, hX, gg⟩
       go_wp2_with fail
       replace ha := ha.grown gg (by rw [Ne, Option.some.injEq]; omega)
       replace hz71 := hz71.grown gg (by rw [Ne, Option.some.injEq]; omega)
       clear hB
       have hB := hX
       clear hX
       replace hg := hg.trans gg
       clear gg
       refine hK.out _ _ ⟨hB.cell 15, ha.cell 0, ha.cell 1, ha.cell 2⟩ (fun hH => ?_)
       clear hK K
       try (simp only [Act.put, List.setIfInBounds_toArray, List.set_cons_zero, List.set_cons_succ])
       refine rd1 16 (fun K hK => ?_)
       have cc0 : V73.cell? ⟨az71, 0, none⟩ = some (.int .i32 0) := hz71.cell 0
       have zz0 := hz71.frozen 0
       have cc1 : V73.cell? ⟨az71, 1, none⟩ = some (.int .i32 0) := hz71.cell 1
       have zz1 := hz71.frozen 1
       have cc2 : V73.cell? ⟨az71, 2, none⟩ = some (.int .i32 0) := hz71.cell 2
       have zz2 := hz71.frozen 2
       go_simp
       try go_wp2_with fail
       replace hB := (((hB.fr az71 0 (by omega) (.int .i32 yy0)).fr az71 1 (by omega) (.int .i32 yy1)).fr az71 2 (by omega) (.int .i32 yy2))
       replace ha := (((ha.fr az71 0 (by omega) (.int .i32 yy0)).fr az71 1 (by omega) (.int .i32 yy1)).fr az71 2 (by omega) (.int .i32 yy2))
       clear cc0 zz0 cc1 zz1 cc2 zz2
       replace hz71 := (((hz71.set_ 0 (.int .i32 yy0)).set_ 1 (.int .i32 yy1)).set_ 2 (.int .i32 yy2))
       replace hg := (only_setCell (only_setCell (only_setCell hg (p := ⟨az71, 0, none⟩) (.inr (by dsimp only; omega)) (.int .i32 yy0)) (p := ⟨az71, 1, none⟩) (.inr (by dsimp only; omega)) (.int .i32 yy1)) (p := ⟨az71, 2, none⟩) (.inr (by dsimp only; omega)) (.int .i32 yy2))
       generalize (((V73.setCell ⟨az71, 0, none⟩ (.int .i32 yy0)).setCell ⟨az71, 1, none⟩ (.int .i32 yy1)).setCell ⟨az71, 2, none⟩ (.int .i32 yy2)) = V75 at *
       refine hK.out _ _ ⟨hB.cell 15, ha.cell 0, ha.cell 1, ha.cell 2⟩ (fun hH => ?_)
       clear hK K
       try (simp only [Act.put, List.setIfInBounds_toArray, List.set_cons_zero, List.set_cons_succ])
       refine wpAnyH_done (by kernel_rfl) ?_ _
       refine NoPanic.normal ?_
       try go_wp2_with fail
       go_meet
       exact ⟨az71, rfl, by omega, hz71, hB, hg⟩
     case hc63q15 =>
      go_simp
      try go_wp2_with fail
      have l76hB := hB.lt
      have l76ha := ha.lt
      replace hB := hB.alloc (.cells #[.int .i32 0, .int .i32 0, .int .i32 0] 25)
      replace ha := ha.alloc (.cells #[.int .i32 0, .int .i32 0, .int .i32 0] 25)
      have hz76 := Blk.new V62 25 #[.int .i32 0, .int .i32 0, .int .i32 0]
      have lz76 := hg.size
      replace hg := only_alloc hg (.cells #[.int .i32 0, .int .i32 0, .int .i32 0] 25)
      generalize V62.alloc (.cells #[.int .i32 0, .int .i32 0, .int .i32 0] 25) = V76 at *
      generalize V62.heap.size = az76 at *
      refine hK.out _ _ ⟨hB.cell 15, ha.cell 0, ha.cell 1, ha.cell 2⟩ (fun hH => ?_)
      clear hK K
      try (simp only [Act.put, List.setIfInBounds_toArray, List.set_cons_zero, List.set_cons_succ])
      refine rd1 11 (fun K hK => ?_)
      go_simp
      refine (HS4.out _).mono ?_
      rintro e V78 ⟨rfl, bb⟩
      go_wp2_with fail
      replace hB := hB.below bb hB.lt
      replace ha := ha.below bb ha.lt
      replace hz76 := hz76.below bb hz76.lt
      replace hg := hg.trans (f_gr bb (some g))
      clear bb
      refine hK.out _ _ ⟨hB.cell 15, ha.cell 0, ha.cell 1, ha.cell 2⟩ (fun hH => ?_)
      clear hK K
      try (simp only [Act.put, List.setIfInBounds_toArray, List.set_cons_zero, List.set_cons_succ])
      refine tk 12 hH ?_
      refine tk 13 hH ?_
      refine rd1 14 (fun K hK => ?_)
      go_simp
      refine (HN4.out _ hB).mono ?_
      rintro e V80 ⟨rfl, hX, gg⟩
      go_wp2_with fail
      replace ha := ha.grown gg (by rw [Ne, Option.some.injEq]; omega)
      replace hz76 := hz76.grown gg (by rw [Ne, Option.some.injEq]; omega)
      clear hB
      have hB := hX
      clear hX
      replace hg := hg.trans gg
      clear gg
      refine hK.out _ _ ⟨hB.cell 15, ha.cell 0, ha.cell 1, ha.cell 2⟩ (fun hH => ?_)
      clear hK K
      try (simp only [Act.put, List.setIfInBounds_toArray, List.set_cons_zero, List.set_cons_succ])
      refine rd1 16 (fun K hK => ?_)
      have cc0 : V80.cell? ⟨az76, 0, none⟩ = some (.int .i32 0) := hz76.cell 0
      have zz0 := hz76.frozen 0
      have cc1 : V80.cell? ⟨az76, 1, none⟩ = some (.int .i32 0) := hz76.cell 1
      have zz1 := hz76.frozen 1
      have cc2 : V80.cell? ⟨az76, 2, none⟩ = some (.int .i32 0) := hz76.cell 2
      have zz2 := hz76.frozen 2
      go_simp
      try go_wp2_with fail
      replace hB := (((hB.fr az76 0 (by omega) (.int .i32 yy0)).fr az76 1 (by omega) (.int .i32 yy1)).fr az76 2 (by omega) (.int .i32 yy2))
      replace ha := (((ha.fr az76 0 (by omega) (.int .i32 yy0)).fr az76 1 (by omega) (.int .i32 yy1)).fr az76 2 (by omega) (.int .i32 yy2))
      clear cc0 zz0 cc1 zz1 cc2 zz2
      replace hz76 := (((hz76.set_ 0 (.int .i32 yy0)).set_ 1 (.int .i32 yy1)).set_ 2 (.int .i32 yy2))
      replace hg := (only_setCell (only_setCell (only_setCell hg (p := ⟨az76, 0, none⟩) (.inr (by dsimp only; omega)) (.int .i32 yy0)) (p := ⟨az76, 1, none⟩) (.inr (by dsimp only; omega)) (.int .i32 yy1)) (p := ⟨az76, 2, none⟩) (.inr (by dsimp only; omega)) (.int .i32 yy2))
      generalize (((V80.setCell ⟨az76, 0, none⟩ (.int .i32 yy0)).setCell ⟨az76, 1, none⟩ (.int .i32 yy1)).setCell ⟨az76, 2, none⟩ (.int .i32 yy2)) = V82 at *
      refine hK.out _ _ ⟨hB.cell 15, ha.cell 0, ha.cell 1, ha.cell 2⟩ (fun hH => ?_)
      clear hK K
      try (simp only [Act.put, List.setIfInBounds_toArray, List.set_cons_zero, List.set_cons_succ])
      refine wpAnyH_done (by kernel_rfl) ?_ _
      refine NoPanic.normal ?_
      try go_wp2_with fail
      go_meet
      exact ⟨az76, rfl, by omega, hz76, hB, hg⟩
    case hc61q15 =>
     go_simp
     try go_wp2_with fail
     have l83hB := hB.lt
     have l83ha := ha.lt
     replace hB := hB.alloc (.cells #[.int .i32 0, .int .i32 0, .int .i32 0] 25)
     replace ha := ha.alloc (.cells #[.int .i32 0, .int .i32 0, .int .i32 0] 25)
     have hz83 := Blk.new V60 25 #[.int .i32 0, .int .i32 0, .int .i32 0]
     have lz83 := hg.size
     replace hg := only_alloc hg (.cells #[.int .i32 0, .int .i32 0, .int .i32 0] 25)
     generalize V60.alloc (.cells #[.int .i32 0, .int .i32 0, .int .i32 0] 25) = V83 at *
     generalize V60.heap.size = az83 at *
     refine hK.out _ _ ⟨hB.cell 15, ha.cell 0, ha.cell 1, ha.cell 2⟩ (fun hH => ?_)
     clear hK K
     try (simp only [Act.put, List.setIfInBounds_toArray, List.set_cons_zero, List.set_cons_succ])
     refine rd1 6 (fun K hK => ?_)
     go_simp
     refine (HN3.out _ hB).mono ?_
     rintro e V85 ⟨rfl, hX, gg⟩
     go_wp2_with fail
     replace ha := ha.grown gg (by rw [Ne, Option.some.injEq]; omega)
     replace hz83 := hz83.grown gg (by rw [Ne, Option.some.injEq]; omega)
     clear hB
     have hB := hX
     clear hX
     replace hg := hg.trans gg
     clear gg
     refine hK.out _ _ ⟨hB.cell 15, ha.cell 0, ha.cell 1, ha.cell 2⟩ (fun hH => ?_)
     clear hK K
     try (simp only [Act.put, List.setIfInBounds_toArray, List.set_cons_zero, List.set_cons_succ])
     refine rd1 11 (fun K hK => ?_)
     go_simp
     refine (HS4.out _).mono ?_
     rintro e V87 ⟨rfl, bb⟩
     go_wp2_with fail
     replace hB := hB.below bb hB.lt
     replace ha := ha.below bb ha.lt
     replace hz83 := hz83.below bb hz83.lt
     replace hg := hg.trans (f_gr bb (some g))
     clear bb
     refine hK.out _ _ ⟨hB.cell 15, ha.cell 0, ha.cell 1, ha.cell 2⟩ (fun hH => ?_)
     clear hK K
     try (simp only [Act.put, List.setIfInBounds_toArray, List.set_cons_zero, List.set_cons_succ])
     refine tk 12 hH ?_
     refine tk 13 hH ?_
     refine rd1 14 (fun K hK => ?_)
     go_simp
     refine (HN4.out _ hB).mono ?_
     rintro e V89 ⟨rfl, hX, gg⟩
     go_wp2_with fail
     replace ha := ha.grown gg (by rw [Ne, Option.some.injEq]; omega)
     replace hz83 := hz83.grown gg (by rw [Ne, Option.some.injEq]; omega)
     clear hB
     have hB := hX
     clear hX
     replace hg := hg.trans gg
     clear gg
     refine hK.out _ _ ⟨hB.cell 15, ha.cell 0, ha.cell 1, ha.cell 2⟩ (fun hH => ?_)
     clear hK K
     try (simp only [Act.put, List.setIfInBounds_toArray, List.set_cons_zero, List.set_cons_succ])
     refine rd1 16 (fun K hK => ?_)
     have cc0 : V89.cell? ⟨az83, 0, none⟩ = some (.int .i32 0) := hz83.cell 0
     have zz0 := hz83.frozen 0
     have cc1 : V89.cell? ⟨az83, 1, none⟩ = some (.int .i32 0) := hz83.cell 1
     have zz1 := hz83.frozen 1
     have cc2 : V89.cell? ⟨az83, 2, none⟩ = some (.int .i32 0) := hz83.cell 2
     have zz2 := hz83.frozen 2
     go_simp
     try go_wp2_with fail
     replace hB := (((hB.fr az83 0 (by omega) (.int .i32 yy0)).fr az83 1 (by omega) (.int .i32 yy1)).fr az83 2 (by omega) (.int .i32 yy2))
     replace ha := (((ha.fr az83 0 (by omega) (.int .i32 yy0)).fr az83 1 (by omega) (.int .i32 yy1)).fr az83 2 (by omega) (.int .i32 yy2))
     clear cc0 zz0 cc1 zz1 cc2 zz2
     replace hz83 := (((hz83.set_ 0 (.int .i32 yy0)).set_ 1 (.int .i32 yy1)).set_ 2 (.int .i32 yy2))
     replace hg := (only_setCell (only_setCell (only_setCell hg (p := ⟨az83, 0, none⟩) (.inr (by dsimp only; omega)) (.int .i32 yy0)) (p := ⟨az83, 1, none⟩) (.inr (by dsimp only; omega)) (.int .i32 yy1)) (p := ⟨az83, 2, none⟩) (.inr (by dsimp only; omega)) (.int .i32 yy2))
     generalize (((V89.setCell ⟨az83, 0, none⟩ (.int .i32 yy0)).setCell ⟨az83, 1, none⟩ (.int .i32 yy1)).setCell ⟨az83, 2, none⟩ (.int .i32 yy2)) = V91 at *
     refine hK.out _ _ ⟨hB.cell 15, ha.cell 0, ha.cell 1, ha.cell 2⟩ (fun hH => ?_)
     clear hK K
     try (simp only [Act.put, List.setIfInBounds_toArray, List.set_cons_zero, List.set_cons_succ])
     refine wpAnyH_done (by kernel_rfl) ?_ _
     refine NoPanic.normal ?_
     try go_wp2_with fail
     go_meet
     exact ⟨az83, rfl, by omega, hz83, hB, hg⟩
   case hc59q15 =>
    go_simp
    try go_wp2_with fail
    have l92hB := hB.lt
    have l92ha := ha.lt
    replace hB := hB.alloc (.cells #[.int .i32 0, .int .i32 0, .int .i32 0] 25)
    replace ha := ha.alloc (.cells #[.int .i32 0, .int .i32 0, .int .i32 0] 25)
    have hz92 := Blk.new V58 25 #[.int .i32 0, .int .i32 0, .int .i32 0]
    have lz92 := hg.size
    replace hg := only_alloc hg (.cells #[.int .i32 0, .int .i32 0, .int .i32 0] 25)
    generalize V58.alloc (.cells #[.int .i32 0, .int .i32 0, .int .i32 0] 25) = V92 at *
    generalize V58.heap.size = az92 at *
    refine hK.out _ _ ⟨hB.cell 15, ha.cell 0, ha.cell 1, ha.cell 2⟩ (fun hH => ?_)
    clear hK K
    try (simp only [Act.put, List.setIfInBounds_toArray, List.set_cons_zero, List.set_cons_succ])
    refine rd1 3 (fun K hK => ?_)
    go_simp
    refine (HS3.out _).mono ?_
    rintro e V94 ⟨rfl, bb⟩
    go_wp2_with fail
    replace hB := hB.below bb hB.lt
    replace ha := ha.below bb ha.lt
    replace hz92 := hz92.below bb hz92.lt
    replace hg := hg.trans (f_gr bb (some g))
    clear bb
    refine hK.out _ _ ⟨hB.cell 15, ha.cell 0, ha.cell 1, ha.cell 2⟩ (fun hH => ?_)
    clear hK K
    try (simp only [Act.put, List.setIfInBounds_toArray, List.set_cons_zero, List.set_cons_succ])
    refine tk 4 hH ?_
    refine tk 5 hH ?_
    refine rd1 6 (fun K hK => ?_)
    go_simp
    refine (HN3.out _ hB).mono ?_
    rintro e V96 ⟨rfl, hX, gg⟩
    go_wp2_with fail
    replace ha := ha.grown gg (by rw [Ne, Option.some.injEq]; omega)
    replace hz92 := hz92.grown gg (by rw [Ne, Option.some.injEq]; omega)
    clear hB
    have hB := hX
    clear hX
    replace hg := hg.trans gg
    clear gg
    refine hK.out _ _ ⟨hB.cell 15, ha.cell 0, ha.cell 1, ha.cell 2⟩ (fun hH => ?_)
    clear hK K
    try (simp only [Act.put, List.setIfInBounds_toArray, List.set_cons_zero, List.set_cons_succ])
    refine rd1 11 (fun K hK => ?_)
    go_simp
    refine (HS4.out _).mono ?_
    rintro e V98 ⟨rfl, bb⟩
    go_wp2_with fail
    replace hB := hB.below bb hB.lt
    replace ha := ha.below bb ha.lt
    replace hz92 := hz92.below bb hz92.lt
    replace hg := hg.trans (f_gr bb (some g))
    clear bb
    refine hK.out _ _ ⟨hB.cell 15, ha.cell 0, ha.cell 1, ha.cell 2⟩ (fun hH => ?_)
    clear hK K
    try (simp only [Act.put, List.setIfInBounds_toArray, List.set_cons_zero, List.set_cons_succ])
    refine tk 12 hH ?_
    refine tk 13 hH ?_
    refine rd1 14 (fun K hK => ?_)
    go_simp
    refine (HN4.out _ hB).mono ?_
    rintro e V100 ⟨rfl, hX, gg⟩
    go_wp2_with fail
    replace ha := ha.grown gg (by rw [Ne, Option.some.injEq]; omega)
    replace hz92 := hz92.grown gg (by rw [Ne, Option.some.injEq]; omega)
    clear hB
    have hB := hX
    clear hX
    replace hg := hg.trans gg
    clear gg
    refine hK.out _ _ ⟨hB.cell 15, ha.cell 0, ha.cell 1, ha.cell 2⟩ (fun hH => ?_)
    clear hK K
    try (simp only [Act.put, List.setIfInBounds_toArray, List.set_cons_zero, List.set_cons_succ])
    refine rd1 16 (fun K hK => ?_)
    have cc0 : V100.cell? ⟨az92, 0, none⟩ = some (.int .i32 0) := hz92.cell 0
    have zz0 := hz92.frozen 0
    have cc1 : V100.cell? ⟨az92, 1, none⟩ = some (.int .i32 0) := hz92.cell 1
    have zz1 := hz92.frozen 1
    have cc2 : V100.cell? ⟨az92, 2, none⟩ = some (.int .i32 0) := hz92.cell 2
    have zz2 := hz92.frozen 2
    go_simp
    try go_wp2_with fail
    replace hB := (((hB.fr az92 0 (by omega) (.int .i32 yy0)).fr az92 1 (by omega) (.int .i32 yy1)).fr az92 2 (by omega) (.int .i32 yy2))
    replace ha := (((ha.fr az92 0 (by omega) (.int .i32 yy0)).fr az92 1 (by omega) (.int .i32 yy1)).fr az92 2 (by omega) (.int .i32 yy2))
    clear cc0 zz0 cc1 zz1 cc2 zz2
    replace hz92 := (((hz92.set_ 0 (.int .i32 yy0)).set_ 1 (.int .i32 yy1)).set_ 2 (.int .i32 yy2))
    replace hg := (only_setCell (only_setCell (only_setCell hg (p := ⟨az92, 0, none⟩) (.inr (by dsimp only; omega)) (.int .i32 yy0)) (p := ⟨az92, 1, none⟩) (.inr (by dsimp only; omega)) (.int .i32 yy1)) (p := ⟨az92, 2, none⟩) (.inr (by dsimp only; omega)) (.int .i32 yy2))
    generalize (((V100.setCell ⟨az92, 0, none⟩ (.int .i32 yy0)).setCell ⟨az92, 1, none⟩ (.int .i32 yy1)).setCell ⟨az92, 2, none⟩ (.int .i32 yy2)) = V102 at *
    refine hK.out _ _ ⟨hB.cell 15, ha.cell 0, ha.cell 1, ha.cell 2⟩ (fun hH => ?_)
    clear hK K
    try (simp only [Act.put, List.setIfInBounds_toArray, List.set_cons_zero, List.set_cons_succ])
    refine wpAnyH_done (by kernel_rfl) ?_ _
    refine NoPanic.normal ?_
    try go_wp2_with fail
    go_meet
    exact ⟨az92, rfl, by omega, hz92, hB, hg⟩
  case rest =>
   clear hB hg ha HS1 HS3 HA HS4 HN1 HN2 HN3 HN4
   obtain ⟨b, rfl, hgb, hy, hB, hg⟩ := hcut
   go_upto_region 4 with fail
   generalize wc = W3 at *
   refine wp_region_noPanic ?_
   refine wp_region_held_drew (S := (fun w' : World => w'.cell? ⟨b, 0, none⟩ = some (.int .i32 yy0) ∧ w'.cell? ⟨b, 1, none⟩ = some (.int .i32 yy1) ∧ w'.cell? ⟨b, 2, none⟩ = some (.int .i32 yy2))) (by kernel_rfl) ⟨hy.cell 0, hy.cell 1, hy.cell 2⟩ (fun hH => ?_)
   refine (show wpAnyH _ _ _ _ _ 16 _ _ _ from ?_)
   try (simp only [Act.put, List.setIfInBounds_toArray, List.set_cons_zero, List.set_cons_succ])
   replace hB := hB.drew
   replace hy := hy.drew
   replace hg := only_drew hg
   generalize (W3).drew = V103 at *
   refine tk 0 hH ?_
   refine tk 1 hH ?_
   refine tk 2 hH ?_
   refine tk 3 hH ?_
   refine tk 4 hH ?_
   refine tk 5 hH ?_
   refine tk 7 hH ?_
   refine rd1 6 (fun K hK => ?_)
   have cc4 : V103.cell? ⟨g, 4, none⟩ = some (.int .i32 b0) := hB.cell 4
   have cc5 : V103.cell? ⟨g, 5, none⟩ = some (.int .i32 b1) := hB.cell 5
   have cc6 : V103.cell? ⟨g, 6, none⟩ = some (.int .i32 b2) := hB.cell 6
   go_simp
   try go_wp2_with fail
   clear cc4 cc5 cc6
   refine hK.out _ _ ⟨hy.cell 0, hy.cell 1, hy.cell 2⟩ (fun hH => ?_)
   clear hK K
   try (simp only [Act.put, List.setIfInBounds_toArray, List.set_cons_zero, List.set_cons_succ])
   refine rd1 8 (fun K hK => ?_)
   go_simp
   refine (HD.out _).mono ?_
   rintro e V107 ⟨rfl, bb⟩
   go_wp2_with fail
   replace hB := hB.below bb hB.lt
   replace hy := hy.below bb hy.lt
   replace hg := hg.trans (f_gr bb (some g))
   clear bb
   refine hK.out _ _ ⟨hy.cell 0, hy.cell 1, hy.cell 2⟩ (fun hH => ?_)
   clear hK K
   try (simp only [Act.put, List.setIfInBounds_toArray, List.set_cons_zero, List.set_cons_succ])
   refine tk 9 hH ?_
   refine tk 10 hH ?_
   refine rd1 11 (fun K hK => ?_)
   go_simp
   refine (HN5.out _ hB).mono ?_
   rintro e V109 ⟨rfl, hX, gg⟩
   go_wp2_with fail
   replace hy := hy.grown gg (by rw [Ne, Option.some.injEq]; omega)
   clear hB
   have hB := hX
   clear hX
   replace hg := hg.trans gg
   clear gg
   refine hK.out _ _ ⟨hy.cell 0, hy.cell 1, hy.cell 2⟩ (fun hH => ?_)
   clear hK K
   try (simp only [Act.put, List.setIfInBounds_toArray, List.set_cons_zero, List.set_cons_succ])
   refine tk 12 hH ?_
   refine tk 13 hH ?_
   refine tk 14 hH ?_
   refine rd1 15 (fun K hK => ?_)
   have cc4 : V109.cell? ⟨g, 4, none⟩ = some (.int .i32 b0) := hB.cell 4
   have zz4 := hB.frozen 4
   have cc5 : V109.cell? ⟨g, 5, none⟩ = some (.int .i32 b1) := hB.cell 5
   have zz5 := hB.frozen 5
   have cc6 : V109.cell? ⟨g, 6, none⟩ = some (.int .i32 b2) := hB.cell 6
   have zz6 := hB.frozen 6
   go_simp
   try go_wp2_with fail
   replace hy := (((hy.fr g 4 (by omega) (.int .i32 bn0)).fr g 5 (by omega) (.int .i32 bn1)).fr g 6 (by omega) (.int .i32 bn2))
   clear cc4 zz4 cc5 zz5 cc6 zz6
   replace hB := (((hB.set_ 4 (.int .i32 bn0)).set_ 5 (.int .i32 bn1)).set_ 6 (.int .i32 bn2))
   replace hg := (only_set (only_set (only_set hg 4 (.int .i32 bn0)) 5 (.int .i32 bn1)) 6 (.int .i32 bn2))
   generalize (((V109.setCell ⟨g, 4, none⟩ (.int .i32 bn0)).setCell ⟨g, 5, none⟩ (.int .i32 bn1)).setCell ⟨g, 6, none⟩ (.int .i32 bn2)) = V111 at *
   refine hK.out _ _ ⟨hy.cell 0, hy.cell 1, hy.cell 2⟩ (fun hH => ?_)
   clear hK K
   try (simp only [Act.put, List.setIfInBounds_toArray, List.set_cons_zero, List.set_cons_succ])
   refine wpAnyH_done (by kernel_rfl) ?_ _
   refine NoPanic.normal ?_
   go_wp2
   go_end0
   exact ⟨rfl, hB, hg⟩
end Go.Proofs.YtgmepohfkpncmaaGreat
