/- Chapter 42: the rate without the bias; the bias brought back. -/
import Derived.Test.YtgmepohfkpncmaaGreatFuse
import Derived.Test.YtgmepohfkpncmaaGreatVecD
namespace Go.Proofs.YtgmepohfkpncmaaGreat
open Go.RowKit
set_option linter.unusedVariables false
set_option linter.unusedSimpArgs false

theorem f_gr {w w' : World} (b : Below w.heap.size w w') (row : Option Nat) : w.grownBy w' row := ⟨b.os, b.tape, b.output, b.size, fun k hk _ => b.block k hk⟩
set_option maxRecDepth 20000 in
set_option maxHeartbeats 4000000 in
theorem f_free (g : Nat) (q0 q1 q2 q3 b0 b1 b2 n c y0 y1 y2 x0 x1 x2 d r0 r1 r2 : Int) (w : World) (iy0 : I32 y0) (iy1 : I32 y1) (iy2 : I32 y2) (ib0 : I32 b0) (ib1 : I32 b1) (ib2 : I32 b2) (hc : 0 ≤ c ∧ c ≤ 2199023255552) (hB : Blk w g 56 #[.int .i32 q0, .int .i32 q1, .int .i32 q2, .int .i32 q3, .int .i32 b0, .int .i32 b1, .int .i32 b2, .int .i64 n, .int .i64 c, .int .i32 y0, .int .i32 y1, .int .i32 y2, .int .i32 x0, .int .i32 x1, .int .i32 x2, .int .i32 d, .int .i32 r0, .int .i32 r1, .int .i32 r2]) :
  Calls Tryz.prog 26 #[.pointer (some ⟨g, 0, none⟩)] w fun e w' => e = .returned (.tuple #[]) ∧ Blk w' g 56 #[.int .i32 q0, .int .i32 q1, .int .i32 q2, .int .i32 q3, .int .i32 b0, .int .i32 b1, .int .i32 b2, .int .i64 n, .int .i64 (c + (cutC (y0 - b0) + cutC (y1 - b1) + cutC (y2 - b2))), .int .i32 y0, .int .i32 y1, .int .i32 y2, .int .i32 x0, .int .i32 x1, .int .i32 x2, .int .i32 d, .int .i32 (clampP (y0 - b0)), .int .i32 (clampP (y1 - b1)), .int .i32 (clampP (y2 - b2))] ∧ w.grownBy w' (some g) := by
 have HS := hid fun w => v_Sub y0 y1 y2 b0 b1 b2 w iy0 iy1 iy2 ib0 ib1 ib2
 have k0 := cutC_bd (y0 - b0)
 have k1 := cutC_bd (y1 - b1)
 have k2 := cutC_bd (y2 - b2)
 have hk : 0 ≤ cutC (y0 - b0) + cutC (y1 - b1) + cutC (y2 - b2) ∧ cutC (y0 - b0) + cutC (y1 - b1) + cutC (y2 - b2) ≤ 3 := by omega
 clear k0 k1 k2 iy0 iy1 iy2 ib0 ib1 ib2
 generalize cutC (y0 - b0) + cutC (y1 - b1) + cutC (y2 - b2) = k at *
 generalize clampP (y0 - b0) = s0 at *
 generalize clampP (y1 - b1) = s1 at *
 generalize clampP (y2 - b2) = s2 at *
 have HN := hid fun w h => f_note g q0 q1 q2 q3 b0 b1 b2 n c y0 y1 y2 x0 x1 x2 d r0 r1 r2 s0 s1 s2 k w (by omega) h
 clear hk hc
 have hg : w.grownBy w (some g) := World.grownBy.refl _ _
 go_enter Tryz.func26, Tryz.ntmps26
 go_wp2_with fail
 refine wp_region_noPanic ?_
 refine wp_region_held_drew (S := (fun w' : World => w'.cell? ⟨g, 4, none⟩ = some (.int .i32 b0) ∧ w'.cell? ⟨g, 5, none⟩ = some (.int .i32 b1) ∧ w'.cell? ⟨g, 6, none⟩ = some (.int .i32 b2) ∧ w'.cell? ⟨g, 9, none⟩ = some (.int .i32 y0) ∧ w'.cell? ⟨g, 10, none⟩ = some (.int .i32 y1) ∧ w'.cell? ⟨g, 11, none⟩ = some (.int .i32 y2))) (by kernel_rfl) ⟨hB.cell 4, hB.cell 5, hB.cell 6, hB.cell 9, hB.cell 10, hB.cell 11⟩ (fun hH => ?_)
 refine (show wpAnyH _ _ _ _ _ 18 _ _ _ from ?_)
 try (simp only [Act.put, List.setIfInBounds_toArray, List.set_cons_zero, List.set_cons_succ])
 replace hB := hB.drew
 replace hg := only_drew hg
 generalize (w).drew = V0 at *
 refine tk 0 hH ?_
 refine tk 1 hH ?_
 refine tk 2 hH ?_
 refine tk 3 hH ?_
 refine tk 4 hH ?_
 refine tk 5 hH ?_
 refine tk 6 hH ?_
 refine tk 7 hH ?_
 refine tk 8 hH ?_
 refine tk 9 hH ?_
 refine tk 10 hH ?_
 refine rd1 11 (fun K hK => ?_)
 go_simp
 refine (HS.out _).mono ?_
 rintro e V1 ⟨rfl, bb⟩
 go_wp2_with fail
 replace hB := hB.below bb hB.lt
 replace hg := hg.trans (f_gr bb (some g))
 clear bb
 refine hK.out _ _ ⟨hB.cell 4, hB.cell 5, hB.cell 6, hB.cell 9, hB.cell 10, hB.cell 11⟩ (fun hH => ?_)
 clear hK K
 try (simp only [Act.put, List.setIfInBounds_toArray, List.set_cons_zero, List.set_cons_succ])
 refine tk 12 hH ?_
 refine tk 13 hH ?_
 refine rd1 14 (fun K hK => ?_)
 go_simp
 refine (HN.out _ hB).mono ?_
 rintro e V2 ⟨rfl, hX, gg⟩
 go_wp2_with fail
 clear hB
 have hB := hX
 clear hX
 replace hg := hg.trans gg
 clear gg
 refine hK.out _ _ ⟨hB.cell 4, hB.cell 5, hB.cell 6, hB.cell 9, hB.cell 10, hB.cell 11⟩ (fun hH => ?_)
 clear hK K
 try (simp only [Act.put, List.setIfInBounds_toArray, List.set_cons_zero, List.set_cons_succ])
 refine tk 15 hH ?_
 refine tk 16 hH ?_
 refine rd1 17 (fun K hK => ?_)
 have cc16 : V2.cell? ⟨g, 16, none⟩ = some (.int .i32 r0) := hB.cell 16
 have zz16 := hB.frozen 16
 have cc17 : V2.cell? ⟨g, 17, none⟩ = some (.int .i32 r1) := hB.cell 17
 have zz17 := hB.frozen 17
 have cc18 : V2.cell? ⟨g, 18, none⟩ = some (.int .i32 r2) := hB.cell 18
 have zz18 := hB.frozen 18
 go_simp
 try go_wp2_with fail
 clear cc16 zz16 cc17 zz17 cc18 zz18
 replace hB := (((hB.set_ 16 (.int .i32 s0)).set_ 17 (.int .i32 s1)).set_ 18 (.int .i32 s2))
 replace hg := (only_set (only_set (only_set hg 16 (.int .i32 s0)) 17 (.int .i32 s1)) 18 (.int .i32 s2))
 generalize (((V2.setCell ⟨g, 16, none⟩ (.int .i32 s0)).setCell ⟨g, 17, none⟩ (.int .i32 s1)).setCell ⟨g, 18, none⟩ (.int .i32 s2)) = V3 at *
 refine hK.out _ _ ⟨hB.cell 4, hB.cell 5, hB.cell 6, hB.cell 9, hB.cell 10, hB.cell 11⟩ (fun hH => ?_)
 clear hK K
 try (simp only [Act.put, List.setIfInBounds_toArray, List.set_cons_zero, List.set_cons_succ])
 refine wpAnyH_done ?hr ?hq _
 case hr => kernel_rfl
 refine NoPanic.normal ?_
 go_wp2
 go_end0
 exact ⟨rfl, hB, hg⟩
set_option maxRecDepth 20000 in
set_option maxHeartbeats 8000000 in
theorem f_limit (g : Nat) (q0 q1 q2 q3 b0 b1 b2 n c y0 y1 y2 x0 x1 x2 d r0 r1 r2 : Int) (w : World) (ib0 : I32 b0) (ib1 : I32 b1) (ib2 : I32 b2) (hc : 0 ≤ c ∧ c ≤ 2199023255552) (hB : Blk w g 56 #[.int .i32 q0, .int .i32 q1, .int .i32 q2, .int .i32 q3, .int .i32 b0, .int .i32 b1, .int .i32 b2, .int .i64 n, .int .i64 c, .int .i32 y0, .int .i32 y1, .int .i32 y2, .int .i32 x0, .int .i32 x1, .int .i32 x2, .int .i32 d, .int .i32 r0, .int .i32 r1, .int .i32 r2]) :
  Calls Tryz.prog 28 #[.pointer (some ⟨g, 0, none⟩)] w fun e w' => e = .returned (.tuple #[]) ∧ Blk w' g 56 #[.int .i32 q0, .int .i32 q1, .int .i32 q2, .int .i32 q3, .int .i32 (liP b0), .int .i32 (liP b1), .int .i32 (liP b2), .int .i64 n, .int .i64 (c + liN b0 + liN b1 + liN b2), .int .i32 y0, .int .i32 y1, .int .i32 y2, .int .i32 x0, .int .i32 x1, .int .i32 x2, .int .i32 d, .int .i32 r0, .int .i32 r1, .int .i32 r2] ∧ w.grownBy w' (some g) := by
 have l0 := liN_bd b0
 have l1 := liN_bd b1
 have l2 := liN_bd b2
 have H0 := hid fun w h => f_back g q0 q1 q2 q3 b0 b1 b2 n c y0 y1 y2 x0 x1 x2 d r0 r1 r2 b0 w ib0 (by omega) h
 have H1 := hid fun w h => f_back g q0 q1 q2 q3 b0 b1 b2 n (c + liN b0) y0 y1 y2 x0 x1 x2 d r0 r1 r2 b1 w ib1 (by omega) h
 have H2 := hid fun w h => f_back g q0 q1 q2 q3 b0 b1 b2 n (c + liN b0 + liN b1) y0 y1 y2 x0 x1 x2 d r0 r1 r2 b2 w ib2 (by omega) h
 clear l0 l1 l2 hc ib0 ib1 ib2
 generalize liN b0 = m0 at *
 generalize liP b0 = k0 at *
 generalize liN b1 = m1 at *
 generalize liP b1 = k1 at *
 generalize liN b2 = m2 at *
 generalize liP b2 = k2 at *
 have lt := hB.lt
 have hg : w.grownBy (w.alloc (.cells #[.int .i32 b0, .int .i32 b1, .int .i32 b2] 25)) (some g) := only_alloc (World.grownBy.refl _ _) _
 have hX : Blk (w.alloc (.cells #[.int .i32 b0, .int .i32 b1, .int .i32 b2] 25)) g 56 #[.int .i32 q0, .int .i32 q1, .int .i32 q2, .int .i32 q3, .int .i32 b0, .int .i32 b1, .int .i32 b2, .int .i64 n, .int .i64 c, .int .i32 y0, .int .i32 y1, .int .i32 y2, .int .i32 x0, .int .i32 x1, .int .i32 x2, .int .i32 d, .int .i32 r0, .int .i32 r1, .int .i32 r2] := hB.alloc _
 have hv : Blk (w.alloc (.cells #[.int .i32 b0, .int .i32 b1, .int .i32 b2] 25)) w.heap.size 25 #[.int .i32 b0, .int .i32 b1, .int .i32 b2] := Blk.new w _ _
 have f0 : w.cell? ⟨g, 4, none⟩ = some (.int .i32 b0) := hB.cell 4
 have f1 : w.cell? ⟨g, 5, none⟩ = some (.int .i32 b1) := hB.cell 5
 have f2 : w.cell? ⟨g, 6, none⟩ = some (.int .i32 b2) := hB.cell 6
 go_enter Tryz.func28, Tryz.ntmps28
 go_upto_region 1 with fail
 clear f0 f1 f2 hB
 have hB := hX
 clear hX
 generalize (w.alloc (.cells #[.int .i32 b0, .int .i32 b1, .int .i32 b2] 25)) = W0 at *
 generalize hgv : w.heap.size = gv at *
 go_cut [3] from 9 to 21 (fun p wx => ∃ a : Nat, p = .pointer (some ⟨a, 0, none⟩) ∧ Blk wx a 25 #[.int .i32 k0, .int .i32 k1, .int .i32 k2] ∧ Blk wx g 56 #[.int .i32 q0, .int .i32 q1, .int .i32 q2, .int .i32 q3, .int .i32 b0, .int .i32 b1, .int .i32 b2, .int .i64 n, .int .i64 (c + m0 + m1 + m2), .int .i32 y0, .int .i32 y1, .int .i32 y2, .int .i32 x0, .int .i32 x1, .int .i32 x2, .int .i32 d, .int .i32 r0, .int .i32 r1, .int .i32 r2] ∧ Blk wx gv 25 #[.int .i32 b0, .int .i32 b1, .int .i32 b2] ∧ w.grownBy wx (some g))
 case first =>
  refine wp_region_noPanic ?_
  refine wp_region_held_drew (S := (fun w' : World => w'.cell? ⟨gv, 0, none⟩ = some (.int .i32 b0) ∧ w'.cell? ⟨gv, 1, none⟩ = some (.int .i32 b1) ∧ w'.cell? ⟨gv, 2, none⟩ = some (.int .i32 b2))) (by kernel_rfl) ⟨hv.cell 0, hv.cell 1, hv.cell 2⟩ (fun hH => ?_)
  refine (show wpAnyH _ _ _ _ _ 15 _ _ _ from ?_)
  try (simp only [Act.put, List.setIfInBounds_toArray, List.set_cons_zero, List.set_cons_succ])
  replace hB := hB.drew
  replace hv := hv.drew
  replace hg := only_drew hg
  generalize (W0).drew = V1 at *
  refine tk 0 hH ?_
  refine tk 1 hH ?_
  refine tk 2 hH ?_
  refine tk 4 hH ?_
  refine tk 5 hH ?_
  refine tk 6 hH ?_
  refine tk 8 hH ?_
  refine tk 9 hH ?_
  refine tk 10 hH ?_
  refine rd2 3 13 (fun K hK => ?hc2q3) (fun K hK => ?hc2q13)
  case hc2q3 =>
   go_simp
   refine (H0.out _ hB).mono ?_
   rintro e V3 ⟨rfl, hX, gg⟩
   go_wp2_with fail
   replace hv := hv.grown gg (by rw [Ne, Option.some.injEq]; omega)
   clear hB
   have hB := hX
   clear hX
   replace hg := hg.trans gg
   clear gg
   refine hK.out _ _ ⟨hv.cell 0, hv.cell 1, hv.cell 2⟩ (fun hH => ?_)
   clear hK K
   try (simp only [Act.put, List.setIfInBounds_toArray, List.set_cons_zero, List.set_cons_succ])
   refine rd2 7 13 (fun K hK => ?hc4q7) (fun K hK => ?hc4q13)
   case hc4q7 =>
    go_simp
    refine (H1.out _ hB).mono ?_
    rintro e V5 ⟨rfl, hX, gg⟩
    go_wp2_with fail
    replace hv := hv.grown gg (by rw [Ne, Option.some.injEq]; omega)
    clear hB
    have hB := hX
    clear hX
    replace hg := hg.trans gg
    clear gg
    refine hK.out _ _ ⟨hv.cell 0, hv.cell 1, hv.cell 2⟩ (fun hH => ?_)
    clear hK K
    try (simp only [Act.put, List.setIfInBounds_toArray, List.set_cons_zero, List.set_cons_succ])
    refine rd2 11 13 (fun K hK => ?hc6q11) (fun K hK => ?hc6q13)
    case hc6q11 =>
     go_simp
     refine (H2.out _ hB).mono ?_
     rintro e V7 ⟨rfl, hX, gg⟩
     go_wp2_with fail
     replace hv := hv.grown gg (by rw [Ne, Option.some.injEq]; omega)
     clear hB
     have hB := hX
     clear hX
     replace hg := hg.trans gg
     clear gg
     refine hK.out _ _ ⟨hv.cell 0, hv.cell 1, hv.cell 2⟩ (fun hH => ?_)
     clear hK K
     try (simp only [Act.put, List.setIfInBounds_toArray, List.set_cons_zero, List.set_cons_succ])
     refine tk 12 hH ?_
     refine rd1 13 (fun K hK => ?_)
     go_simp
     try go_wp2_with fail
     have l9hB := hB.lt
     have l9hv := hv.lt
     replace hB := hB.alloc (.cells #[.int .i32 0, .int .i32 0, .int .i32 0] 25)
     replace hv := hv.alloc (.cells #[.int .i32 0, .int .i32 0, .int .i32 0] 25)
     have hz9 := Blk.new V7 25 #[.int .i32 0, .int .i32 0, .int .i32 0]
     have lz9 := hg.size
     replace hg := only_alloc hg (.cells #[.int .i32 0, .int .i32 0, .int .i32 0] 25)
     generalize V7.alloc (.cells #[.int .i32 0, .int .i32 0, .int .i32 0] 25) = V9 at *
     generalize V7.heap.size = az9 at *
     refine hK.out _ _ ⟨hv.cell 0, hv.cell 1, hv.cell 2⟩ (fun hH => ?_)
     clear hK K
     try (simp only [Act.put, List.setIfInBounds_toArray, List.set_cons_zero, List.set_cons_succ])
     refine rd1 14 (fun K hK => ?_)
     have cc0 : V9.cell? ⟨az9, 0, none⟩ = some (.int .i32 0) := hz9.cell 0
     have zz0 := hz9.frozen 0
     have cc1 : V9.cell? ⟨az9, 1, none⟩ = some (.int .i32 0) := hz9.cell 1
     have zz1 := hz9.frozen 1
     have cc2 : V9.cell? ⟨az9, 2, none⟩ = some (.int .i32 0) := hz9.cell 2
     have zz2 := hz9.frozen 2
     go_simp
     try go_wp2_with fail
     replace hB := (((hB.fr az9 0 (by omega) (.int .i32 k0)).fr az9 1 (by omega) (.int .i32 k1)).fr az9 2 (by omega) (.int .i32 k2))
     replace hv := (((hv.fr az9 0 (by omega) (.int .i32 k0)).fr az9 1 (by omega) (.int .i32 k1)).fr az9 2 (by omega) (.int .i32 k2))
     clear cc0 zz0 cc1 zz1 cc2 zz2
     replace hz9 := (((hz9.set_ 0 (.int .i32 k0)).set_ 1 (.int .i32 k1)).set_ 2 (.int .i32 k2))
     replace hg := (only_setCell (only_setCell (only_setCell hg (p := ⟨az9, 0, none⟩) (.inr (by dsimp only; omega)) (.int .i32 k0)) (p := ⟨az9, 1, none⟩) (.inr (by dsimp only; omega)) (.int .i32 k1)) (p := ⟨az9, 2, none⟩) (.inr (by dsimp only; omega)) (.int .i32 k2))
     generalize (((V9.setCell ⟨az9, 0, none⟩ (.int .i32 k0)).setCell ⟨az9, 1, none⟩ (.int .i32 k1)).setCell ⟨az9, 2, none⟩ (.int .i32 k2)) = V11 at *
     refine hK.out _ _ ⟨hv.cell 0, hv.cell 1, hv.cell 2⟩ (fun hH => ?_)
     clear hK K
     try (simp only [Act.put, List.setIfInBounds_toArray, List.set_cons_zero, List.set_cons_succ])
     refine wpAnyH_done (by kernel_rfl) ?_ _
     refine NoPanic.normal ?_
     try go_wp2_with fail
     go_meet
     exact ⟨az9, rfl, hz9, hB, hv, hg⟩
    case hc6q13 =>
     go_simp
     try go_wp2_with fail
     have l12hB := hB.lt
     have l12hv := hv.lt
     replace hB := hB.alloc (.cells #[.int .i32 0, .int .i32 0, .int .i32 0] 25)
     replace hv := hv.alloc (.cells #[.int .i32 0, .int .i32 0, .int .i32 0] 25)
     have hz12 := Blk.new V5 25 #[.int .i32 0, .int .i32 0, .int .i32 0]
     have lz12 := hg.size
     replace hg := only_alloc hg (.cells #[.int .i32 0, .int .i32 0, .int .i32 0] 25)
     generalize V5.alloc (.cells #[.int .i32 0, .int .i32 0, .int .i32 0] 25) = V12 at *
     generalize V5.heap.size = az12 at *
     refine hK.out _ _ ⟨hv.cell 0, hv.cell 1, hv.cell 2⟩ (fun hH => ?_)
     clear hK K
     try (simp only [Act.put, List.setIfInBounds_toArray, List.set_cons_zero, List.set_cons_succ])
     refine rd1 11 (fun K hK => ?_)
     go_simp
     refine (H2.out _ hB).mono ?_
     rintro e V14 ⟨rfl, hX, gg⟩
     go_wp2_with fail
     replace hv := hv.grown gg (by rw [Ne, Option.some.injEq]; omega)
     replace hz12 := hz12.grown gg (by rw [Ne, Option.some.injEq]; omega)
     clear hB
     have hB := hX
     clear hX
     replace hg := hg.trans gg
     clear gg
     refine hK.out _ _ ⟨hv.cell 0, hv.cell 1, hv.cell 2⟩ (fun hH => ?_)
     clear hK K
     try (simp only [Act.put, List.setIfInBounds_toArray, List.set_cons_zero, List.set_cons_succ])
     refine tk 12 hH ?_
     refine rd1 14 (fun K hK => ?_)
     have cc0 : V14.cell? ⟨az12, 0, none⟩ = some (.int .i32 0) := hz12.cell 0
     have zz0 := hz12.frozen 0
     have cc1 : V14.cell? ⟨az12, 1, none⟩ = some (.int .i32 0) := hz12.cell 1
     have zz1 := hz12.frozen 1
     have cc2 : V14.cell? ⟨az12, 2, none⟩ = some (.int .i32 0) := hz12.cell 2
     have zz2 := hz12.frozen 2
     go_simp
     try go_wp2_with fail
     replace hB := (((hB.fr az12 0 (by omega) (.int .i32 k0)).fr az12 1 (by omega) (.int .i32 k1)).fr az12 2 (by omega) (.int .i32 k2))
     replace hv := (((hv.fr az12 0 (by omega) (.int .i32 k0)).fr az12 1 (by omega) (.int .i32 k1)).fr az12 2 (by omega) (.int .i32 k2))
     clear cc0 zz0 cc1 zz1 cc2 zz2
     replace hz12 := (((hz12.set_ 0 (.int .i32 k0)).set_ 1 (.int .i32 k1)).set_ 2 (.int .i32 k2))
     replace hg := (only_setCell (only_setCell (only_setCell hg (p := ⟨az12, 0, none⟩) (.inr (by dsimp only; omega)) (.int .i32 k0)) (p := ⟨az12, 1, none⟩) (.inr (by dsimp only; omega)) (.int .i32 k1)) (p := ⟨az12, 2, none⟩) (.inr (by dsimp only; omega)) (.int .i32 k2))
     generalize (((V14.setCell ⟨az12, 0, none⟩ (.int .i32 k0)).setCell ⟨az12, 1, none⟩ (.int .i32 k1)).setCell ⟨az12, 2, none⟩ (.int .i32 k2)) = V16 at *
     refine hK.out _ _ ⟨hv.cell 0, hv.cell 1, hv.cell 2⟩ (fun hH => ?_)
     clear hK K
     try (simp only [Act.put, List.setIfInBounds_toArray, List.set_cons_zero, List.set_cons_succ])
     refine wpAnyH_done (by kernel_rfl) ?_ _
     refine NoPanic.normal ?_
     try go_wp2_with fail
     go_meet
     exact ⟨az12, rfl, hz12, hB, hv, hg⟩
   case hc4q13 =>
    go_simp
    try go_wp2_with fail
    have l17hB := hB.lt
    have l17hv := hv.lt
    replace hB := hB.alloc (.cells #[.int .i32 0, .int .i32 0, .int .i32 0] 25)
    replace hv := hv.alloc (.cells #[.int .i32 0, .int .i32 0, .int .i32 0] 25)
    have hz17 := Blk.new V3 25 #[.int .i32 0, .int .i32 0, .int .i32 0]
    have lz17 := hg.size
    replace hg := only_alloc hg (.cells #[.int .i32 0, .int .i32 0, .int .i32 0] 25)
    generalize V3.alloc (.cells #[.int .i32 0, .int .i32 0, .int .i32 0] 25) = V17 at *
    generalize V3.heap.size = az17 at *
    refine hK.out _ _ ⟨hv.cell 0, hv.cell 1, hv.cell 2⟩ (fun hH => ?_)
    clear hK K
    try (simp only [Act.put, List.setIfInBounds_toArray, List.set_cons_zero, List.set_cons_succ])
    refine rd1 7 (fun K hK => ?_)
    go_simp
    refine (H1.out _ hB).mono ?_
    rintro e V19 ⟨rfl, hX, gg⟩
    go_wp2_with fail
    replace hv := hv.grown gg (by rw [Ne, Option.some.injEq]; omega)
    replace hz17 := hz17.grown gg (by rw [Ne, Option.some.injEq]; omega)
    clear hB
    have hB := hX
    clear hX
    replace hg := hg.trans gg
    clear gg
    refine hK.out _ _ ⟨hv.cell 0, hv.cell 1, hv.cell 2⟩ (fun hH => ?_)
    clear hK K
    try (simp only [Act.put, List.setIfInBounds_toArray, List.set_cons_zero, List.set_cons_succ])
    refine rd1 11 (fun K hK => ?_)
    go_simp
    refine (H2.out _ hB).mono ?_
    rintro e V21 ⟨rfl, hX, gg⟩
    go_wp2_with fail
    replace hv := hv.grown gg (by rw [Ne, Option.some.injEq]; omega)
    replace hz17 := hz17.grown gg (by rw [Ne, Option.some.injEq]; omega)
    clear hB
    have hB := hX
    clear hX
    replace hg := hg.trans gg
    clear gg
    refine hK.out _ _ ⟨hv.cell 0, hv.cell 1, hv.cell 2⟩ (fun hH => ?_)
    clear hK K
    try (simp only [Act.put, List.setIfInBounds_toArray, List.set_cons_zero, List.set_cons_succ])
    refine tk 12 hH ?_
    refine rd1 14 (fun K hK => ?_)
    have cc0 : V21.cell? ⟨az17, 0, none⟩ = some (.int .i32 0) := hz17.cell 0
    have zz0 := hz17.frozen 0
    have cc1 : V21.cell? ⟨az17, 1, none⟩ = some (.int .i32 0) := hz17.cell 1
    have zz1 := hz17.frozen 1
    have cc2 : V21.cell? ⟨az17, 2, none⟩ = some (.int .i32 0) := hz17.cell 2
    have zz2 := hz17.frozen 2
    go_simp
    try go_wp2_with fail
    replace hB := (((hB.fr az17 0 (by omega) (.int .i32 k0)).fr az17 1 (by omega) (.int .i32 k1)).fr az17 2 (by omega) (.int .i32 k2))
    replace hv := (((hv.fr az17 0 (by omega) (.int .i32 k0)).fr az17 1 (by omega) (.int .i32 k1)).fr az17 2 (by omega) (.int .i32 k2))
    clear cc0 zz0 cc1 zz1 cc2 zz2
    replace hz17 := (((hz17.set_ 0 (.int .i32 k0)).set_ 1 (.int .i32 k1)).set_ 2 (.int .i32 k2))
    replace hg := (only_setCell (only_setCell (only_setCell hg (p := ⟨az17, 0, none⟩) (.inr (by dsimp only; omega)) (.int .i32 k0)) (p := ⟨az17, 1, none⟩) (.inr (by dsimp only; omega)) (.int .i32 k1)) (p := ⟨az17, 2, none⟩) (.inr (by dsimp only; omega)) (.int .i32 k2))
    generalize (((V21.setCell ⟨az17, 0, none⟩ (.int .i32 k0)).setCell ⟨az17, 1, none⟩ (.int .i32 k1)).setCell ⟨az17, 2, none⟩ (.int .i32 k2)) = V23 at *
    refine hK.out _ _ ⟨hv.cell 0, hv.cell 1, hv.cell 2⟩ (fun hH => ?_)
    clear hK K
    try (simp only [Act.put, List.setIfInBounds_toArray, List.set_cons_zero, List.set_cons_succ])
    refine wpAnyH_done (by kernel_rfl) ?_ _
    refine NoPanic.normal ?_
    try go_wp2_with fail
    go_meet
    exact ⟨az17, rfl, hz17, hB, hv, hg⟩
  case hc2q13 =>
   go_simp
   try go_wp2_with fail
   have l24hB := hB.lt
   have l24hv := hv.lt
   replace hB := hB.alloc (.cells #[.int .i32 0, .int .i32 0, .int .i32 0] 25)
   replace hv := hv.alloc (.cells #[.int .i32 0, .int .i32 0, .int .i32 0] 25)
   have hz24 := Blk.new V1 25 #[.int .i32 0, .int .i32 0, .int .i32 0]
   have lz24 := hg.size
   replace hg := only_alloc hg (.cells #[.int .i32 0, .int .i32 0, .int .i32 0] 25)
   generalize V1.alloc (.cells #[.int .i32 0, .int .i32 0, .int .i32 0] 25) = V24 at *
   generalize V1.heap.size = az24 at *
   refine hK.out _ _ ⟨hv.cell 0, hv.cell 1, hv.cell 2⟩ (fun hH => ?_)
   clear hK K
   try (simp only [Act.put, List.setIfInBounds_toArray, List.set_cons_zero, List.set_cons_succ])
   refine rd1 3 (fun K hK => ?_)
   go_simp
   refine (H0.out _ hB).mono ?_
   rintro e V26 ⟨rfl, hX, gg⟩
   go_wp2_with fail
   replace hv := hv.grown gg (by rw [Ne, Option.some.injEq]; omega)
   replace hz24 := hz24.grown gg (by rw [Ne, Option.some.injEq]; omega)
   clear hB
   have hB := hX
   clear hX
   replace hg := hg.trans gg
   clear gg
   refine hK.out _ _ ⟨hv.cell 0, hv.cell 1, hv.cell 2⟩ (fun hH => ?_)
   clear hK K
   try (simp only [Act.put, List.setIfInBounds_toArray, List.set_cons_zero, List.set_cons_succ])
   refine rd1 7 (fun K hK => ?_)
   go_simp
   refine (H1.out _ hB).mono ?_
   rintro e V28 ⟨rfl, hX, gg⟩
   go_wp2_with fail
   replace hv := hv.grown gg (by rw [Ne, Option.some.injEq]; omega)
   replace hz24 := hz24.grown gg (by rw [Ne, Option.some.injEq]; omega)
   clear hB
   have hB := hX
   clear hX
   replace hg := hg.trans gg
   clear gg
   refine hK.out _ _ ⟨hv.cell 0, hv.cell 1, hv.cell 2⟩ (fun hH => ?_)
   clear hK K
   try (simp only [Act.put, List.setIfInBounds_toArray, List.set_cons_zero, List.set_cons_succ])
   refine rd1 11 (fun K hK => ?_)
   go_simp
   refine (H2.out _ hB).mono ?_
   rintro e V30 ⟨rfl, hX, gg⟩
   go_wp2_with fail
   replace hv := hv.grown gg (by rw [Ne, Option.some.injEq]; omega)
   replace hz24 := hz24.grown gg (by rw [Ne, Option.some.injEq]; omega)
   clear hB
   have hB := hX
   clear hX
   replace hg := hg.trans gg
   clear gg
   refine hK.out _ _ ⟨hv.cell 0, hv.cell 1, hv.cell 2⟩ (fun hH => ?_)
   clear hK K
   try (simp only [Act.put, List.setIfInBounds_toArray, List.set_cons_zero, List.set_cons_succ])
   refine tk 12 hH ?_
   refine rd1 14 (fun K hK => ?_)
   have cc0 : V30.cell? ⟨az24, 0, none⟩ = some (.int .i32 0) := hz24.cell 0
   have zz0 := hz24.frozen 0
   have cc1 : V30.cell? ⟨az24, 1, none⟩ = some (.int .i32 0) := hz24.cell 1
   have zz1 := hz24.frozen 1
   have cc2 : V30.cell? ⟨az24, 2, none⟩ = some (.int .i32 0) := hz24.cell 2
   have zz2 := hz24.frozen 2
   go_simp
   try go_wp2_with fail
   replace hB := (((hB.fr az24 0 (by omega) (.int .i32 k0)).fr az24 1 (by omega) (.int .i32 k1)).fr az24 2 (by omega) (.int .i32 k2))
   replace hv := (((hv.fr az24 0 (by omega) (.int .i32 k0)).fr az24 1 (by omega) (.int .i32 k1)).fr az24 2 (by omega) (.int .i32 k2))
   clear cc0 zz0 cc1 zz1 cc2 zz2
   replace hz24 := (((hz24.set_ 0 (.int .i32 k0)).set_ 1 (.int .i32 k1)).set_ 2 (.int .i32 k2))
   replace hg := (only_setCell (only_setCell (only_setCell hg (p := ⟨az24, 0, none⟩) (.inr (by dsimp only; omega)) (.int .i32 k0)) (p := ⟨az24, 1, none⟩) (.inr (by dsimp only; omega)) (.int .i32 k1)) (p := ⟨az24, 2, none⟩) (.inr (by dsimp only; omega)) (.int .i32 k2))
   generalize (((V30.setCell ⟨az24, 0, none⟩ (.int .i32 k0)).setCell ⟨az24, 1, none⟩ (.int .i32 k1)).setCell ⟨az24, 2, none⟩ (.int .i32 k2)) = V32 at *
   refine hK.out _ _ ⟨hv.cell 0, hv.cell 1, hv.cell 2⟩ (fun hH => ?_)
   clear hK K
   try (simp only [Act.put, List.setIfInBounds_toArray, List.set_cons_zero, List.set_cons_succ])
   refine wpAnyH_done (by kernel_rfl) ?_ _
   refine NoPanic.normal ?_
   try go_wp2_with fail
   go_meet
   exact ⟨az24, rfl, hz24, hB, hv, hg⟩
 case rest =>
  clear hB hv hg H0 H1 H2
  obtain ⟨a, rfl, ha, hB, hv, hg⟩ := hcut
  have a0 : wc.cell? ⟨a, 0, none⟩ = some (.int .i32 k0) := ha.cell 0
  have v0 : wc.cell? ⟨gv, 0, none⟩ = some (.int .i32 b0) := hv.cell 0
  have c0 : wc.cell? ⟨g, 4, none⟩ = some (.int .i32 b0) := hB.cell 4
  have z0 := hB.frozen 4
  have a1 : wc.cell? ⟨a, 1, none⟩ = some (.int .i32 k1) := ha.cell 1
  have v1 : wc.cell? ⟨gv, 1, none⟩ = some (.int .i32 b1) := hv.cell 1
  have c1 : wc.cell? ⟨g, 5, none⟩ = some (.int .i32 b1) := hB.cell 5
  have z1 := hB.frozen 5
  have a2 : wc.cell? ⟨a, 2, none⟩ = some (.int .i32 k2) := ha.cell 2
  have v2 : wc.cell? ⟨gv, 2, none⟩ = some (.int .i32 b2) := hv.cell 2
  have c2 : wc.cell? ⟨g, 6, none⟩ = some (.int .i32 b2) := hB.cell 6
  have z2 := hB.frozen 6
  by_cases h0 : k0 = b0
  ·subst h0
   by_cases h1 : k1 = b1
   ·subst h1
    by_cases h2 : k2 = b2
    ·subst h2
     go_wp2
     go_end0
     exact ⟨rfl, hB, hg⟩
    ·have e2 : (k2 == b2) = false := by simpa using h2
     go_wp2
     go_end0
     exact ⟨rfl, (((hB.set_ 4 (.int .i32 k0)).set_ 5 (.int .i32 k1)).set_ 6 (.int .i32 k2)), (only_set (only_set (only_set hg 4 (.int .i32 k0)) 5 (.int .i32 k1)) 6 (.int .i32 k2))⟩
   ·have e1 : (k1 == b1) = false := by simpa using h1
    go_wp2
    go_end0
    exact ⟨rfl, (((hB.set_ 4 (.int .i32 k0)).set_ 5 (.int .i32 k1)).set_ 6 (.int .i32 k2)), (only_set (only_set (only_set hg 4 (.int .i32 k0)) 5 (.int .i32 k1)) 6 (.int .i32 k2))⟩
  ·have e0 : (k0 == b0) = false := by simpa using h0
   go_wp2
   go_end0
   exact ⟨rfl, (((hB.set_ 4 (.int .i32 k0)).set_ 5 (.int .i32 k1)).set_ 6 (.int .i32 k2)), (only_set (only_set (only_set hg 4 (.int .i32 k0)) 5 (.int .i32 k1)) 6 (.int .i32 k2))⟩
end Go.Proofs.YtgmepohfkpncmaaGreat
