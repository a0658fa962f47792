/- Chapter 09: vectors: sums, products. -/
import Derived.Test.YtgmepohfkpncmaaGreatVecC
namespace Go.Proofs.YtgmepohfkpncmaaGreat
open Go.RowKit
set_option linter.unusedVariables false
set_option linter.unusedSimpArgs false

set_option maxHeartbeats 16000000 in
theorem v_Add (a0 a1 a2 b0 b1 b2 : Int) (w : World) (ia0 : I32 a0) (ia1 : I32 a1) (ia2 : I32 a2) (ib0 : I32 b0) (ib1 : I32 b1) (ib2 : I32 b2) :
  Calls Tryz.prog 59 #[.agg #[.int .i32 a0, .int .i32 a1, .int .i32 a2], .agg #[.int .i32 b0, .int .i32 b1, .int .i32 b2]] w fun e w' => e = .returned (.tuple #[.agg #[.int .i32 (clampP (a0 + b0)), .int .i32 (clampP (a1 + b1)), .int .i32 (clampP (a2 + b2))], .int .i64 (cutC (a0 + b0) + cutC (a1 + b1) + cutC (a2 + b2))]) ∧ Below w.heap.size w w' := by
 have HP := hid fun w => v_parts a0 a1 a2 w
 have HQ := hid fun w => v_parts b0 b1 b2 w
 have hmf : ∀ (fn : Fn) (first cap : Array Value) (w : World), (Instr.makeFunc fn first cap).run Tryz.prog w = .ok (.func fn first cap) w := fun _ _ _ _ => rfl
 have hp0 : Blk (((w.alloc (.cells #[.int .i32 a0, .int .i32 a1, .int .i32 a2] 25)).alloc (.cells #[.int .i32 b0, .int .i32 b1, .int .i32 b2] 25)).alloc (.cells #[.int .i32 0, .int .i32 0, .int .i32 0] 25)) w.heap.size 25 #[.int .i32 a0, .int .i32 a1, .int .i32 a2] := ((Blk.new w _ _).alloc _).alloc _
 have hp1 : Blk (((w.alloc (.cells #[.int .i32 a0, .int .i32 a1, .int .i32 a2] 25)).alloc (.cells #[.int .i32 b0, .int .i32 b1, .int .i32 b2] 25)).alloc (.cells #[.int .i32 0, .int .i32 0, .int .i32 0] 25)) (w.heap.size + 1) 25 #[.int .i32 b0, .int .i32 b1, .int .i32 b2] := by have := (Blk.new (w.alloc (.cells #[.int .i32 a0, .int .i32 a1, .int .i32 a2] 25)) 25 #[.int .i32 b0, .int .i32 b1, .int .i32 b2]).alloc (.cells #[.int .i32 0, .int .i32 0, .int .i32 0] 25); simpa using this
 have hr : Blk (((w.alloc (.cells #[.int .i32 a0, .int .i32 a1, .int .i32 a2] 25)).alloc (.cells #[.int .i32 b0, .int .i32 b1, .int .i32 b2] 25)).alloc (.cells #[.int .i32 0, .int .i32 0, .int .i32 0] 25)) (w.heap.size + 1 + 1) 25 #[.int .i32 0, .int .i32 0, .int .i32 0] := by have := Blk.new ((w.alloc (.cells #[.int .i32 a0, .int .i32 a1, .int .i32 a2] 25)).alloc (.cells #[.int .i32 b0, .int .i32 b1, .int .i32 b2] 25)) 25 #[.int .i32 0, .int .i32 0, .int .i32 0]; simpa using this
 have hb : Below w.heap.size w (((w.alloc (.cells #[.int .i32 a0, .int .i32 a1, .int .i32 a2] 25)).alloc (.cells #[.int .i32 b0, .int .i32 b1, .int .i32 b2] 25)).alloc (.cells #[.int .i32 0, .int .i32 0, .int .i32 0] 25)) := (((Below.refl _ w).alloc (Nat.le_refl _) _).alloc (by simp) _).alloc (by simp; omega) _
 go_enter Tryz.func59, Tryz.ntmps59
 go_upto_region 1 with fail
 generalize ((w.alloc (.cells #[.int .i32 a0, .int .i32 a1, .int .i32 a2] 25)).alloc (.cells #[.int .i32 b0, .int .i32 b1, .int .i32 b2] 25)).alloc (.cells #[.int .i32 0, .int .i32 0, .int .i32 0] 25) = W0 at *
 go_cut [6, 7] from 8 to 11 (fun x y wx => ∃ g h : Nat, x = .pointer (some ⟨g, 0, none⟩) ∧ y = .pointer (some ⟨h, 0, none⟩) ∧ Blk wx g 69 #[.int .i32 a0, .int .i32 a1, .int .i32 a2] ∧ Blk wx h 69 #[.int .i32 b0, .int .i32 b1, .int .i32 b2] ∧ Blk wx (w.heap.size + 1 + 1) 25 #[.int .i32 0, .int .i32 0, .int .i32 0] ∧ Below w.heap.size w wx)
 case first =>
  refine wp_region_noPanic ?_
  refine wp_region_held_drew (S := (fun w' : World => w'.cell? ⟨w.heap.size, 0, none⟩ = some (.int .i32 a0) ∧ w'.cell? ⟨w.heap.size, 1, none⟩ = some (.int .i32 a1) ∧ w'.cell? ⟨w.heap.size, 2, none⟩ = some (.int .i32 a2) ∧ w'.cell? ⟨w.heap.size + 1, 0, none⟩ = some (.int .i32 b0) ∧ w'.cell? ⟨w.heap.size + 1, 1, none⟩ = some (.int .i32 b1) ∧ w'.cell? ⟨w.heap.size + 1, 2, none⟩ = some (.int .i32 b2) ∧ w'.cell? ⟨w.heap.size + 1 + 1, 0, none⟩ = some (.int .i32 0) ∧ w'.cell? ⟨w.heap.size + 1 + 1, 1, none⟩ = some (.int .i32 0) ∧ w'.cell? ⟨w.heap.size + 1 + 1, 2, none⟩ = some (.int .i32 0))) (by kernel_rfl) ⟨hp0.cell 0, hp0.cell 1, hp0.cell 2, hp1.cell 0, hp1.cell 1, hp1.cell 2, hr.cell 0, hr.cell 1, hr.cell 2⟩ (fun hH => ?_)
  refine (show wpAnyH _ _ _ _ _ 8 _ _ _ from ?_)
  try (simp only [Act.put, List.setIfInBounds_toArray, List.set_cons_zero, List.set_cons_succ])
  replace hp0 := hp0.drew
  replace hp1 := hp1.drew
  replace hr := hr.drew
  replace hb := hb.drew
  generalize W0.drew = W1 at *
  refine tk 0 hH ?_
  refine tk 2 hH ?_
  refine rd3 1 4 5 (fun K hK => ?hc2q1) (fun K hK => ?hc2q4) (fun K hK => ?hc2q5)
  case hc2q1 =>
   go_simp
   refine (HP.out _).mono ?_
   rintro e v3 ⟨rfl, bb⟩
   go_wp2_with fail
   replace hp0 := hp0.below bb hp0.lt
   replace hp1 := hp1.below bb hp1.lt
   replace hr := hr.below bb hr.lt
   replace hb := hb.on bb
   clear bb
   refine hK.out _ _ ⟨hp0.cell 0, hp0.cell 1, hp0.cell 2, hp1.cell 0, hp1.cell 1, hp1.cell 2, hr.cell 0, hr.cell 1, hr.cell 2⟩ (fun hH => ?_)
   clear hK K
   try (simp only [Act.put, List.setIfInBounds_toArray, List.set_cons_zero, List.set_cons_succ])
   refine rd3 3 4 5 (fun K hK => ?hc4q3) (fun K hK => ?hc4q4) (fun K hK => ?hc4q5)
   case hc4q3 =>
    go_simp
    refine (HQ.out _).mono ?_
    rintro e v5 ⟨rfl, bb⟩
    go_wp2_with fail
    replace hp0 := hp0.below bb hp0.lt
    replace hp1 := hp1.below bb hp1.lt
    replace hr := hr.below bb hr.lt
    replace hb := hb.on bb
    clear bb
    refine hK.out _ _ ⟨hp0.cell 0, hp0.cell 1, hp0.cell 2, hp1.cell 0, hp1.cell 1, hp1.cell 2, hr.cell 0, hr.cell 1, hr.cell 2⟩ (fun hH => ?_)
    clear hK K
    try (simp only [Act.put, List.setIfInBounds_toArray, List.set_cons_zero, List.set_cons_succ])
    refine rd2 4 5 (fun K hK => ?hc6q4) (fun K hK => ?hc6q5)
    case hc6q4 =>
     go_simp
     try go_wp2_with fail
     have lb7 := hb.size
     have l7hp0 := hp0.lt
     have l7hp1 := hp1.lt
     have l7hr := hr.lt
     replace hp0 := hp0.alloc (.cells #[.int .i32 0, .int .i32 0, .int .i32 0] 69)
     replace hp1 := hp1.alloc (.cells #[.int .i32 0, .int .i32 0, .int .i32 0] 69)
     replace hr := hr.alloc (.cells #[.int .i32 0, .int .i32 0, .int .i32 0] 69)
     have n7 := Blk.new v5 69 #[.int .i32 0, .int .i32 0, .int .i32 0]
     replace hb := hb.alloc hb.size (.cells #[.int .i32 0, .int .i32 0, .int .i32 0] 69)
     generalize v5.alloc (.cells #[.int .i32 0, .int .i32 0, .int .i32 0] 69) = v7 at *
     generalize v5.heap.size = g7 at *
     refine hK.out _ _ ⟨hp0.cell 0, hp0.cell 1, hp0.cell 2, hp1.cell 0, hp1.cell 1, hp1.cell 2, hr.cell 0, hr.cell 1, hr.cell 2⟩ (fun hH => ?_)
     clear hK K
     try (simp only [Act.put, List.setIfInBounds_toArray, List.set_cons_zero, List.set_cons_succ])
     refine rd1 5 (fun K hK => ?_)
     go_simp
     try go_wp2_with fail
     have lb9 := hb.size
     have l9hp0 := hp0.lt
     have l9hp1 := hp1.lt
     have l9hr := hr.lt
     have l9n7 := n7.lt
     replace hp0 := hp0.alloc (.cells #[.int .i32 0, .int .i32 0, .int .i32 0] 69)
     replace hp1 := hp1.alloc (.cells #[.int .i32 0, .int .i32 0, .int .i32 0] 69)
     replace hr := hr.alloc (.cells #[.int .i32 0, .int .i32 0, .int .i32 0] 69)
     replace n7 := n7.alloc (.cells #[.int .i32 0, .int .i32 0, .int .i32 0] 69)
     have n9 := Blk.new v7 69 #[.int .i32 0, .int .i32 0, .int .i32 0]
     replace hb := hb.alloc hb.size (.cells #[.int .i32 0, .int .i32 0, .int .i32 0] 69)
     generalize v7.alloc (.cells #[.int .i32 0, .int .i32 0, .int .i32 0] 69) = v9 at *
     generalize v7.heap.size = g9 at *
     refine hK.out _ _ ⟨hp0.cell 0, hp0.cell 1, hp0.cell 2, hp1.cell 0, hp1.cell 1, hp1.cell 2, hr.cell 0, hr.cell 1, hr.cell 2⟩ (fun hH => ?_)
     clear hK K
     try (simp only [Act.put, List.setIfInBounds_toArray, List.set_cons_zero, List.set_cons_succ])
     refine rd1 6 (fun K hK => ?_)
     have c0 : v9.cell? ⟨g7, 0, none⟩ = some (.int .i32 0) := n7.cell 0
     have z0 := n7.frozen 0
     have c1 : v9.cell? ⟨g7, 1, none⟩ = some (.int .i32 0) := n7.cell 1
     have z1 := n7.frozen 1
     have c2 : v9.cell? ⟨g7, 2, none⟩ = some (.int .i32 0) := n7.cell 2
     have z2 := n7.frozen 2
     go_simp
     try go_wp2_with fail
     replace hp0 := (((hp0.fr g7 0 (by omega) (.int .i32 a0)).fr g7 1 (by omega) (.int .i32 a1)).fr g7 2 (by omega) (.int .i32 a2))
     replace hp1 := (((hp1.fr g7 0 (by omega) (.int .i32 a0)).fr g7 1 (by omega) (.int .i32 a1)).fr g7 2 (by omega) (.int .i32 a2))
     replace hr := (((hr.fr g7 0 (by omega) (.int .i32 a0)).fr g7 1 (by omega) (.int .i32 a1)).fr g7 2 (by omega) (.int .i32 a2))
     replace n9 := (((n9.fr g7 0 (by omega) (.int .i32 a0)).fr g7 1 (by omega) (.int .i32 a1)).fr g7 2 (by omega) (.int .i32 a2))
     replace n7 := (((n7.set_ 0 (.int .i32 a0)).set_ 1 (.int .i32 a1)).set_ 2 (.int .i32 a2))
     replace hb := (((hb.sc g7 0 (by omega) (.int .i32 a0)).sc g7 1 (by omega) (.int .i32 a1)).sc g7 2 (by omega) (.int .i32 a2))
     clear c0 z0 c1 z1 c2 z2
     generalize (((v9.setCell ⟨g7, 0, none⟩ (.int .i32 a0)).setCell ⟨g7, 1, none⟩ (.int .i32 a1)).setCell ⟨g7, 2, none⟩ (.int .i32 a2)) = v11 at *
     refine hK.out _ _ ⟨hp0.cell 0, hp0.cell 1, hp0.cell 2, hp1.cell 0, hp1.cell 1, hp1.cell 2, hr.cell 0, hr.cell 1, hr.cell 2⟩ (fun hH => ?_)
     clear hK K
     try (simp only [Act.put, List.setIfInBounds_toArray, List.set_cons_zero, List.set_cons_succ])
     refine rd1 7 (fun K hK => ?_)
     have c0 : v11.cell? ⟨g9, 0, none⟩ = some (.int .i32 0) := n9.cell 0
     have z0 := n9.frozen 0
     have c1 : v11.cell? ⟨g9, 1, none⟩ = some (.int .i32 0) := n9.cell 1
     have z1 := n9.frozen 1
     have c2 : v11.cell? ⟨g9, 2, none⟩ = some (.int .i32 0) := n9.cell 2
     have z2 := n9.frozen 2
     go_simp
     try go_wp2_with fail
     replace hp0 := (((hp0.fr g9 0 (by omega) (.int .i32 b0)).fr g9 1 (by omega) (.int .i32 b1)).fr g9 2 (by omega) (.int .i32 b2))
     replace hp1 := (((hp1.fr g9 0 (by omega) (.int .i32 b0)).fr g9 1 (by omega) (.int .i32 b1)).fr g9 2 (by omega) (.int .i32 b2))
     replace hr := (((hr.fr g9 0 (by omega) (.int .i32 b0)).fr g9 1 (by omega) (.int .i32 b1)).fr g9 2 (by omega) (.int .i32 b2))
     replace n7 := (((n7.fr g9 0 (by omega) (.int .i32 b0)).fr g9 1 (by omega) (.int .i32 b1)).fr g9 2 (by omega) (.int .i32 b2))
     replace n9 := (((n9.set_ 0 (.int .i32 b0)).set_ 1 (.int .i32 b1)).set_ 2 (.int .i32 b2))
     replace hb := (((hb.sc g9 0 (by omega) (.int .i32 b0)).sc g9 1 (by omega) (.int .i32 b1)).sc g9 2 (by omega) (.int .i32 b2))
     clear c0 z0 c1 z1 c2 z2
     generalize (((v11.setCell ⟨g9, 0, none⟩ (.int .i32 b0)).setCell ⟨g9, 1, none⟩ (.int .i32 b1)).setCell ⟨g9, 2, none⟩ (.int .i32 b2)) = v13 at *
     refine hK.out _ _ ⟨hp0.cell 0, hp0.cell 1, hp0.cell 2, hp1.cell 0, hp1.cell 1, hp1.cell 2, hr.cell 0, hr.cell 1, hr.cell 2⟩ (fun hH => ?_)
     clear hK K
     try (simp only [Act.put, List.setIfInBounds_toArray, List.set_cons_zero, List.set_cons_succ])
     refine wpAnyH_done ?hru14 ?hqu14 _
     case hru14 => kernel_rfl
     refine NoPanic.normal ?_
     try go_wp2_with fail
     go_meet
     exact ⟨g7, g9, rfl, rfl, n7, n9, hr, hb⟩
    case hc6q5 =>
     go_simp
     try go_wp2_with fail
     have lb15 := hb.size
     have l15hp0 := hp0.lt
     have l15hp1 := hp1.lt
     have l15hr := hr.lt
     replace hp0 := hp0.alloc (.cells #[.int .i32 0, .int .i32 0, .int .i32 0] 69)
     replace hp1 := hp1.alloc (.cells #[.int .i32 0, .int .i32 0, .int .i32 0] 69)
     replace hr := hr.alloc (.cells #[.int .i32 0, .int .i32 0, .int .i32 0] 69)
     have n15 := Blk.new v5 69 #[.int .i32 0, .int .i32 0, .int .i32 0]
     replace hb := hb.alloc hb.size (.cells #[.int .i32 0, .int .i32 0, .int .i32 0] 69)
     generalize v5.alloc (.cells #[.int .i32 0, .int .i32 0, .int .i32 0] 69) = v15 at *
     generalize v5.heap.size = g15 at *
     refine hK.out _ _ ⟨hp0.cell 0, hp0.cell 1, hp0.cell 2, hp1.cell 0, hp1.cell 1, hp1.cell 2, hr.cell 0, hr.cell 1, hr.cell 2⟩ (fun hH => ?_)
     clear hK K
     try (simp only [Act.put, List.setIfInBounds_toArray, List.set_cons_zero, List.set_cons_succ])
     refine rd1 4 (fun K hK => ?_)
     go_simp
     try go_wp2_with fail
     have lb17 := hb.size
     have l17hp0 := hp0.lt
     have l17hp1 := hp1.lt
     have l17hr := hr.lt
     have l17n15 := n15.lt
     replace hp0 := hp0.alloc (.cells #[.int .i32 0, .int .i32 0, .int .i32 0] 69)
     replace hp1 := hp1.alloc (.cells #[.int .i32 0, .int .i32 0, .int .i32 0] 69)
     replace hr := hr.alloc (.cells #[.int .i32 0, .int .i32 0, .int .i32 0] 69)
     replace n15 := n15.alloc (.cells #[.int .i32 0, .int .i32 0, .int .i32 0] 69)
     have n17 := Blk.new v15 69 #[.int .i32 0, .int .i32 0, .int .i32 0]
     replace hb := hb.alloc hb.size (.cells #[.int .i32 0, .int .i32 0, .int .i32 0] 69)
     generalize v15.alloc (.cells #[.int .i32 0, .int .i32 0, .int .i32 0] 69) = v17 at *
     generalize v15.heap.size = g17 at *
     refine hK.out _ _ ⟨hp0.cell 0, hp0.cell 1, hp0.cell 2, hp1.cell 0, hp1.cell 1, hp1.cell 2, hr.cell 0, hr.cell 1, hr.cell 2⟩ (fun hH => ?_)
     clear hK K
     try (simp only [Act.put, List.setIfInBounds_toArray, List.set_cons_zero, List.set_cons_succ])
     refine rd1 6 (fun K hK => ?_)
     have c0 : v17.cell? ⟨g17, 0, none⟩ = some (.int .i32 0) := n17.cell 0
     have z0 := n17.frozen 0
     have c1 : v17.cell? ⟨g17, 1, none⟩ = some (.int .i32 0) := n17.cell 1
     have z1 := n17.frozen 1
     have c2 : v17.cell? ⟨g17, 2, none⟩ = some (.int .i32 0) := n17.cell 2
     have z2 := n17.frozen 2
     go_simp
     try go_wp2_with fail
     replace hp0 := (((hp0.fr g17 0 (by omega) (.int .i32 a0)).fr g17 1 (by omega) (.int .i32 a1)).fr g17 2 (by omega) (.int .i32 a2))
     replace hp1 := (((hp1.fr g17 0 (by omega) (.int .i32 a0)).fr g17 1 (by omega) (.int .i32 a1)).fr g17 2 (by omega) (.int .i32 a2))
     replace hr := (((hr.fr g17 0 (by omega) (.int .i32 a0)).fr g17 1 (by omega) (.int .i32 a1)).fr g17 2 (by omega) (.int .i32 a2))
     replace n15 := (((n15.fr g17 0 (by omega) (.int .i32 a0)).fr g17 1 (by omega) (.int .i32 a1)).fr g17 2 (by omega) (.int .i32 a2))
     replace n17 := (((n17.set_ 0 (.int .i32 a0)).set_ 1 (.int .i32 a1)).set_ 2 (.int .i32 a2))
     replace hb := (((hb.sc g17 0 (by omega) (.int .i32 a0)).sc g17 1 (by omega) (.int .i32 a1)).sc g17 2 (by omega) (.int .i32 a2))
     clear c0 z0 c1 z1 c2 z2
     generalize (((v17.setCell ⟨g17, 0, none⟩ (.int .i32 a0)).setCell ⟨g17, 1, none⟩ (.int .i32 a1)).setCell ⟨g17, 2, none⟩ (.int .i32 a2)) = v19 at *
     refine hK.out _ _ ⟨hp0.cell 0, hp0.cell 1, hp0.cell 2, hp1.cell 0, hp1.cell 1, hp1.cell 2, hr.cell 0, hr.cell 1, hr.cell 2⟩ (fun hH => ?_)
     clear hK K
     try (simp only [Act.put, List.setIfInBounds_toArray, List.set_cons_zero, List.set_cons_succ])
     refine rd1 7 (fun K hK => ?_)
     have c0 : v19.cell? ⟨g15, 0, none⟩ = some (.int .i32 0) := n15.cell 0
     have z0 := n15.frozen 0
     have c1 : v19.cell? ⟨g15, 1, none⟩ = some (.int .i32 0) := n15.cell 1
     have z1 := n15.frozen 1
     have c2 : v19.cell? ⟨g15, 2, none⟩ = some (.int .i32 0) := n15.cell 2
     have z2 := n15.frozen 2
     go_simp
     try go_wp2_with fail
     replace hp0 := (((hp0.fr g15 0 (by omega) (.int .i32 b0)).fr g15 1 (by omega) (.int .i32 b1)).fr g15 2 (by omega) (.int .i32 b2))
     replace hp1 := (((hp1.fr g15 0 (by omega) (.int .i32 b0)).fr g15 1 (by omega) (.int .i32 b1)).fr g15 2 (by omega) (.int .i32 b2))
     replace hr := (((hr.fr g15 0 (by omega) (.int .i32 b0)).fr g15 1 (by omega) (.int .i32 b1)).fr g15 2 (by omega) (.int .i32 b2))
     replace n17 := (((n17.fr g15 0 (by omega) (.int .i32 b0)).fr g15 1 (by omega) (.int .i32 b1)).fr g15 2 (by omega) (.int .i32 b2))
     replace n15 := (((n15.set_ 0 (.int .i32 b0)).set_ 1 (.int .i32 b1)).set_ 2 (.int .i32 b2))
     replace hb := (((hb.sc g15 0 (by omega) (.int .i32 b0)).sc g15 1 (by omega) (.int .i32 b1)).sc g15 2 (by omega) (.int .i32 b2))
     clear c0 z0 c1 z1 c2 z2
     generalize (((v19.setCell ⟨g15, 0, none⟩ (.int .i32 b0)).setCell ⟨g15, 1, none⟩ (.int .i32 b1)).setCell ⟨g15, 2, none⟩ (.int .i32 b2)) = v21 at *
     refine hK.out _ _ ⟨hp0.cell 0, hp0.cell 1, hp0.cell 2, hp1.cell 0, hp1.cell 1, hp1.cell 2, hr.cell 0, hr.cell 1, hr.cell 2⟩ (fun hH => ?_)
     clear hK K
     try (simp only [Act.put, List.setIfInBounds_toArray, List.set_cons_zero, List.set_cons_succ])
     refine wpAnyH_done ?hru22 ?hqu22 _
     case hru22 => kernel_rfl
     refine NoPanic.normal ?_
     try go_wp2_with fail
     go_meet
     exact ⟨g17, g15, rfl, rfl, n17, n15, hr, hb⟩
   case hc4q4 =>
    go_simp
    try go_wp2_with fail
    have lb23 := hb.size
    have l23hp0 := hp0.lt
    have l23hp1 := hp1.lt
    have l23hr := hr.lt
    replace hp0 := hp0.alloc (.cells #[.int .i32 0, .int .i32 0, .int .i32 0] 69)
    replace hp1 := hp1.alloc (.cells #[.int .i32 0, .int .i32 0, .int .i32 0] 69)
    replace hr := hr.alloc (.cells #[.int .i32 0, .int .i32 0, .int .i32 0] 69)
    have n23 := Blk.new v3 69 #[.int .i32 0, .int .i32 0, .int .i32 0]
    replace hb := hb.alloc hb.size (.cells #[.int .i32 0, .int .i32 0, .int .i32 0] 69)
    generalize v3.alloc (.cells #[.int .i32 0, .int .i32 0, .int .i32 0] 69) = v23 at *
    generalize v3.heap.size = g23 at *
    refine hK.out _ _ ⟨hp0.cell 0, hp0.cell 1, hp0.cell 2, hp1.cell 0, hp1.cell 1, hp1.cell 2, hr.cell 0, hr.cell 1, hr.cell 2⟩ (fun hH => ?_)
    clear hK K
    try (simp only [Act.put, List.setIfInBounds_toArray, List.set_cons_zero, List.set_cons_succ])
    refine rd2 3 5 (fun K hK => ?hc24q3) (fun K hK => ?hc24q5)
    case hc24q3 =>
     go_simp
     refine (HQ.out _).mono ?_
     rintro e v25 ⟨rfl, bb⟩
     go_wp2_with fail
     replace hp0 := hp0.below bb hp0.lt
     replace hp1 := hp1.below bb hp1.lt
     replace hr := hr.below bb hr.lt
     replace n23 := n23.below bb n23.lt
     replace hb := hb.on bb
     clear bb
     refine hK.out _ _ ⟨hp0.cell 0, hp0.cell 1, hp0.cell 2, hp1.cell 0, hp1.cell 1, hp1.cell 2, hr.cell 0, hr.cell 1, hr.cell 2⟩ (fun hH => ?_)
     clear hK K
     try (simp only [Act.put, List.setIfInBounds_toArray, List.set_cons_zero, List.set_cons_succ])
     refine rd1 5 (fun K hK => ?_)
     go_simp
     try go_wp2_with fail
     have lb27 := hb.size
     have l27hp0 := hp0.lt
     have l27hp1 := hp1.lt
     have l27hr := hr.lt
     have l27n23 := n23.lt
     replace hp0 := hp0.alloc (.cells #[.int .i32 0, .int .i32 0, .int .i32 0] 69)
     replace hp1 := hp1.alloc (.cells #[.int .i32 0, .int .i32 0, .int .i32 0] 69)
     replace hr := hr.alloc (.cells #[.int .i32 0, .int .i32 0, .int .i32 0] 69)
     replace n23 := n23.alloc (.cells #[.int .i32 0, .int .i32 0, .int .i32 0] 69)
     have n27 := Blk.new v25 69 #[.int .i32 0, .int .i32 0, .int .i32 0]
     replace hb := hb.alloc hb.size (.cells #[.int .i32 0, .int .i32 0, .int .i32 0] 69)
     generalize v25.alloc (.cells #[.int .i32 0, .int .i32 0, .int .i32 0] 69) = v27 at *
     generalize v25.heap.size = g27 at *
     refine hK.out _ _ ⟨hp0.cell 0, hp0.cell 1, hp0.cell 2, hp1.cell 0, hp1.cell 1, hp1.cell 2, hr.cell 0, hr.cell 1, hr.cell 2⟩ (fun hH => ?_)
     clear hK K
     try (simp only [Act.put, List.setIfInBounds_toArray, List.set_cons_zero, List.set_cons_succ])
     refine rd1 6 (fun K hK => ?_)
     have c0 : v27.cell? ⟨g23, 0, none⟩ = some (.int .i32 0) := n23.cell 0
     have z0 := n23.frozen 0
     have c1 : v27.cell? ⟨g23, 1, none⟩ = some (.int .i32 0) := n23.cell 1
     have z1 := n23.frozen 1
     have c2 : v27.cell? ⟨g23, 2, none⟩ = some (.int .i32 0) := n23.cell 2
     have z2 := n23.frozen 2
     go_simp
     try go_wp2_with fail
     replace hp0 := (((hp0.fr g23 0 (by omega) (.int .i32 a0)).fr g23 1 (by omega) (.int .i32 a1)).fr g23 2 (by omega) (.int .i32 a2))
     replace hp1 := (((hp1.fr g23 0 (by omega) (.int .i32 a0)).fr g23 1 (by omega) (.int .i32 a1)).fr g23 2 (by omega) (.int .i32 a2))
     replace hr := (((hr.fr g23 0 (by omega) (.int .i32 a0)).fr g23 1 (by omega) (.int .i32 a1)).fr g23 2 (by omega) (.int .i32 a2))
     replace n27 := (((n27.fr g23 0 (by omega) (.int .i32 a0)).fr g23 1 (by omega) (.int .i32 a1)).fr g23 2 (by omega) (.int .i32 a2))
     replace n23 := (((n23.set_ 0 (.int .i32 a0)).set_ 1 (.int .i32 a1)).set_ 2 (.int .i32 a2))
     replace hb := (((hb.sc g23 0 (by omega) (.int .i32 a0)).sc g23 1 (by omega) (.int .i32 a1)).sc g23 2 (by omega) (.int .i32 a2))
     clear c0 z0 c1 z1 c2 z2
     generalize (((v27.setCell ⟨g23, 0, none⟩ (.int .i32 a0)).setCell ⟨g23, 1, none⟩ (.int .i32 a1)).setCell ⟨g23, 2, none⟩ (.int .i32 a2)) = v29 at *
     refine hK.out _ _ ⟨hp0.cell 0, hp0.cell 1, hp0.cell 2, hp1.cell 0, hp1.cell 1, hp1.cell 2, hr.cell 0, hr.cell 1, hr.cell 2⟩ (fun hH => ?_)
     clear hK K
     try (simp only [Act.put, List.setIfInBounds_toArray, List.set_cons_zero, List.set_cons_succ])
     refine rd1 7 (fun K hK => ?_)
     have c0 : v29.cell? ⟨g27, 0, none⟩ = some (.int .i32 0) := n27.cell 0
     have z0 := n27.frozen 0
     have c1 : v29.cell? ⟨g27, 1, none⟩ = some (.int .i32 0) := n27.cell 1
     have z1 := n27.frozen 1
     have c2 : v29.cell? ⟨g27, 2, none⟩ = some (.int .i32 0) := n27.cell 2
     have z2 := n27.frozen 2
     go_simp
     try go_wp2_with fail
     replace hp0 := (((hp0.fr g27 0 (by omega) (.int .i32 b0)).fr g27 1 (by omega) (.int .i32 b1)).fr g27 2 (by omega) (.int .i32 b2))
     replace hp1 := (((hp1.fr g27 0 (by omega) (.int .i32 b0)).fr g27 1 (by omega) (.int .i32 b1)).fr g27 2 (by omega) (.int .i32 b2))
     replace hr := (((hr.fr g27 0 (by omega) (.int .i32 b0)).fr g27 1 (by omega) (.int .i32 b1)).fr g27 2 (by omega) (.int .i32 b2))
     replace n23 := (((n23.fr g27 0 (by omega) (.int .i32 b0)).fr g27 1 (by omega) (.int .i32 b1)).fr g27 2 (by omega) (.int .i32 b2))
     replace n27 := (((n27.set_ 0 (.int .i32 b0)).set_ 1 (.int .i32 b1)).set_ 2 (.int .i32 b2))
     replace hb := (((hb.sc g27 0 (by omega) (.int .i32 b0)).sc g27 1 (by omega) (.int .i32 b1)).sc g27 2 (by omega) (.int .i32 b2))
     clear c0 z0 c1 z1 c2 z2
     generalize (((v29.setCell ⟨g27, 0, none⟩ (.int .i32 b0)).setCell ⟨g27, 1, none⟩ (.int .i32 b1)).setCell ⟨g27, 2, none⟩ (.int .i32 b2)) = v31 at *
     refine hK.out _ _ ⟨hp0.cell 0, hp0.cell 1, hp0.cell 2, hp1.cell 0, hp1.cell 1, hp1.cell 2, hr.cell 0, hr.cell 1, hr.cell 2⟩ (fun hH => ?_)
     clear hK K
     try (simp only [Act.put, List.setIfInBounds_toArray, List.set_cons_zero, List.set_cons_succ])
     refine wpAnyH_done ?hru32 ?hqu32 _
     case hru32 => kernel_rfl
     refine NoPanic.normal ?_
     try go_wp2_with fail
     go_meet
     exact ⟨g23, g27, rfl, rfl, n23, n27, hr, hb⟩
    case hc24q5 =>
     go_simp
     try go_wp2_with fail
     have lb33 := hb.size
     have l33hp0 := hp0.lt
     have l33hp1 := hp1.lt
     have l33hr := hr.lt
     have l33n23 := n23.lt
     replace hp0 := hp0.alloc (.cells #[.int .i32 0, .int .i32 0, .int .i32 0] 69)
     replace hp1 := hp1.alloc (.cells #[.int .i32 0, .int .i32 0, .int .i32 0] 69)
     replace hr := hr.alloc (.cells #[.int .i32 0, .int .i32 0, .int .i32 0] 69)
     replace n23 := n23.alloc (.cells #[.int .i32 0, .int .i32 0, .int .i32 0] 69)
     have n33 := Blk.new v23 69 #[.int .i32 0, .int .i32 0, .int .i32 0]
     replace hb := hb.alloc hb.size (.cells #[.int .i32 0, .int .i32 0, .int .i32 0] 69)
     generalize v23.alloc (.cells #[.int .i32 0, .int .i32 0, .int .i32 0] 69) = v33 at *
     generalize v23.heap.size = g33 at *
     refine hK.out _ _ ⟨hp0.cell 0, hp0.cell 1, hp0.cell 2, hp1.cell 0, hp1.cell 1, hp1.cell 2, hr.cell 0, hr.cell 1, hr.cell 2⟩ (fun hH => ?_)
     clear hK K
     try (simp only [Act.put, List.setIfInBounds_toArray, List.set_cons_zero, List.set_cons_succ])
     refine rd1 3 (fun K hK => ?_)
     go_simp
     refine (HQ.out _).mono ?_
     rintro e v35 ⟨rfl, bb⟩
     go_wp2_with fail
     replace hp0 := hp0.below bb hp0.lt
     replace hp1 := hp1.below bb hp1.lt
     replace hr := hr.below bb hr.lt
     replace n23 := n23.below bb n23.lt
     replace n33 := n33.below bb n33.lt
     replace hb := hb.on bb
     clear bb
     refine hK.out _ _ ⟨hp0.cell 0, hp0.cell 1, hp0.cell 2, hp1.cell 0, hp1.cell 1, hp1.cell 2, hr.cell 0, hr.cell 1, hr.cell 2⟩ (fun hH => ?_)
     clear hK K
     try (simp only [Act.put, List.setIfInBounds_toArray, List.set_cons_zero, List.set_cons_succ])
     refine rd1 6 (fun K hK => ?_)
     have c0 : v35.cell? ⟨g23, 0, none⟩ = some (.int .i32 0) := n23.cell 0
     have z0 := n23.frozen 0
     have c1 : v35.cell? ⟨g23, 1, none⟩ = some (.int .i32 0) := n23.cell 1
     have z1 := n23.frozen 1
     have c2 : v35.cell? ⟨g23, 2, none⟩ = some (.int .i32 0) := n23.cell 2
     have z2 := n23.frozen 2
     go_simp
     try go_wp2_with fail
     replace hp0 := (((hp0.fr g23 0 (by omega) (.int .i32 a0)).fr g23 1 (by omega) (.int .i32 a1)).fr g23 2 (by omega) (.int .i32 a2))
     replace hp1 := (((hp1.fr g23 0 (by omega) (.int .i32 a0)).fr g23 1 (by omega) (.int .i32 a1)).fr g23 2 (by omega) (.int .i32 a2))
     replace hr := (((hr.fr g23 0 (by omega) (.int .i32 a0)).fr g23 1 (by omega) (.int .i32 a1)).fr g23 2 (by omega) (.int .i32 a2))
     replace n33 := (((n33.fr g23 0 (by omega) (.int .i32 a0)).fr g23 1 (by omega) (.int .i32 a1)).fr g23 2 (by omega) (.int .i32 a2))
     replace n23 := (((n23.set_ 0 (.int .i32 a0)).set_ 1 (.int .i32 a1)).set_ 2 (.int .i32 a2))
     replace hb := (((hb.sc g23 0 (by omega) (.int .i32 a0)).sc g23 1 (by omega) (.int .i32 a1)).sc g23 2 (by omega) (.int .i32 a2))
     clear c0 z0 c1 z1 c2 z2
     generalize (((v35.setCell ⟨g23, 0, none⟩ (.int .i32 a0)).setCell ⟨g23, 1, none⟩ (.int .i32 a1)).setCell ⟨g23, 2, none⟩ (.int .i32 a2)) = v37 at *
     refine hK.out _ _ ⟨hp0.cell 0, hp0.cell 1, hp0.cell 2, hp1.cell 0, hp1.cell 1, hp1.cell 2, hr.cell 0, hr.cell 1, hr.cell 2⟩ (fun hH => ?_)
     clear hK K
     try (simp only [Act.put, List.setIfInBounds_toArray, List.set_cons_zero, List.set_cons_succ])
     refine rd1 7 (fun K hK => ?_)
     have c0 : v37.cell? ⟨g33, 0, none⟩ = some (.int .i32 0) := n33.cell 0
     have z0 := n33.frozen 0
     have c1 : v37.cell? ⟨g33, 1, none⟩ = some (.int .i32 0) := n33.cell 1
     have z1 := n33.frozen 1
     have c2 : v37.cell? ⟨g33, 2, none⟩ = some (.int .i32 0) := n33.cell 2
     have z2 := n33.frozen 2
     go_simp
     try go_wp2_with fail
     replace hp0 := (((hp0.fr g33 0 (by omega) (.int .i32 b0)).fr g33 1 (by omega) (.int .i32 b1)).fr g33 2 (by omega) (.int .i32 b2))
     replace hp1 := (((hp1.fr g33 0 (by omega) (.int .i32 b0)).fr g33 1 (by omega) (.int .i32 b1)).fr g33 2 (by omega) (.int .i32 b2))
     replace hr := (((hr.fr g33 0 (by omega) (.int .i32 b0)).fr g33 1 (by omega) (.int .i32 b1)).fr g33 2 (by omega) (.int .i32 b2))
     replace n23 := (((n23.fr g33 0 (by omega) (.int .i32 b0)).fr g33 1 (by omega) (.int .i32 b1)).fr g33 2 (by omega) (.int .i32 b2))
     replace n33 := (((n33.set_ 0 (.int .i32 b0)).set_ 1 (.int .i32 b1)).set_ 2 (.int .i32 b2))
     replace hb := (((hb.sc g33 0 (by omega) (.int .i32 b0)).sc g33 1 (by omega) (.int .i32 b1)).sc g33 2 (by omega) (.int .i32 b2))
     clear c0 z0 c1 z1 c2 z2
     generalize (((v37.setCell ⟨g33, 0, none⟩ (.int .i32 b0)).setCell ⟨g33, 1, none⟩ (.int .i32 b1)).setCell ⟨g33, 2, none⟩ (.int .i32 b2)) = v39 at *
     refine hK.out _ _ ⟨hp0.cell 0, hp0.cell 1, hp0.cell 2, hp1.cell 0, hp1.cell 1, hp1.cell 2, hr.cell 0, hr.cell 1, hr.cell 2⟩ (fun hH => ?_)
     clear hK K
     try (simp only [Act.put, List.setIfInBounds_toArray, List.set_cons_zero, List.set_cons_succ])
     refine wpAnyH_done ?hru40 ?hqu40 _
     case hru40 => kernel_rfl
     refine NoPanic.normal ?_
     try go_wp2_with fail
     go_meet
     exact ⟨g23, g33, rfl, rfl, n23, n33, hr, hb⟩
   case hc4q5 =>
    go_simp
    try go_wp2_with fail
    have lb41 := hb.size
    have l41hp0 := hp0.lt
    have l41hp1 := hp1.lt
    have l41hr := hr.lt
    replace hp0 := hp0.alloc (.cells #[.int .i32 0, .int .i32 0, .int .i32 0] 69)
    replace hp1 := hp1.alloc (.cells #[.int .i32 0, .int .i32 0, .int .i32 0] 69)
    replace hr := hr.alloc (.cells #[.int .i32 0, .int .i32 0, .int .i32 0] 69)
    have n41 := Blk.new v3 69 #[.int .i32 0, .int .i32 0, .int .i32 0]
    replace hb := hb.alloc hb.size (.cells #[.int .i32 0, .int .i32 0, .int .i32 0] 69)
    generalize v3.alloc (.cells #[.int .i32 0, .int .i32 0, .int .i32 0] 69) = v41 at *
    generalize v3.heap.size = g41 at *
    refine hK.out _ _ ⟨hp0.cell 0, hp0.cell 1, hp0.cell 2, hp1.cell 0, hp1.cell 1, hp1.cell 2, hr.cell 0, hr.cell 1, hr.cell 2⟩ (fun hH => ?_)
    clear hK K
    try (simp only [Act.put, List.setIfInBounds_toArray, List.set_cons_zero, List.set_cons_succ])
    refine rd2 3 4 (fun K hK => ?hc42q3) (fun K hK => ?hc42q4)
    case hc42q3 =>
     go_simp
     refine (HQ.out _).mono ?_
     rintro e v43 ⟨rfl, bb⟩
     go_wp2_with fail
     replace hp0 := hp0.below bb hp0.lt
     replace hp1 := hp1.below bb hp1.lt
     replace hr := hr.below bb hr.lt
     replace n41 := n41.below bb n41.lt
     replace hb := hb.on bb
     clear bb
     refine hK.out _ _ ⟨hp0.cell 0, hp0.cell 1, hp0.cell 2, hp1.cell 0, hp1.cell 1, hp1.cell 2, hr.cell 0, hr.cell 1, hr.cell 2⟩ (fun hH => ?_)
     clear hK K
     try (simp only [Act.put, List.setIfInBounds_toArray, List.set_cons_zero, List.set_cons_succ])
     refine rd1 4 (fun K hK => ?_)
     go_simp
     try go_wp2_with fail
     have lb45 := hb.size
     have l45hp0 := hp0.lt
     have l45hp1 := hp1.lt
     have l45hr := hr.lt
     have l45n41 := n41.lt
     replace hp0 := hp0.alloc (.cells #[.int .i32 0, .int .i32 0, .int .i32 0] 69)
     replace hp1 := hp1.alloc (.cells #[.int .i32 0, .int .i32 0, .int .i32 0] 69)
     replace hr := hr.alloc (.cells #[.int .i32 0, .int .i32 0, .int .i32 0] 69)
     replace n41 := n41.alloc (.cells #[.int .i32 0, .int .i32 0, .int .i32 0] 69)
     have n45 := Blk.new v43 69 #[.int .i32 0, .int .i32 0, .int .i32 0]
     replace hb := hb.alloc hb.size (.cells #[.int .i32 0, .int .i32 0, .int .i32 0] 69)
     generalize v43.alloc (.cells #[.int .i32 0, .int .i32 0, .int .i32 0] 69) = v45 at *
     generalize v43.heap.size = g45 at *
     refine hK.out _ _ ⟨hp0.cell 0, hp0.cell 1, hp0.cell 2, hp1.cell 0, hp1.cell 1, hp1.cell 2, hr.cell 0, hr.cell 1, hr.cell 2⟩ (fun hH => ?_)
     clear hK K
     try (simp only [Act.put, List.setIfInBounds_toArray, List.set_cons_zero, List.set_cons_succ])
     refine rd1 6 (fun K hK => ?_)
     have c0 : v45.cell? ⟨g45, 0, none⟩ = some (.int .i32 0) := n45.cell 0
     have z0 := n45.frozen 0
     have c1 : v45.cell? ⟨g45, 1, none⟩ = some (.int .i32 0) := n45.cell 1
     have z1 := n45.frozen 1
     have c2 : v45.cell? ⟨g45, 2, none⟩ = some (.int .i32 0) := n45.cell 2
     have z2 := n45.frozen 2
     go_simp
     try go_wp2_with fail
     replace hp0 := (((hp0.fr g45 0 (by omega) (.int .i32 a0)).fr g45 1 (by omega) (.int .i32 a1)).fr g45 2 (by omega) (.int .i32 a2))
     replace hp1 := (((hp1.fr g45 0 (by omega) (.int .i32 a0)).fr g45 1 (by omega) (.int .i32 a1)).fr g45 2 (by omega) (.int .i32 a2))
     replace hr := (((hr.fr g45 0 (by omega) (.int .i32 a0)).fr g45 1 (by omega) (.int .i32 a1)).fr g45 2 (by omega) (.int .i32 a2))
     replace n41 := (((n41.fr g45 0 (by omega) (.int .i32 a0)).fr g45 1 (by omega) (.int .i32 a1)).fr g45 2 (by omega) (.int .i32 a2))
     replace n45 := (((n45.set_ 0 (.int .i32 a0)).set_ 1 (.int .i32 a1)).set_ 2 (.int .i32 a2))
     replace hb := (((hb.sc g45 0 (by omega) (.int .i32 a0)).sc g45 1 (by omega) (.int .i32 a1)).sc g45 2 (by omega) (.int .i32 a2))
     clear c0 z0 c1 z1 c2 z2
     generalize (((v45.setCell ⟨g45, 0, none⟩ (.int .i32 a0)).setCell ⟨g45, 1, none⟩ (.int .i32 a1)).setCell ⟨g45, 2, none⟩ (.int .i32 a2)) = v47 at *
     refine hK.out _ _ ⟨hp0.cell 0, hp0.cell 1, hp0.cell 2, hp1.cell 0, hp1.cell 1, hp1.cell 2, hr.cell 0, hr.cell 1, hr.cell 2⟩ (fun hH => ?_)
     clear hK K
     try (simp only [Act.put, List.setIfInBounds_toArray, List.set_cons_zero, List.set_cons_succ])
     refine rd1 7 (fun K hK => ?_)
     have c0 : v47.cell? ⟨g41, 0, none⟩ = some (.int .i32 0) := n41.cell 0
     have z0 := n41.frozen 0
     have c1 : v47.cell? ⟨g41, 1, none⟩ = some (.int .i32 0) := n41.cell 1
     have z1 := n41.frozen 1
     have c2 : v47.cell? ⟨g41, 2, none⟩ = some (.int .i32 0) := n41.cell 2
     have z2 := n41.frozen 2
     go_simp
     try go_wp2_with fail
     replace hp0 := (((hp0.fr g41 0 (by omega) (.int .i32 b0)).fr g41 1 (by omega) (.int .i32 b1)).fr g41 2 (by omega) (.int .i32 b2))
     replace hp1 := (((hp1.fr g41 0 (by omega) (.int .i32 b0)).fr g41 1 (by omega) (.int .i32 b1)).fr g41 2 (by omega) (.int .i32 b2))
     replace hr := (((hr.fr g41 0 (by omega) (.int .i32 b0)).fr g41 1 (by omega) (.int .i32 b1)).fr g41 2 (by omega) (.int .i32 b2))
     replace n45 := (((n45.fr g41 0 (by omega) (.int .i32 b0)).fr g41 1 (by omega) (.int .i32 b1)).fr g41 2 (by omega) (.int .i32 b2))
     replace n41 := (((n41.set_ 0 (.int .i32 b0)).set_ 1 (.int .i32 b1)).set_ 2 (.int .i32 b2))
     replace hb := (((hb.sc g41 0 (by omega) (.int .i32 b0)).sc g41 1 (by omega) (.int .i32 b1)).sc g41 2 (by omega) (.int .i32 b2))
     clear c0 z0 c1 z1 c2 z2
     generalize (((v47.setCell ⟨g41, 0, none⟩ (.int .i32 b0)).setCell ⟨g41, 1, none⟩ (.int .i32 b1)).setCell ⟨g41, 2, none⟩ (.int .i32 b2)) = v49 at *
     refine hK.out _ _ ⟨hp0.cell 0, hp0.cell 1, hp0.cell 2, hp1.cell 0, hp1.cell 1, hp1.cell 2, hr.cell 0, hr.cell 1, hr.cell 2⟩ (fun hH => ?_)
     clear hK K
     try (simp only [Act.put, List.setIfInBounds_toArray, List.set_cons_zero, List.set_cons_succ])
     refine wpAnyH_done ?hru50 ?hqu50 _
     case hru50 => kernel_rfl
     refine NoPanic.normal ?_
     try go_wp2_with fail
     go_meet
     exact ⟨g45, g41, rfl, rfl, n45, n41, hr, hb⟩
    case hc42q4 =>
     go_simp
     try go_wp2_with fail
     have lb51 := hb.size
     have l51hp0 := hp0.lt
     have l51hp1 := hp1.lt
     have l51hr := hr.lt
     have l51n41 := n41.lt
     replace hp0 := hp0.alloc (.cells #[.int .i32 0, .int .i32 0, .int .i32 0] 69)
     replace hp1 := hp1.alloc (.cells #[.int .i32 0, .int .i32 0, .int .i32 0] 69)
     replace hr := hr.alloc (.cells #[.int .i32 0, .int .i32 0, .int .i32 0] 69)
     replace n41 := n41.alloc (.cells #[.int .i32 0, .int .i32 0, .int .i32 0] 69)
     have n51 := Blk.new v41 69 #[.int .i32 0, .int .i32 0, .int .i32 0]
     replace hb := hb.alloc hb.size (.cells #[.int .i32 0, .int .i32 0, .int .i32 0] 69)
     generalize v41.alloc (.cells #[.int .i32 0, .int .i32 0, .int .i32 0] 69) = v51 at *
     generalize v41.heap.size = g51 at *
     refine hK.out _ _ ⟨hp0.cell 0, hp0.cell 1, hp0.cell 2, hp1.cell 0, hp1.cell 1, hp1.cell 2, hr.cell 0, hr.cell 1, hr.cell 2⟩ (fun hH => ?_)
     clear hK K
     try (simp only [Act.put, List.setIfInBounds_toArray, List.set_cons_zero, List.set_cons_succ])
     refine rd1 3 (fun K hK => ?_)
     go_simp
     refine (HQ.out _).mono ?_
     rintro e v53 ⟨rfl, bb⟩
     go_wp2_with fail
     replace hp0 := hp0.below bb hp0.lt
     replace hp1 := hp1.below bb hp1.lt
     replace hr := hr.below bb hr.lt
     replace n41 := n41.below bb n41.lt
     replace n51 := n51.below bb n51.lt
     replace hb := hb.on bb
     clear bb
     refine hK.out _ _ ⟨hp0.cell 0, hp0.cell 1, hp0.cell 2, hp1.cell 0, hp1.cell 1, hp1.cell 2, hr.cell 0, hr.cell 1, hr.cell 2⟩ (fun hH => ?_)
     clear hK K
     try (simp only [Act.put, List.setIfInBounds_toArray, List.set_cons_zero, List.set_cons_succ])
     refine rd1 6 (fun K hK => ?_)
     have c0 : v53.cell? ⟨g51, 0, none⟩ = some (.int .i32 0) := n51.cell 0
     have z0 := n51.frozen 0
     have c1 : v53.cell? ⟨g51, 1, none⟩ = some (.int .i32 0) := n51.cell 1
     have z1 := n51.frozen 1
     have c2 : v53.cell? ⟨g51, 2, none⟩ = some (.int .i32 0) := n51.cell 2
     have z2 := n51.frozen 2
     go_simp
     try go_wp2_with fail
     replace hp0 := (((hp0.fr g51 0 (by omega) (.int .i32 a0)).fr g51 1 (by omega) (.int .i32 a1)).fr g51 2 (by omega) (.int .i32 a2))
     replace hp1 := (((hp1.fr g51 0 (by omega) (.int .i32 a0)).fr g51 1 (by omega) (.int .i32 a1)).fr g51 2 (by omega) (.int .i32 a2))
     replace hr := (((hr.fr g51 0 (by omega) (.int .i32 a0)).fr g51 1 (by omega) (.int .i32 a1)).fr g51 2 (by omega) (.int .i32 a2))
     replace n41 := (((n41.fr g51 0 (by omega) (.int .i32 a0)).fr g51 1 (by omega) (.int .i32 a1)).fr g51 2 (by omega) (.int .i32 a2))
     replace n51 := (((n51.set_ 0 (.int .i32 a0)).set_ 1 (.int .i32 a1)).set_ 2 (.int .i32 a2))
     replace hb := (((hb.sc g51 0 (by omega) (.int .i32 a0)).sc g51 1 (by omega) (.int .i32 a1)).sc g51 2 (by omega) (.int .i32 a2))
     clear c0 z0 c1 z1 c2 z2
     generalize (((v53.setCell ⟨g51, 0, none⟩ (.int .i32 a0)).setCell ⟨g51, 1, none⟩ (.int .i32 a1)).setCell ⟨g51, 2, none⟩ (.int .i32 a2)) = v55 at *
     refine hK.out _ _ ⟨hp0.cell 0, hp0.cell 1, hp0.cell 2, hp1.cell 0, hp1.cell 1, hp1.cell 2, hr.cell 0, hr.cell 1, hr.cell 2⟩ (fun hH => ?_)
     clear hK K
     try (simp only [Act.put, List.setIfInBounds_toArray, List.set_cons_zero, List.set_cons_succ])
     refine rd1 7 (fun K hK => ?_)
     have c0 : v55.cell? ⟨g41, 0, none⟩ = some (.int .i32 0) := n41.cell 0
     have z0 := n41.frozen 0
     have c1 : v55.cell? ⟨g41, 1, none⟩ = some (.int .i32 0) := n41.cell 1
     have z1 := n41.frozen 1
     have c2 : v55.cell? ⟨g41, 2, none⟩ = some (.int .i32 0) := n41.cell 2
     have z2 := n41.frozen 2
     go_simp
     try go_wp2_with fail
     replace hp0 := (((hp0.fr g41 0 (by omega) (.int .i32 b0)).fr g41 1 (by omega) (.int .i32 b1)).fr g41 2 (by omega) (.int .i32 b2))
     replace hp1 := (((hp1.fr g41 0 (by omega) (.int .i32 b0)).fr g41 1 (by omega) (.int .i32 b1)).fr g41 2 (by omega) (.int .i32 b2))
     replace hr := (((hr.fr g41 0 (by omega) (.int .i32 b0)).fr g41 1 (by omega) (.int .i32 b1)).fr g41 2 (by omega) (.int .i32 b2))
     replace n51 := (((n51.fr g41 0 (by omega) (.int .i32 b0)).fr g41 1 (by omega) (.int .i32 b1)).fr g41 2 (by omega) (.int .i32 b2))
     replace n41 := (((n41.set_ 0 (.int .i32 b0)).set_ 1 (.int .i32 b1)).set_ 2 (.int .i32 b2))
     replace hb := (((hb.sc g41 0 (by omega) (.int .i32 b0)).sc g41 1 (by omega) (.int .i32 b1)).sc g41 2 (by omega) (.int .i32 b2))
     clear c0 z0 c1 z1 c2 z2
     generalize (((v55.setCell ⟨g41, 0, none⟩ (.int .i32 b0)).setCell ⟨g41, 1, none⟩ (.int .i32 b1)).setCell ⟨g41, 2, none⟩ (.int .i32 b2)) = v57 at *
     refine hK.out _ _ ⟨hp0.cell 0, hp0.cell 1, hp0.cell 2, hp1.cell 0, hp1.cell 1, hp1.cell 2, hr.cell 0, hr.cell 1, hr.cell 2⟩ (fun hH => ?_)
     clear hK K
     try (simp only [Act.put, List.setIfInBounds_toArray, List.set_cons_zero, List.set_cons_succ])
     refine wpAnyH_done ?hru58 ?hqu58 _
     case hru58 => kernel_rfl
     refine NoPanic.normal ?_
     try go_wp2_with fail
     go_meet
     exact ⟨g51, g41, rfl, rfl, n51, n41, hr, hb⟩
  case hc2q4 =>
   go_simp
   try go_wp2_with fail
   have lb59 := hb.size
   have l59hp0 := hp0.lt
   have l59hp1 := hp1.lt
   have l59hr := hr.lt
   replace hp0 := hp0.alloc (.cells #[.int .i32 0, .int .i32 0, .int .i32 0] 69)
   replace hp1 := hp1.alloc (.cells #[.int .i32 0, .int .i32 0, .int .i32 0] 69)
   replace hr := hr.alloc (.cells #[.int .i32 0, .int .i32 0, .int .i32 0] 69)
   have n59 := Blk.new W1 69 #[.int .i32 0, .int .i32 0, .int .i32 0]
   replace hb := hb.alloc hb.size (.cells #[.int .i32 0, .int .i32 0, .int .i32 0] 69)
   generalize W1.alloc (.cells #[.int .i32 0, .int .i32 0, .int .i32 0] 69) = v59 at *
   generalize W1.heap.size = g59 at *
   refine hK.out _ _ ⟨hp0.cell 0, hp0.cell 1, hp0.cell 2, hp1.cell 0, hp1.cell 1, hp1.cell 2, hr.cell 0, hr.cell 1, hr.cell 2⟩ (fun hH => ?_)
   clear hK K
   try (simp only [Act.put, List.setIfInBounds_toArray, List.set_cons_zero, List.set_cons_succ])
   refine rd2 1 5 (fun K hK => ?hc60q1) (fun K hK => ?hc60q5)
   case hc60q1 =>
    go_simp
    refine (HP.out _).mono ?_
    rintro e v61 ⟨rfl, bb⟩
    go_wp2_with fail
    replace hp0 := hp0.below bb hp0.lt
    replace hp1 := hp1.below bb hp1.lt
    replace hr := hr.below bb hr.lt
    replace n59 := n59.below bb n59.lt
    replace hb := hb.on bb
    clear bb
    refine hK.out _ _ ⟨hp0.cell 0, hp0.cell 1, hp0.cell 2, hp1.cell 0, hp1.cell 1, hp1.cell 2, hr.cell 0, hr.cell 1, hr.cell 2⟩ (fun hH => ?_)
    clear hK K
    try (simp only [Act.put, List.setIfInBounds_toArray, List.set_cons_zero, List.set_cons_succ])
    refine rd2 3 5 (fun K hK => ?hc62q3) (fun K hK => ?hc62q5)
    case hc62q3 =>
     go_simp
     refine (HQ.out _).mono ?_
     rintro e v63 ⟨rfl, bb⟩
     go_wp2_with fail
     replace hp0 := hp0.below bb hp0.lt
     replace hp1 := hp1.below bb hp1.lt
     replace hr := hr.below bb hr.lt
     replace n59 := n59.below bb n59.lt
     replace hb := hb.on bb
     clear bb
     refine hK.out _ _ ⟨hp0.cell 0, hp0.cell 1, hp0.cell 2, hp1.cell 0, hp1.cell 1, hp1.cell 2, hr.cell 0, hr.cell 1, hr.cell 2⟩ (fun hH => ?_)
     clear hK K
     try (simp only [Act.put, List.setIfInBounds_toArray, List.set_cons_zero, List.set_cons_succ])
     refine rd1 5 (fun K hK => ?_)
     go_simp
     try go_wp2_with fail
     have lb65 := hb.size
     have l65hp0 := hp0.lt
     have l65hp1 := hp1.lt
     have l65hr := hr.lt
     have l65n59 := n59.lt
     replace hp0 := hp0.alloc (.cells #[.int .i32 0, .int .i32 0, .int .i32 0] 69)
     replace hp1 := hp1.alloc (.cells #[.int .i32 0, .int .i32 0, .int .i32 0] 69)
     replace hr := hr.alloc (.cells #[.int .i32 0, .int .i32 0, .int .i32 0] 69)
     replace n59 := n59.alloc (.cells #[.int .i32 0, .int .i32 0, .int .i32 0] 69)
     have n65 := Blk.new v63 69 #[.int .i32 0, .int .i32 0, .int .i32 0]
     replace hb := hb.alloc hb.size (.cells #[.int .i32 0, .int .i32 0, .int .i32 0] 69)
     generalize v63.alloc (.cells #[.int .i32 0, .int .i32 0, .int .i32 0] 69) = v65 at *
     generalize v63.heap.size = g65 at *
     refine hK.out _ _ ⟨hp0.cell 0, hp0.cell 1, hp0.cell 2, hp1.cell 0, hp1.cell 1, hp1.cell 2, hr.cell 0, hr.cell 1, hr.cell 2⟩ (fun hH => ?_)
     clear hK K
     try (simp only [Act.put, List.setIfInBounds_toArray, List.set_cons_zero, List.set_cons_succ])
     refine rd1 6 (fun K hK => ?_)
     have c0 : v65.cell? ⟨g59, 0, none⟩ = some (.int .i32 0) := n59.cell 0
     have z0 := n59.frozen 0
     have c1 : v65.cell? ⟨g59, 1, none⟩ = some (.int .i32 0) := n59.cell 1
     have z1 := n59.frozen 1
     have c2 : v65.cell? ⟨g59, 2, none⟩ = some (.int .i32 0) := n59.cell 2
     have z2 := n59.frozen 2
     go_simp
     try go_wp2_with fail
     replace hp0 := (((hp0.fr g59 0 (by omega) (.int .i32 a0)).fr g59 1 (by omega) (.int .i32 a1)).fr g59 2 (by omega) (.int .i32 a2))
     replace hp1 := (((hp1.fr g59 0 (by omega) (.int .i32 a0)).fr g59 1 (by omega) (.int .i32 a1)).fr g59 2 (by omega) (.int .i32 a2))
     replace hr := (((hr.fr g59 0 (by omega) (.int .i32 a0)).fr g59 1 (by omega) (.int .i32 a1)).fr g59 2 (by omega) (.int .i32 a2))
     replace n65 := (((n65.fr g59 0 (by omega) (.int .i32 a0)).fr g59 1 (by omega) (.int .i32 a1)).fr g59 2 (by omega) (.int .i32 a2))
     replace n59 := (((n59.set_ 0 (.int .i32 a0)).set_ 1 (.int .i32 a1)).set_ 2 (.int .i32 a2))
     replace hb := (((hb.sc g59 0 (by omega) (.int .i32 a0)).sc g59 1 (by omega) (.int .i32 a1)).sc g59 2 (by omega) (.int .i32 a2))
     clear c0 z0 c1 z1 c2 z2
     generalize (((v65.setCell ⟨g59, 0, none⟩ (.int .i32 a0)).setCell ⟨g59, 1, none⟩ (.int .i32 a1)).setCell ⟨g59, 2, none⟩ (.int .i32 a2)) = v67 at *
     refine hK.out _ _ ⟨hp0.cell 0, hp0.cell 1, hp0.cell 2, hp1.cell 0, hp1.cell 1, hp1.cell 2, hr.cell 0, hr.cell 1, hr.cell 2⟩ (fun hH => ?_)
     clear hK K
     try (simp only [Act.put, List.setIfInBounds_toArray, List.set_cons_zero, List.set_cons_succ])
     refine rd1 7 (fun K hK => ?_)
     have c0 : v67.cell? ⟨g65, 0, none⟩ = some (.int .i32 0) := n65.cell 0
     have z0 := n65.frozen 0
     have c1 : v67.cell? ⟨g65, 1, none⟩ = some (.int .i32 0) := n65.cell 1
     have z1 := n65.frozen 1
     have c2 : v67.cell? ⟨g65, 2, none⟩ = some (.int .i32 0) := n65.cell 2
     have z2 := n65.frozen 2
     go_simp
     try go_wp2_with fail
     replace hp0 := (((hp0.fr g65 0 (by omega) (.int .i32 b0)).fr g65 1 (by omega) (.int .i32 b1)).fr g65 2 (by omega) (.int .i32 b2))
     replace hp1 := (((hp1.fr g65 0 (by omega) (.int .i32 b0)).fr g65 1 (by omega) (.int .i32 b1)).fr g65 2 (by omega) (.int .i32 b2))
     replace hr := (((hr.fr g65 0 (by omega) (.int .i32 b0)).fr g65 1 (by omega) (.int .i32 b1)).fr g65 2 (by omega) (.int .i32 b2))
     replace n59 := (((n59.fr g65 0 (by omega) (.int .i32 b0)).fr g65 1 (by omega) (.int .i32 b1)).fr g65 2 (by omega) (.int .i32 b2))
     replace n65 := (((n65.set_ 0 (.int .i32 b0)).set_ 1 (.int .i32 b1)).set_ 2 (.int .i32 b2))
     replace hb := (((hb.sc g65 0 (by omega) (.int .i32 b0)).sc g65 1 (by omega) (.int .i32 b1)).sc g65 2 (by omega) (.int .i32 b2))
     clear c0 z0 c1 z1 c2 z2
     generalize (((v67.setCell ⟨g65, 0, none⟩ (.int .i32 b0)).setCell ⟨g65, 1, none⟩ (.int .i32 b1)).setCell ⟨g65, 2, none⟩ (.int .i32 b2)) = v69 at *
     refine hK.out _ _ ⟨hp0.cell 0, hp0.cell 1, hp0.cell 2, hp1.cell 0, hp1.cell 1, hp1.cell 2, hr.cell 0, hr.cell 1, hr.cell 2⟩ (fun hH => ?_)
     clear hK K
     try (simp only [Act.put, List.setIfInBounds_toArray, List.set_cons_zero, List.set_cons_succ])
     refine wpAnyH_done ?hru70 ?hqu70 _
     case hru70 => kernel_rfl
     refine NoPanic.normal ?_
     try go_wp2_with fail
     go_meet
     exact ⟨g59, g65, rfl, rfl, n59, n65, hr, hb⟩
    case hc62q5 =>
     go_simp
     try go_wp2_with fail
     have lb71 := hb.size
     have l71hp0 := hp0.lt
     have l71hp1 := hp1.lt
     have l71hr := hr.lt
     have l71n59 := n59.lt
     replace hp0 := hp0.alloc (.cells #[.int .i32 0, .int .i32 0, .int .i32 0] 69)
     replace hp1 := hp1.alloc (.cells #[.int .i32 0, .int .i32 0, .int .i32 0] 69)
     replace hr := hr.alloc (.cells #[.int .i32 0, .int .i32 0, .int .i32 0] 69)
     replace n59 := n59.alloc (.cells #[.int .i32 0, .int .i32 0, .int .i32 0] 69)
     have n71 := Blk.new v61 69 #[.int .i32 0, .int .i32 0, .int .i32 0]
     replace hb := hb.alloc hb.size (.cells #[.int .i32 0, .int .i32 0, .int .i32 0] 69)
     generalize v61.alloc (.cells #[.int .i32 0, .int .i32 0, .int .i32 0] 69) = v71 at *
     generalize v61.heap.size = g71 at *
     refine hK.out _ _ ⟨hp0.cell 0, hp0.cell 1, hp0.cell 2, hp1.cell 0, hp1.cell 1, hp1.cell 2, hr.cell 0, hr.cell 1, hr.cell 2⟩ (fun hH => ?_)
     clear hK K
     try (simp only [Act.put, List.setIfInBounds_toArray, List.set_cons_zero, List.set_cons_succ])
     refine rd1 3 (fun K hK => ?_)
     go_simp
     refine (HQ.out _).mono ?_
     rintro e v73 ⟨rfl, bb⟩
     go_wp2_with fail
     replace hp0 := hp0.below bb hp0.lt
     replace hp1 := hp1.below bb hp1.lt
     replace hr := hr.below bb hr.lt
     replace n59 := n59.below bb n59.lt
     replace n71 := n71.below bb n71.lt
     replace hb := hb.on bb
     clear bb
     refine hK.out _ _ ⟨hp0.cell 0, hp0.cell 1, hp0.cell 2, hp1.cell 0, hp1.cell 1, hp1.cell 2, hr.cell 0, hr.cell 1, hr.cell 2⟩ (fun hH => ?_)
     clear hK K
     try (simp only [Act.put, List.setIfInBounds_toArray, List.set_cons_zero, List.set_cons_succ])
     refine rd1 6 (fun K hK => ?_)
     have c0 : v73.cell? ⟨g59, 0, none⟩ = some (.int .i32 0) := n59.cell 0
     have z0 := n59.frozen 0
     have c1 : v73.cell? ⟨g59, 1, none⟩ = some (.int .i32 0) := n59.cell 1
     have z1 := n59.frozen 1
     have c2 : v73.cell? ⟨g59, 2, none⟩ = some (.int .i32 0) := n59.cell 2
     have z2 := n59.frozen 2
     go_simp
     try go_wp2_with fail
     replace hp0 := (((hp0.fr g59 0 (by omega) (.int .i32 a0)).fr g59 1 (by omega) (.int .i32 a1)).fr g59 2 (by omega) (.int .i32 a2))
     replace hp1 := (((hp1.fr g59 0 (by omega) (.int .i32 a0)).fr g59 1 (by omega) (.int .i32 a1)).fr g59 2 (by omega) (.int .i32 a2))
     replace hr := (((hr.fr g59 0 (by omega) (.int .i32 a0)).fr g59 1 (by omega) (.int .i32 a1)).fr g59 2 (by omega) (.int .i32 a2))
     replace n71 := (((n71.fr g59 0 (by omega) (.int .i32 a0)).fr g59 1 (by omega) (.int .i32 a1)).fr g59 2 (by omega) (.int .i32 a2))
     replace n59 := (((n59.set_ 0 (.int .i32 a0)).set_ 1 (.int .i32 a1)).set_ 2 (.int .i32 a2))
     replace hb := (((hb.sc g59 0 (by omega) (.int .i32 a0)).sc g59 1 (by omega) (.int .i32 a1)).sc g59 2 (by omega) (.int .i32 a2))
     clear c0 z0 c1 z1 c2 z2
     generalize (((v73.setCell ⟨g59, 0, none⟩ (.int .i32 a0)).setCell ⟨g59, 1, none⟩ (.int .i32 a1)).setCell ⟨g59, 2, none⟩ (.int .i32 a2)) = v75 at *
     refine hK.out _ _ ⟨hp0.cell 0, hp0.cell 1, hp0.cell 2, hp1.cell 0, hp1.cell 1, hp1.cell 2, hr.cell 0, hr.cell 1, hr.cell 2⟩ (fun hH => ?_)
     clear hK K
     try (simp only [Act.put, List.setIfInBounds_toArray, List.set_cons_zero, List.set_cons_succ])
     refine rd1 7 (fun K hK => ?_)
     have c0 : v75.cell? ⟨g71, 0, none⟩ = some (.int .i32 0) := n71.cell 0
     have z0 := n71.frozen 0
     have c1 : v75.cell? ⟨g71, 1, none⟩ = some (.int .i32 0) := n71.cell 1
     have z1 := n71.frozen 1
     have c2 : v75.cell? ⟨g71, 2, none⟩ = some (.int .i32 0) := n71.cell 2
     have z2 := n71.frozen 2
     go_simp
     try go_wp2_with fail
     replace hp0 := (((hp0.fr g71 0 (by omega) (.int .i32 b0)).fr g71 1 (by omega) (.int .i32 b1)).fr g71 2 (by omega) (.int .i32 b2))
     replace hp1 := (((hp1.fr g71 0 (by omega) (.int .i32 b0)).fr g71 1 (by omega) (.int .i32 b1)).fr g71 2 (by omega) (.int .i32 b2))
     replace hr := (((hr.fr g71 0 (by omega) (.int .i32 b0)).fr g71 1 (by omega) (.int .i32 b1)).fr g71 2 (by omega) (.int .i32 b2))
     replace n59 := (((n59.fr g71 0 (by omega) (.int .i32 b0)).fr g71 1 (by omega) (.int .i32 b1)).fr g71 2 (by omega) (.int .i32 b2))
     replace n71 := (((n71.set_ 0 (.int .i32 b0)).set_ 1 (.int .i32 b1)).set_ 2 (.int .i32 b2))
     replace hb := (((hb.sc g71 0 (by omega) (.int .i32 b0)).sc g71 1 (by omega) (.int .i32 b1)).sc g71 2 (by omega) (.int .i32 b2))
     clear c0 z0 c1 z1 c2 z2
     generalize (((v75.setCell ⟨g71, 0, none⟩ (.int .i32 b0)).setCell ⟨g71, 1, none⟩ (.int .i32 b1)).setCell ⟨g71, 2, none⟩ (.int .i32 b2)) = v77 at *
     refine hK.out _ _ ⟨hp0.cell 0, hp0.cell 1, hp0.cell 2, hp1.cell 0, hp1.cell 1, hp1.cell 2, hr.cell 0, hr.cell 1, hr.cell 2⟩ (fun hH => ?_)
     clear hK K
     try (simp only [Act.put, List.setIfInBounds_toArray, List.set_cons_zero, List.set_cons_succ])
     refine wpAnyH_done ?hru78 ?hqu78 _
     case hru78 => kernel_rfl
     refine NoPanic.normal ?_
     try go_wp2_with fail
     go_meet
     exact ⟨g59, g71, rfl, rfl, n59, n71, hr, hb⟩
   case hc60q5 =>
    go_simp
    try go_wp2_with fail
    have lb79 := hb.size
    have l79hp0 := hp0.lt
    have l79hp1 := hp1.lt
    have l79hr := hr.lt
    have l79n59 := n59.lt
    replace hp0 := hp0.alloc (.cells #[.int .i32 0, .int .i32 0, .int .i32 0] 69)
    replace hp1 := hp1.alloc (.cells #[.int .i32 0, .int .i32 0, .int .i32 0] 69)
    replace hr := hr.alloc (.cells #[.int .i32 0, .int .i32 0, .int .i32 0] 69)
    replace n59 := n59.alloc (.cells #[.int .i32 0, .int .i32 0, .int .i32 0] 69)
    have n79 := Blk.new v59 69 #[.int .i32 0, .int .i32 0, .int .i32 0]
    replace hb := hb.alloc hb.size (.cells #[.int .i32 0, .int .i32 0, .int .i32 0] 69)
    generalize v59.alloc (.cells #[.int .i32 0, .int .i32 0, .int .i32 0] 69) = v79 at *
    generalize v59.heap.size = g79 at *
    refine hK.out _ _ ⟨hp0.cell 0, hp0.cell 1, hp0.cell 2, hp1.cell 0, hp1.cell 1, hp1.cell 2, hr.cell 0, hr.cell 1, hr.cell 2⟩ (fun hH => ?_)
    clear hK K
    try (simp only [Act.put, List.setIfInBounds_toArray, List.set_cons_zero, List.set_cons_succ])
    refine rd1 1 (fun K hK => ?_)
    go_simp
    refine (HP.out _).mono ?_
    rintro e v81 ⟨rfl, bb⟩
    go_wp2_with fail
    replace hp0 := hp0.below bb hp0.lt
    replace hp1 := hp1.below bb hp1.lt
    replace hr := hr.below bb hr.lt
    replace n59 := n59.below bb n59.lt
    replace n79 := n79.below bb n79.lt
    replace hb := hb.on bb
    clear bb
    refine hK.out _ _ ⟨hp0.cell 0, hp0.cell 1, hp0.cell 2, hp1.cell 0, hp1.cell 1, hp1.cell 2, hr.cell 0, hr.cell 1, hr.cell 2⟩ (fun hH => ?_)
    clear hK K
    try (simp only [Act.put, List.setIfInBounds_toArray, List.set_cons_zero, List.set_cons_succ])
    refine rd1 3 (fun K hK => ?_)
    go_simp
    refine (HQ.out _).mono ?_
    rintro e v83 ⟨rfl, bb⟩
    go_wp2_with fail
    replace hp0 := hp0.below bb hp0.lt
    replace hp1 := hp1.below bb hp1.lt
    replace hr := hr.below bb hr.lt
    replace n59 := n59.below bb n59.lt
    replace n79 := n79.below bb n79.lt
    replace hb := hb.on bb
    clear bb
    refine hK.out _ _ ⟨hp0.cell 0, hp0.cell 1, hp0.cell 2, hp1.cell 0, hp1.cell 1, hp1.cell 2, hr.cell 0, hr.cell 1, hr.cell 2⟩ (fun hH => ?_)
    clear hK K
    try (simp only [Act.put, List.setIfInBounds_toArray, List.set_cons_zero, List.set_cons_succ])
    refine rd1 6 (fun K hK => ?_)
    have c0 : v83.cell? ⟨g59, 0, none⟩ = some (.int .i32 0) := n59.cell 0
    have z0 := n59.frozen 0
    have c1 : v83.cell? ⟨g59, 1, none⟩ = some (.int .i32 0) := n59.cell 1
    have z1 := n59.frozen 1
    have c2 : v83.cell? ⟨g59, 2, none⟩ = some (.int .i32 0) := n59.cell 2
    have z2 := n59.frozen 2
    go_simp
    try go_wp2_with fail
    replace hp0 := (((hp0.fr g59 0 (by omega) (.int .i32 a0)).fr g59 1 (by omega) (.int .i32 a1)).fr g59 2 (by omega) (.int .i32 a2))
    replace hp1 := (((hp1.fr g59 0 (by omega) (.int .i32 a0)).fr g59 1 (by omega) (.int .i32 a1)).fr g59 2 (by omega) (.int .i32 a2))
    replace hr := (((hr.fr g59 0 (by omega) (.int .i32 a0)).fr g59 1 (by omega) (.int .i32 a1)).fr g59 2 (by omega) (.int .i32 a2))
    replace n79 := (((n79.fr g59 0 (by omega) (.int .i32 a0)).fr g59 1 (by omega) (.int .i32 a1)).fr g59 2 (by omega) (.int .i32 a2))
    replace n59 := (((n59.set_ 0 (.int .i32 a0)).set_ 1 (.int .i32 a1)).set_ 2 (.int .i32 a2))
    replace hb := (((hb.sc g59 0 (by omega) (.int .i32 a0)).sc g59 1 (by omega) (.int .i32 a1)).sc g59 2 (by omega) (.int .i32 a2))
    clear c0 z0 c1 z1 c2 z2
    generalize (((v83.setCell ⟨g59, 0, none⟩ (.int .i32 a0)).setCell ⟨g59, 1, none⟩ (.int .i32 a1)).setCell ⟨g59, 2, none⟩ (.int .i32 a2)) = v85 at *
    refine hK.out _ _ ⟨hp0.cell 0, hp0.cell 1, hp0.cell 2, hp1.cell 0, hp1.cell 1, hp1.cell 2, hr.cell 0, hr.cell 1, hr.cell 2⟩ (fun hH => ?_)
    clear hK K
    try (simp only [Act.put, List.setIfInBounds_toArray, List.set_cons_zero, List.set_cons_succ])
    refine rd1 7 (fun K hK => ?_)
    have c0 : v85.cell? ⟨g79, 0, none⟩ = some (.int .i32 0) := n79.cell 0
    have z0 := n79.frozen 0
    have c1 : v85.cell? ⟨g79, 1, none⟩ = some (.int .i32 0) := n79.cell 1
    have z1 := n79.frozen 1
    have c2 : v85.cell? ⟨g79, 2, none⟩ = some (.int .i32 0) := n79.cell 2
    have z2 := n79.frozen 2
    go_simp
    try go_wp2_with fail
    replace hp0 := (((hp0.fr g79 0 (by omega) (.int .i32 b0)).fr g79 1 (by omega) (.int .i32 b1)).fr g79 2 (by omega) (.int .i32 b2))
    replace hp1 := (((hp1.fr g79 0 (by omega) (.int .i32 b0)).fr g79 1 (by omega) (.int .i32 b1)).fr g79 2 (by omega) (.int .i32 b2))
    replace hr := (((hr.fr g79 0 (by omega) (.int .i32 b0)).fr g79 1 (by omega) (.int .i32 b1)).fr g79 2 (by omega) (.int .i32 b2))
    replace n59 := (((n59.fr g79 0 (by omega) (.int .i32 b0)).fr g79 1 (by omega) (.int .i32 b1)).fr g79 2 (by omega) (.int .i32 b2))
    replace n79 := (((n79.set_ 0 (.int .i32 b0)).set_ 1 (.int .i32 b1)).set_ 2 (.int .i32 b2))
    replace hb := (((hb.sc g79 0 (by omega) (.int .i32 b0)).sc g79 1 (by omega) (.int .i32 b1)).sc g79 2 (by omega) (.int .i32 b2))
    clear c0 z0 c1 z1 c2 z2
    generalize (((v85.setCell ⟨g79, 0, none⟩ (.int .i32 b0)).setCell ⟨g79, 1, none⟩ (.int .i32 b1)).setCell ⟨g79, 2, none⟩ (.int .i32 b2)) = v87 at *
    refine hK.out _ _ ⟨hp0.cell 0, hp0.cell 1, hp0.cell 2, hp1.cell 0, hp1.cell 1, hp1.cell 2, hr.cell 0, hr.cell 1, hr.cell 2⟩ (fun hH => ?_)
    clear hK K
    try (simp only [Act.put, List.setIfInBounds_toArray, List.set_cons_zero, List.set_cons_succ])
    refine wpAnyH_done ?hru88 ?hqu88 _
    case hru88 => kernel_rfl
    refine NoPanic.normal ?_
    try go_wp2_with fail
    go_meet
    exact ⟨g59, g79, rfl, rfl, n59, n79, hr, hb⟩
  case hc2q5 =>
   go_simp
   try go_wp2_with fail
   have lb89 := hb.size
   have l89hp0 := hp0.lt
   have l89hp1 := hp1.lt
   have l89hr := hr.lt
   replace hp0 := hp0.alloc (.cells #[.int .i32 0, .int .i32 0, .int .i32 0] 69)
   replace hp1 := hp1.alloc (.cells #[.int .i32 0, .int .i32 0, .int .i32 0] 69)
   replace hr := hr.alloc (.cells #[.int .i32 0, .int .i32 0, .int .i32 0] 69)
   have n89 := Blk.new W1 69 #[.int .i32 0, .int .i32 0, .int .i32 0]
   replace hb := hb.alloc hb.size (.cells #[.int .i32 0, .int .i32 0, .int .i32 0] 69)
   generalize W1.alloc (.cells #[.int .i32 0, .int .i32 0, .int .i32 0] 69) = v89 at *
   generalize W1.heap.size = g89 at *
   refine hK.out _ _ ⟨hp0.cell 0, hp0.cell 1, hp0.cell 2, hp1.cell 0, hp1.cell 1, hp1.cell 2, hr.cell 0, hr.cell 1, hr.cell 2⟩ (fun hH => ?_)
   clear hK K
   try (simp only [Act.put, List.setIfInBounds_toArray, List.set_cons_zero, List.set_cons_succ])
   refine rd2 1 4 (fun K hK => ?hc90q1) (fun K hK => ?hc90q4)
   case hc90q1 =>
    go_simp
    refine (HP.out _).mono ?_
    rintro e v91 ⟨rfl, bb⟩
    go_wp2_with fail
    replace hp0 := hp0.below bb hp0.lt
    replace hp1 := hp1.below bb hp1.lt
    replace hr := hr.below bb hr.lt
    replace n89 := n89.below bb n89.lt
    replace hb := hb.on bb
    clear bb
    refine hK.out _ _ ⟨hp0.cell 0, hp0.cell 1, hp0.cell 2, hp1.cell 0, hp1.cell 1, hp1.cell 2, hr.cell 0, hr.cell 1, hr.cell 2⟩ (fun hH => ?_)
    clear hK K
    try (simp only [Act.put, List.setIfInBounds_toArray, List.set_cons_zero, List.set_cons_succ])
    refine rd2 3 4 (fun K hK => ?hc92q3) (fun K hK => ?hc92q4)
    case hc92q3 =>
     go_simp
     refine (HQ.out _).mono ?_
     rintro e v93 ⟨rfl, bb⟩
     go_wp2_with fail
     replace hp0 := hp0.below bb hp0.lt
     replace hp1 := hp1.below bb hp1.lt
     replace hr := hr.below bb hr.lt
     replace n89 := n89.below bb n89.lt
     replace hb := hb.on bb
     clear bb
     refine hK.out _ _ ⟨hp0.cell 0, hp0.cell 1, hp0.cell 2, hp1.cell 0, hp1.cell 1, hp1.cell 2, hr.cell 0, hr.cell 1, hr.cell 2⟩ (fun hH => ?_)
     clear hK K
     try (simp only [Act.put, List.setIfInBounds_toArray, List.set_cons_zero, List.set_cons_succ])
     refine rd1 4 (fun K hK => ?_)
     go_simp
     try go_wp2_with fail
     have lb95 := hb.size
     have l95hp0 := hp0.lt
     have l95hp1 := hp1.lt
     have l95hr := hr.lt
     have l95n89 := n89.lt
     replace hp0 := hp0.alloc (.cells #[.int .i32 0, .int .i32 0, .int .i32 0] 69)
     replace hp1 := hp1.alloc (.cells #[.int .i32 0, .int .i32 0, .int .i32 0] 69)
     replace hr := hr.alloc (.cells #[.int .i32 0, .int .i32 0, .int .i32 0] 69)
     replace n89 := n89.alloc (.cells #[.int .i32 0, .int .i32 0, .int .i32 0] 69)
     have n95 := Blk.new v93 69 #[.int .i32 0, .int .i32 0, .int .i32 0]
     replace hb := hb.alloc hb.size (.cells #[.int .i32 0, .int .i32 0, .int .i32 0] 69)
     generalize v93.alloc (.cells #[.int .i32 0, .int .i32 0, .int .i32 0] 69) = v95 at *
     generalize v93.heap.size = g95 at *
     refine hK.out _ _ ⟨hp0.cell 0, hp0.cell 1, hp0.cell 2, hp1.cell 0, hp1.cell 1, hp1.cell 2, hr.cell 0, hr.cell 1, hr.cell 2⟩ (fun hH => ?_)
     clear hK K
     try (simp only [Act.put, List.setIfInBounds_toArray, List.set_cons_zero, List.set_cons_succ])
     refine rd1 6 (fun K hK => ?_)
     have c0 : v95.cell? ⟨g95, 0, none⟩ = some (.int .i32 0) := n95.cell 0
     have z0 := n95.frozen 0
     have c1 : v95.cell? ⟨g95, 1, none⟩ = some (.int .i32 0) := n95.cell 1
     have z1 := n95.frozen 1
     have c2 : v95.cell? ⟨g95, 2, none⟩ = some (.int .i32 0) := n95.cell 2
     have z2 := n95.frozen 2
     go_simp
     try go_wp2_with fail
     replace hp0 := (((hp0.fr g95 0 (by omega) (.int .i32 a0)).fr g95 1 (by omega) (.int .i32 a1)).fr g95 2 (by omega) (.int .i32 a2))
     replace hp1 := (((hp1.fr g95 0 (by omega) (.int .i32 a0)).fr g95 1 (by omega) (.int .i32 a1)).fr g95 2 (by omega) (.int .i32 a2))
     replace hr := (((hr.fr g95 0 (by omega) (.int .i32 a0)).fr g95 1 (by omega) (.int .i32 a1)).fr g95 2 (by omega) (.int .i32 a2))
     replace n89 := (((n89.fr g95 0 (by omega) (.int .i32 a0)).fr g95 1 (by omega) (.int .i32 a1)).fr g95 2 (by omega) (.int .i32 a2))
     replace n95 := (((n95.set_ 0 (.int .i32 a0)).set_ 1 (.int .i32 a1)).set_ 2 (.int .i32 a2))
     replace hb := (((hb.sc g95 0 (by omega) (.int .i32 a0)).sc g95 1 (by omega) (.int .i32 a1)).sc g95 2 (by omega) (.int .i32 a2))
     clear c0 z0 c1 z1 c2 z2
     generalize (((v95.setCell ⟨g95, 0, none⟩ (.int .i32 a0)).setCell ⟨g95, 1, none⟩ (.int .i32 a1)).setCell ⟨g95, 2, none⟩ (.int .i32 a2)) = v97 at *
     refine hK.out _ _ ⟨hp0.cell 0, hp0.cell 1, hp0.cell 2, hp1.cell 0, hp1.cell 1, hp1.cell 2, hr.cell 0, hr.cell 1, hr.cell 2⟩ (fun hH => ?_)
     clear hK K
     try (simp only [Act.put, List.setIfInBounds_toArray, List.set_cons_zero, List.set_cons_succ])
     refine rd1 7 (fun K hK => ?_)
     have c0 : v97.cell? ⟨g89, 0, none⟩ = some (.int .i32 0) := n89.cell 0
     have z0 := n89.frozen 0
     have c1 : v97.cell? ⟨g89, 1, none⟩ = some (.int .i32 0) := n89.cell 1
     have z1 := n89.frozen 1
     have c2 : v97.cell? ⟨g89, 2, none⟩ = some (.int .i32 0) := n89.cell 2
     have z2 := n89.frozen 2
     go_simp
     try go_wp2_with fail
     replace hp0 := (((hp0.fr g89 0 (by omega) (.int .i32 b0)).fr g89 1 (by omega) (.int .i32 b1)).fr g89 2 (by omega) (.int .i32 b2))
     replace hp1 := (((hp1.fr g89 0 (by omega) (.int .i32 b0)).fr g89 1 (by omega) (.int .i32 b1)).fr g89 2 (by omega) (.int .i32 b2))
     replace hr := (((hr.fr g89 0 (by omega) (.int .i32 b0)).fr g89 1 (by omega) (.int .i32 b1)).fr g89 2 (by omega) (.int .i32 b2))
     replace n95 := (((n95.fr g89 0 (by omega) (.int .i32 b0)).fr g89 1 (by omega) (.int .i32 b1)).fr g89 2 (by omega) (.int .i32 b2))
     replace n89 := (((n89.set_ 0 (.int .i32 b0)).set_ 1 (.int .i32 b1)).set_ 2 (.int .i32 b2))
     replace hb := (((hb.sc g89 0 (by omega) (.int .i32 b0)).sc g89 1 (by omega) (.int .i32 b1)).sc g89 2 (by omega) (.int .i32 b2))
     clear c0 z0 c1 z1 c2 z2
     generalize (((v97.setCell ⟨g89, 0, none⟩ (.int .i32 b0)).setCell ⟨g89, 1, none⟩ (.int .i32 b1)).setCell ⟨g89, 2, none⟩ (.int .i32 b2)) = v99 at *
     refine hK.out _ _ ⟨hp0.cell 0, hp0.cell 1, hp0.cell 2, hp1.cell 0, hp1.cell 1, hp1.cell 2, hr.cell 0, hr.cell 1, hr.cell 2⟩ (fun hH => ?_)
     clear hK K
     try (simp only [Act.put, List.setIfInBounds_toArray, List.set_cons_zero, List.set_cons_succ])
     refine wpAnyH_done ?hru100 ?hqu100 _
     case hru100 => kernel_rfl
     refine NoPanic.normal ?_
     try go_wp2_with fail
     go_meet
     exact ⟨g95, g89, rfl, rfl, n95, n89, hr, hb⟩
    case hc92q4 =>
     go_simp
     try go_wp2_with fail
     have lb101 := hb.size
     have l101hp0 := hp0.lt
     have l101hp1 := hp1.lt
     have l101hr := hr.lt
     have l101n89 := n89.lt
     replace hp0 := hp0.alloc (.cells #[.int .i32 0, .int .i32 0, .int .i32 0] 69)
     replace hp1 := hp1.alloc (.cells #[.int .i32 0, .int .i32 0, .int .i32 0] 69)
     replace hr := hr.alloc (.cells #[.int .i32 0, .int .i32 0, .int .i32 0] 69)
     replace n89 := n89.alloc (.cells #[.int .i32 0, .int .i32 0, .int .i32 0] 69)
     have n101 := Blk.new v91 69 #[.int .i32 0, .int .i32 0, .int .i32 0]
     replace hb := hb.alloc hb.size (.cells #[.int .i32 0, .int .i32 0, .int .i32 0] 69)
     generalize v91.alloc (.cells #[.int .i32 0, .int .i32 0, .int .i32 0] 69) = v101 at *
     generalize v91.heap.size = g101 at *
     refine hK.out _ _ ⟨hp0.cell 0, hp0.cell 1, hp0.cell 2, hp1.cell 0, hp1.cell 1, hp1.cell 2, hr.cell 0, hr.cell 1, hr.cell 2⟩ (fun hH => ?_)
     clear hK K
     try (simp only [Act.put, List.setIfInBounds_toArray, List.set_cons_zero, List.set_cons_succ])
     refine rd1 3 (fun K hK => ?_)
     go_simp
     refine (HQ.out _).mono ?_
     rintro e v103 ⟨rfl, bb⟩
     go_wp2_with fail
     replace hp0 := hp0.below bb hp0.lt
     replace hp1 := hp1.below bb hp1.lt
     replace hr := hr.below bb hr.lt
     replace n89 := n89.below bb n89.lt
     replace n101 := n101.below bb n101.lt
     replace hb := hb.on bb
     clear bb
     refine hK.out _ _ ⟨hp0.cell 0, hp0.cell 1, hp0.cell 2, hp1.cell 0, hp1.cell 1, hp1.cell 2, hr.cell 0, hr.cell 1, hr.cell 2⟩ (fun hH => ?_)
     clear hK K
     try (simp only [Act.put, List.setIfInBounds_toArray, List.set_cons_zero, List.set_cons_succ])
     refine rd1 6 (fun K hK => ?_)
     have c0 : v103.cell? ⟨g101, 0, none⟩ = some (.int .i32 0) := n101.cell 0
     have z0 := n101.frozen 0
     have c1 : v103.cell? ⟨g101, 1, none⟩ = some (.int .i32 0) := n101.cell 1
     have z1 := n101.frozen 1
     have c2 : v103.cell? ⟨g101, 2, none⟩ = some (.int .i32 0) := n101.cell 2
     have z2 := n101.frozen 2
     go_simp
     try go_wp2_with fail
     replace hp0 := (((hp0.fr g101 0 (by omega) (.int .i32 a0)).fr g101 1 (by omega) (.int .i32 a1)).fr g101 2 (by omega) (.int .i32 a2))
     replace hp1 := (((hp1.fr g101 0 (by omega) (.int .i32 a0)).fr g101 1 (by omega) (.int .i32 a1)).fr g101 2 (by omega) (.int .i32 a2))
     replace hr := (((hr.fr g101 0 (by omega) (.int .i32 a0)).fr g101 1 (by omega) (.int .i32 a1)).fr g101 2 (by omega) (.int .i32 a2))
     replace n89 := (((n89.fr g101 0 (by omega) (.int .i32 a0)).fr g101 1 (by omega) (.int .i32 a1)).fr g101 2 (by omega) (.int .i32 a2))
     replace n101 := (((n101.set_ 0 (.int .i32 a0)).set_ 1 (.int .i32 a1)).set_ 2 (.int .i32 a2))
     replace hb := (((hb.sc g101 0 (by omega) (.int .i32 a0)).sc g101 1 (by omega) (.int .i32 a1)).sc g101 2 (by omega) (.int .i32 a2))
     clear c0 z0 c1 z1 c2 z2
     generalize (((v103.setCell ⟨g101, 0, none⟩ (.int .i32 a0)).setCell ⟨g101, 1, none⟩ (.int .i32 a1)).setCell ⟨g101, 2, none⟩ (.int .i32 a2)) = v105 at *
     refine hK.out _ _ ⟨hp0.cell 0, hp0.cell 1, hp0.cell 2, hp1.cell 0, hp1.cell 1, hp1.cell 2, hr.cell 0, hr.cell 1, hr.cell 2⟩ (fun hH => ?_)
     clear hK K
     try (simp only [Act.put, List.setIfInBounds_toArray, List.set_cons_zero, List.set_cons_succ])
     refine rd1 7 (fun K hK => ?_)
     have c0 : v105.cell? ⟨g89, 0, none⟩ = some (.int .i32 0) := n89.cell 0
     have z0 := n89.frozen 0
     have c1 : v105.cell? ⟨g89, 1, none⟩ = some (.int .i32 0) := n89.cell 1
     have z1 := n89.frozen 1
     have c2 : v105.cell? ⟨g89, 2, none⟩ = some (.int .i32 0) := n89.cell 2
     have z2 := n89.frozen 2
     go_simp
     try go_wp2_with fail
     replace hp0 := (((hp0.fr g89 0 (by omega) (.int .i32 b0)).fr g89 1 (by omega) (.int .i32 b1)).fr g89 2 (by omega) (.int .i32 b2))
     replace hp1 := (((hp1.fr g89 0 (by omega) (.int .i32 b0)).fr g89 1 (by omega) (.int .i32 b1)).fr g89 2 (by omega) (.int .i32 b2))
     replace hr := (((hr.fr g89 0 (by omega) (.int .i32 b0)).fr g89 1 (by omega) (.int .i32 b1)).fr g89 2 (by omega) (.int .i32 b2))
     replace n101 := (((n101.fr g89 0 (by omega) (.int .i32 b0)).fr g89 1 (by omega) (.int .i32 b1)).fr g89 2 (by omega) (.int .i32 b2))
     replace n89 := (((n89.set_ 0 (.int .i32 b0)).set_ 1 (.int .i32 b1)).set_ 2 (.int .i32 b2))
     replace hb := (((hb.sc g89 0 (by omega) (.int .i32 b0)).sc g89 1 (by omega) (.int .i32 b1)).sc g89 2 (by omega) (.int .i32 b2))
     clear c0 z0 c1 z1 c2 z2
     generalize (((v105.setCell ⟨g89, 0, none⟩ (.int .i32 b0)).setCell ⟨g89, 1, none⟩ (.int .i32 b1)).setCell ⟨g89, 2, none⟩ (.int .i32 b2)) = v107 at *
     refine hK.out _ _ ⟨hp0.cell 0, hp0.cell 1, hp0.cell 2, hp1.cell 0, hp1.cell 1, hp1.cell 2, hr.cell 0, hr.cell 1, hr.cell 2⟩ (fun hH => ?_)
     clear hK K
     try (simp only [Act.put, List.setIfInBounds_toArray, List.set_cons_zero, List.set_cons_succ])
     refine wpAnyH_done ?hru108 ?hqu108 _
     case hru108 => kernel_rfl
     refine NoPanic.normal ?_
     try go_wp2_with fail
     go_meet
     exact ⟨g101, g89, rfl, rfl, n101, n89, hr, hb⟩
   case hc90q4 =>
    go_simp
    try go_wp2_with fail
    have lb109 := hb.size
    have l109hp0 := hp0.lt
    have l109hp1 := hp1.lt
    have l109hr := hr.lt
    have l109n89 := n89.lt
    replace hp0 := hp0.alloc (.cells #[.int .i32 0, .int .i32 0, .int .i32 0] 69)
    replace hp1 := hp1.alloc (.cells #[.int .i32 0, .int .i32 0, .int .i32 0] 69)
    replace hr := hr.alloc (.cells #[.int .i32 0, .int .i32 0, .int .i32 0] 69)
    replace n89 := n89.alloc (.cells #[.int .i32 0, .int .i32 0, .int .i32 0] 69)
    have n109 := Blk.new v89 69 #[.int .i32 0, .int .i32 0, .int .i32 0]
    replace hb := hb.alloc hb.size (.cells #[.int .i32 0, .int .i32 0, .int .i32 0] 69)
    generalize v89.alloc (.cells #[.int .i32 0, .int .i32 0, .int .i32 0] 69) = v109 at *
    generalize v89.heap.size = g109 at *
    refine hK.out _ _ ⟨hp0.cell 0, hp0.cell 1, hp0.cell 2, hp1.cell 0, hp1.cell 1, hp1.cell 2, hr.cell 0, hr.cell 1, hr.cell 2⟩ (fun hH => ?_)
    clear hK K
    try (simp only [Act.put, List.setIfInBounds_toArray, List.set_cons_zero, List.set_cons_succ])
    refine rd1 1 (fun K hK => ?_)
    go_simp
    refine (HP.out _).mono ?_
    rintro e v111 ⟨rfl, bb⟩
    go_wp2_with fail
    replace hp0 := hp0.below bb hp0.lt
    replace hp1 := hp1.below bb hp1.lt
    replace hr := hr.below bb hr.lt
    replace n89 := n89.below bb n89.lt
    replace n109 := n109.below bb n109.lt
    replace hb := hb.on bb
    clear bb
    refine hK.out _ _ ⟨hp0.cell 0, hp0.cell 1, hp0.cell 2, hp1.cell 0, hp1.cell 1, hp1.cell 2, hr.cell 0, hr.cell 1, hr.cell 2⟩ (fun hH => ?_)
    clear hK K
    try (simp only [Act.put, List.setIfInBounds_toArray, List.set_cons_zero, List.set_cons_succ])
    refine rd1 3 (fun K hK => ?_)
    go_simp
    refine (HQ.out _).mono ?_
    rintro e v113 ⟨rfl, bb⟩
    go_wp2_with fail
    replace hp0 := hp0.below bb hp0.lt
    replace hp1 := hp1.below bb hp1.lt
    replace hr := hr.below bb hr.lt
    replace n89 := n89.below bb n89.lt
    replace n109 := n109.below bb n109.lt
    replace hb := hb.on bb
    clear bb
    refine hK.out _ _ ⟨hp0.cell 0, hp0.cell 1, hp0.cell 2, hp1.cell 0, hp1.cell 1, hp1.cell 2, hr.cell 0, hr.cell 1, hr.cell 2⟩ (fun hH => ?_)
    clear hK K
    try (simp only [Act.put, List.setIfInBounds_toArray, List.set_cons_zero, List.set_cons_succ])
    refine rd1 6 (fun K hK => ?_)
    have c0 : v113.cell? ⟨g109, 0, none⟩ = some (.int .i32 0) := n109.cell 0
    have z0 := n109.frozen 0
    have c1 : v113.cell? ⟨g109, 1, none⟩ = some (.int .i32 0) := n109.cell 1
    have z1 := n109.frozen 1
    have c2 : v113.cell? ⟨g109, 2, none⟩ = some (.int .i32 0) := n109.cell 2
    have z2 := n109.frozen 2
    go_simp
    try go_wp2_with fail
    replace hp0 := (((hp0.fr g109 0 (by omega) (.int .i32 a0)).fr g109 1 (by omega) (.int .i32 a1)).fr g109 2 (by omega) (.int .i32 a2))
    replace hp1 := (((hp1.fr g109 0 (by omega) (.int .i32 a0)).fr g109 1 (by omega) (.int .i32 a1)).fr g109 2 (by omega) (.int .i32 a2))
    replace hr := (((hr.fr g109 0 (by omega) (.int .i32 a0)).fr g109 1 (by omega) (.int .i32 a1)).fr g109 2 (by omega) (.int .i32 a2))
    replace n89 := (((n89.fr g109 0 (by omega) (.int .i32 a0)).fr g109 1 (by omega) (.int .i32 a1)).fr g109 2 (by omega) (.int .i32 a2))
    replace n109 := (((n109.set_ 0 (.int .i32 a0)).set_ 1 (.int .i32 a1)).set_ 2 (.int .i32 a2))
    replace hb := (((hb.sc g109 0 (by omega) (.int .i32 a0)).sc g109 1 (by omega) (.int .i32 a1)).sc g109 2 (by omega) (.int .i32 a2))
    clear c0 z0 c1 z1 c2 z2
    generalize (((v113.setCell ⟨g109, 0, none⟩ (.int .i32 a0)).setCell ⟨g109, 1, none⟩ (.int .i32 a1)).setCell ⟨g109, 2, none⟩ (.int .i32 a2)) = v115 at *
    refine hK.out _ _ ⟨hp0.cell 0, hp0.cell 1, hp0.cell 2, hp1.cell 0, hp1.cell 1, hp1.cell 2, hr.cell 0, hr.cell 1, hr.cell 2⟩ (fun hH => ?_)
    clear hK K
    try (simp only [Act.put, List.setIfInBounds_toArray, List.set_cons_zero, List.set_cons_succ])
    refine rd1 7 (fun K hK => ?_)
    have c0 : v115.cell? ⟨g89, 0, none⟩ = some (.int .i32 0) := n89.cell 0
    have z0 := n89.frozen 0
    have c1 : v115.cell? ⟨g89, 1, none⟩ = some (.int .i32 0) := n89.cell 1
    have z1 := n89.frozen 1
    have c2 : v115.cell? ⟨g89, 2, none⟩ = some (.int .i32 0) := n89.cell 2
    have z2 := n89.frozen 2
    go_simp
    try go_wp2_with fail
    replace hp0 := (((hp0.fr g89 0 (by omega) (.int .i32 b0)).fr g89 1 (by omega) (.int .i32 b1)).fr g89 2 (by omega) (.int .i32 b2))
    replace hp1 := (((hp1.fr g89 0 (by omega) (.int .i32 b0)).fr g89 1 (by omega) (.int .i32 b1)).fr g89 2 (by omega) (.int .i32 b2))
    replace hr := (((hr.fr g89 0 (by omega) (.int .i32 b0)).fr g89 1 (by omega) (.int .i32 b1)).fr g89 2 (by omega) (.int .i32 b2))
    replace n109 := (((n109.fr g89 0 (by omega) (.int .i32 b0)).fr g89 1 (by omega) (.int .i32 b1)).fr g89 2 (by omega) (.int .i32 b2))
    replace n89 := (((n89.set_ 0 (.int .i32 b0)).set_ 1 (.int .i32 b1)).set_ 2 (.int .i32 b2))
    replace hb := (((hb.sc g89 0 (by omega) (.int .i32 b0)).sc g89 1 (by omega) (.int .i32 b1)).sc g89 2 (by omega) (.int .i32 b2))
    clear c0 z0 c1 z1 c2 z2
    generalize (((v115.setCell ⟨g89, 0, none⟩ (.int .i32 b0)).setCell ⟨g89, 1, none⟩ (.int .i32 b1)).setCell ⟨g89, 2, none⟩ (.int .i32 b2)) = v117 at *
    refine hK.out _ _ ⟨hp0.cell 0, hp0.cell 1, hp0.cell 2, hp1.cell 0, hp1.cell 1, hp1.cell 2, hr.cell 0, hr.cell 1, hr.cell 2⟩ (fun hH => ?_)
    clear hK K
    try (simp only [Act.put, List.setIfInBounds_toArray, List.set_cons_zero, List.set_cons_succ])
    refine wpAnyH_done ?hru118 ?hqu118 _
    case hru118 => kernel_rfl
    refine NoPanic.normal ?_
    try go_wp2_with fail
    go_meet
    exact ⟨g109, g89, rfl, rfl, n109, n89, hr, hb⟩
 case rest =>
  clear hp0 hp1 hr hb
  obtain ⟨g, h, rfl, rfl, hA, hB, hr, hb⟩ := hcut
  have HE := fun w2 (hw : wc = w2) => v_each_Add (.pointer (some ⟨g, 0, none⟩)) (.pointer (some ⟨h, 0, none⟩)) (a0 + b0) (a1 + b1) (a2 + b2) wc (by unfold I32 I64 at *; omega) (by unfold I32 I64 at *; omega) (by unfold I32 I64 at *; omega) (by
   intro i V hi w' hw
   rcases hi with ⟨rfl, rfl⟩ | ⟨rfl, rfl⟩ | ⟨rfl, rfl⟩
   ·exact c_Add0 g h a0 a1 a2 b0 b1 b2 w' ia0 ia1 ia2 ib0 ib1 ib2 (hA.below hw hA.lt) (hB.below hw hB.lt)
   ·exact c_Add1 g h a0 a1 a2 b0 b1 b2 w' ia0 ia1 ia2 ib0 ib1 ib2 (hA.below hw hA.lt) (hB.below hw hB.lt)
   ·exact c_Add2 g h a0 a1 a2 b0 b1 b2 w' ia0 ia1 ia2 ib0 ib1 ib2 (hA.below hw hA.lt) (hB.below hw hB.lt))
  replace HE := HE _ rfl
  generalize hy0 : clampP (a0 + b0) = y0 at HE
  generalize hy1 : clampP (a1 + b1) = y1 at HE
  generalize hy2 : clampP (a2 + b2) = y2 at HE
  generalize hN : cutC (a0 + b0) + cutC (a1 + b1) + cutC (a2 + b2) = N at HE
  have HY := hid (show _ ∧ _ ∧ _ ∧ _ from ⟨hy0, hy1, hy2, hN⟩)
  clear hy0 hy1 hy2 hN
  have HE2 := hid HE
  clear HE
  go_wp2_with fail
  refine (HE2.out).mono ?_
  rintro e w2 ⟨rfl, bb2⟩
  replace hr := hr.below bb2 hr.lt
  replace hb := hb.on bb2
  have d0 : w2.cell? ⟨w.heap.size + 1 + 1, 0, none⟩ = some (.int .i32 0) := hr.cell 0
  have z0 := hr.frozen 0
  have d1 : w2.cell? ⟨w.heap.size + 1 + 1, 1, none⟩ = some (.int .i32 0) := hr.cell 1
  have z1 := hr.frozen 1
  have d2 : w2.cell? ⟨w.heap.size + 1 + 1, 2, none⟩ = some (.int .i32 0) := hr.cell 2
  have z2 := hr.frozen 2
  have hf : Blk (((w2.setCell ⟨w.heap.size + 1 + 1, 0, none⟩ (.int .i32 y0)).setCell ⟨w.heap.size + 1 + 1, 1, none⟩ (.int .i32 y1)).setCell ⟨w.heap.size + 1 + 1, 2, none⟩ (.int .i32 y2)) (w.heap.size + 1 + 1) 25 #[.int .i32 y0, .int .i32 y1, .int .i32 y2] := (((hr.set_ 0 (.int .i32 y0)).set_ 1 (.int .i32 y1)).set_ 2 (.int .i32 y2))
  have hbf : Below w.heap.size w (((w2.setCell ⟨w.heap.size + 1 + 1, 0, none⟩ (.int .i32 y0)).setCell ⟨w.heap.size + 1 + 1, 1, none⟩ (.int .i32 y1)).setCell ⟨w.heap.size + 1 + 1, 2, none⟩ (.int .i32 y2)) := (((hb.sc (w.heap.size + 1 + 1) 0 (by omega) (.int .i32 y0)).sc (w.heap.size + 1 + 1) 1 (by omega) (.int .i32 y1)).sc (w.heap.size + 1 + 1) 2 (by omega) (.int .i32 y2))
  go_wp2
  generalize (((w2.setCell ⟨w.heap.size + 1 + 1, 0, none⟩ (.int .i32 y0)).setCell ⟨w.heap.size + 1 + 1, 1, none⟩ (.int .i32 y1)).setCell ⟨w.heap.size + 1 + 1, 2, none⟩ (.int .i32 y2)) = wf at *
  have f0 : wf.cell? ⟨w.heap.size + 1 + 1, 0, none⟩ = some (.int .i32 y0) := hf.cell 0
  have f1 : wf.cell? ⟨w.heap.size + 1 + 1, 1, none⟩ = some (.int .i32 y1) := hf.cell 1
  have f2 : wf.cell? ⟨w.heap.size + 1 + 1, 2, none⟩ = some (.int .i32 y2) := hf.cell 2
  simp [bodyPost, results, Tryz.results59, go_sem, f0, f1, f2]
  exact ⟨⟨⟨HY.out.1.symm, HY.out.2.1.symm, HY.out.2.2.1.symm⟩, HY.out.2.2.2.symm⟩, hbf⟩

set_option maxHeartbeats 16000000 in
theorem v_Sub (a0 a1 a2 b0 b1 b2 : Int) (w : World) (ia0 : I32 a0) (ia1 : I32 a1) (ia2 : I32 a2) (ib0 : I32 b0) (ib1 : I32 b1) (ib2 : I32 b2) :
  Calls Tryz.prog 58 #[.agg #[.int .i32 a0, .int .i32 a1, .int .i32 a2], .agg #[.int .i32 b0, .int .i32 b1, .int .i32 b2]] w fun e w' => e = .returned (.tuple #[.agg #[.int .i32 (clampP (a0 - b0)), .int .i32 (clampP (a1 - b1)), .int .i32 (clampP (a2 - b2))], .int .i64 (cutC (a0 - b0) + cutC (a1 - b1) + cutC (a2 - b2))]) ∧ Below w.heap.size w w' := by
 have HP := hid fun w => v_parts a0 a1 a2 w
 have HQ := hid fun w => v_parts b0 b1 b2 w
 have hmf : ∀ (fn : Fn) (first cap : Array Value) (w : World), (Instr.makeFunc fn first cap).run Tryz.prog w = .ok (.func fn first cap) w := fun _ _ _ _ => rfl
 have hp0 : Blk (((w.alloc (.cells #[.int .i32 a0, .int .i32 a1, .int .i32 a2] 25)).alloc (.cells #[.int .i32 b0, .int .i32 b1, .int .i32 b2] 25)).alloc (.cells #[.int .i32 0, .int .i32 0, .int .i32 0] 25)) w.heap.size 25 #[.int .i32 a0, .int .i32 a1, .int .i32 a2] := ((Blk.new w _ _).alloc _).alloc _
 have hp1 : Blk (((w.alloc (.cells #[.int .i32 a0, .int .i32 a1, .int .i32 a2] 25)).alloc (.cells #[.int .i32 b0, .int .i32 b1, .int .i32 b2] 25)).alloc (.cells #[.int .i32 0, .int .i32 0, .int .i32 0] 25)) (w.heap.size + 1) 25 #[.int .i32 b0, .int .i32 b1, .int .i32 b2] := by have := (Blk.new (w.alloc (.cells #[.int .i32 a0, .int .i32 a1, .int .i32 a2] 25)) 25 #[.int .i32 b0, .int .i32 b1, .int .i32 b2]).alloc (.cells #[.int .i32 0, .int .i32 0, .int .i32 0] 25); simpa using this
 have hr : Blk (((w.alloc (.cells #[.int .i32 a0, .int .i32 a1, .int .i32 a2] 25)).alloc (.cells #[.int .i32 b0, .int .i32 b1, .int .i32 b2] 25)).alloc (.cells #[.int .i32 0, .int .i32 0, .int .i32 0] 25)) (w.heap.size + 1 + 1) 25 #[.int .i32 0, .int .i32 0, .int .i32 0] := by have := Blk.new ((w.alloc (.cells #[.int .i32 a0, .int .i32 a1, .int .i32 a2] 25)).alloc (.cells #[.int .i32 b0, .int .i32 b1, .int .i32 b2] 25)) 25 #[.int .i32 0, .int .i32 0, .int .i32 0]; simpa using this
 have hb : Below w.heap.size w (((w.alloc (.cells #[.int .i32 a0, .int .i32 a1, .int .i32 a2] 25)).alloc (.cells #[.int .i32 b0, .int .i32 b1, .int .i32 b2] 25)).alloc (.cells #[.int .i32 0, .int .i32 0, .int .i32 0] 25)) := (((Below.refl _ w).alloc (Nat.le_refl _) _).alloc (by simp) _).alloc (by simp; omega) _
 go_enter Tryz.func58, Tryz.ntmps58
 go_upto_region 1 with fail
 generalize ((w.alloc (.cells #[.int .i32 a0, .int .i32 a1, .int .i32 a2] 25)).alloc (.cells #[.int .i32 b0, .int .i32 b1, .int .i32 b2] 25)).alloc (.cells #[.int .i32 0, .int .i32 0, .int .i32 0] 25) = W0 at *
 go_cut [6, 7] from 8 to 11 (fun x y wx => ∃ g h : Nat, x = .pointer (some ⟨g, 0, none⟩) ∧ y = .pointer (some ⟨h, 0, none⟩) ∧ Blk wx g 69 #[.int .i32 a0, .int .i32 a1, .int .i32 a2] ∧ Blk wx h 69 #[.int .i32 b0, .int .i32 b1, .int .i32 b2] ∧ Blk wx (w.heap.size + 1 + 1) 25 #[.int .i32 0, .int .i32 0, .int .i32 0] ∧ Below w.heap.size w wx)
 case first =>
  refine wp_region_noPanic ?_
  refine wp_region_held_drew (S := (fun w' : World => w'.cell? ⟨w.heap.size, 0, none⟩ = some (.int .i32 a0) ∧ w'.cell? ⟨w.heap.size, 1, none⟩ = some (.int .i32 a1) ∧ w'.cell? ⟨w.heap.size, 2, none⟩ = some (.int .i32 a2) ∧ w'.cell? ⟨w.heap.size + 1, 0, none⟩ = some (.int .i32 b0) ∧ w'.cell? ⟨w.heap.size + 1, 1, none⟩ = some (.int .i32 b1) ∧ w'.cell? ⟨w.heap.size + 1, 2, none⟩ = some (.int .i32 b2) ∧ w'.cell? ⟨w.heap.size + 1 + 1, 0, none⟩ = some (.int .i32 0) ∧ w'.cell? ⟨w.heap.size + 1 + 1, 1, none⟩ = some (.int .i32 0) ∧ w'.cell? ⟨w.heap.size + 1 + 1, 2, none⟩ = some (.int .i32 0))) (by kernel_rfl) ⟨hp0.cell 0, hp0.cell 1, hp0.cell 2, hp1.cell 0, hp1.cell 1, hp1.cell 2, hr.cell 0, hr.cell 1, hr.cell 2⟩ (fun hH => ?_)
  refine (show wpAnyH _ _ _ _ _ 8 _ _ _ from ?_)
  try (simp only [Act.put, List.setIfInBounds_toArray, List.set_cons_zero, List.set_cons_succ])
  replace hp0 := hp0.drew
  replace hp1 := hp1.drew
  replace hr := hr.drew
  replace hb := hb.drew
  generalize W0.drew = W119 at *
  refine tk 0 hH ?_
  refine tk 2 hH ?_
  refine rd3 1 4 5 (fun K hK => ?hc120q1) (fun K hK => ?hc120q4) (fun K hK => ?hc120q5)
  case hc120q1 =>
   go_simp
   refine (HP.out _).mono ?_
   rintro e v121 ⟨rfl, bb⟩
   go_wp2_with fail
   replace hp0 := hp0.below bb hp0.lt
   replace hp1 := hp1.below bb hp1.lt
   replace hr := hr.below bb hr.lt
   replace hb := hb.on bb
   clear bb
   refine hK.out _ _ ⟨hp0.cell 0, hp0.cell 1, hp0.cell 2, hp1.cell 0, hp1.cell 1, hp1.cell 2, hr.cell 0, hr.cell 1, hr.cell 2⟩ (fun hH => ?_)
   clear hK K
   try (simp only [Act.put, List.setIfInBounds_toArray, List.set_cons_zero, List.set_cons_succ])
   refine rd3 3 4 5 (fun K hK => ?hc122q3) (fun K hK => ?hc122q4) (fun K hK => ?hc122q5)
   case hc122q3 =>
    go_simp
    refine (HQ.out _).mono ?_
    rintro e v123 ⟨rfl, bb⟩
    go_wp2_with fail
    replace hp0 := hp0.below bb hp0.lt
    replace hp1 := hp1.below bb hp1.lt
    replace hr := hr.below bb hr.lt
    replace hb := hb.on bb
    clear bb
    refine hK.out _ _ ⟨hp0.cell 0, hp0.cell 1, hp0.cell 2, hp1.cell 0, hp1.cell 1, hp1.cell 2, hr.cell 0, hr.cell 1, hr.cell 2⟩ (fun hH => ?_)
    clear hK K
    try (simp only [Act.put, List.setIfInBounds_toArray, List.set_cons_zero, List.set_cons_succ])
    refine rd2 4 5 (fun K hK => ?hc124q4) (fun K hK => ?hc124q5)
    case hc124q4 =>
     go_simp
     try go_wp2_with fail
     have lb125 := hb.size
     have l125hp0 := hp0.lt
     have l125hp1 := hp1.lt
     have l125hr := hr.lt
     replace hp0 := hp0.alloc (.cells #[.int .i32 0, .int .i32 0, .int .i32 0] 69)
     replace hp1 := hp1.alloc (.cells #[.int .i32 0, .int .i32 0, .int .i32 0] 69)
     replace hr := hr.alloc (.cells #[.int .i32 0, .int .i32 0, .int .i32 0] 69)
     have n125 := Blk.new v123 69 #[.int .i32 0, .int .i32 0, .int .i32 0]
     replace hb := hb.alloc hb.size (.cells #[.int .i32 0, .int .i32 0, .int .i32 0] 69)
     generalize v123.alloc (.cells #[.int .i32 0, .int .i32 0, .int .i32 0] 69) = v125 at *
     generalize v123.heap.size = g125 at *
     refine hK.out _ _ ⟨hp0.cell 0, hp0.cell 1, hp0.cell 2, hp1.cell 0, hp1.cell 1, hp1.cell 2, hr.cell 0, hr.cell 1, hr.cell 2⟩ (fun hH => ?_)
     clear hK K
     try (simp only [Act.put, List.setIfInBounds_toArray, List.set_cons_zero, List.set_cons_succ])
     refine rd1 5 (fun K hK => ?_)
     go_simp
     try go_wp2_with fail
     have lb127 := hb.size
     have l127hp0 := hp0.lt
     have l127hp1 := hp1.lt
     have l127hr := hr.lt
     have l127n125 := n125.lt
     replace hp0 := hp0.alloc (.cells #[.int .i32 0, .int .i32 0, .int .i32 0] 69)
     replace hp1 := hp1.alloc (.cells #[.int .i32 0, .int .i32 0, .int .i32 0] 69)
     replace hr := hr.alloc (.cells #[.int .i32 0, .int .i32 0, .int .i32 0] 69)
     replace n125 := n125.alloc (.cells #[.int .i32 0, .int .i32 0, .int .i32 0] 69)
     have n127 := Blk.new v125 69 #[.int .i32 0, .int .i32 0, .int .i32 0]
     replace hb := hb.alloc hb.size (.cells #[.int .i32 0, .int .i32 0, .int .i32 0] 69)
     generalize v125.alloc (.cells #[.int .i32 0, .int .i32 0, .int .i32 0] 69) = v127 at *
     generalize v125.heap.size = g127 at *
     refine hK.out _ _ ⟨hp0.cell 0, hp0.cell 1, hp0.cell 2, hp1.cell 0, hp1.cell 1, hp1.cell 2, hr.cell 0, hr.cell 1, hr.cell 2⟩ (fun hH => ?_)
     clear hK K
     try (simp only [Act.put, List.setIfInBounds_toArray, List.set_cons_zero, List.set_cons_succ])
     refine rd1 6 (fun K hK => ?_)
     have c0 : v127.cell? ⟨g125, 0, none⟩ = some (.int .i32 0) := n125.cell 0
     have z0 := n125.frozen 0
     have c1 : v127.cell? ⟨g125, 1, none⟩ = some (.int .i32 0) := n125.cell 1
     have z1 := n125.frozen 1
     have c2 : v127.cell? ⟨g125, 2, none⟩ = some (.int .i32 0) := n125.cell 2
     have z2 := n125.frozen 2
     go_simp
     try go_wp2_with fail
     replace hp0 := (((hp0.fr g125 0 (by omega) (.int .i32 a0)).fr g125 1 (by omega) (.int .i32 a1)).fr g125 2 (by omega) (.int .i32 a2))
     replace hp1 := (((hp1.fr g125 0 (by omega) (.int .i32 a0)).fr g125 1 (by omega) (.int .i32 a1)).fr g125 2 (by omega) (.int .i32 a2))
     replace hr := (((hr.fr g125 0 (by omega) (.int .i32 a0)).fr g125 1 (by omega) (.int .i32 a1)).fr g125 2 (by omega) (.int .i32 a2))
     replace n127 := (((n127.fr g125 0 (by omega) (.int .i32 a0)).fr g125 1 (by omega) (.int .i32 a1)).fr g125 2 (by omega) (.int .i32 a2))
     replace n125 := (((n125.set_ 0 (.int .i32 a0)).set_ 1 (.int .i32 a1)).set_ 2 (.int .i32 a2))
     replace hb := (((hb.sc g125 0 (by omega) (.int .i32 a0)).sc g125 1 (by omega) (.int .i32 a1)).sc g125 2 (by omega) (.int .i32 a2))
     clear c0 z0 c1 z1 c2 z2
     generalize (((v127.setCell ⟨g125, 0, none⟩ (.int .i32 a0)).setCell ⟨g125, 1, none⟩ (.int .i32 a1)).setCell ⟨g125, 2, none⟩ (.int .i32 a2)) = v129 at *
     refine hK.out _ _ ⟨hp0.cell 0, hp0.cell 1, hp0.cell 2, hp1.cell 0, hp1.cell 1, hp1.cell 2, hr.cell 0, hr.cell 1, hr.cell 2⟩ (fun hH => ?_)
     clear hK K
     try (simp only [Act.put, List.setIfInBounds_toArray, List.set_cons_zero, List.set_cons_succ])
     refine rd1 7 (fun K hK => ?_)
     have c0 : v129.cell? ⟨g127, 0, none⟩ = some (.int .i32 0) := n127.cell 0
     have z0 := n127.frozen 0
     have c1 : v129.cell? ⟨g127, 1, none⟩ = some (.int .i32 0) := n127.cell 1
     have z1 := n127.frozen 1
     have c2 : v129.cell? ⟨g127, 2, none⟩ = some (.int .i32 0) := n127.cell 2
     have z2 := n127.frozen 2
     go_simp
     try go_wp2_with fail
     replace hp0 := (((hp0.fr g127 0 (by omega) (.int .i32 b0)).fr g127 1 (by omega) (.int .i32 b1)).fr g127 2 (by omega) (.int .i32 b2))
     replace hp1 := (((hp1.fr g127 0 (by omega) (.int .i32 b0)).fr g127 1 (by omega) (.int .i32 b1)).fr g127 2 (by omega) (.int .i32 b2))
     replace hr := (((hr.fr g127 0 (by omega) (.int .i32 b0)).fr g127 1 (by omega) (.int .i32 b1)).fr g127 2 (by omega) (.int .i32 b2))
     replace n125 := (((n125.fr g127 0 (by omega) (.int .i32 b0)).fr g127 1 (by omega) (.int .i32 b1)).fr g127 2 (by omega) (.int .i32 b2))
     replace n127 := (((n127.set_ 0 (.int .i32 b0)).set_ 1 (.int .i32 b1)).set_ 2 (.int .i32 b2))
     replace hb := (((hb.sc g127 0 (by omega) (.int .i32 b0)).sc g127 1 (by omega) (.int .i32 b1)).sc g127 2 (by omega) (.int .i32 b2))
     clear c0 z0 c1 z1 c2 z2
     generalize (((v129.setCell ⟨g127, 0, none⟩ (.int .i32 b0)).setCell ⟨g127, 1, none⟩ (.int .i32 b1)).setCell ⟨g127, 2, none⟩ (.int .i32 b2)) = v131 at *
     refine hK.out _ _ ⟨hp0.cell 0, hp0.cell 1, hp0.cell 2, hp1.cell 0, hp1.cell 1, hp1.cell 2, hr.cell 0, hr.cell 1, hr.cell 2⟩ (fun hH => ?_)
     clear hK K
     try (simp only [Act.put, List.setIfInBounds_toArray, List.set_cons_zero, List.set_cons_succ])
     refine wpAnyH_done ?hru132 ?hqu132 _
     case hru132 => kernel_rfl
     refine NoPanic.normal ?_
     try go_wp2_with fail
     go_meet
     exact ⟨g125, g127, rfl, rfl, n125, n127, hr, hb⟩
    case hc124q5 =>
     go_simp
     try go_wp2_with fail
     have lb133 := hb.size
     have l133hp0 := hp0.lt
     have l133hp1 := hp1.lt
     have l133hr := hr.lt
     replace hp0 := hp0.alloc (.cells #[.int .i32 0, .int .i32 0, .int .i32 0] 69)
     replace hp1 := hp1.alloc (.cells #[.int .i32 0, .int .i32 0, .int .i32 0] 69)
     replace hr := hr.alloc (.cells #[.int .i32 0, .int .i32 0, .int .i32 0] 69)
     have n133 := Blk.new v123 69 #[.int .i32 0, .int .i32 0, .int .i32 0]
     replace hb := hb.alloc hb.size (.cells #[.int .i32 0, .int .i32 0, .int .i32 0] 69)
     generalize v123.alloc (.cells #[.int .i32 0, .int .i32 0, .int .i32 0] 69) = v133 at *
     generalize v123.heap.size = g133 at *
     refine hK.out _ _ ⟨hp0.cell 0, hp0.cell 1, hp0.cell 2, hp1.cell 0, hp1.cell 1, hp1.cell 2, hr.cell 0, hr.cell 1, hr.cell 2⟩ (fun hH => ?_)
     clear hK K
     try (simp only [Act.put, List.setIfInBounds_toArray, List.set_cons_zero, List.set_cons_succ])
     refine rd1 4 (fun K hK => ?_)
     go_simp
     try go_wp2_with fail
     have lb135 := hb.size
     have l135hp0 := hp0.lt
     have l135hp1 := hp1.lt
     have l135hr := hr.lt
     have l135n133 := n133.lt
     replace hp0 := hp0.alloc (.cells #[.int .i32 0, .int .i32 0, .int .i32 0] 69)
     replace hp1 := hp1.alloc (.cells #[.int .i32 0, .int .i32 0, .int .i32 0] 69)
     replace hr := hr.alloc (.cells #[.int .i32 0, .int .i32 0, .int .i32 0] 69)
     replace n133 := n133.alloc (.cells #[.int .i32 0, .int .i32 0, .int .i32 0] 69)
     have n135 := Blk.new v133 69 #[.int .i32 0, .int .i32 0, .int .i32 0]
     replace hb := hb.alloc hb.size (.cells #[.int .i32 0, .int .i32 0, .int .i32 0] 69)
     generalize v133.alloc (.cells #[.int .i32 0, .int .i32 0, .int .i32 0] 69) = v135 at *
     generalize v133.heap.size = g135 at *
     refine hK.out _ _ ⟨hp0.cell 0, hp0.cell 1, hp0.cell 2, hp1.cell 0, hp1.cell 1, hp1.cell 2, hr.cell 0, hr.cell 1, hr.cell 2⟩ (fun hH => ?_)
     clear hK K
     try (simp only [Act.put, List.setIfInBounds_toArray, List.set_cons_zero, List.set_cons_succ])
     refine rd1 6 (fun K hK => ?_)
     have c0 : v135.cell? ⟨g135, 0, none⟩ = some (.int .i32 0) := n135.cell 0
     have z0 := n135.frozen 0
     have c1 : v135.cell? ⟨g135, 1, none⟩ = some (.int .i32 0) := n135.cell 1
     have z1 := n135.frozen 1
     have c2 : v135.cell? ⟨g135, 2, none⟩ = some (.int .i32 0) := n135.cell 2
     have z2 := n135.frozen 2
     go_simp
     try go_wp2_with fail
     replace hp0 := (((hp0.fr g135 0 (by omega) (.int .i32 a0)).fr g135 1 (by omega) (.int .i32 a1)).fr g135 2 (by omega) (.int .i32 a2))
     replace hp1 := (((hp1.fr g135 0 (by omega) (.int .i32 a0)).fr g135 1 (by omega) (.int .i32 a1)).fr g135 2 (by omega) (.int .i32 a2))
     replace hr := (((hr.fr g135 0 (by omega) (.int .i32 a0)).fr g135 1 (by omega) (.int .i32 a1)).fr g135 2 (by omega) (.int .i32 a2))
     replace n133 := (((n133.fr g135 0 (by omega) (.int .i32 a0)).fr g135 1 (by omega) (.int .i32 a1)).fr g135 2 (by omega) (.int .i32 a2))
     replace n135 := (((n135.set_ 0 (.int .i32 a0)).set_ 1 (.int .i32 a1)).set_ 2 (.int .i32 a2))
     replace hb := (((hb.sc g135 0 (by omega) (.int .i32 a0)).sc g135 1 (by omega) (.int .i32 a1)).sc g135 2 (by omega) (.int .i32 a2))
     clear c0 z0 c1 z1 c2 z2
     generalize (((v135.setCell ⟨g135, 0, none⟩ (.int .i32 a0)).setCell ⟨g135, 1, none⟩ (.int .i32 a1)).setCell ⟨g135, 2, none⟩ (.int .i32 a2)) = v137 at *
     refine hK.out _ _ ⟨hp0.cell 0, hp0.cell 1, hp0.cell 2, hp1.cell 0, hp1.cell 1, hp1.cell 2, hr.cell 0, hr.cell 1, hr.cell 2⟩ (fun hH => ?_)
     clear hK K
     try (simp only [Act.put, List.setIfInBounds_toArray, List.set_cons_zero, List.set_cons_succ])
     refine rd1 7 (fun K hK => ?_)
     have c0 : v137.cell? ⟨g133, 0, none⟩ = some (.int .i32 0) := n133.cell 0
     have z0 := n133.frozen 0
     have c1 : v137.cell? ⟨g133, 1, none⟩ = some (.int .i32 0) := n133.cell 1
     have z1 := n133.frozen 1
     have c2 : v137.cell? ⟨g133, 2, none⟩ = some (.int .i32 0) := n133.cell 2
     have z2 := n133.frozen 2
     go_simp
     try go_wp2_with fail
     replace hp0 := (((hp0.fr g133 0 (by omega) (.int .i32 b0)).fr g133 1 (by omega) (.int .i32 b1)).fr g133 2 (by omega) (.int .i32 b2))
     replace hp1 := (((hp1.fr g133 0 (by omega) (.int .i32 b0)).fr g133 1 (by omega) (.int .i32 b1)).fr g133 2 (by omega) (.int .i32 b2))
     replace hr := (((hr.fr g133 0 (by omega) (.int .i32 b0)).fr g133 1 (by omega) (.int .i32 b1)).fr g133 2 (by omega) (.int .i32 b2))
     replace n135 := (((n135.fr g133 0 (by omega) (.int .i32 b0)).fr g133 1 (by omega) (.int .i32 b1)).fr g133 2 (by omega) (.int .i32 b2))
     replace n133 := (((n133.set_ 0 (.int .i32 b0)).set_ 1 (.int .i32 b1)).set_ 2 (.int .i32 b2))
     replace hb := (((hb.sc g133 0 (by omega) (.int .i32 b0)).sc g133 1 (by omega) (.int .i32 b1)).sc g133 2 (by omega) (.int .i32 b2))
     clear c0 z0 c1 z1 c2 z2
     generalize (((v137.setCell ⟨g133, 0, none⟩ (.int .i32 b0)).setCell ⟨g133, 1, none⟩ (.int .i32 b1)).setCell ⟨g133, 2, none⟩ (.int .i32 b2)) = v139 at *
     refine hK.out _ _ ⟨hp0.cell 0, hp0.cell 1, hp0.cell 2, hp1.cell 0, hp1.cell 1, hp1.cell 2, hr.cell 0, hr.cell 1, hr.cell 2⟩ (fun hH => ?_)
     clear hK K
     try (simp only [Act.put, List.setIfInBounds_toArray, List.set_cons_zero, List.set_cons_succ])
     refine wpAnyH_done ?hru140 ?hqu140 _
     case hru140 => kernel_rfl
     refine NoPanic.normal ?_
     try go_wp2_with fail
     go_meet
     exact ⟨g135, g133, rfl, rfl, n135, n133, hr, hb⟩
   case hc122q4 =>
    go_simp
    try go_wp2_with fail
    have lb141 := hb.size
    have l141hp0 := hp0.lt
    have l141hp1 := hp1.lt
    have l141hr := hr.lt
    replace hp0 := hp0.alloc (.cells #[.int .i32 0, .int .i32 0, .int .i32 0] 69)
    replace hp1 := hp1.alloc (.cells #[.int .i32 0, .int .i32 0, .int .i32 0] 69)
    replace hr := hr.alloc (.cells #[.int .i32 0, .int .i32 0, .int .i32 0] 69)
    have n141 := Blk.new v121 69 #[.int .i32 0, .int .i32 0, .int .i32 0]
    replace hb := hb.alloc hb.size (.cells #[.int .i32 0, .int .i32 0, .int .i32 0] 69)
    generalize v121.alloc (.cells #[.int .i32 0, .int .i32 0, .int .i32 0] 69) = v141 at *
    generalize v121.heap.size = g141 at *
    refine hK.out _ _ ⟨hp0.cell 0, hp0.cell 1, hp0.cell 2, hp1.cell 0, hp1.cell 1, hp1.cell 2, hr.cell 0, hr.cell 1, hr.cell 2⟩ (fun hH => ?_)
    clear hK K
    try (simp only [Act.put, List.setIfInBounds_toArray, List.set_cons_zero, List.set_cons_succ])
    refine rd2 3 5 (fun K hK => ?hc142q3) (fun K hK => ?hc142q5)
    case hc142q3 =>
     go_simp
     refine (HQ.out _).mono ?_
     rintro e v143 ⟨rfl, bb⟩
     go_wp2_with fail
     replace hp0 := hp0.below bb hp0.lt
     replace hp1 := hp1.below bb hp1.lt
     replace hr := hr.below bb hr.lt
     replace n141 := n141.below bb n141.lt
     replace hb := hb.on bb
     clear bb
     refine hK.out _ _ ⟨hp0.cell 0, hp0.cell 1, hp0.cell 2, hp1.cell 0, hp1.cell 1, hp1.cell 2, hr.cell 0, hr.cell 1, hr.cell 2⟩ (fun hH => ?_)
     clear hK K
     try (simp only [Act.put, List.setIfInBounds_toArray, List.set_cons_zero, List.set_cons_succ])
     refine rd1 5 (fun K hK => ?_)
     go_simp
     try go_wp2_with fail
     have lb145 := hb.size
     have l145hp0 := hp0.lt
     have l145hp1 := hp1.lt
     have l145hr := hr.lt
     have l145n141 := n141.lt
     replace hp0 := hp0.alloc (.cells #[.int .i32 0, .int .i32 0, .int .i32 0] 69)
     replace hp1 := hp1.alloc (.cells #[.int .i32 0, .int .i32 0, .int .i32 0] 69)
     replace hr := hr.alloc (.cells #[.int .i32 0, .int .i32 0, .int .i32 0] 69)
     replace n141 := n141.alloc (.cells #[.int .i32 0, .int .i32 0, .int .i32 0] 69)
     have n145 := Blk.new v143 69 #[.int .i32 0, .int .i32 0, .int .i32 0]
     replace hb := hb.alloc hb.size (.cells #[.int .i32 0, .int .i32 0, .int .i32 0] 69)
     generalize v143.alloc (.cells #[.int .i32 0, .int .i32 0, .int .i32 0] 69) = v145 at *
     generalize v143.heap.size = g145 at *
     refine hK.out _ _ ⟨hp0.cell 0, hp0.cell 1, hp0.cell 2, hp1.cell 0, hp1.cell 1, hp1.cell 2, hr.cell 0, hr.cell 1, hr.cell 2⟩ (fun hH => ?_)
     clear hK K
     try (simp only [Act.put, List.setIfInBounds_toArray, List.set_cons_zero, List.set_cons_succ])
     refine rd1 6 (fun K hK => ?_)
     have c0 : v145.cell? ⟨g141, 0, none⟩ = some (.int .i32 0) := n141.cell 0
     have z0 := n141.frozen 0
     have c1 : v145.cell? ⟨g141, 1, none⟩ = some (.int .i32 0) := n141.cell 1
     have z1 := n141.frozen 1
     have c2 : v145.cell? ⟨g141, 2, none⟩ = some (.int .i32 0) := n141.cell 2
     have z2 := n141.frozen 2
     go_simp
     try go_wp2_with fail
     replace hp0 := (((hp0.fr g141 0 (by omega) (.int .i32 a0)).fr g141 1 (by omega) (.int .i32 a1)).fr g141 2 (by omega) (.int .i32 a2))
     replace hp1 := (((hp1.fr g141 0 (by omega) (.int .i32 a0)).fr g141 1 (by omega) (.int .i32 a1)).fr g141 2 (by omega) (.int .i32 a2))
     replace hr := (((hr.fr g141 0 (by omega) (.int .i32 a0)).fr g141 1 (by omega) (.int .i32 a1)).fr g141 2 (by omega) (.int .i32 a2))
     replace n145 := (((n145.fr g141 0 (by omega) (.int .i32 a0)).fr g141 1 (by omega) (.int .i32 a1)).fr g141 2 (by omega) (.int .i32 a2))
     replace n141 := (((n141.set_ 0 (.int .i32 a0)).set_ 1 (.int .i32 a1)).set_ 2 (.int .i32 a2))
     replace hb := (((hb.sc g141 0 (by omega) (.int .i32 a0)).sc g141 1 (by omega) (.int .i32 a1)).sc g141 2 (by omega) (.int .i32 a2))
     clear c0 z0 c1 z1 c2 z2
     generalize (((v145.setCell ⟨g141, 0, none⟩ (.int .i32 a0)).setCell ⟨g141, 1, none⟩ (.int .i32 a1)).setCell ⟨g141, 2, none⟩ (.int .i32 a2)) = v147 at *
     refine hK.out _ _ ⟨hp0.cell 0, hp0.cell 1, hp0.cell 2, hp1.cell 0, hp1.cell 1, hp1.cell 2, hr.cell 0, hr.cell 1, hr.cell 2⟩ (fun hH => ?_)
     clear hK K
     try (simp only [Act.put, List.setIfInBounds_toArray, List.set_cons_zero, List.set_cons_succ])
     refine rd1 7 (fun K hK => ?_)
     have c0 : v147.cell? ⟨g145, 0, none⟩ = some (.int .i32 0) := n145.cell 0
     have z0 := n145.frozen 0
     have c1 : v147.cell? ⟨g145, 1, none⟩ = some (.int .i32 0) := n145.cell 1
     have z1 := n145.frozen 1
     have c2 : v147.cell? ⟨g145, 2, none⟩ = some (.int .i32 0) := n145.cell 2
     have z2 := n145.frozen 2
     go_simp
     try go_wp2_with fail
     replace hp0 := (((hp0.fr g145 0 (by omega) (.int .i32 b0)).fr g145 1 (by omega) (.int .i32 b1)).fr g145 2 (by omega) (.int .i32 b2))
     replace hp1 := (((hp1.fr g145 0 (by omega) (.int .i32 b0)).fr g145 1 (by omega) (.int .i32 b1)).fr g145 2 (by omega) (.int .i32 b2))
     replace hr := (((hr.fr g145 0 (by omega) (.int .i32 b0)).fr g145 1 (by omega) (.int .i32 b1)).fr g145 2 (by omega) (.int .i32 b2))
     replace n141 := (((n141.fr g145 0 (by omega) (.int .i32 b0)).fr g145 1 (by omega) (.int .i32 b1)).fr g145 2 (by omega) (.int .i32 b2))
     replace n145 := (((n145.set_ 0 (.int .i32 b0)).set_ 1 (.int .i32 b1)).set_ 2 (.int .i32 b2))
     replace hb := (((hb.sc g145 0 (by omega) (.int .i32 b0)).sc g145 1 (by omega) (.int .i32 b1)).sc g145 2 (by omega) (.int .i32 b2))
     clear c0 z0 c1 z1 c2 z2
     generalize (((v147.setCell ⟨g145, 0, none⟩ (.int .i32 b0)).setCell ⟨g145, 1, none⟩ (.int .i32 b1)).setCell ⟨g145, 2, none⟩ (.int .i32 b2)) = v149 at *
     refine hK.out _ _ ⟨hp0.cell 0, hp0.cell 1, hp0.cell 2, hp1.cell 0, hp1.cell 1, hp1.cell 2, hr.cell 0, hr.cell 1, hr.cell 2⟩ (fun hH => ?_)
     clear hK K
     try (simp only [Act.put, List.setIfInBounds_toArray, List.set_cons_zero, List.set_cons_succ])
     refine wpAnyH_done ?hru150 ?hqu150 _
     case hru150 => kernel_rfl
     refine NoPanic.normal ?_
     try go_wp2_with fail
     go_meet
     exact ⟨g141, g145, rfl, rfl, n141, n145, hr, hb⟩
    case hc142q5 =>
     go_simp
     try go_wp2_with fail
     have lb151 := hb.size
     have l151hp0 := hp0.lt
     have l151hp1 := hp1.lt
     have l151hr := hr.lt
     have l151n141 := n141.lt
     replace hp0 := hp0.alloc (.cells #[.int .i32 0, .int .i32 0, .int .i32 0] 69)
     replace hp1 := hp1.alloc (.cells #[.int .i32 0, .int .i32 0, .int .i32 0] 69)
     replace hr := hr.alloc (.cells #[.int .i32 0, .int .i32 0, .int .i32 0] 69)
     replace n141 := n141.alloc (.cells #[.int .i32 0, .int .i32 0, .int .i32 0] 69)
     have n151 := Blk.new v141 69 #[.int .i32 0, .int .i32 0, .int .i32 0]
     replace hb := hb.alloc hb.size (.cells #[.int .i32 0, .int .i32 0, .int .i32 0] 69)
     generalize v141.alloc (.cells #[.int .i32 0, .int .i32 0, .int .i32 0] 69) = v151 at *
     generalize v141.heap.size = g151 at *
     refine hK.out _ _ ⟨hp0.cell 0, hp0.cell 1, hp0.cell 2, hp1.cell 0, hp1.cell 1, hp1.cell 2, hr.cell 0, hr.cell 1, hr.cell 2⟩ (fun hH => ?_)
     clear hK K
     try (simp only [Act.put, List.setIfInBounds_toArray, List.set_cons_zero, List.set_cons_succ])
     refine rd1 3 (fun K hK => ?_)
     go_simp
     refine (HQ.out _).mono ?_
     rintro e v153 ⟨rfl, bb⟩
     go_wp2_with fail
     replace hp0 := hp0.below bb hp0.lt
     replace hp1 := hp1.below bb hp1.lt
     replace hr := hr.below bb hr.lt
     replace n141 := n141.below bb n141.lt
     replace n151 := n151.below bb n151.lt
     replace hb := hb.on bb
     clear bb
     refine hK.out _ _ ⟨hp0.cell 0, hp0.cell 1, hp0.cell 2, hp1.cell 0, hp1.cell 1, hp1.cell 2, hr.cell 0, hr.cell 1, hr.cell 2⟩ (fun hH => ?_)
     clear hK K
     try (simp only [Act.put, List.setIfInBounds_toArray, List.set_cons_zero, List.set_cons_succ])
     refine rd1 6 (fun K hK => ?_)
     have c0 : v153.cell? ⟨g141, 0, none⟩ = some (.int .i32 0) := n141.cell 0
     have z0 := n141.frozen 0
     have c1 : v153.cell? ⟨g141, 1, none⟩ = some (.int .i32 0) := n141.cell 1
     have z1 := n141.frozen 1
     have c2 : v153.cell? ⟨g141, 2, none⟩ = some (.int .i32 0) := n141.cell 2
     have z2 := n141.frozen 2
     go_simp
     try go_wp2_with fail
     replace hp0 := (((hp0.fr g141 0 (by omega) (.int .i32 a0)).fr g141 1 (by omega) (.int .i32 a1)).fr g141 2 (by omega) (.int .i32 a2))
     replace hp1 := (((hp1.fr g141 0 (by omega) (.int .i32 a0)).fr g141 1 (by omega) (.int .i32 a1)).fr g141 2 (by omega) (.int .i32 a2))
     replace hr := (((hr.fr g141 0 (by omega) (.int .i32 a0)).fr g141 1 (by omega) (.int .i32 a1)).fr g141 2 (by omega) (.int .i32 a2))
     replace n151 := (((n151.fr g141 0 (by omega) (.int .i32 a0)).fr g141 1 (by omega) (.int .i32 a1)).fr g141 2 (by omega) (.int .i32 a2))
     replace n141 := (((n141.set_ 0 (.int .i32 a0)).set_ 1 (.int .i32 a1)).set_ 2 (.int .i32 a2))
     replace hb := (((hb.sc g141 0 (by omega) (.int .i32 a0)).sc g141 1 (by omega) (.int .i32 a1)).sc g141 2 (by omega) (.int .i32 a2))
     clear c0 z0 c1 z1 c2 z2
     generalize (((v153.setCell ⟨g141, 0, none⟩ (.int .i32 a0)).setCell ⟨g141, 1, none⟩ (.int .i32 a1)).setCell ⟨g141, 2, none⟩ (.int .i32 a2)) = v155 at *
     refine hK.out _ _ ⟨hp0.cell 0, hp0.cell 1, hp0.cell 2, hp1.cell 0, hp1.cell 1, hp1.cell 2, hr.cell 0, hr.cell 1, hr.cell 2⟩ (fun hH => ?_)
     clear hK K
     try (simp only [Act.put, List.setIfInBounds_toArray, List.set_cons_zero, List.set_cons_succ])
     refine rd1 7 (fun K hK => ?_)
     have c0 : v155.cell? ⟨g151, 0, none⟩ = some (.int .i32 0) := n151.cell 0
     have z0 := n151.frozen 0
     have c1 : v155.cell? ⟨g151, 1, none⟩ = some (.int .i32 0) := n151.cell 1
     have z1 := n151.frozen 1
     have c2 : v155.cell? ⟨g151, 2, none⟩ = some (.int .i32 0) := n151.cell 2
     have z2 := n151.frozen 2
     go_simp
     try go_wp2_with fail
     replace hp0 := (((hp0.fr g151 0 (by omega) (.int .i32 b0)).fr g151 1 (by omega) (.int .i32 b1)).fr g151 2 (by omega) (.int .i32 b2))
     replace hp1 := (((hp1.fr g151 0 (by omega) (.int .i32 b0)).fr g151 1 (by omega) (.int .i32 b1)).fr g151 2 (by omega) (.int .i32 b2))
     replace hr := (((hr.fr g151 0 (by omega) (.int .i32 b0)).fr g151 1 (by omega) (.int .i32 b1)).fr g151 2 (by omega) (.int .i32 b2))
     replace n141 := (((n141.fr g151 0 (by omega) (.int .i32 b0)).fr g151 1 (by omega) (.int .i32 b1)).fr g151 2 (by omega) (.int .i32 b2))
     replace n151 := (((n151.set_ 0 (.int .i32 b0)).set_ 1 (.int .i32 b1)).set_ 2 (.int .i32 b2))
     replace hb := (((hb.sc g151 0 (by omega) (.int .i32 b0)).sc g151 1 (by omega) (.int .i32 b1)).sc g151 2 (by omega) (.int .i32 b2))
     clear c0 z0 c1 z1 c2 z2
     generalize (((v155.setCell ⟨g151, 0, none⟩ (.int .i32 b0)).setCell ⟨g151, 1, none⟩ (.int .i32 b1)).setCell ⟨g151, 2, none⟩ (.int .i32 b2)) = v157 at *
     refine hK.out _ _ ⟨hp0.cell 0, hp0.cell 1, hp0.cell 2, hp1.cell 0, hp1.cell 1, hp1.cell 2, hr.cell 0, hr.cell 1, hr.cell 2⟩ (fun hH => ?_)
     clear hK K
     try (simp only [Act.put, List.setIfInBounds_toArray, List.set_cons_zero, List.set_cons_succ])
     refine wpAnyH_done ?hru158 ?hqu158 _
     case hru158 => kernel_rfl
     refine NoPanic.normal ?_
     try go_wp2_with fail
     go_meet
     exact ⟨g141, g151, rfl, rfl, n141, n151, hr, hb⟩
   case hc122q5 =>
    go_simp
    try go_wp2_with fail
    have lb159 := hb.size
    have l159hp0 := hp0.lt
    have l159hp1 := hp1.lt
    have l159hr := hr.lt
    replace hp0 := hp0.alloc (.cells #[.int .i32 0, .int .i32 0, .int .i32 0] 69)
    replace hp1 := hp1.alloc (.cells #[.int .i32 0, .int .i32 0, .int .i32 0] 69)
    replace hr := hr.alloc (.cells #[.int .i32 0, .int .i32 0, .int .i32 0] 69)
    have n159 := Blk.new v121 69 #[.int .i32 0, .int .i32 0, .int .i32 0]
    replace hb := hb.alloc hb.size (.cells #[.int .i32 0, .int .i32 0, .int .i32 0] 69)
    generalize v121.alloc (.cells #[.int .i32 0, .int .i32 0, .int .i32 0] 69) = v159 at *
    generalize v121.heap.size = g159 at *
    refine hK.out _ _ ⟨hp0.cell 0, hp0.cell 1, hp0.cell 2, hp1.cell 0, hp1.cell 1, hp1.cell 2, hr.cell 0, hr.cell 1, hr.cell 2⟩ (fun hH => ?_)
    clear hK K
    try (simp only [Act.put, List.setIfInBounds_toArray, List.set_cons_zero, List.set_cons_succ])
    refine rd2 3 4 (fun K hK => ?hc160q3) (fun K hK => ?hc160q4)
    case hc160q3 =>
     go_simp
     refine (HQ.out _).mono ?_
     rintro e v161 ⟨rfl, bb⟩
     go_wp2_with fail
     replace hp0 := hp0.below bb hp0.lt
     replace hp1 := hp1.below bb hp1.lt
     replace hr := hr.below bb hr.lt
     replace n159 := n159.below bb n159.lt
     replace hb := hb.on bb
     clear bb
     refine hK.out _ _ ⟨hp0.cell 0, hp0.cell 1, hp0.cell 2, hp1.cell 0, hp1.cell 1, hp1.cell 2, hr.cell 0, hr.cell 1, hr.cell 2⟩ (fun hH => ?_)
     clear hK K
     try (simp only [Act.put, List.setIfInBounds_toArray, List.set_cons_zero, List.set_cons_succ])
     refine rd1 4 (fun K hK => ?_)
     go_simp
     try go_wp2_with fail
     have lb163 := hb.size
     have l163hp0 := hp0.lt
     have l163hp1 := hp1.lt
     have l163hr := hr.lt
     have l163n159 := n159.lt
     replace hp0 := hp0.alloc (.cells #[.int .i32 0, .int .i32 0, .int .i32 0] 69)
     replace hp1 := hp1.alloc (.cells #[.int .i32 0, .int .i32 0, .int .i32 0] 69)
     replace hr := hr.alloc (.cells #[.int .i32 0, .int .i32 0, .int .i32 0] 69)
     replace n159 := n159.alloc (.cells #[.int .i32 0, .int .i32 0, .int .i32 0] 69)
     have n163 := Blk.new v161 69 #[.int .i32 0, .int .i32 0, .int .i32 0]
     replace hb := hb.alloc hb.size (.cells #[.int .i32 0, .int .i32 0, .int .i32 0] 69)
     generalize v161.alloc (.cells #[.int .i32 0, .int .i32 0, .int .i32 0] 69) = v163 at *
     generalize v161.heap.size = g163 at *
     refine hK.out _ _ ⟨hp0.cell 0, hp0.cell 1, hp0.cell 2, hp1.cell 0, hp1.cell 1, hp1.cell 2, hr.cell 0, hr.cell 1, hr.cell 2⟩ (fun hH => ?_)
     clear hK K
     try (simp only [Act.put, List.setIfInBounds_toArray, List.set_cons_zero, List.set_cons_succ])
     refine rd1 6 (fun K hK => ?_)
     have c0 : v163.cell? ⟨g163, 0, none⟩ = some (.int .i32 0) := n163.cell 0
     have z0 := n163.frozen 0
     have c1 : v163.cell? ⟨g163, 1, none⟩ = some (.int .i32 0) := n163.cell 1
     have z1 := n163.frozen 1
     have c2 : v163.cell? ⟨g163, 2, none⟩ = some (.int .i32 0) := n163.cell 2
     have z2 := n163.frozen 2
     go_simp
     try go_wp2_with fail
     replace hp0 := (((hp0.fr g163 0 (by omega) (.int .i32 a0)).fr g163 1 (by omega) (.int .i32 a1)).fr g163 2 (by omega) (.int .i32 a2))
     replace hp1 := (((hp1.fr g163 0 (by omega) (.int .i32 a0)).fr g163 1 (by omega) (.int .i32 a1)).fr g163 2 (by omega) (.int .i32 a2))
     replace hr := (((hr.fr g163 0 (by omega) (.int .i32 a0)).fr g163 1 (by omega) (.int .i32 a1)).fr g163 2 (by omega) (.int .i32 a2))
     replace n159 := (((n159.fr g163 0 (by omega) (.int .i32 a0)).fr g163 1 (by omega) (.int .i32 a1)).fr g163 2 (by omega) (.int .i32 a2))
     replace n163 := (((n163.set_ 0 (.int .i32 a0)).set_ 1 (.int .i32 a1)).set_ 2 (.int .i32 a2))
     replace hb := (((hb.sc g163 0 (by omega) (.int .i32 a0)).sc g163 1 (by omega) (.int .i32 a1)).sc g163 2 (by omega) (.int .i32 a2))
     clear c0 z0 c1 z1 c2 z2
     generalize (((v163.setCell ⟨g163, 0, none⟩ (.int .i32 a0)).setCell ⟨g163, 1, none⟩ (.int .i32 a1)).setCell ⟨g163, 2, none⟩ (.int .i32 a2)) = v165 at *
     refine hK.out _ _ ⟨hp0.cell 0, hp0.cell 1, hp0.cell 2, hp1.cell 0, hp1.cell 1, hp1.cell 2, hr.cell 0, hr.cell 1, hr.cell 2⟩ (fun hH => ?_)
     clear hK K
     try (simp only [Act.put, List.setIfInBounds_toArray, List.set_cons_zero, List.set_cons_succ])
     refine rd1 7 (fun K hK => ?_)
     have c0 : v165.cell? ⟨g159, 0, none⟩ = some (.int .i32 0) := n159.cell 0
     have z0 := n159.frozen 0
     have c1 : v165.cell? ⟨g159, 1, none⟩ = some (.int .i32 0) := n159.cell 1
     have z1 := n159.frozen 1
     have c2 : v165.cell? ⟨g159, 2, none⟩ = some (.int .i32 0) := n159.cell 2
     have z2 := n159.frozen 2
     go_simp
     try go_wp2_with fail
     replace hp0 := (((hp0.fr g159 0 (by omega) (.int .i32 b0)).fr g159 1 (by omega) (.int .i32 b1)).fr g159 2 (by omega) (.int .i32 b2))
     replace hp1 := (((hp1.fr g159 0 (by omega) (.int .i32 b0)).fr g159 1 (by omega) (.int .i32 b1)).fr g159 2 (by omega) (.int .i32 b2))
     replace hr := (((hr.fr g159 0 (by omega) (.int .i32 b0)).fr g159 1 (by omega) (.int .i32 b1)).fr g159 2 (by omega) (.int .i32 b2))
     replace n163 := (((n163.fr g159 0 (by omega) (.int .i32 b0)).fr g159 1 (by omega) (.int .i32 b1)).fr g159 2 (by omega) (.int .i32 b2))
     replace n159 := (((n159.set_ 0 (.int .i32 b0)).set_ 1 (.int .i32 b1)).set_ 2 (.int .i32 b2))
     replace hb := (((hb.sc g159 0 (by omega) (.int .i32 b0)).sc g159 1 (by omega) (.int .i32 b1)).sc g159 2 (by omega) (.int .i32 b2))
     clear c0 z0 c1 z1 c2 z2
     generalize (((v165.setCell ⟨g159, 0, none⟩ (.int .i32 b0)).setCell ⟨g159, 1, none⟩ (.int .i32 b1)).setCell ⟨g159, 2, none⟩ (.int .i32 b2)) = v167 at *
     refine hK.out _ _ ⟨hp0.cell 0, hp0.cell 1, hp0.cell 2, hp1.cell 0, hp1.cell 1, hp1.cell 2, hr.cell 0, hr.cell 1, hr.cell 2⟩ (fun hH => ?_)
     clear hK K
     try (simp only [Act.put, List.setIfInBounds_toArray, List.set_cons_zero, List.set_cons_succ])
     refine wpAnyH_done ?hru168 ?hqu168 _
     case hru168 => kernel_rfl
     refine NoPanic.normal ?_
     try go_wp2_with fail
     go_meet
     exact ⟨g163, g159, rfl, rfl, n163, n159, hr, hb⟩
    case hc160q4 =>
     go_simp
     try go_wp2_with fail
     have lb169 := hb.size
     have l169hp0 := hp0.lt
     have l169hp1 := hp1.lt
     have l169hr := hr.lt
     have l169n159 := n159.lt
     replace hp0 := hp0.alloc (.cells #[.int .i32 0, .int .i32 0, .int .i32 0] 69)
     replace hp1 := hp1.alloc (.cells #[.int .i32 0, .int .i32 0, .int .i32 0] 69)
     replace hr := hr.alloc (.cells #[.int .i32 0, .int .i32 0, .int .i32 0] 69)
     replace n159 := n159.alloc (.cells #[.int .i32 0, .int .i32 0, .int .i32 0] 69)
     have n169 := Blk.new v159 69 #[.int .i32 0, .int .i32 0, .int .i32 0]
     replace hb := hb.alloc hb.size (.cells #[.int .i32 0, .int .i32 0, .int .i32 0] 69)
     generalize v159.alloc (.cells #[.int .i32 0, .int .i32 0, .int .i32 0] 69) = v169 at *
     generalize v159.heap.size = g169 at *
     refine hK.out _ _ ⟨hp0.cell 0, hp0.cell 1, hp0.cell 2, hp1.cell 0, hp1.cell 1, hp1.cell 2, hr.cell 0, hr.cell 1, hr.cell 2⟩ (fun hH => ?_)
     clear hK K
     try (simp only [Act.put, List.setIfInBounds_toArray, List.set_cons_zero, List.set_cons_succ])
     refine rd1 3 (fun K hK => ?_)
     go_simp
     refine (HQ.out _).mono ?_
     rintro e v171 ⟨rfl, bb⟩
     go_wp2_with fail
     replace hp0 := hp0.below bb hp0.lt
     replace hp1 := hp1.below bb hp1.lt
     replace hr := hr.below bb hr.lt
     replace n159 := n159.below bb n159.lt
     replace n169 := n169.below bb n169.lt
     replace hb := hb.on bb
     clear bb
     refine hK.out _ _ ⟨hp0.cell 0, hp0.cell 1, hp0.cell 2, hp1.cell 0, hp1.cell 1, hp1.cell 2, hr.cell 0, hr.cell 1, hr.cell 2⟩ (fun hH => ?_)
     clear hK K
     try (simp only [Act.put, List.setIfInBounds_toArray, List.set_cons_zero, List.set_cons_succ])
     refine rd1 6 (fun K hK => ?_)
     have c0 : v171.cell? ⟨g169, 0, none⟩ = some (.int .i32 0) := n169.cell 0
     have z0 := n169.frozen 0
     have c1 : v171.cell? ⟨g169, 1, none⟩ = some (.int .i32 0) := n169.cell 1
     have z1 := n169.frozen 1
     have c2 : v171.cell? ⟨g169, 2, none⟩ = some (.int .i32 0) := n169.cell 2
     have z2 := n169.frozen 2
     go_simp
     try go_wp2_with fail
     replace hp0 := (((hp0.fr g169 0 (by omega) (.int .i32 a0)).fr g169 1 (by omega) (.int .i32 a1)).fr g169 2 (by omega) (.int .i32 a2))
     replace hp1 := (((hp1.fr g169 0 (by omega) (.int .i32 a0)).fr g169 1 (by omega) (.int .i32 a1)).fr g169 2 (by omega) (.int .i32 a2))
     replace hr := (((hr.fr g169 0 (by omega) (.int .i32 a0)).fr g169 1 (by omega) (.int .i32 a1)).fr g169 2 (by omega) (.int .i32 a2))
     replace n159 := (((n159.fr g169 0 (by omega) (.int .i32 a0)).fr g169 1 (by omega) (.int .i32 a1)).fr g169 2 (by omega) (.int .i32 a2))
     replace n169 := (((n169.set_ 0 (.int .i32 a0)).set_ 1 (.int .i32 a1)).set_ 2 (.int .i32 a2))
     replace hb := (((hb.sc g169 0 (by omega) (.int .i32 a0)).sc g169 1 (by omega) (.int .i32 a1)).sc g169 2 (by omega) (.int .i32 a2))
     clear c0 z0 c1 z1 c2 z2
     generalize (((v171.setCell ⟨g169, 0, none⟩ (.int .i32 a0)).setCell ⟨g169, 1, none⟩ (.int .i32 a1)).setCell ⟨g169, 2, none⟩ (.int .i32 a2)) = v173 at *
     refine hK.out _ _ ⟨hp0.cell 0, hp0.cell 1, hp0.cell 2, hp1.cell 0, hp1.cell 1, hp1.cell 2, hr.cell 0, hr.cell 1, hr.cell 2⟩ (fun hH => ?_)
     clear hK K
     try (simp only [Act.put, List.setIfInBounds_toArray, List.set_cons_zero, List.set_cons_succ])
     refine rd1 7 (fun K hK => ?_)
     have c0 : v173.cell? ⟨g159, 0, none⟩ = some (.int .i32 0) := n159.cell 0
     have z0 := n159.frozen 0
     have c1 : v173.cell? ⟨g159, 1, none⟩ = some (.int .i32 0) := n159.cell 1
     have z1 := n159.frozen 1
     have c2 : v173.cell? ⟨g159, 2, none⟩ = some (.int .i32 0) := n159.cell 2
     have z2 := n159.frozen 2
     go_simp
     try go_wp2_with fail
     replace hp0 := (((hp0.fr g159 0 (by omega) (.int .i32 b0)).fr g159 1 (by omega) (.int .i32 b1)).fr g159 2 (by omega) (.int .i32 b2))
     replace hp1 := (((hp1.fr g159 0 (by omega) (.int .i32 b0)).fr g159 1 (by omega) (.int .i32 b1)).fr g159 2 (by omega) (.int .i32 b2))
     replace hr := (((hr.fr g159 0 (by omega) (.int .i32 b0)).fr g159 1 (by omega) (.int .i32 b1)).fr g159 2 (by omega) (.int .i32 b2))
     replace n169 := (((n169.fr g159 0 (by omega) (.int .i32 b0)).fr g159 1 (by omega) (.int .i32 b1)).fr g159 2 (by omega) (.int .i32 b2))
     replace n159 := (((n159.set_ 0 (.int .i32 b0)).set_ 1 (.int .i32 b1)).set_ 2 (.int .i32 b2))
     replace hb := (((hb.sc g159 0 (by omega) (.int .i32 b0)).sc g159 1 (by omega) (.int .i32 b1)).sc g159 2 (by omega) (.int .i32 b2))
     clear c0 z0 c1 z1 c2 z2
     generalize (((v173.setCell ⟨g159, 0, none⟩ (.int .i32 b0)).setCell ⟨g159, 1, none⟩ (.int .i32 b1)).setCell ⟨g159, 2, none⟩ (.int .i32 b2)) = v175 at *
     refine hK.out _ _ ⟨hp0.cell 0, hp0.cell 1, hp0.cell 2, hp1.cell 0, hp1.cell 1, hp1.cell 2, hr.cell 0, hr.cell 1, hr.cell 2⟩ (fun hH => ?_)
     clear hK K
     try (simp only [Act.put, List.setIfInBounds_toArray, List.set_cons_zero, List.set_cons_succ])
     refine wpAnyH_done ?hru176 ?hqu176 _
     case hru176 => kernel_rfl
     refine NoPanic.normal ?_
     try go_wp2_with fail
     go_meet
     exact ⟨g169, g159, rfl, rfl, n169, n159, hr, hb⟩
  case hc120q4 =>
   go_simp
   try go_wp2_with fail
   have lb177 := hb.size
   have l177hp0 := hp0.lt
   have l177hp1 := hp1.lt
   have l177hr := hr.lt
   replace hp0 := hp0.alloc (.cells #[.int .i32 0, .int .i32 0, .int .i32 0] 69)
   replace hp1 := hp1.alloc (.cells #[.int .i32 0, .int .i32 0, .int .i32 0] 69)
   replace hr := hr.alloc (.cells #[.int .i32 0, .int .i32 0, .int .i32 0] 69)
   have n177 := Blk.new W119 69 #[.int .i32 0, .int .i32 0, .int .i32 0]
   replace hb := hb.alloc hb.size (.cells #[.int .i32 0, .int .i32 0, .int .i32 0] 69)
   generalize W119.alloc (.cells #[.int .i32 0, .int .i32 0, .int .i32 0] 69) = v177 at *
   generalize W119.heap.size = g177 at *
   refine hK.out _ _ ⟨hp0.cell 0, hp0.cell 1, hp0.cell 2, hp1.cell 0, hp1.cell 1, hp1.cell 2, hr.cell 0, hr.cell 1, hr.cell 2⟩ (fun hH => ?_)
   clear hK K
   try (simp only [Act.put, List.setIfInBounds_toArray, List.set_cons_zero, List.set_cons_succ])
   refine rd2 1 5 (fun K hK => ?hc178q1) (fun K hK => ?hc178q5)
   case hc178q1 =>
    go_simp
    refine (HP.out _).mono ?_
    rintro e v179 ⟨rfl, bb⟩
    go_wp2_with fail
    replace hp0 := hp0.below bb hp0.lt
    replace hp1 := hp1.below bb hp1.lt
    replace hr := hr.below bb hr.lt
    replace n177 := n177.below bb n177.lt
    replace hb := hb.on bb
    clear bb
    refine hK.out _ _ ⟨hp0.cell 0, hp0.cell 1, hp0.cell 2, hp1.cell 0, hp1.cell 1, hp1.cell 2, hr.cell 0, hr.cell 1, hr.cell 2⟩ (fun hH => ?_)
    clear hK K
    try (simp only [Act.put, List.setIfInBounds_toArray, List.set_cons_zero, List.set_cons_succ])
    refine rd2 3 5 (fun K hK => ?hc180q3) (fun K hK => ?hc180q5)
    case hc180q3 =>
     go_simp
     refine (HQ.out _).mono ?_
     rintro e v181 ⟨rfl, bb⟩
     go_wp2_with fail
     replace hp0 := hp0.below bb hp0.lt
     replace hp1 := hp1.below bb hp1.lt
     replace hr := hr.below bb hr.lt
     replace n177 := n177.below bb n177.lt
     replace hb := hb.on bb
     clear bb
     refine hK.out _ _ ⟨hp0.cell 0, hp0.cell 1, hp0.cell 2, hp1.cell 0, hp1.cell 1, hp1.cell 2, hr.cell 0, hr.cell 1, hr.cell 2⟩ (fun hH => ?_)
     clear hK K
     try (simp only [Act.put, List.setIfInBounds_toArray, List.set_cons_zero, List.set_cons_succ])
     refine rd1 5 (fun K hK => ?_)
     go_simp
     try go_wp2_with fail
     have lb183 := hb.size
     have l183hp0 := hp0.lt
     have l183hp1 := hp1.lt
     have l183hr := hr.lt
     have l183n177 := n177.lt
     replace hp0 := hp0.alloc (.cells #[.int .i32 0, .int .i32 0, .int .i32 0] 69)
     replace hp1 := hp1.alloc (.cells #[.int .i32 0, .int .i32 0, .int .i32 0] 69)
     replace hr := hr.alloc (.cells #[.int .i32 0, .int .i32 0, .int .i32 0] 69)
     replace n177 := n177.alloc (.cells #[.int .i32 0, .int .i32 0, .int .i32 0] 69)
     have n183 := Blk.new v181 69 #[.int .i32 0, .int .i32 0, .int .i32 0]
     replace hb := hb.alloc hb.size (.cells #[.int .i32 0, .int .i32 0, .int .i32 0] 69)
     generalize v181.alloc (.cells #[.int .i32 0, .int .i32 0, .int .i32 0] 69) = v183 at *
     generalize v181.heap.size = g183 at *
     refine hK.out _ _ ⟨hp0.cell 0, hp0.cell 1, hp0.cell 2, hp1.cell 0, hp1.cell 1, hp1.cell 2, hr.cell 0, hr.cell 1, hr.cell 2⟩ (fun hH => ?_)
     clear hK K
     try (simp only [Act.put, List.setIfInBounds_toArray, List.set_cons_zero, List.set_cons_succ])
     refine rd1 6 (fun K hK => ?_)
     have c0 : v183.cell? ⟨g177, 0, none⟩ = some (.int .i32 0) := n177.cell 0
     have z0 := n177.frozen 0
     have c1 : v183.cell? ⟨g177, 1, none⟩ = some (.int .i32 0) := n177.cell 1
     have z1 := n177.frozen 1
     have c2 : v183.cell? ⟨g177, 2, none⟩ = some (.int .i32 0) := n177.cell 2
     have z2 := n177.frozen 2
     go_simp
     try go_wp2_with fail
     replace hp0 := (((hp0.fr g177 0 (by omega) (.int .i32 a0)).fr g177 1 (by omega) (.int .i32 a1)).fr g177 2 (by omega) (.int .i32 a2))
     replace hp1 := (((hp1.fr g177 0 (by omega) (.int .i32 a0)).fr g177 1 (by omega) (.int .i32 a1)).fr g177 2 (by omega) (.int .i32 a2))
     replace hr := (((hr.fr g177 0 (by omega) (.int .i32 a0)).fr g177 1 (by omega) (.int .i32 a1)).fr g177 2 (by omega) (.int .i32 a2))
     replace n183 := (((n183.fr g177 0 (by omega) (.int .i32 a0)).fr g177 1 (by omega) (.int .i32 a1)).fr g177 2 (by omega) (.int .i32 a2))
     replace n177 := (((n177.set_ 0 (.int .i32 a0)).set_ 1 (.int .i32 a1)).set_ 2 (.int .i32 a2))
     replace hb := (((hb.sc g177 0 (by omega) (.int .i32 a0)).sc g177 1 (by omega) (.int .i32 a1)).sc g177 2 (by omega) (.int .i32 a2))
     clear c0 z0 c1 z1 c2 z2
     generalize (((v183.setCell ⟨g177, 0, none⟩ (.int .i32 a0)).setCell ⟨g177, 1, none⟩ (.int .i32 a1)).setCell ⟨g177, 2, none⟩ (.int .i32 a2)) = v185 at *
     refine hK.out _ _ ⟨hp0.cell 0, hp0.cell 1, hp0.cell 2, hp1.cell 0, hp1.cell 1, hp1.cell 2, hr.cell 0, hr.cell 1, hr.cell 2⟩ (fun hH => ?_)
     clear hK K
     try (simp only [Act.put, List.setIfInBounds_toArray, List.set_cons_zero, List.set_cons_succ])
     refine rd1 7 (fun K hK => ?_)
     have c0 : v185.cell? ⟨g183, 0, none⟩ = some (.int .i32 0) := n183.cell 0
     have z0 := n183.frozen 0
     have c1 : v185.cell? ⟨g183, 1, none⟩ = some (.int .i32 0) := n183.cell 1
     have z1 := n183.frozen 1
     have c2 : v185.cell? ⟨g183, 2, none⟩ = some (.int .i32 0) := n183.cell 2
     have z2 := n183.frozen 2
     go_simp
     try go_wp2_with fail
     replace hp0 := (((hp0.fr g183 0 (by omega) (.int .i32 b0)).fr g183 1 (by omega) (.int .i32 b1)).fr g183 2 (by omega) (.int .i32 b2))
     replace hp1 := (((hp1.fr g183 0 (by omega) (.int .i32 b0)).fr g183 1 (by omega) (.int .i32 b1)).fr g183 2 (by omega) (.int .i32 b2))
     replace hr := (((hr.fr g183 0 (by omega) (.int .i32 b0)).fr g183 1 (by omega) (.int .i32 b1)).fr g183 2 (by omega) (.int .i32 b2))
     replace n177 := (((n177.fr g183 0 (by omega) (.int .i32 b0)).fr g183 1 (by omega) (.int .i32 b1)).fr g183 2 (by omega) (.int .i32 b2))
     replace n183 := (((n183.set_ 0 (.int .i32 b0)).set_ 1 (.int .i32 b1)).set_ 2 (.int .i32 b2))
     replace hb := (((hb.sc g183 0 (by omega) (.int .i32 b0)).sc g183 1 (by omega) (.int .i32 b1)).sc g183 2 (by omega) (.int .i32 b2))
     clear c0 z0 c1 z1 c2 z2
     generalize (((v185.setCell ⟨g183, 0, none⟩ (.int .i32 b0)).setCell ⟨g183, 1, none⟩ (.int .i32 b1)).setCell ⟨g183, 2, none⟩ (.int .i32 b2)) = v187 at *
     refine hK.out _ _ ⟨hp0.cell 0, hp0.cell 1, hp0.cell 2, hp1.cell 0, hp1.cell 1, hp1.cell 2, hr.cell 0, hr.cell 1, hr.cell 2⟩ (fun hH => ?_)
     clear hK K
     try (simp only [Act.put, List.setIfInBounds_toArray, List.set_cons_zero, List.set_cons_succ])
     refine wpAnyH_done ?hru188 ?hqu188 _
     case hru188 => kernel_rfl
     refine NoPanic.normal ?_
     try go_wp2_with fail
     go_meet
     exact ⟨g177, g183, rfl, rfl, n177, n183, hr, hb⟩
    case hc180q5 =>
     go_simp
     try go_wp2_with fail
     have lb189 := hb.size
     have l189hp0 := hp0.lt
     have l189hp1 := hp1.lt
     have l189hr := hr.lt
     have l189n177 := n177.lt
     replace hp0 := hp0.alloc (.cells #[.int .i32 0, .int .i32 0, .int .i32 0] 69)
     replace hp1 := hp1.alloc (.cells #[.int .i32 0, .int .i32 0, .int .i32 0] 69)
     replace hr := hr.alloc (.cells #[.int .i32 0, .int .i32 0, .int .i32 0] 69)
     replace n177 := n177.alloc (.cells #[.int .i32 0, .int .i32 0, .int .i32 0] 69)
     have n189 := Blk.new v179 69 #[.int .i32 0, .int .i32 0, .int .i32 0]
     replace hb := hb.alloc hb.size (.cells #[.int .i32 0, .int .i32 0, .int .i32 0] 69)
     generalize v179.alloc (.cells #[.int .i32 0, .int .i32 0, .int .i32 0] 69) = v189 at *
     generalize v179.heap.size = g189 at *
     refine hK.out _ _ ⟨hp0.cell 0, hp0.cell 1, hp0.cell 2, hp1.cell 0, hp1.cell 1, hp1.cell 2, hr.cell 0, hr.cell 1, hr.cell 2⟩ (fun hH => ?_)
     clear hK K
     try (simp only [Act.put, List.setIfInBounds_toArray, List.set_cons_zero, List.set_cons_succ])
     refine rd1 3 (fun K hK => ?_)
     go_simp
     refine (HQ.out _).mono ?_
     rintro e v191 ⟨rfl, bb⟩
     go_wp2_with fail
     replace hp0 := hp0.below bb hp0.lt
     replace hp1 := hp1.below bb hp1.lt
     replace hr := hr.below bb hr.lt
     replace n177 := n177.below bb n177.lt
     replace n189 := n189.below bb n189.lt
     replace hb := hb.on bb
     clear bb
     refine hK.out _ _ ⟨hp0.cell 0, hp0.cell 1, hp0.cell 2, hp1.cell 0, hp1.cell 1, hp1.cell 2, hr.cell 0, hr.cell 1, hr.cell 2⟩ (fun hH => ?_)
     clear hK K
     try (simp only [Act.put, List.setIfInBounds_toArray, List.set_cons_zero, List.set_cons_succ])
     refine rd1 6 (fun K hK => ?_)
     have c0 : v191.cell? ⟨g177, 0, none⟩ = some (.int .i32 0) := n177.cell 0
     have z0 := n177.frozen 0
     have c1 : v191.cell? ⟨g177, 1, none⟩ = some (.int .i32 0) := n177.cell 1
     have z1 := n177.frozen 1
     have c2 : v191.cell? ⟨g177, 2, none⟩ = some (.int .i32 0) := n177.cell 2
     have z2 := n177.frozen 2
     go_simp
     try go_wp2_with fail
     replace hp0 := (((hp0.fr g177 0 (by omega) (.int .i32 a0)).fr g177 1 (by omega) (.int .i32 a1)).fr g177 2 (by omega) (.int .i32 a2))
     replace hp1 := (((hp1.fr g177 0 (by omega) (.int .i32 a0)).fr g177 1 (by omega) (.int .i32 a1)).fr g177 2 (by omega) (.int .i32 a2))
     replace hr := (((hr.fr g177 0 (by omega) (.int .i32 a0)).fr g177 1 (by omega) (.int .i32 a1)).fr g177 2 (by omega) (.int .i32 a2))
     replace n189 := (((n189.fr g177 0 (by omega) (.int .i32 a0)).fr g177 1 (by omega) (.int .i32 a1)).fr g177 2 (by omega) (.int .i32 a2))
     replace n177 := (((n177.set_ 0 (.int .i32 a0)).set_ 1 (.int .i32 a1)).set_ 2 (.int .i32 a2))
     replace hb := (((hb.sc g177 0 (by omega) (.int .i32 a0)).sc g177 1 (by omega) (.int .i32 a1)).sc g177 2 (by omega) (.int .i32 a2))
     clear c0 z0 c1 z1 c2 z2
     generalize (((v191.setCell ⟨g177, 0, none⟩ (.int .i32 a0)).setCell ⟨g177, 1, none⟩ (.int .i32 a1)).setCell ⟨g177, 2, none⟩ (.int .i32 a2)) = v193 at *
     refine hK.out _ _ ⟨hp0.cell 0, hp0.cell 1, hp0.cell 2, hp1.cell 0, hp1.cell 1, hp1.cell 2, hr.cell 0, hr.cell 1, hr.cell 2⟩ (fun hH => ?_)
     clear hK K
     try (simp only [Act.put, List.setIfInBounds_toArray, List.set_cons_zero, List.set_cons_succ])
     refine rd1 7 (fun K hK => ?_)
     have c0 : v193.cell? ⟨g189, 0, none⟩ = some (.int .i32 0) := n189.cell 0
     have z0 := n189.frozen 0
     have c1 : v193.cell? ⟨g189, 1, none⟩ = some (.int .i32 0) := n189.cell 1
     have z1 := n189.frozen 1
     have c2 : v193.cell? ⟨g189, 2, none⟩ = some (.int .i32 0) := n189.cell 2
     have z2 := n189.frozen 2
     go_simp
     try go_wp2_with fail
     replace hp0 := (((hp0.fr g189 0 (by omega) (.int .i32 b0)).fr g189 1 (by omega) (.int .i32 b1)).fr g189 2 (by omega) (.int .i32 b2))
     replace hp1 := (((hp1.fr g189 0 (by omega) (.int .i32 b0)).fr g189 1 (by omega) (.int .i32 b1)).fr g189 2 (by omega) (.int .i32 b2))
     replace hr := (((hr.fr g189 0 (by omega) (.int .i32 b0)).fr g189 1 (by omega) (.int .i32 b1)).fr g189 2 (by omega) (.int .i32 b2))
     replace n177 := (((n177.fr g189 0 (by omega) (.int .i32 b0)).fr g189 1 (by omega) (.int .i32 b1)).fr g189 2 (by omega) (.int .i32 b2))
     replace n189 := (((n189.set_ 0 (.int .i32 b0)).set_ 1 (.int .i32 b1)).set_ 2 (.int .i32 b2))
     replace hb := (((hb.sc g189 0 (by omega) (.int .i32 b0)).sc g189 1 (by omega) (.int .i32 b1)).sc g189 2 (by omega) (.int .i32 b2))
     clear c0 z0 c1 z1 c2 z2
     generalize (((v193.setCell ⟨g189, 0, none⟩ (.int .i32 b0)).setCell ⟨g189, 1, none⟩ (.int .i32 b1)).setCell ⟨g189, 2, none⟩ (.int .i32 b2)) = v195 at *
     refine hK.out _ _ ⟨hp0.cell 0, hp0.cell 1, hp0.cell 2, hp1.cell 0, hp1.cell 1, hp1.cell 2, hr.cell 0, hr.cell 1, hr.cell 2⟩ (fun hH => ?_)
     clear hK K
     try (simp only [Act.put, List.setIfInBounds_toArray, List.set_cons_zero, List.set_cons_succ])
     refine wpAnyH_done ?hru196 ?hqu196 _
     case hru196 => kernel_rfl
     refine NoPanic.normal ?_
     try go_wp2_with fail
     go_meet
     exact ⟨g177, g189, rfl, rfl, n177, n189, hr, hb⟩
   case hc178q5 =>
    go_simp
    try go_wp2_with fail
    have lb197 := hb.size
    have l197hp0 := hp0.lt
    have l197hp1 := hp1.lt
    have l197hr := hr.lt
    have l197n177 := n177.lt
    replace hp0 := hp0.alloc (.cells #[.int .i32 0, .int .i32 0, .int .i32 0] 69)
    replace hp1 := hp1.alloc (.cells #[.int .i32 0, .int .i32 0, .int .i32 0] 69)
    replace hr := hr.alloc (.cells #[.int .i32 0, .int .i32 0, .int .i32 0] 69)
    replace n177 := n177.alloc (.cells #[.int .i32 0, .int .i32 0, .int .i32 0] 69)
    have n197 := Blk.new v177 69 #[.int .i32 0, .int .i32 0, .int .i32 0]
    replace hb := hb.alloc hb.size (.cells #[.int .i32 0, .int .i32 0, .int .i32 0] 69)
    generalize v177.alloc (.cells #[.int .i32 0, .int .i32 0, .int .i32 0] 69) = v197 at *
    generalize v177.heap.size = g197 at *
    refine hK.out _ _ ⟨hp0.cell 0, hp0.cell 1, hp0.cell 2, hp1.cell 0, hp1.cell 1, hp1.cell 2, hr.cell 0, hr.cell 1, hr.cell 2⟩ (fun hH => ?_)
    clear hK K
    try (simp only [Act.put, List.setIfInBounds_toArray, List.set_cons_zero, List.set_cons_succ])
    refine rd1 1 (fun K hK => ?_)
    go_simp
    refine (HP.out _).mono ?_
    rintro e v199 ⟨rfl, bb⟩
    go_wp2_with fail
    replace hp0 := hp0.below bb hp0.lt
    replace hp1 := hp1.below bb hp1.lt
    replace hr := hr.below bb hr.lt
    replace n177 := n177.below bb n177.lt
    replace n197 := n197.below bb n197.lt
    replace hb := hb.on bb
    clear bb
    refine hK.out _ _ ⟨hp0.cell 0, hp0.cell 1, hp0.cell 2, hp1.cell 0, hp1.cell 1, hp1.cell 2, hr.cell 0, hr.cell 1, hr.cell 2⟩ (fun hH => ?_)
    clear hK K
    try (simp only [Act.put, List.setIfInBounds_toArray, List.set_cons_zero, List.set_cons_succ])
    refine rd1 3 (fun K hK => ?_)
    go_simp
    refine (HQ.out _).mono ?_
    rintro e v201 ⟨rfl, bb⟩
    go_wp2_with fail
    replace hp0 := hp0.below bb hp0.lt
    replace hp1 := hp1.below bb hp1.lt
    replace hr := hr.below bb hr.lt
    replace n177 := n177.below bb n177.lt
    replace n197 := n197.below bb n197.lt
    replace hb := hb.on bb
    clear bb
    refine hK.out _ _ ⟨hp0.cell 0, hp0.cell 1, hp0.cell 2, hp1.cell 0, hp1.cell 1, hp1.cell 2, hr.cell 0, hr.cell 1, hr.cell 2⟩ (fun hH => ?_)
    clear hK K
    try (simp only [Act.put, List.setIfInBounds_toArray, List.set_cons_zero, List.set_cons_succ])
    refine rd1 6 (fun K hK => ?_)
    have c0 : v201.cell? ⟨g177, 0, none⟩ = some (.int .i32 0) := n177.cell 0
    have z0 := n177.frozen 0
    have c1 : v201.cell? ⟨g177, 1, none⟩ = some (.int .i32 0) := n177.cell 1
    have z1 := n177.frozen 1
    have c2 : v201.cell? ⟨g177, 2, none⟩ = some (.int .i32 0) := n177.cell 2
    have z2 := n177.frozen 2
    go_simp
    try go_wp2_with fail
    replace hp0 := (((hp0.fr g177 0 (by omega) (.int .i32 a0)).fr g177 1 (by omega) (.int .i32 a1)).fr g177 2 (by omega) (.int .i32 a2))
    replace hp1 := (((hp1.fr g177 0 (by omega) (.int .i32 a0)).fr g177 1 (by omega) (.int .i32 a1)).fr g177 2 (by omega) (.int .i32 a2))
    replace hr := (((hr.fr g177 0 (by omega) (.int .i32 a0)).fr g177 1 (by omega) (.int .i32 a1)).fr g177 2 (by omega) (.int .i32 a2))
    replace n197 := (((n197.fr g177 0 (by omega) (.int .i32 a0)).fr g177 1 (by omega) (.int .i32 a1)).fr g177 2 (by omega) (.int .i32 a2))
    replace n177 := (((n177.set_ 0 (.int .i32 a0)).set_ 1 (.int .i32 a1)).set_ 2 (.int .i32 a2))
    replace hb := (((hb.sc g177 0 (by omega) (.int .i32 a0)).sc g177 1 (by omega) (.int .i32 a1)).sc g177 2 (by omega) (.int .i32 a2))
    clear c0 z0 c1 z1 c2 z2
    generalize (((v201.setCell ⟨g177, 0, none⟩ (.int .i32 a0)).setCell ⟨g177, 1, none⟩ (.int .i32 a1)).setCell ⟨g177, 2, none⟩ (.int .i32 a2)) = v203 at *
    refine hK.out _ _ ⟨hp0.cell 0, hp0.cell 1, hp0.cell 2, hp1.cell 0, hp1.cell 1, hp1.cell 2, hr.cell 0, hr.cell 1, hr.cell 2⟩ (fun hH => ?_)
    clear hK K
    try (simp only [Act.put, List.setIfInBounds_toArray, List.set_cons_zero, List.set_cons_succ])
    refine rd1 7 (fun K hK => ?_)
    have c0 : v203.cell? ⟨g197, 0, none⟩ = some (.int .i32 0) := n197.cell 0
    have z0 := n197.frozen 0
    have c1 : v203.cell? ⟨g197, 1, none⟩ = some (.int .i32 0) := n197.cell 1
    have z1 := n197.frozen 1
    have c2 : v203.cell? ⟨g197, 2, none⟩ = some (.int .i32 0) := n197.cell 2
    have z2 := n197.frozen 2
    go_simp
    try go_wp2_with fail
    replace hp0 := (((hp0.fr g197 0 (by omega) (.int .i32 b0)).fr g197 1 (by omega) (.int .i32 b1)).fr g197 2 (by omega) (.int .i32 b2))
    replace hp1 := (((hp1.fr g197 0 (by omega) (.int .i32 b0)).fr g197 1 (by omega) (.int .i32 b1)).fr g197 2 (by omega) (.int .i32 b2))
    replace hr := (((hr.fr g197 0 (by omega) (.int .i32 b0)).fr g197 1 (by omega) (.int .i32 b1)).fr g197 2 (by omega) (.int .i32 b2))
    replace n177 := (((n177.fr g197 0 (by omega) (.int .i32 b0)).fr g197 1 (by omega) (.int .i32 b1)).fr g197 2 (by omega) (.int .i32 b2))
    replace n197 := (((n197.set_ 0 (.int .i32 b0)).set_ 1 (.int .i32 b1)).set_ 2 (.int .i32 b2))
    replace hb := (((hb.sc g197 0 (by omega) (.int .i32 b0)).sc g197 1 (by omega) (.int .i32 b1)).sc g197 2 (by omega) (.int .i32 b2))
    clear c0 z0 c1 z1 c2 z2
    generalize (((v203.setCell ⟨g197, 0, none⟩ (.int .i32 b0)).setCell ⟨g197, 1, none⟩ (.int .i32 b1)).setCell ⟨g197, 2, none⟩ (.int .i32 b2)) = v205 at *
    refine hK.out _ _ ⟨hp0.cell 0, hp0.cell 1, hp0.cell 2, hp1.cell 0, hp1.cell 1, hp1.cell 2, hr.cell 0, hr.cell 1, hr.cell 2⟩ (fun hH => ?_)
    clear hK K
    try (simp only [Act.put, List.setIfInBounds_toArray, List.set_cons_zero, List.set_cons_succ])
    refine wpAnyH_done ?hru206 ?hqu206 _
    case hru206 => kernel_rfl
    refine NoPanic.normal ?_
    try go_wp2_with fail
    go_meet
    exact ⟨g177, g197, rfl, rfl, n177, n197, hr, hb⟩
  case hc120q5 =>
   go_simp
   try go_wp2_with fail
   have lb207 := hb.size
   have l207hp0 := hp0.lt
   have l207hp1 := hp1.lt
   have l207hr := hr.lt
   replace hp0 := hp0.alloc (.cells #[.int .i32 0, .int .i32 0, .int .i32 0] 69)
   replace hp1 := hp1.alloc (.cells #[.int .i32 0, .int .i32 0, .int .i32 0] 69)
   replace hr := hr.alloc (.cells #[.int .i32 0, .int .i32 0, .int .i32 0] 69)
   have n207 := Blk.new W119 69 #[.int .i32 0, .int .i32 0, .int .i32 0]
   replace hb := hb.alloc hb.size (.cells #[.int .i32 0, .int .i32 0, .int .i32 0] 69)
   generalize W119.alloc (.cells #[.int .i32 0, .int .i32 0, .int .i32 0] 69) = v207 at *
   generalize W119.heap.size = g207 at *
   refine hK.out _ _ ⟨hp0.cell 0, hp0.cell 1, hp0.cell 2, hp1.cell 0, hp1.cell 1, hp1.cell 2, hr.cell 0, hr.cell 1, hr.cell 2⟩ (fun hH => ?_)
   clear hK K
   try (simp only [Act.put, List.setIfInBounds_toArray, List.set_cons_zero, List.set_cons_succ])
   refine rd2 1 4 (fun K hK => ?hc208q1) (fun K hK => ?hc208q4)
   case hc208q1 =>
    go_simp
    refine (HP.out _).mono ?_
    rintro e v209 ⟨rfl, bb⟩
    go_wp2_with fail
    replace hp0 := hp0.below bb hp0.lt
    replace hp1 := hp1.below bb hp1.lt
    replace hr := hr.below bb hr.lt
    replace n207 := n207.below bb n207.lt
    replace hb := hb.on bb
    clear bb
    refine hK.out _ _ ⟨hp0.cell 0, hp0.cell 1, hp0.cell 2, hp1.cell 0, hp1.cell 1, hp1.cell 2, hr.cell 0, hr.cell 1, hr.cell 2⟩ (fun hH => ?_)
    clear hK K
    try (simp only [Act.put, List.setIfInBounds_toArray, List.set_cons_zero, List.set_cons_succ])
    refine rd2 3 4 (fun K hK => ?hc210q3) (fun K hK => ?hc210q4)
    case hc210q3 =>
     go_simp
     refine (HQ.out _).mono ?_
     rintro e v211 ⟨rfl, bb⟩
     go_wp2_with fail
     replace hp0 := hp0.below bb hp0.lt
     replace hp1 := hp1.below bb hp1.lt
     replace hr := hr.below bb hr.lt
     replace n207 := n207.below bb n207.lt
     replace hb := hb.on bb
     clear bb
     refine hK.out _ _ ⟨hp0.cell 0, hp0.cell 1, hp0.cell 2, hp1.cell 0, hp1.cell 1, hp1.cell 2, hr.cell 0, hr.cell 1, hr.cell 2⟩ (fun hH => ?_)
     clear hK K
     try (simp only [Act.put, List.setIfInBounds_toArray, List.set_cons_zero, List.set_cons_succ])
     refine rd1 4 (fun K hK => ?_)
     go_simp
     try go_wp2_with fail
     have lb213 := hb.size
     have l213hp0 := hp0.lt
     have l213hp1 := hp1.lt
     have l213hr := hr.lt
     have l213n207 := n207.lt
     replace hp0 := hp0.alloc (.cells #[.int .i32 0, .int .i32 0, .int .i32 0] 69)
     replace hp1 := hp1.alloc (.cells #[.int .i32 0, .int .i32 0, .int .i32 0] 69)
     replace hr := hr.alloc (.cells #[.int .i32 0, .int .i32 0, .int .i32 0] 69)
     replace n207 := n207.alloc (.cells #[.int .i32 0, .int .i32 0, .int .i32 0] 69)
     have n213 := Blk.new v211 69 #[.int .i32 0, .int .i32 0, .int .i32 0]
     replace hb := hb.alloc hb.size (.cells #[.int .i32 0, .int .i32 0, .int .i32 0] 69)
     generalize v211.alloc (.cells #[.int .i32 0, .int .i32 0, .int .i32 0] 69) = v213 at *
     generalize v211.heap.size = g213 at *
     refine hK.out _ _ ⟨hp0.cell 0, hp0.cell 1, hp0.cell 2, hp1.cell 0, hp1.cell 1, hp1.cell 2, hr.cell 0, hr.cell 1, hr.cell 2⟩ (fun hH => ?_)
     clear hK K
     try (simp only [Act.put, List.setIfInBounds_toArray, List.set_cons_zero, List.set_cons_succ])
     refine rd1 6 (fun K hK => ?_)
     have c0 : v213.cell? ⟨g213, 0, none⟩ = some (.int .i32 0) := n213.cell 0
     have z0 := n213.frozen 0
     have c1 : v213.cell? ⟨g213, 1, none⟩ = some (.int .i32 0) := n213.cell 1
     have z1 := n213.frozen 1
     have c2 : v213.cell? ⟨g213, 2, none⟩ = some (.int .i32 0) := n213.cell 2
     have z2 := n213.frozen 2
     go_simp
     try go_wp2_with fail
     replace hp0 := (((hp0.fr g213 0 (by omega) (.int .i32 a0)).fr g213 1 (by omega) (.int .i32 a1)).fr g213 2 (by omega) (.int .i32 a2))
     replace hp1 := (((hp1.fr g213 0 (by omega) (.int .i32 a0)).fr g213 1 (by omega) (.int .i32 a1)).fr g213 2 (by omega) (.int .i32 a2))
     replace hr := (((hr.fr g213 0 (by omega) (.int .i32 a0)).fr g213 1 (by omega) (.int .i32 a1)).fr g213 2 (by omega) (.int .i32 a2))
     replace n207 := (((n207.fr g213 0 (by omega) (.int .i32 a0)).fr g213 1 (by omega) (.int .i32 a1)).fr g213 2 (by omega) (.int .i32 a2))
     replace n213 := (((n213.set_ 0 (.int .i32 a0)).set_ 1 (.int .i32 a1)).set_ 2 (.int .i32 a2))
     replace hb := (((hb.sc g213 0 (by omega) (.int .i32 a0)).sc g213 1 (by omega) (.int .i32 a1)).sc g213 2 (by omega) (.int .i32 a2))
     clear c0 z0 c1 z1 c2 z2
     generalize (((v213.setCell ⟨g213, 0, none⟩ (.int .i32 a0)).setCell ⟨g213, 1, none⟩ (.int .i32 a1)).setCell ⟨g213, 2, none⟩ (.int .i32 a2)) = v215 at *
     refine hK.out _ _ ⟨hp0.cell 0, hp0.cell 1, hp0.cell 2, hp1.cell 0, hp1.cell 1, hp1.cell 2, hr.cell 0, hr.cell 1, hr.cell 2⟩ (fun hH => ?_)
     clear hK K
     try (simp only [Act.put, List.setIfInBounds_toArray, List.set_cons_zero, List.set_cons_succ])
     refine rd1 7 (fun K hK => ?_)
     have c0 : v215.cell? ⟨g207, 0, none⟩ = some (.int .i32 0) := n207.cell 0
     have z0 := n207.frozen 0
     have c1 : v215.cell? ⟨g207, 1, none⟩ = some (.int .i32 0) := n207.cell 1
     have z1 := n207.frozen 1
     have c2 : v215.cell? ⟨g207, 2, none⟩ = some (.int .i32 0) := n207.cell 2
     have z2 := n207.frozen 2
     go_simp
     try go_wp2_with fail
     replace hp0 := (((hp0.fr g207 0 (by omega) (.int .i32 b0)).fr g207 1 (by omega) (.int .i32 b1)).fr g207 2 (by omega) (.int .i32 b2))
     replace hp1 := (((hp1.fr g207 0 (by omega) (.int .i32 b0)).fr g207 1 (by omega) (.int .i32 b1)).fr g207 2 (by omega) (.int .i32 b2))
     replace hr := (((hr.fr g207 0 (by omega) (.int .i32 b0)).fr g207 1 (by omega) (.int .i32 b1)).fr g207 2 (by omega) (.int .i32 b2))
     replace n213 := (((n213.fr g207 0 (by omega) (.int .i32 b0)).fr g207 1 (by omega) (.int .i32 b1)).fr g207 2 (by omega) (.int .i32 b2))
     replace n207 := (((n207.set_ 0 (.int .i32 b0)).set_ 1 (.int .i32 b1)).set_ 2 (.int .i32 b2))
     replace hb := (((hb.sc g207 0 (by omega) (.int .i32 b0)).sc g207 1 (by omega) (.int .i32 b1)).sc g207 2 (by omega) (.int .i32 b2))
     clear c0 z0 c1 z1 c2 z2
     generalize (((v215.setCell ⟨g207, 0, none⟩ (.int .i32 b0)).setCell ⟨g207, 1, none⟩ (.int .i32 b1)).setCell ⟨g207, 2, none⟩ (.int .i32 b2)) = v217 at *
     refine hK.out _ _ ⟨hp0.cell 0, hp0.cell 1, hp0.cell 2, hp1.cell 0, hp1.cell 1, hp1.cell 2, hr.cell 0, hr.cell 1, hr.cell 2⟩ (fun hH => ?_)
     clear hK K
     try (simp only [Act.put, List.setIfInBounds_toArray, List.set_cons_zero, List.set_cons_succ])
     refine wpAnyH_done ?hru218 ?hqu218 _
     case hru218 => kernel_rfl
     refine NoPanic.normal ?_
     try go_wp2_with fail
     go_meet
     exact ⟨g213, g207, rfl, rfl, n213, n207, hr, hb⟩
    case hc210q4 =>
     go_simp
     try go_wp2_with fail
     have lb219 := hb.size
     have l219hp0 := hp0.lt
     have l219hp1 := hp1.lt
     have l219hr := hr.lt
     have l219n207 := n207.lt
     replace hp0 := hp0.alloc (.cells #[.int .i32 0, .int .i32 0, .int .i32 0] 69)
     replace hp1 := hp1.alloc (.cells #[.int .i32 0, .int .i32 0, .int .i32 0] 69)
     replace hr := hr.alloc (.cells #[.int .i32 0, .int .i32 0, .int .i32 0] 69)
     replace n207 := n207.alloc (.cells #[.int .i32 0, .int .i32 0, .int .i32 0] 69)
     have n219 := Blk.new v209 69 #[.int .i32 0, .int .i32 0, .int .i32 0]
     replace hb := hb.alloc hb.size (.cells #[.int .i32 0, .int .i32 0, .int .i32 0] 69)
     generalize v209.alloc (.cells #[.int .i32 0, .int .i32 0, .int .i32 0] 69) = v219 at *
     generalize v209.heap.size = g219 at *
     refine hK.out _ _ ⟨hp0.cell 0, hp0.cell 1, hp0.cell 2, hp1.cell 0, hp1.cell 1, hp1.cell 2, hr.cell 0, hr.cell 1, hr.cell 2⟩ (fun hH => ?_)
     clear hK K
     try (simp only [Act.put, List.setIfInBounds_toArray, List.set_cons_zero, List.set_cons_succ])
     refine rd1 3 (fun K hK => ?_)
     go_simp
     refine (HQ.out _).mono ?_
     rintro e v221 ⟨rfl, bb⟩
     go_wp2_with fail
     replace hp0 := hp0.below bb hp0.lt
     replace hp1 := hp1.below bb hp1.lt
     replace hr := hr.below bb hr.lt
     replace n207 := n207.below bb n207.lt
     replace n219 := n219.below bb n219.lt
     replace hb := hb.on bb
     clear bb
     refine hK.out _ _ ⟨hp0.cell 0, hp0.cell 1, hp0.cell 2, hp1.cell 0, hp1.cell 1, hp1.cell 2, hr.cell 0, hr.cell 1, hr.cell 2⟩ (fun hH => ?_)
     clear hK K
     try (simp only [Act.put, List.setIfInBounds_toArray, List.set_cons_zero, List.set_cons_succ])
     refine rd1 6 (fun K hK => ?_)
     have c0 : v221.cell? ⟨g219, 0, none⟩ = some (.int .i32 0) := n219.cell 0
     have z0 := n219.frozen 0
     have c1 : v221.cell? ⟨g219, 1, none⟩ = some (.int .i32 0) := n219.cell 1
     have z1 := n219.frozen 1
     have c2 : v221.cell? ⟨g219, 2, none⟩ = some (.int .i32 0) := n219.cell 2
     have z2 := n219.frozen 2
     go_simp
     try go_wp2_with fail
     replace hp0 := (((hp0.fr g219 0 (by omega) (.int .i32 a0)).fr g219 1 (by omega) (.int .i32 a1)).fr g219 2 (by omega) (.int .i32 a2))
     replace hp1 := (((hp1.fr g219 0 (by omega) (.int .i32 a0)).fr g219 1 (by omega) (.int .i32 a1)).fr g219 2 (by omega) (.int .i32 a2))
     replace hr := (((hr.fr g219 0 (by omega) (.int .i32 a0)).fr g219 1 (by omega) (.int .i32 a1)).fr g219 2 (by omega) (.int .i32 a2))
     replace n207 := (((n207.fr g219 0 (by omega) (.int .i32 a0)).fr g219 1 (by omega) (.int .i32 a1)).fr g219 2 (by omega) (.int .i32 a2))
     replace n219 := (((n219.set_ 0 (.int .i32 a0)).set_ 1 (.int .i32 a1)).set_ 2 (.int .i32 a2))
     replace hb := (((hb.sc g219 0 (by omega) (.int .i32 a0)).sc g219 1 (by omega) (.int .i32 a1)).sc g219 2 (by omega) (.int .i32 a2))
     clear c0 z0 c1 z1 c2 z2
     generalize (((v221.setCell ⟨g219, 0, none⟩ (.int .i32 a0)).setCell ⟨g219, 1, none⟩ (.int .i32 a1)).setCell ⟨g219, 2, none⟩ (.int .i32 a2)) = v223 at *
     refine hK.out _ _ ⟨hp0.cell 0, hp0.cell 1, hp0.cell 2, hp1.cell 0, hp1.cell 1, hp1.cell 2, hr.cell 0, hr.cell 1, hr.cell 2⟩ (fun hH => ?_)
     clear hK K
     try (simp only [Act.put, List.setIfInBounds_toArray, List.set_cons_zero, List.set_cons_succ])
     refine rd1 7 (fun K hK => ?_)
     have c0 : v223.cell? ⟨g207, 0, none⟩ = some (.int .i32 0) := n207.cell 0
     have z0 := n207.frozen 0
     have c1 : v223.cell? ⟨g207, 1, none⟩ = some (.int .i32 0) := n207.cell 1
     have z1 := n207.frozen 1
     have c2 : v223.cell? ⟨g207, 2, none⟩ = some (.int .i32 0) := n207.cell 2
     have z2 := n207.frozen 2
     go_simp
     try go_wp2_with fail
     replace hp0 := (((hp0.fr g207 0 (by omega) (.int .i32 b0)).fr g207 1 (by omega) (.int .i32 b1)).fr g207 2 (by omega) (.int .i32 b2))
     replace hp1 := (((hp1.fr g207 0 (by omega) (.int .i32 b0)).fr g207 1 (by omega) (.int .i32 b1)).fr g207 2 (by omega) (.int .i32 b2))
     replace hr := (((hr.fr g207 0 (by omega) (.int .i32 b0)).fr g207 1 (by omega) (.int .i32 b1)).fr g207 2 (by omega) (.int .i32 b2))
     replace n219 := (((n219.fr g207 0 (by omega) (.int .i32 b0)).fr g207 1 (by omega) (.int .i32 b1)).fr g207 2 (by omega) (.int .i32 b2))
     replace n207 := (((n207.set_ 0 (.int .i32 b0)).set_ 1 (.int .i32 b1)).set_ 2 (.int .i32 b2))
     replace hb := (((hb.sc g207 0 (by omega) (.int .i32 b0)).sc g207 1 (by omega) (.int .i32 b1)).sc g207 2 (by omega) (.int .i32 b2))
     clear c0 z0 c1 z1 c2 z2
     generalize (((v223.setCell ⟨g207, 0, none⟩ (.int .i32 b0)).setCell ⟨g207, 1, none⟩ (.int .i32 b1)).setCell ⟨g207, 2, none⟩ (.int .i32 b2)) = v225 at *
     refine hK.out _ _ ⟨hp0.cell 0, hp0.cell 1, hp0.cell 2, hp1.cell 0, hp1.cell 1, hp1.cell 2, hr.cell 0, hr.cell 1, hr.cell 2⟩ (fun hH => ?_)
     clear hK K
     try (simp only [Act.put, List.setIfInBounds_toArray, List.set_cons_zero, List.set_cons_succ])
     refine wpAnyH_done ?hru226 ?hqu226 _
     case hru226 => kernel_rfl
     refine NoPanic.normal ?_
     try go_wp2_with fail
     go_meet
     exact ⟨g219, g207, rfl, rfl, n219, n207, hr, hb⟩
   case hc208q4 =>
    go_simp
    try go_wp2_with fail
    have lb227 := hb.size
    have l227hp0 := hp0.lt
    have l227hp1 := hp1.lt
    have l227hr := hr.lt
    have l227n207 := n207.lt
    replace hp0 := hp0.alloc (.cells #[.int .i32 0, .int .i32 0, .int .i32 0] 69)
    replace hp1 := hp1.alloc (.cells #[.int .i32 0, .int .i32 0, .int .i32 0] 69)
    replace hr := hr.alloc (.cells #[.int .i32 0, .int .i32 0, .int .i32 0] 69)
    replace n207 := n207.alloc (.cells #[.int .i32 0, .int .i32 0, .int .i32 0] 69)
    have n227 := Blk.new v207 69 #[.int .i32 0, .int .i32 0, .int .i32 0]
    replace hb := hb.alloc hb.size (.cells #[.int .i32 0, .int .i32 0, .int .i32 0] 69)
    generalize v207.alloc (.cells #[.int .i32 0, .int .i32 0, .int .i32 0] 69) = v227 at *
    generalize v207.heap.size = g227 at *
    refine hK.out _ _ ⟨hp0.cell 0, hp0.cell 1, hp0.cell 2, hp1.cell 0, hp1.cell 1, hp1.cell 2, hr.cell 0, hr.cell 1, hr.cell 2⟩ (fun hH => ?_)
    clear hK K
    try (simp only [Act.put, List.setIfInBounds_toArray, List.set_cons_zero, List.set_cons_succ])
    refine rd1 1 (fun K hK => ?_)
    go_simp
    refine (HP.out _).mono ?_
    rintro e v229 ⟨rfl, bb⟩
    go_wp2_with fail
    replace hp0 := hp0.below bb hp0.lt
    replace hp1 := hp1.below bb hp1.lt
    replace hr := hr.below bb hr.lt
    replace n207 := n207.below bb n207.lt
    replace n227 := n227.below bb n227.lt
    replace hb := hb.on bb
    clear bb
    refine hK.out _ _ ⟨hp0.cell 0, hp0.cell 1, hp0.cell 2, hp1.cell 0, hp1.cell 1, hp1.cell 2, hr.cell 0, hr.cell 1, hr.cell 2⟩ (fun hH => ?_)
    clear hK K
    try (simp only [Act.put, List.setIfInBounds_toArray, List.set_cons_zero, List.set_cons_succ])
    refine rd1 3 (fun K hK => ?_)
    go_simp
    refine (HQ.out _).mono ?_
    rintro e v231 ⟨rfl, bb⟩
    go_wp2_with fail
    replace hp0 := hp0.below bb hp0.lt
    replace hp1 := hp1.below bb hp1.lt
    replace hr := hr.below bb hr.lt
    replace n207 := n207.below bb n207.lt
    replace n227 := n227.below bb n227.lt
    replace hb := hb.on bb
    clear bb
    refine hK.out _ _ ⟨hp0.cell 0, hp0.cell 1, hp0.cell 2, hp1.cell 0, hp1.cell 1, hp1.cell 2, hr.cell 0, hr.cell 1, hr.cell 2⟩ (fun hH => ?_)
    clear hK K
    try (simp only [Act.put, List.setIfInBounds_toArray, List.set_cons_zero, List.set_cons_succ])
    refine rd1 6 (fun K hK => ?_)
    have c0 : v231.cell? ⟨g227, 0, none⟩ = some (.int .i32 0) := n227.cell 0
    have z0 := n227.frozen 0
    have c1 : v231.cell? ⟨g227, 1, none⟩ = some (.int .i32 0) := n227.cell 1
    have z1 := n227.frozen 1
    have c2 : v231.cell? ⟨g227, 2, none⟩ = some (.int .i32 0) := n227.cell 2
    have z2 := n227.frozen 2
    go_simp
    try go_wp2_with fail
    replace hp0 := (((hp0.fr g227 0 (by omega) (.int .i32 a0)).fr g227 1 (by omega) (.int .i32 a1)).fr g227 2 (by omega) (.int .i32 a2))
    replace hp1 := (((hp1.fr g227 0 (by omega) (.int .i32 a0)).fr g227 1 (by omega) (.int .i32 a1)).fr g227 2 (by omega) (.int .i32 a2))
    replace hr := (((hr.fr g227 0 (by omega) (.int .i32 a0)).fr g227 1 (by omega) (.int .i32 a1)).fr g227 2 (by omega) (.int .i32 a2))
    replace n207 := (((n207.fr g227 0 (by omega) (.int .i32 a0)).fr g227 1 (by omega) (.int .i32 a1)).fr g227 2 (by omega) (.int .i32 a2))
    replace n227 := (((n227.set_ 0 (.int .i32 a0)).set_ 1 (.int .i32 a1)).set_ 2 (.int .i32 a2))
    replace hb := (((hb.sc g227 0 (by omega) (.int .i32 a0)).sc g227 1 (by omega) (.int .i32 a1)).sc g227 2 (by omega) (.int .i32 a2))
    clear c0 z0 c1 z1 c2 z2
    generalize (((v231.setCell ⟨g227, 0, none⟩ (.int .i32 a0)).setCell ⟨g227, 1, none⟩ (.int .i32 a1)).setCell ⟨g227, 2, none⟩ (.int .i32 a2)) = v233 at *
    refine hK.out _ _ ⟨hp0.cell 0, hp0.cell 1, hp0.cell 2, hp1.cell 0, hp1.cell 1, hp1.cell 2, hr.cell 0, hr.cell 1, hr.cell 2⟩ (fun hH => ?_)
    clear hK K
    try (simp only [Act.put, List.setIfInBounds_toArray, List.set_cons_zero, List.set_cons_succ])
    refine rd1 7 (fun K hK => ?_)
    have c0 : v233.cell? ⟨g207, 0, none⟩ = some (.int .i32 0) := n207.cell 0
    have z0 := n207.frozen 0
    have c1 : v233.cell? ⟨g207, 1, none⟩ = some (.int .i32 0) := n207.cell 1
    have z1 := n207.frozen 1
    have c2 : v233.cell? ⟨g207, 2, none⟩ = some (.int .i32 0) := n207.cell 2
    have z2 := n207.frozen 2
    go_simp
    try go_wp2_with fail
    replace hp0 := (((hp0.fr g207 0 (by omega) (.int .i32 b0)).fr g207 1 (by omega) (.int .i32 b1)).fr g207 2 (by omega) (.int .i32 b2))
    replace hp1 := (((hp1.fr g207 0 (by omega) (.int .i32 b0)).fr g207 1 (by omega) (.int .i32 b1)).fr g207 2 (by omega) (.int .i32 b2))
    replace hr := (((hr.fr g207 0 (by omega) (.int .i32 b0)).fr g207 1 (by omega) (.int .i32 b1)).fr g207 2 (by omega) (.int .i32 b2))
    replace n227 := (((n227.fr g207 0 (by omega) (.int .i32 b0)).fr g207 1 (by omega) (.int .i32 b1)).fr g207 2 (by omega) (.int .i32 b2))
    replace n207 := (((n207.set_ 0 (.int .i32 b0)).set_ 1 (.int .i32 b1)).set_ 2 (.int .i32 b2))
    replace hb := (((hb.sc g207 0 (by omega) (.int .i32 b0)).sc g207 1 (by omega) (.int .i32 b1)).sc g207 2 (by omega) (.int .i32 b2))
    clear c0 z0 c1 z1 c2 z2
    generalize (((v233.setCell ⟨g207, 0, none⟩ (.int .i32 b0)).setCell ⟨g207, 1, none⟩ (.int .i32 b1)).setCell ⟨g207, 2, none⟩ (.int .i32 b2)) = v235 at *
    refine hK.out _ _ ⟨hp0.cell 0, hp0.cell 1, hp0.cell 2, hp1.cell 0, hp1.cell 1, hp1.cell 2, hr.cell 0, hr.cell 1, hr.cell 2⟩ (fun hH => ?_)
    clear hK K
    try (simp only [Act.put, List.setIfInBounds_toArray, List.set_cons_zero, List.set_cons_succ])
    refine wpAnyH_done ?hru236 ?hqu236 _
    case hru236 => kernel_rfl
    refine NoPanic.normal ?_
    try go_wp2_with fail
    go_meet
    exact ⟨g227, g207, rfl, rfl, n227, n207, hr, hb⟩
 case rest =>
  clear hp0 hp1 hr hb
  obtain ⟨g, h, rfl, rfl, hA, hB, hr, hb⟩ := hcut
  have HE := fun w2 (hw : wc = w2) => v_each_Sub (.pointer (some ⟨g, 0, none⟩)) (.pointer (some ⟨h, 0, none⟩)) (a0 - b0) (a1 - b1) (a2 - b2) wc (by unfold I32 I64 at *; omega) (by unfold I32 I64 at *; omega) (by unfold I32 I64 at *; omega) (by
   intro i V hi w' hw
   rcases hi with ⟨rfl, rfl⟩ | ⟨rfl, rfl⟩ | ⟨rfl, rfl⟩
   ·exact c_Sub0 g h a0 a1 a2 b0 b1 b2 w' ia0 ia1 ia2 ib0 ib1 ib2 (hA.below hw hA.lt) (hB.below hw hB.lt)
   ·exact c_Sub1 g h a0 a1 a2 b0 b1 b2 w' ia0 ia1 ia2 ib0 ib1 ib2 (hA.below hw hA.lt) (hB.below hw hB.lt)
   ·exact c_Sub2 g h a0 a1 a2 b0 b1 b2 w' ia0 ia1 ia2 ib0 ib1 ib2 (hA.below hw hA.lt) (hB.below hw hB.lt))
  replace HE := HE _ rfl
  generalize hy0 : clampP (a0 - b0) = y0 at HE
  generalize hy1 : clampP (a1 - b1) = y1 at HE
  generalize hy2 : clampP (a2 - b2) = y2 at HE
  generalize hN : cutC (a0 - b0) + cutC (a1 - b1) + cutC (a2 - b2) = N at HE
  have HY := hid (show _ ∧ _ ∧ _ ∧ _ from ⟨hy0, hy1, hy2, hN⟩)
  clear hy0 hy1 hy2 hN
  have HE2 := hid HE
  clear HE
  go_wp2_with fail
  refine (HE2.out).mono ?_
  rintro e w2 ⟨rfl, bb2⟩
  replace hr := hr.below bb2 hr.lt
  replace hb := hb.on bb2
  have d0 : w2.cell? ⟨w.heap.size + 1 + 1, 0, none⟩ = some (.int .i32 0) := hr.cell 0
  have z0 := hr.frozen 0
  have d1 : w2.cell? ⟨w.heap.size + 1 + 1, 1, none⟩ = some (.int .i32 0) := hr.cell 1
  have z1 := hr.frozen 1
  have d2 : w2.cell? ⟨w.heap.size + 1 + 1, 2, none⟩ = some (.int .i32 0) := hr.cell 2
  have z2 := hr.frozen 2
  have hf : Blk (((w2.setCell ⟨w.heap.size + 1 + 1, 0, none⟩ (.int .i32 y0)).setCell ⟨w.heap.size + 1 + 1, 1, none⟩ (.int .i32 y1)).setCell ⟨w.heap.size + 1 + 1, 2, none⟩ (.int .i32 y2)) (w.heap.size + 1 + 1) 25 #[.int .i32 y0, .int .i32 y1, .int .i32 y2] := (((hr.set_ 0 (.int .i32 y0)).set_ 1 (.int .i32 y1)).set_ 2 (.int .i32 y2))
  have hbf : Below w.heap.size w (((w2.setCell ⟨w.heap.size + 1 + 1, 0, none⟩ (.int .i32 y0)).setCell ⟨w.heap.size + 1 + 1, 1, none⟩ (.int .i32 y1)).setCell ⟨w.heap.size + 1 + 1, 2, none⟩ (.int .i32 y2)) := (((hb.sc (w.heap.size + 1 + 1) 0 (by omega) (.int .i32 y0)).sc (w.heap.size + 1 + 1) 1 (by omega) (.int .i32 y1)).sc (w.heap.size + 1 + 1) 2 (by omega) (.int .i32 y2))
  go_wp2
  generalize (((w2.setCell ⟨w.heap.size + 1 + 1, 0, none⟩ (.int .i32 y0)).setCell ⟨w.heap.size + 1 + 1, 1, none⟩ (.int .i32 y1)).setCell ⟨w.heap.size + 1 + 1, 2, none⟩ (.int .i32 y2)) = wf at *
  have f0 : wf.cell? ⟨w.heap.size + 1 + 1, 0, none⟩ = some (.int .i32 y0) := hf.cell 0
  have f1 : wf.cell? ⟨w.heap.size + 1 + 1, 1, none⟩ = some (.int .i32 y1) := hf.cell 1
  have f2 : wf.cell? ⟨w.heap.size + 1 + 1, 2, none⟩ = some (.int .i32 y2) := hf.cell 2
  simp [bodyPost, results, Tryz.results58, go_sem, f0, f1, f2]
  exact ⟨⟨⟨HY.out.1.symm, HY.out.2.1.symm, HY.out.2.2.1.symm⟩, HY.out.2.2.2.symm⟩, hbf⟩

end Go.Proofs.YtgmepohfkpncmaaGreat
