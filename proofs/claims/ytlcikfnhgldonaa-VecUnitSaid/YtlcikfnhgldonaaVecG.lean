/- Chapter 09: vectors: the products together; the length; doubled. -/
import Derived.Test.YtlcikfnhgldonaaVecF
import Derived.Test.YtlcikfnhgldonaaUnitB
namespace Go.Proofs.Ytlcikfnhgldonaa
open Go.RowKit
set_option linter.unusedVariables false
set_option linter.unusedSimpArgs false

def DotS (a0 a1 a2 b0 b1 b2 I S : Int) : Prop := (I = 0 ∧ S = 0) ∨ (I = 1 ∧ S = tvP a0 b0) ∨ (I = 2 ∧ S = tvP a0 b0 + tvP a1 b1) ∨ (I = 3 ∧ S = tvP a0 b0 + tvP a1 b1 + tvP a2 b2)
set_option maxHeartbeats 16000000 in
theorem v_Dot (a0 a1 a2 b0 b1 b2 : Int) (w : World) (ia0 : I32 a0) (ia1 : I32 a1) (ia2 : I32 a2) (ib0 : I32 b0) (ib1 : I32 b1) (ib2 : I32 b2) :
    Calls Try.prog 44 #[.agg #[.int .i32 a0, .int .i32 a1, .int .i32 a2], .agg #[.int .i32 b0, .int .i32 b1, .int .i32 b2]] w fun e w' => e = .returned (.tuple #[.int .i32 (clampP (dotV a0 a1 a2 b0 b1 b2)), .bool (clampP (dotV a0 a1 a2 b0 b1 b2) != dotV a0 a1 a2 b0 b1 b2)]) ∧ Below w.heap.size w w' := by
  have HP := hid fun w => v_parts a0 a1 a2 w
  have HQ := hid fun w => v_parts b0 b1 b2 w
  have q0 := tv_bd a0 b0 ia0 ib0
  have H0 := hid fun w => v_times a0 b0 w ia0 ib0
  have q1 := tv_bd a1 b1 ia1 ib1
  have H1 := hid fun w => v_times a1 b1 w ia1 ib1
  have q2 := tv_bd a2 b2 ia2 ib2
  have H2 := hid fun w => v_times a2 b2 w ia2 ib2
  have u0 : IntKind.i64.wrap (tvP a0 b0) = tvP a0 b0 := IntWalk.i64_in _ (by omega)
  have u1 : IntKind.i64.wrap (tvP a0 b0 + tvP a1 b1) = tvP a0 b0 + tvP a1 b1 := IntWalk.i64_in _ (by omega)
  have u2 : IntKind.i64.wrap (tvP a0 b0 + tvP a1 b1 + tvP a2 b2) = tvP a0 b0 + tvP a1 b1 + tvP a2 b2 := IntWalk.i64_in _ (by omega)
  have HC := hid fun w => fx_Clamp (tvP a0 b0 + tvP a1 b1 + tvP a2 b2) w (by unfold I64; omega)
  have HD : Hid (dotV a0 a1 a2 b0 b1 b2 = tvP a0 b0 + tvP a1 b1 + tvP a2 b2) := rfl
  unfold Cuts at HC
  clear q0 q1 q2
  have hp0 : Blk ((w.alloc (.cells #[.int .i32 a0, .int .i32 a1, .int .i32 a2] 40)).alloc (.cells #[.int .i32 b0, .int .i32 b1, .int .i32 b2] 40)) w.heap.size 40 #[.int .i32 a0, .int .i32 a1, .int .i32 a2] := (Blk.new w _ _).alloc _
  have hp1 : Blk ((w.alloc (.cells #[.int .i32 a0, .int .i32 a1, .int .i32 a2] 40)).alloc (.cells #[.int .i32 b0, .int .i32 b1, .int .i32 b2] 40)) (w.heap.size + 1) 40 #[.int .i32 b0, .int .i32 b1, .int .i32 b2] := by have := Blk.new (w.alloc (.cells #[.int .i32 a0, .int .i32 a1, .int .i32 a2] 40)) 40 #[.int .i32 b0, .int .i32 b1, .int .i32 b2]; simpa using this
  have hb : Below w.heap.size w ((w.alloc (.cells #[.int .i32 a0, .int .i32 a1, .int .i32 a2] 40)).alloc (.cells #[.int .i32 b0, .int .i32 b1, .int .i32 b2] 40)) := ((Below.refl _ w).alloc (Nat.le_refl _) _).alloc (by simp) _
  go_enter Try.func44, Try.ntmps44
  go_upto_region 1 with fail
  generalize (w.alloc (.cells #[.int .i32 a0, .int .i32 a1, .int .i32 a2] 40)).alloc (.cells #[.int .i32 b0, .int .i32 b1, .int .i32 b2] 40) = W0 at *
  go_cut [6, 7] from 10 to 13 (fun x y wx => ∃ g h : Nat, x = .pointer (some ⟨g, 0, none⟩) ∧ y = .pointer (some ⟨h, 0, none⟩) ∧ Blk wx g 71 #[.int .i32 a0, .int .i32 a1, .int .i32 a2] ∧ Blk wx h 71 #[.int .i32 b0, .int .i32 b1, .int .i32 b2] ∧ Below w.heap.size w wx)
  case first =>
    refine wp_region_noPanic ?_
    refine wp_region_held_drew (S := (fun w' : World => w'.cell? ⟨w.heap.size, 0, none⟩ = some (.int .i32 a0) ∧ w'.cell? ⟨w.heap.size, 1, none⟩ = some (.int .i32 a1) ∧ w'.cell? ⟨w.heap.size, 2, none⟩ = some (.int .i32 a2) ∧ w'.cell? ⟨w.heap.size + 1, 0, none⟩ = some (.int .i32 b0) ∧ w'.cell? ⟨w.heap.size + 1, 1, none⟩ = some (.int .i32 b1) ∧ w'.cell? ⟨w.heap.size + 1, 2, none⟩ = some (.int .i32 b2))) (by kernel_rfl) ⟨hp0.cell 0, hp0.cell 1, hp0.cell 2, hp1.cell 0, hp1.cell 1, hp1.cell 2⟩ (fun hHeld => ?_)
    refine (show wpAnyH _ _ _ _ _ 8 _ _ _ from ?_)
    try (simp only [Act.put, List.setIfInBounds_toArray, List.set_cons_zero, List.set_cons_succ])
    replace hp0 := hp0.drew
    replace hp1 := hp1.drew
    replace hb := hb.drew
    generalize W0.drew = W1 at *
    refine tk 0 hHeld ?_
    refine tk 2 hHeld ?_
    refine rd3 1 4 5 (fun K hK => ?hc2q1) (fun K hK => ?hc2q4) (fun K hK => ?hc2q5)
    case hc2q1 =>
      go_simp
      refine (HP.out _).mono ?_
      rintro e v3 ⟨rfl, bb⟩
      go_wp2_with fail
      replace hp0 := hp0.below bb hp0.lt
      replace hp1 := hp1.below bb hp1.lt
      replace hb := hb.on bb
      clear bb
      refine hK.out _ _ ⟨hp0.cell 0, hp0.cell 1, hp0.cell 2, hp1.cell 0, hp1.cell 1, hp1.cell 2⟩ (fun hHeld => ?_)
      clear hK K
      try (simp only [Act.put, List.setIfInBounds_toArray, List.set_cons_zero, List.set_cons_succ])
      refine rd3 3 4 5 (fun K hK => ?hc4q3) (fun K hK => ?hc4q4) (fun K hK => ?hc4q5)
      case hc4q3 =>
        go_simp
        refine (HQ.out _).mono ?_
        rintro e v5 ⟨rfl, bb⟩
        go_wp2_with fail
        replace hp0 := hp0.below bb hp0.lt
        replace hp1 := hp1.below bb hp1.lt
        replace hb := hb.on bb
        clear bb
        refine hK.out _ _ ⟨hp0.cell 0, hp0.cell 1, hp0.cell 2, hp1.cell 0, hp1.cell 1, hp1.cell 2⟩ (fun hHeld => ?_)
        clear hK K
        try (simp only [Act.put, List.setIfInBounds_toArray, List.set_cons_zero, List.set_cons_succ])
        refine rd2 4 5 (fun K hK => ?hc6q4) (fun K hK => ?hc6q5)
        case hc6q4 =>
          go_simp
          try go_wp2_with fail
          have lb7 := hb.size
          have l7hp0 := hp0.lt
          have l7hp1 := hp1.lt
          replace hp0 := hp0.alloc (.cells #[.int .i32 0, .int .i32 0, .int .i32 0] 71)
          replace hp1 := hp1.alloc (.cells #[.int .i32 0, .int .i32 0, .int .i32 0] 71)
          have n7 := Blk.new v5 71 #[.int .i32 0, .int .i32 0, .int .i32 0]
          replace hb := hb.alloc hb.size (.cells #[.int .i32 0, .int .i32 0, .int .i32 0] 71)
          generalize v5.alloc (.cells #[.int .i32 0, .int .i32 0, .int .i32 0] 71) = v7 at *
          generalize v5.heap.size = g7 at *
          refine hK.out _ _ ⟨hp0.cell 0, hp0.cell 1, hp0.cell 2, hp1.cell 0, hp1.cell 1, hp1.cell 2⟩ (fun hHeld => ?_)
          clear hK K
          try (simp only [Act.put, List.setIfInBounds_toArray, List.set_cons_zero, List.set_cons_succ])
          refine rd1 5 (fun K hK => ?_)
          go_simp
          try go_wp2_with fail
          have lb9 := hb.size
          have l9hp0 := hp0.lt
          have l9hp1 := hp1.lt
          have l9n7 := n7.lt
          replace hp0 := hp0.alloc (.cells #[.int .i32 0, .int .i32 0, .int .i32 0] 71)
          replace hp1 := hp1.alloc (.cells #[.int .i32 0, .int .i32 0, .int .i32 0] 71)
          replace n7 := n7.alloc (.cells #[.int .i32 0, .int .i32 0, .int .i32 0] 71)
          have n9 := Blk.new v7 71 #[.int .i32 0, .int .i32 0, .int .i32 0]
          replace hb := hb.alloc hb.size (.cells #[.int .i32 0, .int .i32 0, .int .i32 0] 71)
          generalize v7.alloc (.cells #[.int .i32 0, .int .i32 0, .int .i32 0] 71) = v9 at *
          generalize v7.heap.size = g9 at *
          refine hK.out _ _ ⟨hp0.cell 0, hp0.cell 1, hp0.cell 2, hp1.cell 0, hp1.cell 1, hp1.cell 2⟩ (fun hHeld => ?_)
          clear hK K
          try (simp only [Act.put, List.setIfInBounds_toArray, List.set_cons_zero, List.set_cons_succ])
          refine rd1 6 (fun K hK => ?_)
          have c0 : v9.cell? ⟨g7, 0, none⟩ = some (.int .i32 0) := n7.cell 0
          have z0 := n7.frozen 0
          have c1 : v9.cell? ⟨g7, 1, none⟩ = some (.int .i32 0) := n7.cell 1
          have z1 := n7.frozen 1
          have c2 : v9.cell? ⟨g7, 2, none⟩ = some (.int .i32 0) := n7.cell 2
          have z2 := n7.frozen 2
          go_simp
          try go_wp2_with fail
          replace hp0 := (((hp0.far (p := ⟨g7, 0, none⟩) (by dsimp only; omega) (.int .i32 a0)).far (p := ⟨g7, 1, none⟩) (by dsimp only; omega) (.int .i32 a1)).far (p := ⟨g7, 2, none⟩) (by dsimp only; omega) (.int .i32 a2))
          replace hp1 := (((hp1.far (p := ⟨g7, 0, none⟩) (by dsimp only; omega) (.int .i32 a0)).far (p := ⟨g7, 1, none⟩) (by dsimp only; omega) (.int .i32 a1)).far (p := ⟨g7, 2, none⟩) (by dsimp only; omega) (.int .i32 a2))
          replace n9 := (((n9.far (p := ⟨g7, 0, none⟩) (by dsimp only; omega) (.int .i32 a0)).far (p := ⟨g7, 1, none⟩) (by dsimp only; omega) (.int .i32 a1)).far (p := ⟨g7, 2, none⟩) (by dsimp only; omega) (.int .i32 a2))
          replace n7 := (((n7.set_ 0 (.int .i32 a0)).set_ 1 (.int .i32 a1)).set_ 2 (.int .i32 a2))
          replace hb := (((hb.setCell (p := ⟨g7, 0, none⟩) (by dsimp only; omega) (.int .i32 a0)).setCell (p := ⟨g7, 1, none⟩) (by dsimp only; omega) (.int .i32 a1)).setCell (p := ⟨g7, 2, none⟩) (by dsimp only; omega) (.int .i32 a2))
          clear c0 z0 c1 z1 c2 z2
          generalize (((v9.setCell ⟨g7, 0, none⟩ (.int .i32 a0)).setCell ⟨g7, 1, none⟩ (.int .i32 a1)).setCell ⟨g7, 2, none⟩ (.int .i32 a2)) = v11 at *
          refine hK.out _ _ ⟨hp0.cell 0, hp0.cell 1, hp0.cell 2, hp1.cell 0, hp1.cell 1, hp1.cell 2⟩ (fun hHeld => ?_)
          clear hK K
          try (simp only [Act.put, List.setIfInBounds_toArray, List.set_cons_zero, List.set_cons_succ])
          refine rd1 7 (fun K hK => ?_)
          have c0 : v11.cell? ⟨g9, 0, none⟩ = some (.int .i32 0) := n9.cell 0
          have z0 := n9.frozen 0
          have c1 : v11.cell? ⟨g9, 1, none⟩ = some (.int .i32 0) := n9.cell 1
          have z1 := n9.frozen 1
          have c2 : v11.cell? ⟨g9, 2, none⟩ = some (.int .i32 0) := n9.cell 2
          have z2 := n9.frozen 2
          go_simp
          try go_wp2_with fail
          replace hp0 := (((hp0.far (p := ⟨g9, 0, none⟩) (by dsimp only; omega) (.int .i32 b0)).far (p := ⟨g9, 1, none⟩) (by dsimp only; omega) (.int .i32 b1)).far (p := ⟨g9, 2, none⟩) (by dsimp only; omega) (.int .i32 b2))
          replace hp1 := (((hp1.far (p := ⟨g9, 0, none⟩) (by dsimp only; omega) (.int .i32 b0)).far (p := ⟨g9, 1, none⟩) (by dsimp only; omega) (.int .i32 b1)).far (p := ⟨g9, 2, none⟩) (by dsimp only; omega) (.int .i32 b2))
          replace n7 := (((n7.far (p := ⟨g9, 0, none⟩) (by dsimp only; omega) (.int .i32 b0)).far (p := ⟨g9, 1, none⟩) (by dsimp only; omega) (.int .i32 b1)).far (p := ⟨g9, 2, none⟩) (by dsimp only; omega) (.int .i32 b2))
          replace n9 := (((n9.set_ 0 (.int .i32 b0)).set_ 1 (.int .i32 b1)).set_ 2 (.int .i32 b2))
          replace hb := (((hb.setCell (p := ⟨g9, 0, none⟩) (by dsimp only; omega) (.int .i32 b0)).setCell (p := ⟨g9, 1, none⟩) (by dsimp only; omega) (.int .i32 b1)).setCell (p := ⟨g9, 2, none⟩) (by dsimp only; omega) (.int .i32 b2))
          clear c0 z0 c1 z1 c2 z2
          generalize (((v11.setCell ⟨g9, 0, none⟩ (.int .i32 b0)).setCell ⟨g9, 1, none⟩ (.int .i32 b1)).setCell ⟨g9, 2, none⟩ (.int .i32 b2)) = v13 at *
          refine hK.out _ _ ⟨hp0.cell 0, hp0.cell 1, hp0.cell 2, hp1.cell 0, hp1.cell 1, hp1.cell 2⟩ (fun hHeld => ?_)
          clear hK K
          try (simp only [Act.put, List.setIfInBounds_toArray, List.set_cons_zero, List.set_cons_succ])
          refine wpAnyH_done ?hru14 ?hqu14 _
          case hru14 => kernel_rfl
          refine NoPanic.normal ?_
          try go_wp2_with fail
          go_meet
          exact ⟨g7, g9, rfl, rfl, n7, n9, hb⟩
        case hc6q5 =>
          go_simp
          try go_wp2_with fail
          have lb15 := hb.size
          have l15hp0 := hp0.lt
          have l15hp1 := hp1.lt
          replace hp0 := hp0.alloc (.cells #[.int .i32 0, .int .i32 0, .int .i32 0] 71)
          replace hp1 := hp1.alloc (.cells #[.int .i32 0, .int .i32 0, .int .i32 0] 71)
          have n15 := Blk.new v5 71 #[.int .i32 0, .int .i32 0, .int .i32 0]
          replace hb := hb.alloc hb.size (.cells #[.int .i32 0, .int .i32 0, .int .i32 0] 71)
          generalize v5.alloc (.cells #[.int .i32 0, .int .i32 0, .int .i32 0] 71) = v15 at *
          generalize v5.heap.size = g15 at *
          refine hK.out _ _ ⟨hp0.cell 0, hp0.cell 1, hp0.cell 2, hp1.cell 0, hp1.cell 1, hp1.cell 2⟩ (fun hHeld => ?_)
          clear hK K
          try (simp only [Act.put, List.setIfInBounds_toArray, List.set_cons_zero, List.set_cons_succ])
          refine rd1 4 (fun K hK => ?_)
          go_simp
          try go_wp2_with fail
          have lb17 := hb.size
          have l17hp0 := hp0.lt
          have l17hp1 := hp1.lt
          have l17n15 := n15.lt
          replace hp0 := hp0.alloc (.cells #[.int .i32 0, .int .i32 0, .int .i32 0] 71)
          replace hp1 := hp1.alloc (.cells #[.int .i32 0, .int .i32 0, .int .i32 0] 71)
          replace n15 := n15.alloc (.cells #[.int .i32 0, .int .i32 0, .int .i32 0] 71)
          have n17 := Blk.new v15 71 #[.int .i32 0, .int .i32 0, .int .i32 0]
          replace hb := hb.alloc hb.size (.cells #[.int .i32 0, .int .i32 0, .int .i32 0] 71)
          generalize v15.alloc (.cells #[.int .i32 0, .int .i32 0, .int .i32 0] 71) = v17 at *
          generalize v15.heap.size = g17 at *
          refine hK.out _ _ ⟨hp0.cell 0, hp0.cell 1, hp0.cell 2, hp1.cell 0, hp1.cell 1, hp1.cell 2⟩ (fun hHeld => ?_)
          clear hK K
          try (simp only [Act.put, List.setIfInBounds_toArray, List.set_cons_zero, List.set_cons_succ])
          refine rd1 6 (fun K hK => ?_)
          have c0 : v17.cell? ⟨g17, 0, none⟩ = some (.int .i32 0) := n17.cell 0
          have z0 := n17.frozen 0
          have c1 : v17.cell? ⟨g17, 1, none⟩ = some (.int .i32 0) := n17.cell 1
          have z1 := n17.frozen 1
          have c2 : v17.cell? ⟨g17, 2, none⟩ = some (.int .i32 0) := n17.cell 2
          have z2 := n17.frozen 2
          go_simp
          try go_wp2_with fail
          replace hp0 := (((hp0.far (p := ⟨g17, 0, none⟩) (by dsimp only; omega) (.int .i32 a0)).far (p := ⟨g17, 1, none⟩) (by dsimp only; omega) (.int .i32 a1)).far (p := ⟨g17, 2, none⟩) (by dsimp only; omega) (.int .i32 a2))
          replace hp1 := (((hp1.far (p := ⟨g17, 0, none⟩) (by dsimp only; omega) (.int .i32 a0)).far (p := ⟨g17, 1, none⟩) (by dsimp only; omega) (.int .i32 a1)).far (p := ⟨g17, 2, none⟩) (by dsimp only; omega) (.int .i32 a2))
          replace n15 := (((n15.far (p := ⟨g17, 0, none⟩) (by dsimp only; omega) (.int .i32 a0)).far (p := ⟨g17, 1, none⟩) (by dsimp only; omega) (.int .i32 a1)).far (p := ⟨g17, 2, none⟩) (by dsimp only; omega) (.int .i32 a2))
          replace n17 := (((n17.set_ 0 (.int .i32 a0)).set_ 1 (.int .i32 a1)).set_ 2 (.int .i32 a2))
          replace hb := (((hb.setCell (p := ⟨g17, 0, none⟩) (by dsimp only; omega) (.int .i32 a0)).setCell (p := ⟨g17, 1, none⟩) (by dsimp only; omega) (.int .i32 a1)).setCell (p := ⟨g17, 2, none⟩) (by dsimp only; omega) (.int .i32 a2))
          clear c0 z0 c1 z1 c2 z2
          generalize (((v17.setCell ⟨g17, 0, none⟩ (.int .i32 a0)).setCell ⟨g17, 1, none⟩ (.int .i32 a1)).setCell ⟨g17, 2, none⟩ (.int .i32 a2)) = v19 at *
          refine hK.out _ _ ⟨hp0.cell 0, hp0.cell 1, hp0.cell 2, hp1.cell 0, hp1.cell 1, hp1.cell 2⟩ (fun hHeld => ?_)
          clear hK K
          try (simp only [Act.put, List.setIfInBounds_toArray, List.set_cons_zero, List.set_cons_succ])
          refine rd1 7 (fun K hK => ?_)
          have c0 : v19.cell? ⟨g15, 0, none⟩ = some (.int .i32 0) := n15.cell 0
          have z0 := n15.frozen 0
          have c1 : v19.cell? ⟨g15, 1, none⟩ = some (.int .i32 0) := n15.cell 1
          have z1 := n15.frozen 1
          have c2 : v19.cell? ⟨g15, 2, none⟩ = some (.int .i32 0) := n15.cell 2
          have z2 := n15.frozen 2
          go_simp
          try go_wp2_with fail
          replace hp0 := (((hp0.far (p := ⟨g15, 0, none⟩) (by dsimp only; omega) (.int .i32 b0)).far (p := ⟨g15, 1, none⟩) (by dsimp only; omega) (.int .i32 b1)).far (p := ⟨g15, 2, none⟩) (by dsimp only; omega) (.int .i32 b2))
          replace hp1 := (((hp1.far (p := ⟨g15, 0, none⟩) (by dsimp only; omega) (.int .i32 b0)).far (p := ⟨g15, 1, none⟩) (by dsimp only; omega) (.int .i32 b1)).far (p := ⟨g15, 2, none⟩) (by dsimp only; omega) (.int .i32 b2))
          replace n17 := (((n17.far (p := ⟨g15, 0, none⟩) (by dsimp only; omega) (.int .i32 b0)).far (p := ⟨g15, 1, none⟩) (by dsimp only; omega) (.int .i32 b1)).far (p := ⟨g15, 2, none⟩) (by dsimp only; omega) (.int .i32 b2))
          replace n15 := (((n15.set_ 0 (.int .i32 b0)).set_ 1 (.int .i32 b1)).set_ 2 (.int .i32 b2))
          replace hb := (((hb.setCell (p := ⟨g15, 0, none⟩) (by dsimp only; omega) (.int .i32 b0)).setCell (p := ⟨g15, 1, none⟩) (by dsimp only; omega) (.int .i32 b1)).setCell (p := ⟨g15, 2, none⟩) (by dsimp only; omega) (.int .i32 b2))
          clear c0 z0 c1 z1 c2 z2
          generalize (((v19.setCell ⟨g15, 0, none⟩ (.int .i32 b0)).setCell ⟨g15, 1, none⟩ (.int .i32 b1)).setCell ⟨g15, 2, none⟩ (.int .i32 b2)) = v21 at *
          refine hK.out _ _ ⟨hp0.cell 0, hp0.cell 1, hp0.cell 2, hp1.cell 0, hp1.cell 1, hp1.cell 2⟩ (fun hHeld => ?_)
          clear hK K
          try (simp only [Act.put, List.setIfInBounds_toArray, List.set_cons_zero, List.set_cons_succ])
          refine wpAnyH_done ?hru22 ?hqu22 _
          case hru22 => kernel_rfl
          refine NoPanic.normal ?_
          try go_wp2_with fail
          go_meet
          exact ⟨g17, g15, rfl, rfl, n17, n15, hb⟩
      case hc4q4 =>
        go_simp
        try go_wp2_with fail
        have lb23 := hb.size
        have l23hp0 := hp0.lt
        have l23hp1 := hp1.lt
        replace hp0 := hp0.alloc (.cells #[.int .i32 0, .int .i32 0, .int .i32 0] 71)
        replace hp1 := hp1.alloc (.cells #[.int .i32 0, .int .i32 0, .int .i32 0] 71)
        have n23 := Blk.new v3 71 #[.int .i32 0, .int .i32 0, .int .i32 0]
        replace hb := hb.alloc hb.size (.cells #[.int .i32 0, .int .i32 0, .int .i32 0] 71)
        generalize v3.alloc (.cells #[.int .i32 0, .int .i32 0, .int .i32 0] 71) = v23 at *
        generalize v3.heap.size = g23 at *
        refine hK.out _ _ ⟨hp0.cell 0, hp0.cell 1, hp0.cell 2, hp1.cell 0, hp1.cell 1, hp1.cell 2⟩ (fun hHeld => ?_)
        clear hK K
        try (simp only [Act.put, List.setIfInBounds_toArray, List.set_cons_zero, List.set_cons_succ])
        refine rd2 3 5 (fun K hK => ?hc24q3) (fun K hK => ?hc24q5)
        case hc24q3 =>
          go_simp
          refine (HQ.out _).mono ?_
          rintro e v25 ⟨rfl, bb⟩
          go_wp2_with fail
          replace hp0 := hp0.below bb hp0.lt
          replace hp1 := hp1.below bb hp1.lt
          replace n23 := n23.below bb n23.lt
          replace hb := hb.on bb
          clear bb
          refine hK.out _ _ ⟨hp0.cell 0, hp0.cell 1, hp0.cell 2, hp1.cell 0, hp1.cell 1, hp1.cell 2⟩ (fun hHeld => ?_)
          clear hK K
          try (simp only [Act.put, List.setIfInBounds_toArray, List.set_cons_zero, List.set_cons_succ])
          refine rd1 5 (fun K hK => ?_)
          go_simp
          try go_wp2_with fail
          have lb27 := hb.size
          have l27hp0 := hp0.lt
          have l27hp1 := hp1.lt
          have l27n23 := n23.lt
          replace hp0 := hp0.alloc (.cells #[.int .i32 0, .int .i32 0, .int .i32 0] 71)
          replace hp1 := hp1.alloc (.cells #[.int .i32 0, .int .i32 0, .int .i32 0] 71)
          replace n23 := n23.alloc (.cells #[.int .i32 0, .int .i32 0, .int .i32 0] 71)
          have n27 := Blk.new v25 71 #[.int .i32 0, .int .i32 0, .int .i32 0]
          replace hb := hb.alloc hb.size (.cells #[.int .i32 0, .int .i32 0, .int .i32 0] 71)
          generalize v25.alloc (.cells #[.int .i32 0, .int .i32 0, .int .i32 0] 71) = v27 at *
          generalize v25.heap.size = g27 at *
          refine hK.out _ _ ⟨hp0.cell 0, hp0.cell 1, hp0.cell 2, hp1.cell 0, hp1.cell 1, hp1.cell 2⟩ (fun hHeld => ?_)
          clear hK K
          try (simp only [Act.put, List.setIfInBounds_toArray, List.set_cons_zero, List.set_cons_succ])
          refine rd1 6 (fun K hK => ?_)
          have c0 : v27.cell? ⟨g23, 0, none⟩ = some (.int .i32 0) := n23.cell 0
          have z0 := n23.frozen 0
          have c1 : v27.cell? ⟨g23, 1, none⟩ = some (.int .i32 0) := n23.cell 1
          have z1 := n23.frozen 1
          have c2 : v27.cell? ⟨g23, 2, none⟩ = some (.int .i32 0) := n23.cell 2
          have z2 := n23.frozen 2
          go_simp
          try go_wp2_with fail
          replace hp0 := (((hp0.far (p := ⟨g23, 0, none⟩) (by dsimp only; omega) (.int .i32 a0)).far (p := ⟨g23, 1, none⟩) (by dsimp only; omega) (.int .i32 a1)).far (p := ⟨g23, 2, none⟩) (by dsimp only; omega) (.int .i32 a2))
          replace hp1 := (((hp1.far (p := ⟨g23, 0, none⟩) (by dsimp only; omega) (.int .i32 a0)).far (p := ⟨g23, 1, none⟩) (by dsimp only; omega) (.int .i32 a1)).far (p := ⟨g23, 2, none⟩) (by dsimp only; omega) (.int .i32 a2))
          replace n27 := (((n27.far (p := ⟨g23, 0, none⟩) (by dsimp only; omega) (.int .i32 a0)).far (p := ⟨g23, 1, none⟩) (by dsimp only; omega) (.int .i32 a1)).far (p := ⟨g23, 2, none⟩) (by dsimp only; omega) (.int .i32 a2))
          replace n23 := (((n23.set_ 0 (.int .i32 a0)).set_ 1 (.int .i32 a1)).set_ 2 (.int .i32 a2))
          replace hb := (((hb.setCell (p := ⟨g23, 0, none⟩) (by dsimp only; omega) (.int .i32 a0)).setCell (p := ⟨g23, 1, none⟩) (by dsimp only; omega) (.int .i32 a1)).setCell (p := ⟨g23, 2, none⟩) (by dsimp only; omega) (.int .i32 a2))
          clear c0 z0 c1 z1 c2 z2
          generalize (((v27.setCell ⟨g23, 0, none⟩ (.int .i32 a0)).setCell ⟨g23, 1, none⟩ (.int .i32 a1)).setCell ⟨g23, 2, none⟩ (.int .i32 a2)) = v29 at *
          refine hK.out _ _ ⟨hp0.cell 0, hp0.cell 1, hp0.cell 2, hp1.cell 0, hp1.cell 1, hp1.cell 2⟩ (fun hHeld => ?_)
          clear hK K
          try (simp only [Act.put, List.setIfInBounds_toArray, List.set_cons_zero, List.set_cons_succ])
          refine rd1 7 (fun K hK => ?_)
          have c0 : v29.cell? ⟨g27, 0, none⟩ = some (.int .i32 0) := n27.cell 0
          have z0 := n27.frozen 0
          have c1 : v29.cell? ⟨g27, 1, none⟩ = some (.int .i32 0) := n27.cell 1
          have z1 := n27.frozen 1
          have c2 : v29.cell? ⟨g27, 2, none⟩ = some (.int .i32 0) := n27.cell 2
          have z2 := n27.frozen 2
          go_simp
          try go_wp2_with fail
          replace hp0 := (((hp0.far (p := ⟨g27, 0, none⟩) (by dsimp only; omega) (.int .i32 b0)).far (p := ⟨g27, 1, none⟩) (by dsimp only; omega) (.int .i32 b1)).far (p := ⟨g27, 2, none⟩) (by dsimp only; omega) (.int .i32 b2))
          replace hp1 := (((hp1.far (p := ⟨g27, 0, none⟩) (by dsimp only; omega) (.int .i32 b0)).far (p := ⟨g27, 1, none⟩) (by dsimp only; omega) (.int .i32 b1)).far (p := ⟨g27, 2, none⟩) (by dsimp only; omega) (.int .i32 b2))
          replace n23 := (((n23.far (p := ⟨g27, 0, none⟩) (by dsimp only; omega) (.int .i32 b0)).far (p := ⟨g27, 1, none⟩) (by dsimp only; omega) (.int .i32 b1)).far (p := ⟨g27, 2, none⟩) (by dsimp only; omega) (.int .i32 b2))
          replace n27 := (((n27.set_ 0 (.int .i32 b0)).set_ 1 (.int .i32 b1)).set_ 2 (.int .i32 b2))
          replace hb := (((hb.setCell (p := ⟨g27, 0, none⟩) (by dsimp only; omega) (.int .i32 b0)).setCell (p := ⟨g27, 1, none⟩) (by dsimp only; omega) (.int .i32 b1)).setCell (p := ⟨g27, 2, none⟩) (by dsimp only; omega) (.int .i32 b2))
          clear c0 z0 c1 z1 c2 z2
          generalize (((v29.setCell ⟨g27, 0, none⟩ (.int .i32 b0)).setCell ⟨g27, 1, none⟩ (.int .i32 b1)).setCell ⟨g27, 2, none⟩ (.int .i32 b2)) = v31 at *
          refine hK.out _ _ ⟨hp0.cell 0, hp0.cell 1, hp0.cell 2, hp1.cell 0, hp1.cell 1, hp1.cell 2⟩ (fun hHeld => ?_)
          clear hK K
          try (simp only [Act.put, List.setIfInBounds_toArray, List.set_cons_zero, List.set_cons_succ])
          refine wpAnyH_done ?hru32 ?hqu32 _
          case hru32 => kernel_rfl
          refine NoPanic.normal ?_
          try go_wp2_with fail
          go_meet
          exact ⟨g23, g27, rfl, rfl, n23, n27, hb⟩
        case hc24q5 =>
          go_simp
          try go_wp2_with fail
          have lb33 := hb.size
          have l33hp0 := hp0.lt
          have l33hp1 := hp1.lt
          have l33n23 := n23.lt
          replace hp0 := hp0.alloc (.cells #[.int .i32 0, .int .i32 0, .int .i32 0] 71)
          replace hp1 := hp1.alloc (.cells #[.int .i32 0, .int .i32 0, .int .i32 0] 71)
          replace n23 := n23.alloc (.cells #[.int .i32 0, .int .i32 0, .int .i32 0] 71)
          have n33 := Blk.new v23 71 #[.int .i32 0, .int .i32 0, .int .i32 0]
          replace hb := hb.alloc hb.size (.cells #[.int .i32 0, .int .i32 0, .int .i32 0] 71)
          generalize v23.alloc (.cells #[.int .i32 0, .int .i32 0, .int .i32 0] 71) = v33 at *
          generalize v23.heap.size = g33 at *
          refine hK.out _ _ ⟨hp0.cell 0, hp0.cell 1, hp0.cell 2, hp1.cell 0, hp1.cell 1, hp1.cell 2⟩ (fun hHeld => ?_)
          clear hK K
          try (simp only [Act.put, List.setIfInBounds_toArray, List.set_cons_zero, List.set_cons_succ])
          refine rd1 3 (fun K hK => ?_)
          go_simp
          refine (HQ.out _).mono ?_
          rintro e v35 ⟨rfl, bb⟩
          go_wp2_with fail
          replace hp0 := hp0.below bb hp0.lt
          replace hp1 := hp1.below bb hp1.lt
          replace n23 := n23.below bb n23.lt
          replace n33 := n33.below bb n33.lt
          replace hb := hb.on bb
          clear bb
          refine hK.out _ _ ⟨hp0.cell 0, hp0.cell 1, hp0.cell 2, hp1.cell 0, hp1.cell 1, hp1.cell 2⟩ (fun hHeld => ?_)
          clear hK K
          try (simp only [Act.put, List.setIfInBounds_toArray, List.set_cons_zero, List.set_cons_succ])
          refine rd1 6 (fun K hK => ?_)
          have c0 : v35.cell? ⟨g23, 0, none⟩ = some (.int .i32 0) := n23.cell 0
          have z0 := n23.frozen 0
          have c1 : v35.cell? ⟨g23, 1, none⟩ = some (.int .i32 0) := n23.cell 1
          have z1 := n23.frozen 1
          have c2 : v35.cell? ⟨g23, 2, none⟩ = some (.int .i32 0) := n23.cell 2
          have z2 := n23.frozen 2
          go_simp
          try go_wp2_with fail
          replace hp0 := (((hp0.far (p := ⟨g23, 0, none⟩) (by dsimp only; omega) (.int .i32 a0)).far (p := ⟨g23, 1, none⟩) (by dsimp only; omega) (.int .i32 a1)).far (p := ⟨g23, 2, none⟩) (by dsimp only; omega) (.int .i32 a2))
          replace hp1 := (((hp1.far (p := ⟨g23, 0, none⟩) (by dsimp only; omega) (.int .i32 a0)).far (p := ⟨g23, 1, none⟩) (by dsimp only; omega) (.int .i32 a1)).far (p := ⟨g23, 2, none⟩) (by dsimp only; omega) (.int .i32 a2))
          replace n33 := (((n33.far (p := ⟨g23, 0, none⟩) (by dsimp only; omega) (.int .i32 a0)).far (p := ⟨g23, 1, none⟩) (by dsimp only; omega) (.int .i32 a1)).far (p := ⟨g23, 2, none⟩) (by dsimp only; omega) (.int .i32 a2))
          replace n23 := (((n23.set_ 0 (.int .i32 a0)).set_ 1 (.int .i32 a1)).set_ 2 (.int .i32 a2))
          replace hb := (((hb.setCell (p := ⟨g23, 0, none⟩) (by dsimp only; omega) (.int .i32 a0)).setCell (p := ⟨g23, 1, none⟩) (by dsimp only; omega) (.int .i32 a1)).setCell (p := ⟨g23, 2, none⟩) (by dsimp only; omega) (.int .i32 a2))
          clear c0 z0 c1 z1 c2 z2
          generalize (((v35.setCell ⟨g23, 0, none⟩ (.int .i32 a0)).setCell ⟨g23, 1, none⟩ (.int .i32 a1)).setCell ⟨g23, 2, none⟩ (.int .i32 a2)) = v37 at *
          refine hK.out _ _ ⟨hp0.cell 0, hp0.cell 1, hp0.cell 2, hp1.cell 0, hp1.cell 1, hp1.cell 2⟩ (fun hHeld => ?_)
          clear hK K
          try (simp only [Act.put, List.setIfInBounds_toArray, List.set_cons_zero, List.set_cons_succ])
          refine rd1 7 (fun K hK => ?_)
          have c0 : v37.cell? ⟨g33, 0, none⟩ = some (.int .i32 0) := n33.cell 0
          have z0 := n33.frozen 0
          have c1 : v37.cell? ⟨g33, 1, none⟩ = some (.int .i32 0) := n33.cell 1
          have z1 := n33.frozen 1
          have c2 : v37.cell? ⟨g33, 2, none⟩ = some (.int .i32 0) := n33.cell 2
          have z2 := n33.frozen 2
          go_simp
          try go_wp2_with fail
          replace hp0 := (((hp0.far (p := ⟨g33, 0, none⟩) (by dsimp only; omega) (.int .i32 b0)).far (p := ⟨g33, 1, none⟩) (by dsimp only; omega) (.int .i32 b1)).far (p := ⟨g33, 2, none⟩) (by dsimp only; omega) (.int .i32 b2))
          replace hp1 := (((hp1.far (p := ⟨g33, 0, none⟩) (by dsimp only; omega) (.int .i32 b0)).far (p := ⟨g33, 1, none⟩) (by dsimp only; omega) (.int .i32 b1)).far (p := ⟨g33, 2, none⟩) (by dsimp only; omega) (.int .i32 b2))
          replace n23 := (((n23.far (p := ⟨g33, 0, none⟩) (by dsimp only; omega) (.int .i32 b0)).far (p := ⟨g33, 1, none⟩) (by dsimp only; omega) (.int .i32 b1)).far (p := ⟨g33, 2, none⟩) (by dsimp only; omega) (.int .i32 b2))
          replace n33 := (((n33.set_ 0 (.int .i32 b0)).set_ 1 (.int .i32 b1)).set_ 2 (.int .i32 b2))
          replace hb := (((hb.setCell (p := ⟨g33, 0, none⟩) (by dsimp only; omega) (.int .i32 b0)).setCell (p := ⟨g33, 1, none⟩) (by dsimp only; omega) (.int .i32 b1)).setCell (p := ⟨g33, 2, none⟩) (by dsimp only; omega) (.int .i32 b2))
          clear c0 z0 c1 z1 c2 z2
          generalize (((v37.setCell ⟨g33, 0, none⟩ (.int .i32 b0)).setCell ⟨g33, 1, none⟩ (.int .i32 b1)).setCell ⟨g33, 2, none⟩ (.int .i32 b2)) = v39 at *
          refine hK.out _ _ ⟨hp0.cell 0, hp0.cell 1, hp0.cell 2, hp1.cell 0, hp1.cell 1, hp1.cell 2⟩ (fun hHeld => ?_)
          clear hK K
          try (simp only [Act.put, List.setIfInBounds_toArray, List.set_cons_zero, List.set_cons_succ])
          refine wpAnyH_done ?hru40 ?hqu40 _
          case hru40 => kernel_rfl
          refine NoPanic.normal ?_
          try go_wp2_with fail
          go_meet
          exact ⟨g23, g33, rfl, rfl, n23, n33, hb⟩
      case hc4q5 =>
        go_simp
        try go_wp2_with fail
        have lb41 := hb.size
        have l41hp0 := hp0.lt
        have l41hp1 := hp1.lt
        replace hp0 := hp0.alloc (.cells #[.int .i32 0, .int .i32 0, .int .i32 0] 71)
        replace hp1 := hp1.alloc (.cells #[.int .i32 0, .int .i32 0, .int .i32 0] 71)
        have n41 := Blk.new v3 71 #[.int .i32 0, .int .i32 0, .int .i32 0]
        replace hb := hb.alloc hb.size (.cells #[.int .i32 0, .int .i32 0, .int .i32 0] 71)
        generalize v3.alloc (.cells #[.int .i32 0, .int .i32 0, .int .i32 0] 71) = v41 at *
        generalize v3.heap.size = g41 at *
        refine hK.out _ _ ⟨hp0.cell 0, hp0.cell 1, hp0.cell 2, hp1.cell 0, hp1.cell 1, hp1.cell 2⟩ (fun hHeld => ?_)
        clear hK K
        try (simp only [Act.put, List.setIfInBounds_toArray, List.set_cons_zero, List.set_cons_succ])
        refine rd2 3 4 (fun K hK => ?hc42q3) (fun K hK => ?hc42q4)
        case hc42q3 =>
          go_simp
          refine (HQ.out _).mono ?_
          rintro e v43 ⟨rfl, bb⟩
          go_wp2_with fail
          replace hp0 := hp0.below bb hp0.lt
          replace hp1 := hp1.below bb hp1.lt
          replace n41 := n41.below bb n41.lt
          replace hb := hb.on bb
          clear bb
          refine hK.out _ _ ⟨hp0.cell 0, hp0.cell 1, hp0.cell 2, hp1.cell 0, hp1.cell 1, hp1.cell 2⟩ (fun hHeld => ?_)
          clear hK K
          try (simp only [Act.put, List.setIfInBounds_toArray, List.set_cons_zero, List.set_cons_succ])
          refine rd1 4 (fun K hK => ?_)
          go_simp
          try go_wp2_with fail
          have lb45 := hb.size
          have l45hp0 := hp0.lt
          have l45hp1 := hp1.lt
          have l45n41 := n41.lt
          replace hp0 := hp0.alloc (.cells #[.int .i32 0, .int .i32 0, .int .i32 0] 71)
          replace hp1 := hp1.alloc (.cells #[.int .i32 0, .int .i32 0, .int .i32 0] 71)
          replace n41 := n41.alloc (.cells #[.int .i32 0, .int .i32 0, .int .i32 0] 71)
          have n45 := Blk.new v43 71 #[.int .i32 0, .int .i32 0, .int .i32 0]
          replace hb := hb.alloc hb.size (.cells #[.int .i32 0, .int .i32 0, .int .i32 0] 71)
          generalize v43.alloc (.cells #[.int .i32 0, .int .i32 0, .int .i32 0] 71) = v45 at *
          generalize v43.heap.size = g45 at *
          refine hK.out _ _ ⟨hp0.cell 0, hp0.cell 1, hp0.cell 2, hp1.cell 0, hp1.cell 1, hp1.cell 2⟩ (fun hHeld => ?_)
          clear hK K
          try (simp only [Act.put, List.setIfInBounds_toArray, List.set_cons_zero, List.set_cons_succ])
          refine rd1 6 (fun K hK => ?_)
          have c0 : v45.cell? ⟨g45, 0, none⟩ = some (.int .i32 0) := n45.cell 0
          have z0 := n45.frozen 0
          have c1 : v45.cell? ⟨g45, 1, none⟩ = some (.int .i32 0) := n45.cell 1
          have z1 := n45.frozen 1
          have c2 : v45.cell? ⟨g45, 2, none⟩ = some (.int .i32 0) := n45.cell 2
          have z2 := n45.frozen 2
          go_simp
          try go_wp2_with fail
          replace hp0 := (((hp0.far (p := ⟨g45, 0, none⟩) (by dsimp only; omega) (.int .i32 a0)).far (p := ⟨g45, 1, none⟩) (by dsimp only; omega) (.int .i32 a1)).far (p := ⟨g45, 2, none⟩) (by dsimp only; omega) (.int .i32 a2))
          replace hp1 := (((hp1.far (p := ⟨g45, 0, none⟩) (by dsimp only; omega) (.int .i32 a0)).far (p := ⟨g45, 1, none⟩) (by dsimp only; omega) (.int .i32 a1)).far (p := ⟨g45, 2, none⟩) (by dsimp only; omega) (.int .i32 a2))
          replace n41 := (((n41.far (p := ⟨g45, 0, none⟩) (by dsimp only; omega) (.int .i32 a0)).far (p := ⟨g45, 1, none⟩) (by dsimp only; omega) (.int .i32 a1)).far (p := ⟨g45, 2, none⟩) (by dsimp only; omega) (.int .i32 a2))
          replace n45 := (((n45.set_ 0 (.int .i32 a0)).set_ 1 (.int .i32 a1)).set_ 2 (.int .i32 a2))
          replace hb := (((hb.setCell (p := ⟨g45, 0, none⟩) (by dsimp only; omega) (.int .i32 a0)).setCell (p := ⟨g45, 1, none⟩) (by dsimp only; omega) (.int .i32 a1)).setCell (p := ⟨g45, 2, none⟩) (by dsimp only; omega) (.int .i32 a2))
          clear c0 z0 c1 z1 c2 z2
          generalize (((v45.setCell ⟨g45, 0, none⟩ (.int .i32 a0)).setCell ⟨g45, 1, none⟩ (.int .i32 a1)).setCell ⟨g45, 2, none⟩ (.int .i32 a2)) = v47 at *
          refine hK.out _ _ ⟨hp0.cell 0, hp0.cell 1, hp0.cell 2, hp1.cell 0, hp1.cell 1, hp1.cell 2⟩ (fun hHeld => ?_)
          clear hK K
          try (simp only [Act.put, List.setIfInBounds_toArray, List.set_cons_zero, List.set_cons_succ])
          refine rd1 7 (fun K hK => ?_)
          have c0 : v47.cell? ⟨g41, 0, none⟩ = some (.int .i32 0) := n41.cell 0
          have z0 := n41.frozen 0
          have c1 : v47.cell? ⟨g41, 1, none⟩ = some (.int .i32 0) := n41.cell 1
          have z1 := n41.frozen 1
          have c2 : v47.cell? ⟨g41, 2, none⟩ = some (.int .i32 0) := n41.cell 2
          have z2 := n41.frozen 2
          go_simp
          try go_wp2_with fail
          replace hp0 := (((hp0.far (p := ⟨g41, 0, none⟩) (by dsimp only; omega) (.int .i32 b0)).far (p := ⟨g41, 1, none⟩) (by dsimp only; omega) (.int .i32 b1)).far (p := ⟨g41, 2, none⟩) (by dsimp only; omega) (.int .i32 b2))
          replace hp1 := (((hp1.far (p := ⟨g41, 0, none⟩) (by dsimp only; omega) (.int .i32 b0)).far (p := ⟨g41, 1, none⟩) (by dsimp only; omega) (.int .i32 b1)).far (p := ⟨g41, 2, none⟩) (by dsimp only; omega) (.int .i32 b2))
          replace n45 := (((n45.far (p := ⟨g41, 0, none⟩) (by dsimp only; omega) (.int .i32 b0)).far (p := ⟨g41, 1, none⟩) (by dsimp only; omega) (.int .i32 b1)).far (p := ⟨g41, 2, none⟩) (by dsimp only; omega) (.int .i32 b2))
          replace n41 := (((n41.set_ 0 (.int .i32 b0)).set_ 1 (.int .i32 b1)).set_ 2 (.int .i32 b2))
          replace hb := (((hb.setCell (p := ⟨g41, 0, none⟩) (by dsimp only; omega) (.int .i32 b0)).setCell (p := ⟨g41, 1, none⟩) (by dsimp only; omega) (.int .i32 b1)).setCell (p := ⟨g41, 2, none⟩) (by dsimp only; omega) (.int .i32 b2))
          clear c0 z0 c1 z1 c2 z2
          generalize (((v47.setCell ⟨g41, 0, none⟩ (.int .i32 b0)).setCell ⟨g41, 1, none⟩ (.int .i32 b1)).setCell ⟨g41, 2, none⟩ (.int .i32 b2)) = v49 at *
          refine hK.out _ _ ⟨hp0.cell 0, hp0.cell 1, hp0.cell 2, hp1.cell 0, hp1.cell 1, hp1.cell 2⟩ (fun hHeld => ?_)
          clear hK K
          try (simp only [Act.put, List.setIfInBounds_toArray, List.set_cons_zero, List.set_cons_succ])
          refine wpAnyH_done ?hru50 ?hqu50 _
          case hru50 => kernel_rfl
          refine NoPanic.normal ?_
          try go_wp2_with fail
          go_meet
          exact ⟨g45, g41, rfl, rfl, n45, n41, hb⟩
        case hc42q4 =>
          go_simp
          try go_wp2_with fail
          have lb51 := hb.size
          have l51hp0 := hp0.lt
          have l51hp1 := hp1.lt
          have l51n41 := n41.lt
          replace hp0 := hp0.alloc (.cells #[.int .i32 0, .int .i32 0, .int .i32 0] 71)
          replace hp1 := hp1.alloc (.cells #[.int .i32 0, .int .i32 0, .int .i32 0] 71)
          replace n41 := n41.alloc (.cells #[.int .i32 0, .int .i32 0, .int .i32 0] 71)
          have n51 := Blk.new v41 71 #[.int .i32 0, .int .i32 0, .int .i32 0]
          replace hb := hb.alloc hb.size (.cells #[.int .i32 0, .int .i32 0, .int .i32 0] 71)
          generalize v41.alloc (.cells #[.int .i32 0, .int .i32 0, .int .i32 0] 71) = v51 at *
          generalize v41.heap.size = g51 at *
          refine hK.out _ _ ⟨hp0.cell 0, hp0.cell 1, hp0.cell 2, hp1.cell 0, hp1.cell 1, hp1.cell 2⟩ (fun hHeld => ?_)
          clear hK K
          try (simp only [Act.put, List.setIfInBounds_toArray, List.set_cons_zero, List.set_cons_succ])
          refine rd1 3 (fun K hK => ?_)
          go_simp
          refine (HQ.out _).mono ?_
          rintro e v53 ⟨rfl, bb⟩
          go_wp2_with fail
          replace hp0 := hp0.below bb hp0.lt
          replace hp1 := hp1.below bb hp1.lt
          replace n41 := n41.below bb n41.lt
          replace n51 := n51.below bb n51.lt
          replace hb := hb.on bb
          clear bb
          refine hK.out _ _ ⟨hp0.cell 0, hp0.cell 1, hp0.cell 2, hp1.cell 0, hp1.cell 1, hp1.cell 2⟩ (fun hHeld => ?_)
          clear hK K
          try (simp only [Act.put, List.setIfInBounds_toArray, List.set_cons_zero, List.set_cons_succ])
          refine rd1 6 (fun K hK => ?_)
          have c0 : v53.cell? ⟨g51, 0, none⟩ = some (.int .i32 0) := n51.cell 0
          have z0 := n51.frozen 0
          have c1 : v53.cell? ⟨g51, 1, none⟩ = some (.int .i32 0) := n51.cell 1
          have z1 := n51.frozen 1
          have c2 : v53.cell? ⟨g51, 2, none⟩ = some (.int .i32 0) := n51.cell 2
          have z2 := n51.frozen 2
          go_simp
          try go_wp2_with fail
          replace hp0 := (((hp0.far (p := ⟨g51, 0, none⟩) (by dsimp only; omega) (.int .i32 a0)).far (p := ⟨g51, 1, none⟩) (by dsimp only; omega) (.int .i32 a1)).far (p := ⟨g51, 2, none⟩) (by dsimp only; omega) (.int .i32 a2))
          replace hp1 := (((hp1.far (p := ⟨g51, 0, none⟩) (by dsimp only; omega) (.int .i32 a0)).far (p := ⟨g51, 1, none⟩) (by dsimp only; omega) (.int .i32 a1)).far (p := ⟨g51, 2, none⟩) (by dsimp only; omega) (.int .i32 a2))
          replace n41 := (((n41.far (p := ⟨g51, 0, none⟩) (by dsimp only; omega) (.int .i32 a0)).far (p := ⟨g51, 1, none⟩) (by dsimp only; omega) (.int .i32 a1)).far (p := ⟨g51, 2, none⟩) (by dsimp only; omega) (.int .i32 a2))
          replace n51 := (((n51.set_ 0 (.int .i32 a0)).set_ 1 (.int .i32 a1)).set_ 2 (.int .i32 a2))
          replace hb := (((hb.setCell (p := ⟨g51, 0, none⟩) (by dsimp only; omega) (.int .i32 a0)).setCell (p := ⟨g51, 1, none⟩) (by dsimp only; omega) (.int .i32 a1)).setCell (p := ⟨g51, 2, none⟩) (by dsimp only; omega) (.int .i32 a2))
          clear c0 z0 c1 z1 c2 z2
          generalize (((v53.setCell ⟨g51, 0, none⟩ (.int .i32 a0)).setCell ⟨g51, 1, none⟩ (.int .i32 a1)).setCell ⟨g51, 2, none⟩ (.int .i32 a2)) = v55 at *
          refine hK.out _ _ ⟨hp0.cell 0, hp0.cell 1, hp0.cell 2, hp1.cell 0, hp1.cell 1, hp1.cell 2⟩ (fun hHeld => ?_)
          clear hK K
          try (simp only [Act.put, List.setIfInBounds_toArray, List.set_cons_zero, List.set_cons_succ])
          refine rd1 7 (fun K hK => ?_)
          have c0 : v55.cell? ⟨g41, 0, none⟩ = some (.int .i32 0) := n41.cell 0
          have z0 := n41.frozen 0
          have c1 : v55.cell? ⟨g41, 1, none⟩ = some (.int .i32 0) := n41.cell 1
          have z1 := n41.frozen 1
          have c2 : v55.cell? ⟨g41, 2, none⟩ = some (.int .i32 0) := n41.cell 2
          have z2 := n41.frozen 2
          go_simp
          try go_wp2_with fail
          replace hp0 := (((hp0.far (p := ⟨g41, 0, none⟩) (by dsimp only; omega) (.int .i32 b0)).far (p := ⟨g41, 1, none⟩) (by dsimp only; omega) (.int .i32 b1)).far (p := ⟨g41, 2, none⟩) (by dsimp only; omega) (.int .i32 b2))
          replace hp1 := (((hp1.far (p := ⟨g41, 0, none⟩) (by dsimp only; omega) (.int .i32 b0)).far (p := ⟨g41, 1, none⟩) (by dsimp only; omega) (.int .i32 b1)).far (p := ⟨g41, 2, none⟩) (by dsimp only; omega) (.int .i32 b2))
          replace n51 := (((n51.far (p := ⟨g41, 0, none⟩) (by dsimp only; omega) (.int .i32 b0)).far (p := ⟨g41, 1, none⟩) (by dsimp only; omega) (.int .i32 b1)).far (p := ⟨g41, 2, none⟩) (by dsimp only; omega) (.int .i32 b2))
          replace n41 := (((n41.set_ 0 (.int .i32 b0)).set_ 1 (.int .i32 b1)).set_ 2 (.int .i32 b2))
          replace hb := (((hb.setCell (p := ⟨g41, 0, none⟩) (by dsimp only; omega) (.int .i32 b0)).setCell (p := ⟨g41, 1, none⟩) (by dsimp only; omega) (.int .i32 b1)).setCell (p := ⟨g41, 2, none⟩) (by dsimp only; omega) (.int .i32 b2))
          clear c0 z0 c1 z1 c2 z2
          generalize (((v55.setCell ⟨g41, 0, none⟩ (.int .i32 b0)).setCell ⟨g41, 1, none⟩ (.int .i32 b1)).setCell ⟨g41, 2, none⟩ (.int .i32 b2)) = v57 at *
          refine hK.out _ _ ⟨hp0.cell 0, hp0.cell 1, hp0.cell 2, hp1.cell 0, hp1.cell 1, hp1.cell 2⟩ (fun hHeld => ?_)
          clear hK K
          try (simp only [Act.put, List.setIfInBounds_toArray, List.set_cons_zero, List.set_cons_succ])
          refine wpAnyH_done ?hru58 ?hqu58 _
          case hru58 => kernel_rfl
          refine NoPanic.normal ?_
          try go_wp2_with fail
          go_meet
          exact ⟨g51, g41, rfl, rfl, n51, n41, hb⟩
    case hc2q4 =>
      go_simp
      try go_wp2_with fail
      have lb59 := hb.size
      have l59hp0 := hp0.lt
      have l59hp1 := hp1.lt
      replace hp0 := hp0.alloc (.cells #[.int .i32 0, .int .i32 0, .int .i32 0] 71)
      replace hp1 := hp1.alloc (.cells #[.int .i32 0, .int .i32 0, .int .i32 0] 71)
      have n59 := Blk.new W1 71 #[.int .i32 0, .int .i32 0, .int .i32 0]
      replace hb := hb.alloc hb.size (.cells #[.int .i32 0, .int .i32 0, .int .i32 0] 71)
      generalize W1.alloc (.cells #[.int .i32 0, .int .i32 0, .int .i32 0] 71) = v59 at *
      generalize W1.heap.size = g59 at *
      refine hK.out _ _ ⟨hp0.cell 0, hp0.cell 1, hp0.cell 2, hp1.cell 0, hp1.cell 1, hp1.cell 2⟩ (fun hHeld => ?_)
      clear hK K
      try (simp only [Act.put, List.setIfInBounds_toArray, List.set_cons_zero, List.set_cons_succ])
      refine rd2 1 5 (fun K hK => ?hc60q1) (fun K hK => ?hc60q5)
      case hc60q1 =>
        go_simp
        refine (HP.out _).mono ?_
        rintro e v61 ⟨rfl, bb⟩
        go_wp2_with fail
        replace hp0 := hp0.below bb hp0.lt
        replace hp1 := hp1.below bb hp1.lt
        replace n59 := n59.below bb n59.lt
        replace hb := hb.on bb
        clear bb
        refine hK.out _ _ ⟨hp0.cell 0, hp0.cell 1, hp0.cell 2, hp1.cell 0, hp1.cell 1, hp1.cell 2⟩ (fun hHeld => ?_)
        clear hK K
        try (simp only [Act.put, List.setIfInBounds_toArray, List.set_cons_zero, List.set_cons_succ])
        refine rd2 3 5 (fun K hK => ?hc62q3) (fun K hK => ?hc62q5)
        case hc62q3 =>
          go_simp
          refine (HQ.out _).mono ?_
          rintro e v63 ⟨rfl, bb⟩
          go_wp2_with fail
          replace hp0 := hp0.below bb hp0.lt
          replace hp1 := hp1.below bb hp1.lt
          replace n59 := n59.below bb n59.lt
          replace hb := hb.on bb
          clear bb
          refine hK.out _ _ ⟨hp0.cell 0, hp0.cell 1, hp0.cell 2, hp1.cell 0, hp1.cell 1, hp1.cell 2⟩ (fun hHeld => ?_)
          clear hK K
          try (simp only [Act.put, List.setIfInBounds_toArray, List.set_cons_zero, List.set_cons_succ])
          refine rd1 5 (fun K hK => ?_)
          go_simp
          try go_wp2_with fail
          have lb65 := hb.size
          have l65hp0 := hp0.lt
          have l65hp1 := hp1.lt
          have l65n59 := n59.lt
          replace hp0 := hp0.alloc (.cells #[.int .i32 0, .int .i32 0, .int .i32 0] 71)
          replace hp1 := hp1.alloc (.cells #[.int .i32 0, .int .i32 0, .int .i32 0] 71)
          replace n59 := n59.alloc (.cells #[.int .i32 0, .int .i32 0, .int .i32 0] 71)
          have n65 := Blk.new v63 71 #[.int .i32 0, .int .i32 0, .int .i32 0]
          replace hb := hb.alloc hb.size (.cells #[.int .i32 0, .int .i32 0, .int .i32 0] 71)
          generalize v63.alloc (.cells #[.int .i32 0, .int .i32 0, .int .i32 0] 71) = v65 at *
          generalize v63.heap.size = g65 at *
          refine hK.out _ _ ⟨hp0.cell 0, hp0.cell 1, hp0.cell 2, hp1.cell 0, hp1.cell 1, hp1.cell 2⟩ (fun hHeld => ?_)
          clear hK K
          try (simp only [Act.put, List.setIfInBounds_toArray, List.set_cons_zero, List.set_cons_succ])
          refine rd1 6 (fun K hK => ?_)
          have c0 : v65.cell? ⟨g59, 0, none⟩ = some (.int .i32 0) := n59.cell 0
          have z0 := n59.frozen 0
          have c1 : v65.cell? ⟨g59, 1, none⟩ = some (.int .i32 0) := n59.cell 1
          have z1 := n59.frozen 1
          have c2 : v65.cell? ⟨g59, 2, none⟩ = some (.int .i32 0) := n59.cell 2
          have z2 := n59.frozen 2
          go_simp
          try go_wp2_with fail
          replace hp0 := (((hp0.far (p := ⟨g59, 0, none⟩) (by dsimp only; omega) (.int .i32 a0)).far (p := ⟨g59, 1, none⟩) (by dsimp only; omega) (.int .i32 a1)).far (p := ⟨g59, 2, none⟩) (by dsimp only; omega) (.int .i32 a2))
          replace hp1 := (((hp1.far (p := ⟨g59, 0, none⟩) (by dsimp only; omega) (.int .i32 a0)).far (p := ⟨g59, 1, none⟩) (by dsimp only; omega) (.int .i32 a1)).far (p := ⟨g59, 2, none⟩) (by dsimp only; omega) (.int .i32 a2))
          replace n65 := (((n65.far (p := ⟨g59, 0, none⟩) (by dsimp only; omega) (.int .i32 a0)).far (p := ⟨g59, 1, none⟩) (by dsimp only; omega) (.int .i32 a1)).far (p := ⟨g59, 2, none⟩) (by dsimp only; omega) (.int .i32 a2))
          replace n59 := (((n59.set_ 0 (.int .i32 a0)).set_ 1 (.int .i32 a1)).set_ 2 (.int .i32 a2))
          replace hb := (((hb.setCell (p := ⟨g59, 0, none⟩) (by dsimp only; omega) (.int .i32 a0)).setCell (p := ⟨g59, 1, none⟩) (by dsimp only; omega) (.int .i32 a1)).setCell (p := ⟨g59, 2, none⟩) (by dsimp only; omega) (.int .i32 a2))
          clear c0 z0 c1 z1 c2 z2
          generalize (((v65.setCell ⟨g59, 0, none⟩ (.int .i32 a0)).setCell ⟨g59, 1, none⟩ (.int .i32 a1)).setCell ⟨g59, 2, none⟩ (.int .i32 a2)) = v67 at *
          refine hK.out _ _ ⟨hp0.cell 0, hp0.cell 1, hp0.cell 2, hp1.cell 0, hp1.cell 1, hp1.cell 2⟩ (fun hHeld => ?_)
          clear hK K
          try (simp only [Act.put, List.setIfInBounds_toArray, List.set_cons_zero, List.set_cons_succ])
          refine rd1 7 (fun K hK => ?_)
          have c0 : v67.cell? ⟨g65, 0, none⟩ = some (.int .i32 0) := n65.cell 0
          have z0 := n65.frozen 0
          have c1 : v67.cell? ⟨g65, 1, none⟩ = some (.int .i32 0) := n65.cell 1
          have z1 := n65.frozen 1
          have c2 : v67.cell? ⟨g65, 2, none⟩ = some (.int .i32 0) := n65.cell 2
          have z2 := n65.frozen 2
          go_simp
          try go_wp2_with fail
          replace hp0 := (((hp0.far (p := ⟨g65, 0, none⟩) (by dsimp only; omega) (.int .i32 b0)).far (p := ⟨g65, 1, none⟩) (by dsimp only; omega) (.int .i32 b1)).far (p := ⟨g65, 2, none⟩) (by dsimp only; omega) (.int .i32 b2))
          replace hp1 := (((hp1.far (p := ⟨g65, 0, none⟩) (by dsimp only; omega) (.int .i32 b0)).far (p := ⟨g65, 1, none⟩) (by dsimp only; omega) (.int .i32 b1)).far (p := ⟨g65, 2, none⟩) (by dsimp only; omega) (.int .i32 b2))
          replace n59 := (((n59.far (p := ⟨g65, 0, none⟩) (by dsimp only; omega) (.int .i32 b0)).far (p := ⟨g65, 1, none⟩) (by dsimp only; omega) (.int .i32 b1)).far (p := ⟨g65, 2, none⟩) (by dsimp only; omega) (.int .i32 b2))
          replace n65 := (((n65.set_ 0 (.int .i32 b0)).set_ 1 (.int .i32 b1)).set_ 2 (.int .i32 b2))
          replace hb := (((hb.setCell (p := ⟨g65, 0, none⟩) (by dsimp only; omega) (.int .i32 b0)).setCell (p := ⟨g65, 1, none⟩) (by dsimp only; omega) (.int .i32 b1)).setCell (p := ⟨g65, 2, none⟩) (by dsimp only; omega) (.int .i32 b2))
          clear c0 z0 c1 z1 c2 z2
          generalize (((v67.setCell ⟨g65, 0, none⟩ (.int .i32 b0)).setCell ⟨g65, 1, none⟩ (.int .i32 b1)).setCell ⟨g65, 2, none⟩ (.int .i32 b2)) = v69 at *
          refine hK.out _ _ ⟨hp0.cell 0, hp0.cell 1, hp0.cell 2, hp1.cell 0, hp1.cell 1, hp1.cell 2⟩ (fun hHeld => ?_)
          clear hK K
          try (simp only [Act.put, List.setIfInBounds_toArray, List.set_cons_zero, List.set_cons_succ])
          refine wpAnyH_done ?hru70 ?hqu70 _
          case hru70 => kernel_rfl
          refine NoPanic.normal ?_
          try go_wp2_with fail
          go_meet
          exact ⟨g59, g65, rfl, rfl, n59, n65, hb⟩
        case hc62q5 =>
          go_simp
          try go_wp2_with fail
          have lb71 := hb.size
          have l71hp0 := hp0.lt
          have l71hp1 := hp1.lt
          have l71n59 := n59.lt
          replace hp0 := hp0.alloc (.cells #[.int .i32 0, .int .i32 0, .int .i32 0] 71)
          replace hp1 := hp1.alloc (.cells #[.int .i32 0, .int .i32 0, .int .i32 0] 71)
          replace n59 := n59.alloc (.cells #[.int .i32 0, .int .i32 0, .int .i32 0] 71)
          have n71 := Blk.new v61 71 #[.int .i32 0, .int .i32 0, .int .i32 0]
          replace hb := hb.alloc hb.size (.cells #[.int .i32 0, .int .i32 0, .int .i32 0] 71)
          generalize v61.alloc (.cells #[.int .i32 0, .int .i32 0, .int .i32 0] 71) = v71 at *
          generalize v61.heap.size = g71 at *
          refine hK.out _ _ ⟨hp0.cell 0, hp0.cell 1, hp0.cell 2, hp1.cell 0, hp1.cell 1, hp1.cell 2⟩ (fun hHeld => ?_)
          clear hK K
          try (simp only [Act.put, List.setIfInBounds_toArray, List.set_cons_zero, List.set_cons_succ])
          refine rd1 3 (fun K hK => ?_)
          go_simp
          refine (HQ.out _).mono ?_
          rintro e v73 ⟨rfl, bb⟩
          go_wp2_with fail
          replace hp0 := hp0.below bb hp0.lt
          replace hp1 := hp1.below bb hp1.lt
          replace n59 := n59.below bb n59.lt
          replace n71 := n71.below bb n71.lt
          replace hb := hb.on bb
          clear bb
          refine hK.out _ _ ⟨hp0.cell 0, hp0.cell 1, hp0.cell 2, hp1.cell 0, hp1.cell 1, hp1.cell 2⟩ (fun hHeld => ?_)
          clear hK K
          try (simp only [Act.put, List.setIfInBounds_toArray, List.set_cons_zero, List.set_cons_succ])
          refine rd1 6 (fun K hK => ?_)
          have c0 : v73.cell? ⟨g59, 0, none⟩ = some (.int .i32 0) := n59.cell 0
          have z0 := n59.frozen 0
          have c1 : v73.cell? ⟨g59, 1, none⟩ = some (.int .i32 0) := n59.cell 1
          have z1 := n59.frozen 1
          have c2 : v73.cell? ⟨g59, 2, none⟩ = some (.int .i32 0) := n59.cell 2
          have z2 := n59.frozen 2
          go_simp
          try go_wp2_with fail
          replace hp0 := (((hp0.far (p := ⟨g59, 0, none⟩) (by dsimp only; omega) (.int .i32 a0)).far (p := ⟨g59, 1, none⟩) (by dsimp only; omega) (.int .i32 a1)).far (p := ⟨g59, 2, none⟩) (by dsimp only; omega) (.int .i32 a2))
          replace hp1 := (((hp1.far (p := ⟨g59, 0, none⟩) (by dsimp only; omega) (.int .i32 a0)).far (p := ⟨g59, 1, none⟩) (by dsimp only; omega) (.int .i32 a1)).far (p := ⟨g59, 2, none⟩) (by dsimp only; omega) (.int .i32 a2))
          replace n71 := (((n71.far (p := ⟨g59, 0, none⟩) (by dsimp only; omega) (.int .i32 a0)).far (p := ⟨g59, 1, none⟩) (by dsimp only; omega) (.int .i32 a1)).far (p := ⟨g59, 2, none⟩) (by dsimp only; omega) (.int .i32 a2))
          replace n59 := (((n59.set_ 0 (.int .i32 a0)).set_ 1 (.int .i32 a1)).set_ 2 (.int .i32 a2))
          replace hb := (((hb.setCell (p := ⟨g59, 0, none⟩) (by dsimp only; omega) (.int .i32 a0)).setCell (p := ⟨g59, 1, none⟩) (by dsimp only; omega) (.int .i32 a1)).setCell (p := ⟨g59, 2, none⟩) (by dsimp only; omega) (.int .i32 a2))
          clear c0 z0 c1 z1 c2 z2
          generalize (((v73.setCell ⟨g59, 0, none⟩ (.int .i32 a0)).setCell ⟨g59, 1, none⟩ (.int .i32 a1)).setCell ⟨g59, 2, none⟩ (.int .i32 a2)) = v75 at *
          refine hK.out _ _ ⟨hp0.cell 0, hp0.cell 1, hp0.cell 2, hp1.cell 0, hp1.cell 1, hp1.cell 2⟩ (fun hHeld => ?_)
          clear hK K
          try (simp only [Act.put, List.setIfInBounds_toArray, List.set_cons_zero, List.set_cons_succ])
          refine rd1 7 (fun K hK => ?_)
          have c0 : v75.cell? ⟨g71, 0, none⟩ = some (.int .i32 0) := n71.cell 0
          have z0 := n71.frozen 0
          have c1 : v75.cell? ⟨g71, 1, none⟩ = some (.int .i32 0) := n71.cell 1
          have z1 := n71.frozen 1
          have c2 : v75.cell? ⟨g71, 2, none⟩ = some (.int .i32 0) := n71.cell 2
          have z2 := n71.frozen 2
          go_simp
          try go_wp2_with fail
          replace hp0 := (((hp0.far (p := ⟨g71, 0, none⟩) (by dsimp only; omega) (.int .i32 b0)).far (p := ⟨g71, 1, none⟩) (by dsimp only; omega) (.int .i32 b1)).far (p := ⟨g71, 2, none⟩) (by dsimp only; omega) (.int .i32 b2))
          replace hp1 := (((hp1.far (p := ⟨g71, 0, none⟩) (by dsimp only; omega) (.int .i32 b0)).far (p := ⟨g71, 1, none⟩) (by dsimp only; omega) (.int .i32 b1)).far (p := ⟨g71, 2, none⟩) (by dsimp only; omega) (.int .i32 b2))
          replace n59 := (((n59.far (p := ⟨g71, 0, none⟩) (by dsimp only; omega) (.int .i32 b0)).far (p := ⟨g71, 1, none⟩) (by dsimp only; omega) (.int .i32 b1)).far (p := ⟨g71, 2, none⟩) (by dsimp only; omega) (.int .i32 b2))
          replace n71 := (((n71.set_ 0 (.int .i32 b0)).set_ 1 (.int .i32 b1)).set_ 2 (.int .i32 b2))
          replace hb := (((hb.setCell (p := ⟨g71, 0, none⟩) (by dsimp only; omega) (.int .i32 b0)).setCell (p := ⟨g71, 1, none⟩) (by dsimp only; omega) (.int .i32 b1)).setCell (p := ⟨g71, 2, none⟩) (by dsimp only; omega) (.int .i32 b2))
          clear c0 z0 c1 z1 c2 z2
          generalize (((v75.setCell ⟨g71, 0, none⟩ (.int .i32 b0)).setCell ⟨g71, 1, none⟩ (.int .i32 b1)).setCell ⟨g71, 2, none⟩ (.int .i32 b2)) = v77 at *
          refine hK.out _ _ ⟨hp0.cell 0, hp0.cell 1, hp0.cell 2, hp1.cell 0, hp1.cell 1, hp1.cell 2⟩ (fun hHeld => ?_)
          clear hK K
          try (simp only [Act.put, List.setIfInBounds_toArray, List.set_cons_zero, List.set_cons_succ])
          refine wpAnyH_done ?hru78 ?hqu78 _
          case hru78 => kernel_rfl
          refine NoPanic.normal ?_
          try go_wp2_with fail
          go_meet
          exact ⟨g59, g71, rfl, rfl, n59, n71, hb⟩
      case hc60q5 =>
        go_simp
        try go_wp2_with fail
        have lb79 := hb.size
        have l79hp0 := hp0.lt
        have l79hp1 := hp1.lt
        have l79n59 := n59.lt
        replace hp0 := hp0.alloc (.cells #[.int .i32 0, .int .i32 0, .int .i32 0] 71)
        replace hp1 := hp1.alloc (.cells #[.int .i32 0, .int .i32 0, .int .i32 0] 71)
        replace n59 := n59.alloc (.cells #[.int .i32 0, .int .i32 0, .int .i32 0] 71)
        have n79 := Blk.new v59 71 #[.int .i32 0, .int .i32 0, .int .i32 0]
        replace hb := hb.alloc hb.size (.cells #[.int .i32 0, .int .i32 0, .int .i32 0] 71)
        generalize v59.alloc (.cells #[.int .i32 0, .int .i32 0, .int .i32 0] 71) = v79 at *
        generalize v59.heap.size = g79 at *
        refine hK.out _ _ ⟨hp0.cell 0, hp0.cell 1, hp0.cell 2, hp1.cell 0, hp1.cell 1, hp1.cell 2⟩ (fun hHeld => ?_)
        clear hK K
        try (simp only [Act.put, List.setIfInBounds_toArray, List.set_cons_zero, List.set_cons_succ])
        refine rd1 1 (fun K hK => ?_)
        go_simp
        refine (HP.out _).mono ?_
        rintro e v81 ⟨rfl, bb⟩
        go_wp2_with fail
        replace hp0 := hp0.below bb hp0.lt
        replace hp1 := hp1.below bb hp1.lt
        replace n59 := n59.below bb n59.lt
        replace n79 := n79.below bb n79.lt
        replace hb := hb.on bb
        clear bb
        refine hK.out _ _ ⟨hp0.cell 0, hp0.cell 1, hp0.cell 2, hp1.cell 0, hp1.cell 1, hp1.cell 2⟩ (fun hHeld => ?_)
        clear hK K
        try (simp only [Act.put, List.setIfInBounds_toArray, List.set_cons_zero, List.set_cons_succ])
        refine rd1 3 (fun K hK => ?_)
        go_simp
        refine (HQ.out _).mono ?_
        rintro e v83 ⟨rfl, bb⟩
        go_wp2_with fail
        replace hp0 := hp0.below bb hp0.lt
        replace hp1 := hp1.below bb hp1.lt
        replace n59 := n59.below bb n59.lt
        replace n79 := n79.below bb n79.lt
        replace hb := hb.on bb
        clear bb
        refine hK.out _ _ ⟨hp0.cell 0, hp0.cell 1, hp0.cell 2, hp1.cell 0, hp1.cell 1, hp1.cell 2⟩ (fun hHeld => ?_)
        clear hK K
        try (simp only [Act.put, List.setIfInBounds_toArray, List.set_cons_zero, List.set_cons_succ])
        refine rd1 6 (fun K hK => ?_)
        have c0 : v83.cell? ⟨g59, 0, none⟩ = some (.int .i32 0) := n59.cell 0
        have z0 := n59.frozen 0
        have c1 : v83.cell? ⟨g59, 1, none⟩ = some (.int .i32 0) := n59.cell 1
        have z1 := n59.frozen 1
        have c2 : v83.cell? ⟨g59, 2, none⟩ = some (.int .i32 0) := n59.cell 2
        have z2 := n59.frozen 2
        go_simp
        try go_wp2_with fail
        replace hp0 := (((hp0.far (p := ⟨g59, 0, none⟩) (by dsimp only; omega) (.int .i32 a0)).far (p := ⟨g59, 1, none⟩) (by dsimp only; omega) (.int .i32 a1)).far (p := ⟨g59, 2, none⟩) (by dsimp only; omega) (.int .i32 a2))
        replace hp1 := (((hp1.far (p := ⟨g59, 0, none⟩) (by dsimp only; omega) (.int .i32 a0)).far (p := ⟨g59, 1, none⟩) (by dsimp only; omega) (.int .i32 a1)).far (p := ⟨g59, 2, none⟩) (by dsimp only; omega) (.int .i32 a2))
        replace n79 := (((n79.far (p := ⟨g59, 0, none⟩) (by dsimp only; omega) (.int .i32 a0)).far (p := ⟨g59, 1, none⟩) (by dsimp only; omega) (.int .i32 a1)).far (p := ⟨g59, 2, none⟩) (by dsimp only; omega) (.int .i32 a2))
        replace n59 := (((n59.set_ 0 (.int .i32 a0)).set_ 1 (.int .i32 a1)).set_ 2 (.int .i32 a2))
        replace hb := (((hb.setCell (p := ⟨g59, 0, none⟩) (by dsimp only; omega) (.int .i32 a0)).setCell (p := ⟨g59, 1, none⟩) (by dsimp only; omega) (.int .i32 a1)).setCell (p := ⟨g59, 2, none⟩) (by dsimp only; omega) (.int .i32 a2))
        clear c0 z0 c1 z1 c2 z2
        generalize (((v83.setCell ⟨g59, 0, none⟩ (.int .i32 a0)).setCell ⟨g59, 1, none⟩ (.int .i32 a1)).setCell ⟨g59, 2, none⟩ (.int .i32 a2)) = v85 at *
        refine hK.out _ _ ⟨hp0.cell 0, hp0.cell 1, hp0.cell 2, hp1.cell 0, hp1.cell 1, hp1.cell 2⟩ (fun hHeld => ?_)
        clear hK K
        try (simp only [Act.put, List.setIfInBounds_toArray, List.set_cons_zero, List.set_cons_succ])
        refine rd1 7 (fun K hK => ?_)
        have c0 : v85.cell? ⟨g79, 0, none⟩ = some (.int .i32 0) := n79.cell 0
        have z0 := n79.frozen 0
        have c1 : v85.cell? ⟨g79, 1, none⟩ = some (.int .i32 0) := n79.cell 1
        have z1 := n79.frozen 1
        have c2 : v85.cell? ⟨g79, 2, none⟩ = some (.int .i32 0) := n79.cell 2
        have z2 := n79.frozen 2
        go_simp
        try go_wp2_with fail
        replace hp0 := (((hp0.far (p := ⟨g79, 0, none⟩) (by dsimp only; omega) (.int .i32 b0)).far (p := ⟨g79, 1, none⟩) (by dsimp only; omega) (.int .i32 b1)).far (p := ⟨g79, 2, none⟩) (by dsimp only; omega) (.int .i32 b2))
        replace hp1 := (((hp1.far (p := ⟨g79, 0, none⟩) (by dsimp only; omega) (.int .i32 b0)).far (p := ⟨g79, 1, none⟩) (by dsimp only; omega) (.int .i32 b1)).far (p := ⟨g79, 2, none⟩) (by dsimp only; omega) (.int .i32 b2))
        replace n59 := (((n59.far (p := ⟨g79, 0, none⟩) (by dsimp only; omega) (.int .i32 b0)).far (p := ⟨g79, 1, none⟩) (by dsimp only; omega) (.int .i32 b1)).far (p := ⟨g79, 2, none⟩) (by dsimp only; omega) (.int .i32 b2))
        replace n79 := (((n79.set_ 0 (.int .i32 b0)).set_ 1 (.int .i32 b1)).set_ 2 (.int .i32 b2))
        replace hb := (((hb.setCell (p := ⟨g79, 0, none⟩) (by dsimp only; omega) (.int .i32 b0)).setCell (p := ⟨g79, 1, none⟩) (by dsimp only; omega) (.int .i32 b1)).setCell (p := ⟨g79, 2, none⟩) (by dsimp only; omega) (.int .i32 b2))
        clear c0 z0 c1 z1 c2 z2
        generalize (((v85.setCell ⟨g79, 0, none⟩ (.int .i32 b0)).setCell ⟨g79, 1, none⟩ (.int .i32 b1)).setCell ⟨g79, 2, none⟩ (.int .i32 b2)) = v87 at *
        refine hK.out _ _ ⟨hp0.cell 0, hp0.cell 1, hp0.cell 2, hp1.cell 0, hp1.cell 1, hp1.cell 2⟩ (fun hHeld => ?_)
        clear hK K
        try (simp only [Act.put, List.setIfInBounds_toArray, List.set_cons_zero, List.set_cons_succ])
        refine wpAnyH_done ?hru88 ?hqu88 _
        case hru88 => kernel_rfl
        refine NoPanic.normal ?_
        try go_wp2_with fail
        go_meet
        exact ⟨g59, g79, rfl, rfl, n59, n79, hb⟩
    case hc2q5 =>
      go_simp
      try go_wp2_with fail
      have lb89 := hb.size
      have l89hp0 := hp0.lt
      have l89hp1 := hp1.lt
      replace hp0 := hp0.alloc (.cells #[.int .i32 0, .int .i32 0, .int .i32 0] 71)
      replace hp1 := hp1.alloc (.cells #[.int .i32 0, .int .i32 0, .int .i32 0] 71)
      have n89 := Blk.new W1 71 #[.int .i32 0, .int .i32 0, .int .i32 0]
      replace hb := hb.alloc hb.size (.cells #[.int .i32 0, .int .i32 0, .int .i32 0] 71)
      generalize W1.alloc (.cells #[.int .i32 0, .int .i32 0, .int .i32 0] 71) = v89 at *
      generalize W1.heap.size = g89 at *
      refine hK.out _ _ ⟨hp0.cell 0, hp0.cell 1, hp0.cell 2, hp1.cell 0, hp1.cell 1, hp1.cell 2⟩ (fun hHeld => ?_)
      clear hK K
      try (simp only [Act.put, List.setIfInBounds_toArray, List.set_cons_zero, List.set_cons_succ])
      refine rd2 1 4 (fun K hK => ?hc90q1) (fun K hK => ?hc90q4)
      case hc90q1 =>
        go_simp
        refine (HP.out _).mono ?_
        rintro e v91 ⟨rfl, bb⟩
        go_wp2_with fail
        replace hp0 := hp0.below bb hp0.lt
        replace hp1 := hp1.below bb hp1.lt
        replace n89 := n89.below bb n89.lt
        replace hb := hb.on bb
        clear bb
        refine hK.out _ _ ⟨hp0.cell 0, hp0.cell 1, hp0.cell 2, hp1.cell 0, hp1.cell 1, hp1.cell 2⟩ (fun hHeld => ?_)
        clear hK K
        try (simp only [Act.put, List.setIfInBounds_toArray, List.set_cons_zero, List.set_cons_succ])
        refine rd2 3 4 (fun K hK => ?hc92q3) (fun K hK => ?hc92q4)
        case hc92q3 =>
          go_simp
          refine (HQ.out _).mono ?_
          rintro e v93 ⟨rfl, bb⟩
          go_wp2_with fail
          replace hp0 := hp0.below bb hp0.lt
          replace hp1 := hp1.below bb hp1.lt
          replace n89 := n89.below bb n89.lt
          replace hb := hb.on bb
          clear bb
          refine hK.out _ _ ⟨hp0.cell 0, hp0.cell 1, hp0.cell 2, hp1.cell 0, hp1.cell 1, hp1.cell 2⟩ (fun hHeld => ?_)
          clear hK K
          try (simp only [Act.put, List.setIfInBounds_toArray, List.set_cons_zero, List.set_cons_succ])
          refine rd1 4 (fun K hK => ?_)
          go_simp
          try go_wp2_with fail
          have lb95 := hb.size
          have l95hp0 := hp0.lt
          have l95hp1 := hp1.lt
          have l95n89 := n89.lt
          replace hp0 := hp0.alloc (.cells #[.int .i32 0, .int .i32 0, .int .i32 0] 71)
          replace hp1 := hp1.alloc (.cells #[.int .i32 0, .int .i32 0, .int .i32 0] 71)
          replace n89 := n89.alloc (.cells #[.int .i32 0, .int .i32 0, .int .i32 0] 71)
          have n95 := Blk.new v93 71 #[.int .i32 0, .int .i32 0, .int .i32 0]
          replace hb := hb.alloc hb.size (.cells #[.int .i32 0, .int .i32 0, .int .i32 0] 71)
          generalize v93.alloc (.cells #[.int .i32 0, .int .i32 0, .int .i32 0] 71) = v95 at *
          generalize v93.heap.size = g95 at *
          refine hK.out _ _ ⟨hp0.cell 0, hp0.cell 1, hp0.cell 2, hp1.cell 0, hp1.cell 1, hp1.cell 2⟩ (fun hHeld => ?_)
          clear hK K
          try (simp only [Act.put, List.setIfInBounds_toArray, List.set_cons_zero, List.set_cons_succ])
          refine rd1 6 (fun K hK => ?_)
          have c0 : v95.cell? ⟨g95, 0, none⟩ = some (.int .i32 0) := n95.cell 0
          have z0 := n95.frozen 0
          have c1 : v95.cell? ⟨g95, 1, none⟩ = some (.int .i32 0) := n95.cell 1
          have z1 := n95.frozen 1
          have c2 : v95.cell? ⟨g95, 2, none⟩ = some (.int .i32 0) := n95.cell 2
          have z2 := n95.frozen 2
          go_simp
          try go_wp2_with fail
          replace hp0 := (((hp0.far (p := ⟨g95, 0, none⟩) (by dsimp only; omega) (.int .i32 a0)).far (p := ⟨g95, 1, none⟩) (by dsimp only; omega) (.int .i32 a1)).far (p := ⟨g95, 2, none⟩) (by dsimp only; omega) (.int .i32 a2))
          replace hp1 := (((hp1.far (p := ⟨g95, 0, none⟩) (by dsimp only; omega) (.int .i32 a0)).far (p := ⟨g95, 1, none⟩) (by dsimp only; omega) (.int .i32 a1)).far (p := ⟨g95, 2, none⟩) (by dsimp only; omega) (.int .i32 a2))
          replace n89 := (((n89.far (p := ⟨g95, 0, none⟩) (by dsimp only; omega) (.int .i32 a0)).far (p := ⟨g95, 1, none⟩) (by dsimp only; omega) (.int .i32 a1)).far (p := ⟨g95, 2, none⟩) (by dsimp only; omega) (.int .i32 a2))
          replace n95 := (((n95.set_ 0 (.int .i32 a0)).set_ 1 (.int .i32 a1)).set_ 2 (.int .i32 a2))
          replace hb := (((hb.setCell (p := ⟨g95, 0, none⟩) (by dsimp only; omega) (.int .i32 a0)).setCell (p := ⟨g95, 1, none⟩) (by dsimp only; omega) (.int .i32 a1)).setCell (p := ⟨g95, 2, none⟩) (by dsimp only; omega) (.int .i32 a2))
          clear c0 z0 c1 z1 c2 z2
          generalize (((v95.setCell ⟨g95, 0, none⟩ (.int .i32 a0)).setCell ⟨g95, 1, none⟩ (.int .i32 a1)).setCell ⟨g95, 2, none⟩ (.int .i32 a2)) = v97 at *
          refine hK.out _ _ ⟨hp0.cell 0, hp0.cell 1, hp0.cell 2, hp1.cell 0, hp1.cell 1, hp1.cell 2⟩ (fun hHeld => ?_)
          clear hK K
          try (simp only [Act.put, List.setIfInBounds_toArray, List.set_cons_zero, List.set_cons_succ])
          refine rd1 7 (fun K hK => ?_)
          have c0 : v97.cell? ⟨g89, 0, none⟩ = some (.int .i32 0) := n89.cell 0
          have z0 := n89.frozen 0
          have c1 : v97.cell? ⟨g89, 1, none⟩ = some (.int .i32 0) := n89.cell 1
          have z1 := n89.frozen 1
          have c2 : v97.cell? ⟨g89, 2, none⟩ = some (.int .i32 0) := n89.cell 2
          have z2 := n89.frozen 2
          go_simp
          try go_wp2_with fail
          replace hp0 := (((hp0.far (p := ⟨g89, 0, none⟩) (by dsimp only; omega) (.int .i32 b0)).far (p := ⟨g89, 1, none⟩) (by dsimp only; omega) (.int .i32 b1)).far (p := ⟨g89, 2, none⟩) (by dsimp only; omega) (.int .i32 b2))
          replace hp1 := (((hp1.far (p := ⟨g89, 0, none⟩) (by dsimp only; omega) (.int .i32 b0)).far (p := ⟨g89, 1, none⟩) (by dsimp only; omega) (.int .i32 b1)).far (p := ⟨g89, 2, none⟩) (by dsimp only; omega) (.int .i32 b2))
          replace n95 := (((n95.far (p := ⟨g89, 0, none⟩) (by dsimp only; omega) (.int .i32 b0)).far (p := ⟨g89, 1, none⟩) (by dsimp only; omega) (.int .i32 b1)).far (p := ⟨g89, 2, none⟩) (by dsimp only; omega) (.int .i32 b2))
          replace n89 := (((n89.set_ 0 (.int .i32 b0)).set_ 1 (.int .i32 b1)).set_ 2 (.int .i32 b2))
          replace hb := (((hb.setCell (p := ⟨g89, 0, none⟩) (by dsimp only; omega) (.int .i32 b0)).setCell (p := ⟨g89, 1, none⟩) (by dsimp only; omega) (.int .i32 b1)).setCell (p := ⟨g89, 2, none⟩) (by dsimp only; omega) (.int .i32 b2))
          clear c0 z0 c1 z1 c2 z2
          generalize (((v97.setCell ⟨g89, 0, none⟩ (.int .i32 b0)).setCell ⟨g89, 1, none⟩ (.int .i32 b1)).setCell ⟨g89, 2, none⟩ (.int .i32 b2)) = v99 at *
          refine hK.out _ _ ⟨hp0.cell 0, hp0.cell 1, hp0.cell 2, hp1.cell 0, hp1.cell 1, hp1.cell 2⟩ (fun hHeld => ?_)
          clear hK K
          try (simp only [Act.put, List.setIfInBounds_toArray, List.set_cons_zero, List.set_cons_succ])
          refine wpAnyH_done ?hru100 ?hqu100 _
          case hru100 => kernel_rfl
          refine NoPanic.normal ?_
          try go_wp2_with fail
          go_meet
          exact ⟨g95, g89, rfl, rfl, n95, n89, hb⟩
        case hc92q4 =>
          go_simp
          try go_wp2_with fail
          have lb101 := hb.size
          have l101hp0 := hp0.lt
          have l101hp1 := hp1.lt
          have l101n89 := n89.lt
          replace hp0 := hp0.alloc (.cells #[.int .i32 0, .int .i32 0, .int .i32 0] 71)
          replace hp1 := hp1.alloc (.cells #[.int .i32 0, .int .i32 0, .int .i32 0] 71)
          replace n89 := n89.alloc (.cells #[.int .i32 0, .int .i32 0, .int .i32 0] 71)
          have n101 := Blk.new v91 71 #[.int .i32 0, .int .i32 0, .int .i32 0]
          replace hb := hb.alloc hb.size (.cells #[.int .i32 0, .int .i32 0, .int .i32 0] 71)
          generalize v91.alloc (.cells #[.int .i32 0, .int .i32 0, .int .i32 0] 71) = v101 at *
          generalize v91.heap.size = g101 at *
          refine hK.out _ _ ⟨hp0.cell 0, hp0.cell 1, hp0.cell 2, hp1.cell 0, hp1.cell 1, hp1.cell 2⟩ (fun hHeld => ?_)
          clear hK K
          try (simp only [Act.put, List.setIfInBounds_toArray, List.set_cons_zero, List.set_cons_succ])
          refine rd1 3 (fun K hK => ?_)
          go_simp
          refine (HQ.out _).mono ?_
          rintro e v103 ⟨rfl, bb⟩
          go_wp2_with fail
          replace hp0 := hp0.below bb hp0.lt
          replace hp1 := hp1.below bb hp1.lt
          replace n89 := n89.below bb n89.lt
          replace n101 := n101.below bb n101.lt
          replace hb := hb.on bb
          clear bb
          refine hK.out _ _ ⟨hp0.cell 0, hp0.cell 1, hp0.cell 2, hp1.cell 0, hp1.cell 1, hp1.cell 2⟩ (fun hHeld => ?_)
          clear hK K
          try (simp only [Act.put, List.setIfInBounds_toArray, List.set_cons_zero, List.set_cons_succ])
          refine rd1 6 (fun K hK => ?_)
          have c0 : v103.cell? ⟨g101, 0, none⟩ = some (.int .i32 0) := n101.cell 0
          have z0 := n101.frozen 0
          have c1 : v103.cell? ⟨g101, 1, none⟩ = some (.int .i32 0) := n101.cell 1
          have z1 := n101.frozen 1
          have c2 : v103.cell? ⟨g101, 2, none⟩ = some (.int .i32 0) := n101.cell 2
          have z2 := n101.frozen 2
          go_simp
          try go_wp2_with fail
          replace hp0 := (((hp0.far (p := ⟨g101, 0, none⟩) (by dsimp only; omega) (.int .i32 a0)).far (p := ⟨g101, 1, none⟩) (by dsimp only; omega) (.int .i32 a1)).far (p := ⟨g101, 2, none⟩) (by dsimp only; omega) (.int .i32 a2))
          replace hp1 := (((hp1.far (p := ⟨g101, 0, none⟩) (by dsimp only; omega) (.int .i32 a0)).far (p := ⟨g101, 1, none⟩) (by dsimp only; omega) (.int .i32 a1)).far (p := ⟨g101, 2, none⟩) (by dsimp only; omega) (.int .i32 a2))
          replace n89 := (((n89.far (p := ⟨g101, 0, none⟩) (by dsimp only; omega) (.int .i32 a0)).far (p := ⟨g101, 1, none⟩) (by dsimp only; omega) (.int .i32 a1)).far (p := ⟨g101, 2, none⟩) (by dsimp only; omega) (.int .i32 a2))
          replace n101 := (((n101.set_ 0 (.int .i32 a0)).set_ 1 (.int .i32 a1)).set_ 2 (.int .i32 a2))
          replace hb := (((hb.setCell (p := ⟨g101, 0, none⟩) (by dsimp only; omega) (.int .i32 a0)).setCell (p := ⟨g101, 1, none⟩) (by dsimp only; omega) (.int .i32 a1)).setCell (p := ⟨g101, 2, none⟩) (by dsimp only; omega) (.int .i32 a2))
          clear c0 z0 c1 z1 c2 z2
          generalize (((v103.setCell ⟨g101, 0, none⟩ (.int .i32 a0)).setCell ⟨g101, 1, none⟩ (.int .i32 a1)).setCell ⟨g101, 2, none⟩ (.int .i32 a2)) = v105 at *
          refine hK.out _ _ ⟨hp0.cell 0, hp0.cell 1, hp0.cell 2, hp1.cell 0, hp1.cell 1, hp1.cell 2⟩ (fun hHeld => ?_)
          clear hK K
          try (simp only [Act.put, List.setIfInBounds_toArray, List.set_cons_zero, List.set_cons_succ])
          refine rd1 7 (fun K hK => ?_)
          have c0 : v105.cell? ⟨g89, 0, none⟩ = some (.int .i32 0) := n89.cell 0
          have z0 := n89.frozen 0
          have c1 : v105.cell? ⟨g89, 1, none⟩ = some (.int .i32 0) := n89.cell 1
          have z1 := n89.frozen 1
          have c2 : v105.cell? ⟨g89, 2, none⟩ = some (.int .i32 0) := n89.cell 2
          have z2 := n89.frozen 2
          go_simp
          try go_wp2_with fail
          replace hp0 := (((hp0.far (p := ⟨g89, 0, none⟩) (by dsimp only; omega) (.int .i32 b0)).far (p := ⟨g89, 1, none⟩) (by dsimp only; omega) (.int .i32 b1)).far (p := ⟨g89, 2, none⟩) (by dsimp only; omega) (.int .i32 b2))
          replace hp1 := (((hp1.far (p := ⟨g89, 0, none⟩) (by dsimp only; omega) (.int .i32 b0)).far (p := ⟨g89, 1, none⟩) (by dsimp only; omega) (.int .i32 b1)).far (p := ⟨g89, 2, none⟩) (by dsimp only; omega) (.int .i32 b2))
          replace n101 := (((n101.far (p := ⟨g89, 0, none⟩) (by dsimp only; omega) (.int .i32 b0)).far (p := ⟨g89, 1, none⟩) (by dsimp only; omega) (.int .i32 b1)).far (p := ⟨g89, 2, none⟩) (by dsimp only; omega) (.int .i32 b2))
          replace n89 := (((n89.set_ 0 (.int .i32 b0)).set_ 1 (.int .i32 b1)).set_ 2 (.int .i32 b2))
          replace hb := (((hb.setCell (p := ⟨g89, 0, none⟩) (by dsimp only; omega) (.int .i32 b0)).setCell (p := ⟨g89, 1, none⟩) (by dsimp only; omega) (.int .i32 b1)).setCell (p := ⟨g89, 2, none⟩) (by dsimp only; omega) (.int .i32 b2))
          clear c0 z0 c1 z1 c2 z2
          generalize (((v105.setCell ⟨g89, 0, none⟩ (.int .i32 b0)).setCell ⟨g89, 1, none⟩ (.int .i32 b1)).setCell ⟨g89, 2, none⟩ (.int .i32 b2)) = v107 at *
          refine hK.out _ _ ⟨hp0.cell 0, hp0.cell 1, hp0.cell 2, hp1.cell 0, hp1.cell 1, hp1.cell 2⟩ (fun hHeld => ?_)
          clear hK K
          try (simp only [Act.put, List.setIfInBounds_toArray, List.set_cons_zero, List.set_cons_succ])
          refine wpAnyH_done ?hru108 ?hqu108 _
          case hru108 => kernel_rfl
          refine NoPanic.normal ?_
          try go_wp2_with fail
          go_meet
          exact ⟨g101, g89, rfl, rfl, n101, n89, hb⟩
      case hc90q4 =>
        go_simp
        try go_wp2_with fail
        have lb109 := hb.size
        have l109hp0 := hp0.lt
        have l109hp1 := hp1.lt
        have l109n89 := n89.lt
        replace hp0 := hp0.alloc (.cells #[.int .i32 0, .int .i32 0, .int .i32 0] 71)
        replace hp1 := hp1.alloc (.cells #[.int .i32 0, .int .i32 0, .int .i32 0] 71)
        replace n89 := n89.alloc (.cells #[.int .i32 0, .int .i32 0, .int .i32 0] 71)
        have n109 := Blk.new v89 71 #[.int .i32 0, .int .i32 0, .int .i32 0]
        replace hb := hb.alloc hb.size (.cells #[.int .i32 0, .int .i32 0, .int .i32 0] 71)
        generalize v89.alloc (.cells #[.int .i32 0, .int .i32 0, .int .i32 0] 71) = v109 at *
        generalize v89.heap.size = g109 at *
        refine hK.out _ _ ⟨hp0.cell 0, hp0.cell 1, hp0.cell 2, hp1.cell 0, hp1.cell 1, hp1.cell 2⟩ (fun hHeld => ?_)
        clear hK K
        try (simp only [Act.put, List.setIfInBounds_toArray, List.set_cons_zero, List.set_cons_succ])
        refine rd1 1 (fun K hK => ?_)
        go_simp
        refine (HP.out _).mono ?_
        rintro e v111 ⟨rfl, bb⟩
        go_wp2_with fail
        replace hp0 := hp0.below bb hp0.lt
        replace hp1 := hp1.below bb hp1.lt
        replace n89 := n89.below bb n89.lt
        replace n109 := n109.below bb n109.lt
        replace hb := hb.on bb
        clear bb
        refine hK.out _ _ ⟨hp0.cell 0, hp0.cell 1, hp0.cell 2, hp1.cell 0, hp1.cell 1, hp1.cell 2⟩ (fun hHeld => ?_)
        clear hK K
        try (simp only [Act.put, List.setIfInBounds_toArray, List.set_cons_zero, List.set_cons_succ])
        refine rd1 3 (fun K hK => ?_)
        go_simp
        refine (HQ.out _).mono ?_
        rintro e v113 ⟨rfl, bb⟩
        go_wp2_with fail
        replace hp0 := hp0.below bb hp0.lt
        replace hp1 := hp1.below bb hp1.lt
        replace n89 := n89.below bb n89.lt
        replace n109 := n109.below bb n109.lt
        replace hb := hb.on bb
        clear bb
        refine hK.out _ _ ⟨hp0.cell 0, hp0.cell 1, hp0.cell 2, hp1.cell 0, hp1.cell 1, hp1.cell 2⟩ (fun hHeld => ?_)
        clear hK K
        try (simp only [Act.put, List.setIfInBounds_toArray, List.set_cons_zero, List.set_cons_succ])
        refine rd1 6 (fun K hK => ?_)
        have c0 : v113.cell? ⟨g109, 0, none⟩ = some (.int .i32 0) := n109.cell 0
        have z0 := n109.frozen 0
        have c1 : v113.cell? ⟨g109, 1, none⟩ = some (.int .i32 0) := n109.cell 1
        have z1 := n109.frozen 1
        have c2 : v113.cell? ⟨g109, 2, none⟩ = some (.int .i32 0) := n109.cell 2
        have z2 := n109.frozen 2
        go_simp
        try go_wp2_with fail
        replace hp0 := (((hp0.far (p := ⟨g109, 0, none⟩) (by dsimp only; omega) (.int .i32 a0)).far (p := ⟨g109, 1, none⟩) (by dsimp only; omega) (.int .i32 a1)).far (p := ⟨g109, 2, none⟩) (by dsimp only; omega) (.int .i32 a2))
        replace hp1 := (((hp1.far (p := ⟨g109, 0, none⟩) (by dsimp only; omega) (.int .i32 a0)).far (p := ⟨g109, 1, none⟩) (by dsimp only; omega) (.int .i32 a1)).far (p := ⟨g109, 2, none⟩) (by dsimp only; omega) (.int .i32 a2))
        replace n89 := (((n89.far (p := ⟨g109, 0, none⟩) (by dsimp only; omega) (.int .i32 a0)).far (p := ⟨g109, 1, none⟩) (by dsimp only; omega) (.int .i32 a1)).far (p := ⟨g109, 2, none⟩) (by dsimp only; omega) (.int .i32 a2))
        replace n109 := (((n109.set_ 0 (.int .i32 a0)).set_ 1 (.int .i32 a1)).set_ 2 (.int .i32 a2))
        replace hb := (((hb.setCell (p := ⟨g109, 0, none⟩) (by dsimp only; omega) (.int .i32 a0)).setCell (p := ⟨g109, 1, none⟩) (by dsimp only; omega) (.int .i32 a1)).setCell (p := ⟨g109, 2, none⟩) (by dsimp only; omega) (.int .i32 a2))
        clear c0 z0 c1 z1 c2 z2
        generalize (((v113.setCell ⟨g109, 0, none⟩ (.int .i32 a0)).setCell ⟨g109, 1, none⟩ (.int .i32 a1)).setCell ⟨g109, 2, none⟩ (.int .i32 a2)) = v115 at *
        refine hK.out _ _ ⟨hp0.cell 0, hp0.cell 1, hp0.cell 2, hp1.cell 0, hp1.cell 1, hp1.cell 2⟩ (fun hHeld => ?_)
        clear hK K
        try (simp only [Act.put, List.setIfInBounds_toArray, List.set_cons_zero, List.set_cons_succ])
        refine rd1 7 (fun K hK => ?_)
        have c0 : v115.cell? ⟨g89, 0, none⟩ = some (.int .i32 0) := n89.cell 0
        have z0 := n89.frozen 0
        have c1 : v115.cell? ⟨g89, 1, none⟩ = some (.int .i32 0) := n89.cell 1
        have z1 := n89.frozen 1
        have c2 : v115.cell? ⟨g89, 2, none⟩ = some (.int .i32 0) := n89.cell 2
        have z2 := n89.frozen 2
        go_simp
        try go_wp2_with fail
        replace hp0 := (((hp0.far (p := ⟨g89, 0, none⟩) (by dsimp only; omega) (.int .i32 b0)).far (p := ⟨g89, 1, none⟩) (by dsimp only; omega) (.int .i32 b1)).far (p := ⟨g89, 2, none⟩) (by dsimp only; omega) (.int .i32 b2))
        replace hp1 := (((hp1.far (p := ⟨g89, 0, none⟩) (by dsimp only; omega) (.int .i32 b0)).far (p := ⟨g89, 1, none⟩) (by dsimp only; omega) (.int .i32 b1)).far (p := ⟨g89, 2, none⟩) (by dsimp only; omega) (.int .i32 b2))
        replace n109 := (((n109.far (p := ⟨g89, 0, none⟩) (by dsimp only; omega) (.int .i32 b0)).far (p := ⟨g89, 1, none⟩) (by dsimp only; omega) (.int .i32 b1)).far (p := ⟨g89, 2, none⟩) (by dsimp only; omega) (.int .i32 b2))
        replace n89 := (((n89.set_ 0 (.int .i32 b0)).set_ 1 (.int .i32 b1)).set_ 2 (.int .i32 b2))
        replace hb := (((hb.setCell (p := ⟨g89, 0, none⟩) (by dsimp only; omega) (.int .i32 b0)).setCell (p := ⟨g89, 1, none⟩) (by dsimp only; omega) (.int .i32 b1)).setCell (p := ⟨g89, 2, none⟩) (by dsimp only; omega) (.int .i32 b2))
        clear c0 z0 c1 z1 c2 z2
        generalize (((v115.setCell ⟨g89, 0, none⟩ (.int .i32 b0)).setCell ⟨g89, 1, none⟩ (.int .i32 b1)).setCell ⟨g89, 2, none⟩ (.int .i32 b2)) = v117 at *
        refine hK.out _ _ ⟨hp0.cell 0, hp0.cell 1, hp0.cell 2, hp1.cell 0, hp1.cell 1, hp1.cell 2⟩ (fun hHeld => ?_)
        clear hK K
        try (simp only [Act.put, List.setIfInBounds_toArray, List.set_cons_zero, List.set_cons_succ])
        refine wpAnyH_done ?hru118 ?hqu118 _
        case hru118 => kernel_rfl
        refine NoPanic.normal ?_
        try go_wp2_with fail
        go_meet
        exact ⟨g109, g89, rfl, rfl, n109, n89, hb⟩
  case rest =>
    clear hp0 hp1 hb
    obtain ⟨g, h, rfl, rfl, hA, hB, hb⟩ := hcut
    go_wp2
    go_loopw [8, 14] (fun s i wr => ∃ I S : Int, i = .int .i64 I ∧ s = .int .i64 S ∧ Hid (DotS a0 a1 a2 b0 b1 b2 I S) ∧ Blk wr g 71 #[.int .i32 a0, .int .i32 a1, .int .i32 a2] ∧ Blk wr h 71 #[.int .i32 b0, .int .i32 b1, .int .i32 b2] ∧ Below w.heap.size w wr) (fun _ i _ => 3 - (intOf i).toNat)
    case atStart => exact ⟨0, 0, rfl, rfl, .inl ⟨rfl, rfl⟩, hA, hB, hb⟩
    case round =>
      clear hA hB hb
      obtain ⟨I, S, rfl, rfl, hS, hA, hB, hb⟩ := hrel
      rcases hS.out with ⟨rfl, rfl⟩ | ⟨rfl, rfl⟩ | ⟨rfl, rfl⟩ | ⟨rfl, rfl⟩
      · clear hS
        go_wp2
        refine wp_region_noPanic ?_
        refine wp_region_held_drew (S := (fun w' : World => w'.cell? ⟨g, 0, none⟩ = some (.int .i32 a0) ∧ w'.cell? ⟨g, 1, none⟩ = some (.int .i32 a1) ∧ w'.cell? ⟨g, 2, none⟩ = some (.int .i32 a2) ∧ w'.cell? ⟨h, 0, none⟩ = some (.int .i32 b0) ∧ w'.cell? ⟨h, 1, none⟩ = some (.int .i32 b1) ∧ w'.cell? ⟨h, 2, none⟩ = some (.int .i32 b2))) (by kernel_rfl) ⟨hA.cell 0, hA.cell 1, hA.cell 2, hB.cell 0, hB.cell 1, hB.cell 2⟩ (fun hHeld => ?_)
        refine (show wpAnyH _ _ _ _ _ 10 _ _ _ from ?_)
        try (simp only [Act.put, List.setIfInBounds_toArray, List.set_cons_zero, List.set_cons_succ])
        replace hA := hA.drew
        replace hB := hB.drew
        replace hb := hb.drew
        generalize wr.drew = W119 at *
        refine tk 0 hHeld ?_
        refine tk 1 hHeld ?_
        refine tk 2 hHeld ?_
        refine tk 3 hHeld ?_
        refine tk 4 hHeld ?_
        refine tk 5 hHeld ?_
        refine tk 6 hHeld ?_
        refine rd1 7 (fun K hK => ?_)
        go_simp
        refine (H0.out _).mono ?_
        rintro e w120x ⟨rfl, b120x⟩
        go_wp2_with fail
        refine hK.out _ _ ⟨(hA.below b120x hA.lt).cell 0, (hA.below b120x hA.lt).cell 1, (hA.below b120x hA.lt).cell 2, (hB.below b120x hB.lt).cell 0, (hB.below b120x hB.lt).cell 1, (hB.below b120x hB.lt).cell 2⟩ (fun hHeld => ?_)
        clear hK K
        try (simp only [Act.put, List.setIfInBounds_toArray, List.set_cons_zero, List.set_cons_succ])
        refine tk 8 hHeld ?_
        refine tk 9 hHeld ?_
        refine wpAnyH_done ?hru121 ?hqu121 _
        case hru121 => kernel_rfl
        refine NoPanic.normal ?_
        go_wp2
        go_round
        case rel => exact ⟨1, tvP a0 b0, rfl, rfl, .inr (.inl ⟨rfl, rfl⟩), hA.below b120x hA.lt, hB.below b120x hB.lt, hb.on b120x⟩
        case measure => simp [intOf]
      · clear hS
        go_wp2
        refine wp_region_noPanic ?_
        refine wp_region_held_drew (S := (fun w' : World => w'.cell? ⟨g, 0, none⟩ = some (.int .i32 a0) ∧ w'.cell? ⟨g, 1, none⟩ = some (.int .i32 a1) ∧ w'.cell? ⟨g, 2, none⟩ = some (.int .i32 a2) ∧ w'.cell? ⟨h, 0, none⟩ = some (.int .i32 b0) ∧ w'.cell? ⟨h, 1, none⟩ = some (.int .i32 b1) ∧ w'.cell? ⟨h, 2, none⟩ = some (.int .i32 b2))) (by kernel_rfl) ⟨hA.cell 0, hA.cell 1, hA.cell 2, hB.cell 0, hB.cell 1, hB.cell 2⟩ (fun hHeld => ?_)
        refine (show wpAnyH _ _ _ _ _ 10 _ _ _ from ?_)
        try (simp only [Act.put, List.setIfInBounds_toArray, List.set_cons_zero, List.set_cons_succ])
        replace hA := hA.drew
        replace hB := hB.drew
        replace hb := hb.drew
        generalize wr.drew = W122 at *
        refine tk 0 hHeld ?_
        refine tk 1 hHeld ?_
        refine tk 2 hHeld ?_
        refine tk 3 hHeld ?_
        refine tk 4 hHeld ?_
        refine tk 5 hHeld ?_
        refine tk 6 hHeld ?_
        refine rd1 7 (fun K hK => ?_)
        go_simp
        refine (H1.out _).mono ?_
        rintro e w123x ⟨rfl, b123x⟩
        go_wp2_with fail
        refine hK.out _ _ ⟨(hA.below b123x hA.lt).cell 0, (hA.below b123x hA.lt).cell 1, (hA.below b123x hA.lt).cell 2, (hB.below b123x hB.lt).cell 0, (hB.below b123x hB.lt).cell 1, (hB.below b123x hB.lt).cell 2⟩ (fun hHeld => ?_)
        clear hK K
        try (simp only [Act.put, List.setIfInBounds_toArray, List.set_cons_zero, List.set_cons_succ])
        refine tk 8 hHeld ?_
        refine tk 9 hHeld ?_
        refine wpAnyH_done ?hru124 ?hqu124 _
        case hru124 => kernel_rfl
        refine NoPanic.normal ?_
        go_wp2
        go_round
        case rel => exact ⟨2, tvP a0 b0 + tvP a1 b1, rfl, rfl, .inr (.inr (.inl ⟨rfl, rfl⟩)), hA.below b123x hA.lt, hB.below b123x hB.lt, hb.on b123x⟩
        case measure => simp [intOf]
      · clear hS
        go_wp2
        refine wp_region_noPanic ?_
        refine wp_region_held_drew (S := (fun w' : World => w'.cell? ⟨g, 0, none⟩ = some (.int .i32 a0) ∧ w'.cell? ⟨g, 1, none⟩ = some (.int .i32 a1) ∧ w'.cell? ⟨g, 2, none⟩ = some (.int .i32 a2) ∧ w'.cell? ⟨h, 0, none⟩ = some (.int .i32 b0) ∧ w'.cell? ⟨h, 1, none⟩ = some (.int .i32 b1) ∧ w'.cell? ⟨h, 2, none⟩ = some (.int .i32 b2))) (by kernel_rfl) ⟨hA.cell 0, hA.cell 1, hA.cell 2, hB.cell 0, hB.cell 1, hB.cell 2⟩ (fun hHeld => ?_)
        refine (show wpAnyH _ _ _ _ _ 10 _ _ _ from ?_)
        try (simp only [Act.put, List.setIfInBounds_toArray, List.set_cons_zero, List.set_cons_succ])
        replace hA := hA.drew
        replace hB := hB.drew
        replace hb := hb.drew
        generalize wr.drew = W125 at *
        refine tk 0 hHeld ?_
        refine tk 1 hHeld ?_
        refine tk 2 hHeld ?_
        refine tk 3 hHeld ?_
        refine tk 4 hHeld ?_
        refine tk 5 hHeld ?_
        refine tk 6 hHeld ?_
        refine rd1 7 (fun K hK => ?_)
        go_simp
        refine (H2.out _).mono ?_
        rintro e w126x ⟨rfl, b126x⟩
        go_wp2_with fail
        refine hK.out _ _ ⟨(hA.below b126x hA.lt).cell 0, (hA.below b126x hA.lt).cell 1, (hA.below b126x hA.lt).cell 2, (hB.below b126x hB.lt).cell 0, (hB.below b126x hB.lt).cell 1, (hB.below b126x hB.lt).cell 2⟩ (fun hHeld => ?_)
        clear hK K
        try (simp only [Act.put, List.setIfInBounds_toArray, List.set_cons_zero, List.set_cons_succ])
        refine tk 8 hHeld ?_
        refine tk 9 hHeld ?_
        refine wpAnyH_done ?hru127 ?hqu127 _
        case hru127 => kernel_rfl
        refine NoPanic.normal ?_
        go_wp2
        go_round
        case rel => exact ⟨3, tvP a0 b0 + tvP a1 b1 + tvP a2 b2, rfl, rfl, .inr (.inr (.inr (⟨rfl, rfl⟩))), hA.below b126x hA.lt, hB.below b126x hB.lt, hb.on b126x⟩
        case measure => simp [intOf]
      · clear hS
        go_wp2_with fail
        refine (HC.out _).mono ?_
        rintro e w' ⟨rfl, rfl⟩
        go_wp2
        go_ret2
        exact ⟨by rw [HD.out]; rfl, hb⟩

theorem v_Length (a0 a1 a2 : Int) (w : World) (ia0 : I32 a0) (ia1 : I32 a1) (ia2 : I32 a2) :
    Calls Try.prog 49 #[.agg #[.int .i32 a0, .int .i32 a1, .int .i32 a2]] w fun e w' => e = .returned (.int .u32 (rootP (sqP [a0, a1, a2]))) ∧ Below w.heap.size w w' := by
  have HL := hid fun (g : Nat) w h => root_Length (some ⟨g, 0, none⟩) 3 3 [a0, a1, a2] w h (by unfold I32 at *; simp; omega) (by omega)
  have HP := hid fun w => v_parts a0 a1 a2 w
  generalize rootP (sqP [a0, a1, a2]) = r at *
  have hb : Below w.heap.size w (w.alloc (.cells #[.int .i32 a0, .int .i32 a1, .int .i32 a2] 40)) := (Below.refl _ w).alloc (Nat.le_refl _) _
  go_enter Try.func49, Try.ntmps49
  go_wp2_with fail
  generalize w.alloc (.cells #[.int .i32 a0, .int .i32 a1, .int .i32 a2] 40) = W0 at *
  refine (HP.out _).mono ?_
  rintro e w1 ⟨rfl, b1⟩
  replace hb := (hb.on b1).alloc (hb.on b1).size (.cells #[.int .i32 a0, .int .i32 a1, .int .i32 a2] 71)
  have hA := Blk.new w1 71 #[.int .i32 a0, .int .i32 a1, .int .i32 a2]
  go_wp2_with fail
  refine (HL.out _ _ (Row.blk hA rfl hA.lt)).mono ?_
  rintro e w' ⟨rfl, rfl⟩
  go_wp2
  go_ret
  exact ⟨rfl, hb⟩

def FarS (a0 a1 a2 I S : Int) : Prop := (I = 0 ∧ S = 0) ∨ (I = 1 ∧ S = farP [a0]) ∨ (I = 2 ∧ S = farP [a0, a1]) ∨ (I = 3 ∧ S = farP [a0, a1, a2])
def Up3 (a0 a1 a2 g0 g1 g2 I l0 l1 l2 : Int) : Prop :=
  (I = 0 ∧ a0 = l0 ∧ a1 = l1 ∧ a2 = l2) ∨ (I = 1 ∧ g0 = l0 ∧ a1 = l1 ∧ a2 = l2) ∨ (I = 2 ∧ g0 = l0 ∧ g1 = l1 ∧ a2 = l2) ∨ (I = 3 ∧ g0 = l0 ∧ g1 = l1 ∧ g2 = l2)
def Doubles (a0 a1 a2 : Int) (w : World) (e : Ending) (w' : World) : Prop := e = .returned (.agg #[.int .i32 (a0 * 2 ^ upN [a0, a1, a2]), .int .i32 (a1 * 2 ^ upN [a0, a1, a2]), .int .i32 (a2 * 2 ^ upN [a0, a1, a2])]) ∧ Below w.heap.size w w'
set_option maxHeartbeats 16000000 in
theorem v_doubled (a0 a1 a2 : Int) (w : World) (ia0 : I32 a0) (ia1 : I32 a1) (ia2 : I32 a2) (hz : 0 < farP [a0, a1, a2]) :
    Calls Try.prog 65 #[.agg #[.int .i32 a0, .int .i32 a1, .int .i32 a2]] w (Doubles a0 a1 a2 w) := by
  obtain ⟨n30, hG, hL1, hL2, hL3⟩ := up_facts [a0, a1, a2] (by unfold I32 at *; simp; omega) hz
  simp only [List.mem_cons, List.not_mem_nil, or_false, forall_eq_or_imp, forall_eq] at hG hL3
  obtain ⟨f0, f1, f2, _⟩ := farP_facts [a0, a1, a2] (by unfold I32 at *; simp; omega)
  have HS := hid (shN_facts _ hz)
  have HBD := hid (shN_bd (farP [a0, a1, a2]) ⟨hz, f1⟩)
  have HM := hid fun k => And.intro (mul_pow_bd a0 _ k (f2 a0 (by simp))) (And.intro (mul_pow_bd a1 _ k (f2 a1 (by simp))) (mul_pow_bd a2 _ k (f2 a2 (by simp))))
  have b1 := (farP_facts [a0] (by unfold I32 at *; simp; omega))
  have b2 := (farP_facts [a0, a1] (by unfold I32 at *; simp; omega))
  have c1 : 0 ≤ farP [a0] ∧ farP [a0] ≤ 2147483648 := ⟨b1.1, b1.2.1⟩
  have c2 : 0 ≤ farP [a0, a1] ∧ farP [a0, a1] ≤ 2147483648 := ⟨b2.1, b2.2.1⟩
  have e1 : Hid (farP [a0] = max (max 0 a0) (-a0)) := rfl
  have e2 : Hid (farP [a0, a1] = max (max (farP [a0]) a1) (-a1)) := rfl
  have e3 : Hid (farP [a0, a1, a2] = max (max (farP [a0, a1]) a2) (-a2)) := rfl
  clear b1 b2 f2 hL1 hL2 hL3
  have s0 : IntKind.i64.wrap a0 = a0 := IntWalk.i64_in _ (by unfold I32 at *; omega)
  have t0 : IntKind.i64.wrap (-a0) = -a0 := IntWalk.i64_in _ (by unfold I32 at *; omega)
  have X0 : ∀ w, (Instr.index 71 (.agg #[.int .i32 a0, .int .i32 a1, .int .i32 a2]) (.int .i64 0)).run Try.prog w = .ok (.int .i32 a0) w := fun _ => by kernel_rfl
  have s1 : IntKind.i64.wrap a1 = a1 := IntWalk.i64_in _ (by unfold I32 at *; omega)
  have t1 : IntKind.i64.wrap (-a1) = -a1 := IntWalk.i64_in _ (by unfold I32 at *; omega)
  have X1 : ∀ w, (Instr.index 71 (.agg #[.int .i32 a0, .int .i32 a1, .int .i32 a2]) (.int .i64 1)).run Try.prog w = .ok (.int .i32 a1) w := fun _ => by kernel_rfl
  have s2 : IntKind.i64.wrap a2 = a2 := IntWalk.i64_in _ (by unfold I32 at *; omega)
  have t2 : IntKind.i64.wrap (-a2) = -a2 := IntWalk.i64_in _ (by unfold I32 at *; omega)
  have X2 : ∀ w, (Instr.index 71 (.agg #[.int .i32 a0, .int .i32 a1, .int .i32 a2]) (.int .i64 2)).run Try.prog w = .ok (.int .i32 a2) w := fun _ => by kernel_rfl
  have hp : Blk ((w.alloc (.cells #[.int .i32 a0, .int .i32 a1, .int .i32 a2] 71)).alloc (.cells #[.int .i32 0, .int .i32 0, .int .i32 0] 71)) w.heap.size 71 #[.int .i32 a0, .int .i32 a1, .int .i32 a2] := (Blk.new w _ _).alloc _
  have hr : Blk ((w.alloc (.cells #[.int .i32 a0, .int .i32 a1, .int .i32 a2] 71)).alloc (.cells #[.int .i32 0, .int .i32 0, .int .i32 0] 71)) (w.heap.size + 1) 71 #[.int .i32 0, .int .i32 0, .int .i32 0] := by have := Blk.new (w.alloc (.cells #[.int .i32 a0, .int .i32 a1, .int .i32 a2] 71)) 71 #[.int .i32 0, .int .i32 0, .int .i32 0]; simpa using this
  have hb : Below w.heap.size w ((w.alloc (.cells #[.int .i32 a0, .int .i32 a1, .int .i32 a2] 71)).alloc (.cells #[.int .i32 0, .int .i32 0, .int .i32 0] 71)) := ((Below.refl _ w).alloc (Nat.le_refl _) _).alloc (by simp) _
  go_enter Try.func65, Try.ntmps65
  go_wp2
  generalize (w.alloc (.cells #[.int .i32 a0, .int .i32 a1, .int .i32 a2] 71)).alloc (.cells #[.int .i32 0, .int .i32 0, .int .i32 0] 71) = W0 at *
  go_loop [3, 8] (fun s i => ∃ I S : Int, i = .int .i64 I ∧ s = .int .i64 S ∧ Hid (FarS a0 a1 a2 I S)) (fun _ i => 3 - (intOf i).toNat)
  case atStart => exact ⟨0, 0, rfl, rfl, .inl ⟨rfl, rfl⟩⟩
  case round =>
    obtain ⟨I, S, rfl, rfl, hS⟩ := hrel
    rcases hS.out with ⟨rfl, rfl⟩ | ⟨rfl, rfl⟩ | ⟨rfl, rfl⟩ | ⟨rfl, rfl⟩
    · clear hS
      go_wp2
      go_round
      case rel => exact ⟨1, _, rfl, rfl, .inr (.inl ⟨rfl, (max3 _ _).trans e1.out.symm⟩)⟩
      case measure => simp [intOf]
    · clear hS
      go_wp2
      go_round
      case rel => exact ⟨2, _, rfl, rfl, .inr (.inr (.inl ⟨rfl, (max3 _ _).trans e2.out.symm⟩))⟩
      case measure => simp [intOf]
    · clear hS
      go_wp2
      go_round
      case rel => exact ⟨3, _, rfl, rfl, .inr (.inr (.inr (⟨rfl, (max3 _ _).trans e3.out.symm⟩)))⟩
      case measure => simp [intOf]
    · clear hS e1 e2 e3 c1 c2
      unfold upN at *
      generalize hF : farP [a0, a1, a2] = Fa at *
      have HF := hid hF
      clear hF
      generalize hN : shN Fa = N at *
      have HN := hid hN
      clear hN
      clear s0 s1 s2 t0 t1 t2 X0 X1 X2
      go_wp2
      go_loopw [3, 6] (fun s i6 wr => ∃ (k : Nat) (S l0 l1 l2 : Int), s = .int .i64 S ∧ k ≤ N ∧ Hid (S = Fa * 2 ^ k ∧ l0 = a0 * 2 ^ k ∧ l1 = a1 * 2 ^ k ∧ l2 = a2 * 2 ^ k) ∧ Blk wr w.heap.size 71 #[.int .i32 l0, .int .i32 l1, .int .i32 l2] ∧ Blk wr (w.heap.size + 1) 71 #[.int .i32 0, .int .i32 0, .int .i32 0] ∧ Below w.heap.size w wr) (fun s _ _ => (4294967296 - intOf s).toNat)
      case atStart => exact ⟨0, Fa, a0, a1, a2, rfl, by omega, ⟨by simp, by simp, by simp, by simp⟩, hp, hr, hb⟩
      case round =>
        clear hp hr hb
        obtain ⟨k, S, l0, l1, l2, rfl, hk, hl, hp, hr, hb⟩ := hrel
        have hl2 := hl.out
        have hS2 := HS.out
        have hB2 := HBD.out k hk
        have hM2 := HM.out k
        obtain ⟨m0, m1, m2⟩ := hM2
        rw [← hl2.1] at hB2
        rw [← hl2.1, ← hl2.2.1] at m0
        rw [← hl2.1, ← hl2.2.2.1] at m1
        rw [← hl2.1, ← hl2.2.2.2] at m2
        have hSp : 0 < S := by have := Int.mul_pos hz (show (0 : Int) < 2 ^ k from Int.pow_pos (by omega)); omega
        by_cases g : k < N
        · have hlt := hS2.2.2 k g
          rw [← hl2.1] at hlt
          have dd : decide (S < 1073741824) = true := by simpa using hlt
          have us : IntKind.i64.wrap (S * 2) = S * 2 := IntWalk.i64_in _ (by omega)
          have u0 : IntKind.i32.wrap (l0 * 2) = l0 * 2 := IntWalk.i32_in _ (by omega)
          have u1 : IntKind.i32.wrap (l1 * 2) = l1 * 2 := IntWalk.i32_in _ (by omega)
          have u2 : IntKind.i32.wrap (l2 * 2) = l2 * 2 := IntWalk.i32_in _ (by omega)
          have ms : (4294967296 - S * 2).toNat < (4294967296 - S).toNat := by omega
          have HL2 : Hid (S * 2 = Fa * 2 ^ (k + 1) ∧ l0 * 2 = a0 * 2 ^ (k + 1) ∧ l1 * 2 = a1 * 2 ^ (k + 1) ∧ l2 * 2 = a2 * 2 ^ (k + 1)) := hid (by
            obtain ⟨e0, e1, e2, e3⟩ := hl2
            rw [e0, e1, e2, e3]
            simp only [Int.pow_succ, Int.mul_assoc, and_self])
          clear hl2 hS2 hB2 m0 m1 m2 hl hlt
          go_wp2
          go_loopw [23] (fun i wr => ∃ I q0 q1 q2 : Int, i = .int .i64 I ∧ Hid (Up3 l0 l1 l2 (l0 * 2) (l1 * 2) (l2 * 2) I q0 q1 q2) ∧ Blk wr w.heap.size 71 #[.int .i32 q0, .int .i32 q1, .int .i32 q2] ∧ Blk wr (w.heap.size + 1) 71 #[.int .i32 0, .int .i32 0, .int .i32 0] ∧ Below w.heap.size w wr) (fun i _ => 3 - (intOf i).toNat)
          case atStart => exact ⟨0, l0, l1, l2, rfl, .inl ⟨rfl, rfl, rfl, rfl⟩, hp, hr, hb⟩
          case round =>
            clear hp hr hb
            obtain ⟨I, q0, q1, q2, rfl, hq, hp, hr, hb⟩ := hrel
            rcases hq.out with ⟨rfl, rfl, rfl, rfl⟩ | ⟨rfl, rfl, rfl, rfl⟩ | ⟨rfl, rfl, rfl, rfl⟩ | ⟨rfl, rfl, rfl, rfl⟩
            · have c0 : wr.cell? ⟨w.heap.size, 0, none⟩ = some (.int .i32 l0) := hp.cell 0
              have z0 := hp.frozen 0
              clear hq
              go_wp2
              go_round
              case rel => exact ⟨1, l0 * 2, l1, l2, rfl, .inr (.inl ⟨rfl, rfl, rfl, rfl⟩), hp.set_ 0 _, hr.far (p := ⟨w.heap.size, 0, none⟩) (by dsimp only; omega) _, hb.setCell (p := ⟨w.heap.size, 0, none⟩) (Nat.le_refl _) _⟩
              case measure => simp [intOf]
            · have c0 : wr.cell? ⟨w.heap.size, 1, none⟩ = some (.int .i32 l1) := hp.cell 1
              have z0 := hp.frozen 1
              clear hq
              go_wp2
              go_round
              case rel => exact ⟨2, l0 * 2, l1 * 2, l2, rfl, .inr (.inr (.inl ⟨rfl, rfl, rfl, rfl⟩)), hp.set_ 1 _, hr.far (p := ⟨w.heap.size, 1, none⟩) (by dsimp only; omega) _, hb.setCell (p := ⟨w.heap.size, 1, none⟩) (Nat.le_refl _) _⟩
              case measure => simp [intOf]
            · have c0 : wr.cell? ⟨w.heap.size, 2, none⟩ = some (.int .i32 l2) := hp.cell 2
              have z0 := hp.frozen 2
              clear hq
              go_wp2
              go_round
              case rel => exact ⟨3, l0 * 2, l1 * 2, l2 * 2, rfl, .inr (.inr (.inr (⟨rfl, rfl, rfl, rfl⟩))), hp.set_ 2 _, hr.far (p := ⟨w.heap.size, 2, none⟩) (by dsimp only; omega) _, hb.setCell (p := ⟨w.heap.size, 2, none⟩) (Nat.le_refl _) _⟩
              case measure => simp [intOf]
            · clear hq
              go_wp2
              go_round
              case rel => exact ⟨k + 1, S * 2, l0 * 2, l1 * 2, l2 * 2, rfl, by omega, HL2, hp, hr, hb⟩
              case measure => simpa [intOf] using ms
        · obtain rfl : N = k := by omega
          have dd : decide (S < 1073741824) = false := by have := hS2.2.1; rw [← hl2.1] at this; simp; omega
          obtain ⟨-, rfl, rfl, rfl⟩ := hl2
          have HX : Hid (shN (farP [a0, a1, a2]) = N) := hid (by rw [HF.out]; exact HN.out)
          clear hS2 hB2 m0 m1 m2 hl
          have c0 : wr.cell? ⟨w.heap.size, 0, none⟩ = some (.int .i32 (a0 * 2 ^ N)) := hp.cell 0
          have d0 : wr.cell? ⟨w.heap.size + 1, 0, none⟩ = some (.int .i32 0) := hr.cell 0
          have z0 := hr.frozen 0
          have c1 : wr.cell? ⟨w.heap.size, 1, none⟩ = some (.int .i32 (a1 * 2 ^ N)) := hp.cell 1
          have d1 : wr.cell? ⟨w.heap.size + 1, 1, none⟩ = some (.int .i32 0) := hr.cell 1
          have z1 := hr.frozen 1
          have c2 : wr.cell? ⟨w.heap.size, 2, none⟩ = some (.int .i32 (a2 * 2 ^ N)) := hp.cell 2
          have d2 : wr.cell? ⟨w.heap.size + 1, 2, none⟩ = some (.int .i32 0) := hr.cell 2
          have z2 := hr.frozen 2
          have hf : Blk (((wr.setCell ⟨w.heap.size + 1, 0, none⟩ (.int .i32 (a0 * 2 ^ N))).setCell ⟨w.heap.size + 1, 1, none⟩ (.int .i32 (a1 * 2 ^ N))).setCell ⟨w.heap.size + 1, 2, none⟩ (.int .i32 (a2 * 2 ^ N))) (w.heap.size + 1) 71 #[.int .i32 (a0 * 2 ^ N), .int .i32 (a1 * 2 ^ N), .int .i32 (a2 * 2 ^ N)] := (((hr.set_ 0 (.int .i32 (a0 * 2 ^ N))).set_ 1 (.int .i32 (a1 * 2 ^ N))).set_ 2 (.int .i32 (a2 * 2 ^ N)))
          have hbf : Below w.heap.size w (((wr.setCell ⟨w.heap.size + 1, 0, none⟩ (.int .i32 (a0 * 2 ^ N))).setCell ⟨w.heap.size + 1, 1, none⟩ (.int .i32 (a1 * 2 ^ N))).setCell ⟨w.heap.size + 1, 2, none⟩ (.int .i32 (a2 * 2 ^ N))) := (((hb.setCell (p := ⟨w.heap.size + 1, 0, none⟩) (by dsimp only; omega) (.int .i32 (a0 * 2 ^ N))).setCell (p := ⟨w.heap.size + 1, 1, none⟩) (by dsimp only; omega) (.int .i32 (a1 * 2 ^ N))).setCell (p := ⟨w.heap.size + 1, 2, none⟩) (by dsimp only; omega) (.int .i32 (a2 * 2 ^ N)))
          go_wp2
          generalize (((wr.setCell ⟨w.heap.size + 1, 0, none⟩ (.int .i32 (a0 * 2 ^ N))).setCell ⟨w.heap.size + 1, 1, none⟩ (.int .i32 (a1 * 2 ^ N))).setCell ⟨w.heap.size + 1, 2, none⟩ (.int .i32 (a2 * 2 ^ N))) = wf at *
          have f0 : wf.cell? ⟨w.heap.size + 1, 0, none⟩ = some (.int .i32 (a0 * 2 ^ N)) := hf.cell 0
          have f1 : wf.cell? ⟨w.heap.size + 1, 1, none⟩ = some (.int .i32 (a1 * 2 ^ N)) := hf.cell 1
          have f2 : wf.cell? ⟨w.heap.size + 1, 2, none⟩ = some (.int .i32 (a2 * 2 ^ N)) := hf.cell 2
          have HQ : Hid (Doubles a0 a1 a2 w (.returned (.agg #[.int .i32 (a0 * 2 ^ N), .int .i32 (a1 * 2 ^ N), .int .i32 (a2 * 2 ^ N)])) wf) := hid ⟨by unfold upN; rw [HX.out], hbf⟩
          generalize a0 * 2 ^ N = y0 at *
          generalize a1 * 2 ^ N = y1 at *
          generalize a2 * 2 ^ N = y2 at *
          simp [bodyPost, results, Try.results65, go_sem, f0, f1, f2]
          exact HQ.out
end Go.Proofs.Ytlcikfnhgldonaa
