/- Chapter 10: quaternions: the dot product. -/
import Derived.Test.YtlcikfnhgldonaaQuatI
namespace Go.Proofs.Ytlcikfnhgldonaa
open Go.RowKit
set_option linter.unusedVariables false
def DotI (a0 a1 a2 a3 b0 b1 b2 b3 I s : Int) : Prop := (I = 0 ∧ s = 0) ∨ (I = 1 ∧ s = tmP a0 b0) ∨ (I = 2 ∧ s = tmP a0 b0 + tmP a1 b1) ∨ (I = 3 ∧ s = tmP a0 b0 + tmP a1 b1 + tmP a2 b2) ∨ (I = 4 ∧ s = tmP a0 b0 + tmP a1 b1 + tmP a2 b2 + tmP a3 b3)
set_option linter.unusedSimpArgs false in
set_option maxHeartbeats 20000000 in
theorem q_Dot (a0 a1 a2 a3 b0 b1 b2 b3 : Int) (w : World) (ha0 : I32 a0) (ha1 : I32 a1) (ha2 : I32 a2) (ha3 : I32 a3) (hb0 : I32 b0) (hb1 : I32 b1) (hb2 : I32 b2) (hb3 : I32 b3) :
    Calls Try.prog 16 #[.agg #[.int .i32 a0, .int .i32 a1, .int .i32 a2, .int .i32 a3], .agg #[.int .i32 b0, .int .i32 b1, .int .i32 b2, .int .i32 b3]] w fun e w' => e = .returned (.int .i64 (dotP a0 a1 a2 a3 b0 b1 b2 b3)) ∧ Below w.heap.size w w' := by
  have HP := hid fun w => q_list a0 a1 a2 a3 w
  have HQ := hid fun w => q_list b0 b1 b2 b3 w
  have HT0 := hid fun w => q_times a0 b0 w ha0 hb0
  have m0 := hid (tm_bd a0 b0 ha0 hb0)
  have HT1 := hid fun w => q_times a1 b1 w ha1 hb1
  have m1 := hid (tm_bd a1 b1 ha1 hb1)
  have HT2 := hid fun w => q_times a2 b2 w ha2 hb2
  have m2 := hid (tm_bd a2 b2 ha2 hb2)
  have HT3 := hid fun w => q_times a3 b3 w ha3 hb3
  have m3 := hid (tm_bd a3 b3 ha3 hb3)
  have HE : Hid (tmP a0 b0 + tmP a1 b1 + tmP a2 b2 + tmP a3 b3 = dotP a0 a1 a2 a3 b0 b1 b2 b3) := rfl
  clear ha0 hb0 ha1 hb1 ha2 hb2 ha3 hb3
  go_enter Try.func16, Try.ntmps16
  go_upto_region 1 with fail
  have hp : Blk ((w.alloc (.cells #[.int .i32 a0, .int .i32 a1, .int .i32 a2, .int .i32 a3] 23)).alloc (.cells #[.int .i32 b0, .int .i32 b1, .int .i32 b2, .int .i32 b3] 23)) w.heap.size 23 #[.int .i32 a0, .int .i32 a1, .int .i32 a2, .int .i32 a3] := (Blk.new w _ _).alloc _
  have hq : Blk ((w.alloc (.cells #[.int .i32 a0, .int .i32 a1, .int .i32 a2, .int .i32 a3] 23)).alloc (.cells #[.int .i32 b0, .int .i32 b1, .int .i32 b2, .int .i32 b3] 23)) (w.heap.size + 1) 23 #[.int .i32 b0, .int .i32 b1, .int .i32 b2, .int .i32 b3] := by have := Blk.new (w.alloc (.cells #[.int .i32 a0, .int .i32 a1, .int .i32 a2, .int .i32 a3] 23)) 23 #[.int .i32 b0, .int .i32 b1, .int .i32 b2, .int .i32 b3]; simpa using this
  have hbe : Below w.heap.size w ((w.alloc (.cells #[.int .i32 a0, .int .i32 a1, .int .i32 a2, .int .i32 a3] 23)).alloc (.cells #[.int .i32 b0, .int .i32 b1, .int .i32 b2, .int .i32 b3] 23)) := ((Below.refl _ w).alloc (Nat.le_refl _) _).alloc (by simp) _
  generalize (w.alloc (.cells #[.int .i32 a0, .int .i32 a1, .int .i32 a2, .int .i32 a3] 23)).alloc (.cells #[.int .i32 b0, .int .i32 b1, .int .i32 b2, .int .i32 b3] 23) = W at *
  go_cut [5, 6] from 9 to 12 (fun x y wx => ∃ g h : Nat, x = .pointer (some ⟨g, 0, none⟩) ∧ y = .pointer (some ⟨h, 0, none⟩) ∧ g ≠ h ∧ Blk wx g 37 #[.int .i32 a0, .int .i32 a1, .int .i32 a2, .int .i32 a3] ∧ Blk wx h 37 #[.int .i32 b0, .int .i32 b1, .int .i32 b2, .int .i32 b3] ∧ w.heap.size + 1 < g ∧ w.heap.size + 1 < h ∧ Below w.heap.size w wx)
  case first =>
    refine wp_region_noPanic ?_
    refine wp_region_held_drew (S := fun w' : World => w'.cell? ⟨w.heap.size, 0, none⟩ = some (.int .i32 a0) ∧ w'.cell? ⟨w.heap.size, 1, none⟩ = some (.int .i32 a1) ∧ w'.cell? ⟨w.heap.size, 2, none⟩ = some (.int .i32 a2) ∧ w'.cell? ⟨w.heap.size, 3, none⟩ = some (.int .i32 a3) ∧ w'.cell? ⟨w.heap.size + 1, 0, none⟩ = some (.int .i32 b0) ∧ w'.cell? ⟨w.heap.size + 1, 1, none⟩ = some (.int .i32 b1) ∧ w'.cell? ⟨w.heap.size + 1, 2, none⟩ = some (.int .i32 b2) ∧ w'.cell? ⟨w.heap.size + 1, 3, none⟩ = some (.int .i32 b3)) (by kernel_rfl) ⟨hp.cell 0, hp.cell 1, hp.cell 2, hp.cell 3, hq.cell 0, hq.cell 1, hq.cell 2, hq.cell 3⟩ (fun hHeld => ?_)
    refine (show wpAnyH _ _ _ _ _ 8 _ _ _ from ?_)
    try (simp only [Act.put, List.setIfInBounds_toArray, List.set_cons_zero, List.set_cons_succ])
    replace hp := hp.drew
    replace hq := hq.drew
    replace hbe := hbe.drew
    generalize W.drew = w0 at *
    refine tk 0 hHeld ?_
    refine tk 2 hHeld ?_
    refine rd3 1 4 5 (fun K hK => ?hc1_1) (fun K hK => ?hc1_4) (fun K hK => ?hc1_5)
    case hc1_1 =>
      go_simp
      refine (HP.out _).mono ?_
      rintro e w1_1 ⟨rfl, bb⟩
      go_wp2_with fail
      replace hp := hp.below bb hp.lt
      replace hq := hq.below bb hq.lt
      replace hbe := hbe.on bb
      clear bb
      refine hK.out _ _ ⟨hp.cell 0, hp.cell 1, hp.cell 2, hp.cell 3, hq.cell 0, hq.cell 1, hq.cell 2, hq.cell 3⟩ (fun hHeld => ?_)
      clear hK K
      try (simp only [Act.put, List.setIfInBounds_toArray, List.set_cons_zero, List.set_cons_succ])
      refine rd3 3 4 5 (fun K hK => ?hc2_3) (fun K hK => ?hc2_4) (fun K hK => ?hc2_5)
      case hc2_3 =>
        go_simp
        refine (HQ.out _).mono ?_
        rintro e w2_3 ⟨rfl, bb⟩
        go_wp2_with fail
        replace hp := hp.below bb hp.lt
        replace hq := hq.below bb hq.lt
        replace hbe := hbe.on bb
        clear bb
        refine hK.out _ _ ⟨hp.cell 0, hp.cell 1, hp.cell 2, hp.cell 3, hq.cell 0, hq.cell 1, hq.cell 2, hq.cell 3⟩ (fun hHeld => ?_)
        clear hK K
        try (simp only [Act.put, List.setIfInBounds_toArray, List.set_cons_zero, List.set_cons_succ])
        refine rd2 4 5 (fun K hK => ?hc3_4) (fun K hK => ?hc3_5)
        case hc3_4 =>
          go_simp
          try go_wp2_with fail
          have lg4 : w2_3.heap.size ≥ w.heap.size + 2 := by have := hq.lt; omega
          replace hp := hp.alloc (.cells #[.int .i32 0, .int .i32 0, .int .i32 0, .int .i32 0] 37)
          replace hq := hq.alloc (.cells #[.int .i32 0, .int .i32 0, .int .i32 0, .int .i32 0] 37)
          have h4 := Blk.new w2_3 37 #[.int .i32 0, .int .i32 0, .int .i32 0, .int .i32 0]
          replace hbe := hbe.alloc hbe.size (.cells #[.int .i32 0, .int .i32 0, .int .i32 0, .int .i32 0] 37)
          generalize w2_3.alloc (.cells #[.int .i32 0, .int .i32 0, .int .i32 0, .int .i32 0] 37) = w3_4 at *
          generalize w2_3.heap.size = g4 at *
          refine hK.out _ _ ⟨hp.cell 0, hp.cell 1, hp.cell 2, hp.cell 3, hq.cell 0, hq.cell 1, hq.cell 2, hq.cell 3⟩ (fun hHeld => ?_)
          clear hK K
          try (simp only [Act.put, List.setIfInBounds_toArray, List.set_cons_zero, List.set_cons_succ])
          refine rd1 5 (fun K hK => ?hc4_5)
          case hc4_5 =>
            go_simp
            try go_wp2_with fail
            have lg5 : w3_4.heap.size ≥ w.heap.size + 2 := by have := hq.lt; omega
            have hne := h4.lt
            replace hp := hp.alloc (.cells #[.int .i32 0, .int .i32 0, .int .i32 0, .int .i32 0] 37)
            replace hq := hq.alloc (.cells #[.int .i32 0, .int .i32 0, .int .i32 0, .int .i32 0] 37)
            replace h4 := h4.alloc (.cells #[.int .i32 0, .int .i32 0, .int .i32 0, .int .i32 0] 37)
            have h5 := Blk.new w3_4 37 #[.int .i32 0, .int .i32 0, .int .i32 0, .int .i32 0]
            replace hbe := hbe.alloc hbe.size (.cells #[.int .i32 0, .int .i32 0, .int .i32 0, .int .i32 0] 37)
            generalize w3_4.alloc (.cells #[.int .i32 0, .int .i32 0, .int .i32 0, .int .i32 0] 37) = w4_5 at *
            generalize w3_4.heap.size = g5 at *
            refine hK.out _ _ ⟨hp.cell 0, hp.cell 1, hp.cell 2, hp.cell 3, hq.cell 0, hq.cell 1, hq.cell 2, hq.cell 3⟩ (fun hHeld => ?_)
            clear hK K
            try (simp only [Act.put, List.setIfInBounds_toArray, List.set_cons_zero, List.set_cons_succ])
            refine rd1 6 (fun K hK => ?hc6_6)
            have c0 : w4_5.cell? ⟨g4, 0, none⟩ = some (.int .i32 0) := h4.cell 0
            have z0 := h4.frozen 0
            have c1 : w4_5.cell? ⟨g4, 1, none⟩ = some (.int .i32 0) := h4.cell 1
            have z1 := h4.frozen 1
            have c2 : w4_5.cell? ⟨g4, 2, none⟩ = some (.int .i32 0) := h4.cell 2
            have z2 := h4.frozen 2
            have c3 : w4_5.cell? ⟨g4, 3, none⟩ = some (.int .i32 0) := h4.cell 3
            have z3 := h4.frozen 3
            go_simp
            try go_wp2_with fail
            replace hp := ((((hp.far (p := ⟨g4, 0, none⟩) (by dsimp only; omega) (.int .i32 a0)).far (p := ⟨g4, 1, none⟩) (by dsimp only; omega) (.int .i32 a1)).far (p := ⟨g4, 2, none⟩) (by dsimp only; omega) (.int .i32 a2)).far (p := ⟨g4, 3, none⟩) (by dsimp only; omega) (.int .i32 a3))
            replace hq := ((((hq.far (p := ⟨g4, 0, none⟩) (by dsimp only; omega) (.int .i32 a0)).far (p := ⟨g4, 1, none⟩) (by dsimp only; omega) (.int .i32 a1)).far (p := ⟨g4, 2, none⟩) (by dsimp only; omega) (.int .i32 a2)).far (p := ⟨g4, 3, none⟩) (by dsimp only; omega) (.int .i32 a3))
            replace h5 := ((((h5.far (p := ⟨g4, 0, none⟩) (by dsimp only; omega) (.int .i32 a0)).far (p := ⟨g4, 1, none⟩) (by dsimp only; omega) (.int .i32 a1)).far (p := ⟨g4, 2, none⟩) (by dsimp only; omega) (.int .i32 a2)).far (p := ⟨g4, 3, none⟩) (by dsimp only; omega) (.int .i32 a3))
            replace h4 := ((((h4.set_ 0 (.int .i32 a0)).set_ 1 (.int .i32 a1)).set_ 2 (.int .i32 a2)).set_ 3 (.int .i32 a3))
            replace hbe := (((hbe.setCell (p := ⟨g4, 0, none⟩) (by dsimp only; omega) (.int .i32 a0)).setCell (p := ⟨g4, 1, none⟩) (by dsimp only; omega) (.int .i32 a1)).setCell (p := ⟨g4, 2, none⟩) (by dsimp only; omega) (.int .i32 a2)).setCell (p := ⟨g4, 3, none⟩) (by dsimp only; omega) (.int .i32 a3)
            clear c0 z0 c1 z1 c2 z2 c3 z3
            generalize ((((w4_5.setCell ⟨g4, 0, none⟩ (.int .i32 a0)).setCell ⟨g4, 1, none⟩ (.int .i32 a1)).setCell ⟨g4, 2, none⟩ (.int .i32 a2)).setCell ⟨g4, 3, none⟩ (.int .i32 a3)) = w6_6 at *
            refine hK.out _ _ ⟨hp.cell 0, hp.cell 1, hp.cell 2, hp.cell 3, hq.cell 0, hq.cell 1, hq.cell 2, hq.cell 3⟩ (fun hHeld => ?_)
            clear hK K
            try (simp only [Act.put, List.setIfInBounds_toArray, List.set_cons_zero, List.set_cons_succ])
            refine rd1 7 (fun K hK => ?hc7_7)
            have c0 : w6_6.cell? ⟨g5, 0, none⟩ = some (.int .i32 0) := h5.cell 0
            have z0 := h5.frozen 0
            have c1 : w6_6.cell? ⟨g5, 1, none⟩ = some (.int .i32 0) := h5.cell 1
            have z1 := h5.frozen 1
            have c2 : w6_6.cell? ⟨g5, 2, none⟩ = some (.int .i32 0) := h5.cell 2
            have z2 := h5.frozen 2
            have c3 : w6_6.cell? ⟨g5, 3, none⟩ = some (.int .i32 0) := h5.cell 3
            have z3 := h5.frozen 3
            go_simp
            try go_wp2_with fail
            replace hp := ((((hp.far (p := ⟨g5, 0, none⟩) (by dsimp only; omega) (.int .i32 b0)).far (p := ⟨g5, 1, none⟩) (by dsimp only; omega) (.int .i32 b1)).far (p := ⟨g5, 2, none⟩) (by dsimp only; omega) (.int .i32 b2)).far (p := ⟨g5, 3, none⟩) (by dsimp only; omega) (.int .i32 b3))
            replace hq := ((((hq.far (p := ⟨g5, 0, none⟩) (by dsimp only; omega) (.int .i32 b0)).far (p := ⟨g5, 1, none⟩) (by dsimp only; omega) (.int .i32 b1)).far (p := ⟨g5, 2, none⟩) (by dsimp only; omega) (.int .i32 b2)).far (p := ⟨g5, 3, none⟩) (by dsimp only; omega) (.int .i32 b3))
            replace h4 := ((((h4.far (p := ⟨g5, 0, none⟩) (by dsimp only; omega) (.int .i32 b0)).far (p := ⟨g5, 1, none⟩) (by dsimp only; omega) (.int .i32 b1)).far (p := ⟨g5, 2, none⟩) (by dsimp only; omega) (.int .i32 b2)).far (p := ⟨g5, 3, none⟩) (by dsimp only; omega) (.int .i32 b3))
            replace h5 := ((((h5.set_ 0 (.int .i32 b0)).set_ 1 (.int .i32 b1)).set_ 2 (.int .i32 b2)).set_ 3 (.int .i32 b3))
            replace hbe := (((hbe.setCell (p := ⟨g5, 0, none⟩) (by dsimp only; omega) (.int .i32 b0)).setCell (p := ⟨g5, 1, none⟩) (by dsimp only; omega) (.int .i32 b1)).setCell (p := ⟨g5, 2, none⟩) (by dsimp only; omega) (.int .i32 b2)).setCell (p := ⟨g5, 3, none⟩) (by dsimp only; omega) (.int .i32 b3)
            clear c0 z0 c1 z1 c2 z2 c3 z3
            generalize ((((w6_6.setCell ⟨g5, 0, none⟩ (.int .i32 b0)).setCell ⟨g5, 1, none⟩ (.int .i32 b1)).setCell ⟨g5, 2, none⟩ (.int .i32 b2)).setCell ⟨g5, 3, none⟩ (.int .i32 b3)) = w7_7 at *
            refine hK.out _ _ ⟨hp.cell 0, hp.cell 1, hp.cell 2, hp.cell 3, hq.cell 0, hq.cell 1, hq.cell 2, hq.cell 3⟩ (fun hHeld => ?_)
            clear hK K
            try (simp only [Act.put, List.setIfInBounds_toArray, List.set_cons_zero, List.set_cons_succ])
            refine wpAnyH_done ?hrz7 ?hqz7 _
            case hrz7 => kernel_rfl
            refine NoPanic.normal ?_
            try go_wp2_with fail
            go_meet
            exact ⟨g4, g5, rfl, rfl, by omega, h4, h5, by omega, by omega, hbe⟩
        case hc3_5 =>
          go_simp
          try go_wp2_with fail
          have lg5 : w2_3.heap.size ≥ w.heap.size + 2 := by have := hq.lt; omega
          replace hp := hp.alloc (.cells #[.int .i32 0, .int .i32 0, .int .i32 0, .int .i32 0] 37)
          replace hq := hq.alloc (.cells #[.int .i32 0, .int .i32 0, .int .i32 0, .int .i32 0] 37)
          have h5 := Blk.new w2_3 37 #[.int .i32 0, .int .i32 0, .int .i32 0, .int .i32 0]
          replace hbe := hbe.alloc hbe.size (.cells #[.int .i32 0, .int .i32 0, .int .i32 0, .int .i32 0] 37)
          generalize w2_3.alloc (.cells #[.int .i32 0, .int .i32 0, .int .i32 0, .int .i32 0] 37) = w3_5 at *
          generalize w2_3.heap.size = g5 at *
          refine hK.out _ _ ⟨hp.cell 0, hp.cell 1, hp.cell 2, hp.cell 3, hq.cell 0, hq.cell 1, hq.cell 2, hq.cell 3⟩ (fun hHeld => ?_)
          clear hK K
          try (simp only [Act.put, List.setIfInBounds_toArray, List.set_cons_zero, List.set_cons_succ])
          refine rd1 4 (fun K hK => ?hc8_4)
          case hc8_4 =>
            go_simp
            try go_wp2_with fail
            have lg4 : w3_5.heap.size ≥ w.heap.size + 2 := by have := hq.lt; omega
            have hne := h5.lt
            replace hp := hp.alloc (.cells #[.int .i32 0, .int .i32 0, .int .i32 0, .int .i32 0] 37)
            replace hq := hq.alloc (.cells #[.int .i32 0, .int .i32 0, .int .i32 0, .int .i32 0] 37)
            replace h5 := h5.alloc (.cells #[.int .i32 0, .int .i32 0, .int .i32 0, .int .i32 0] 37)
            have h4 := Blk.new w3_5 37 #[.int .i32 0, .int .i32 0, .int .i32 0, .int .i32 0]
            replace hbe := hbe.alloc hbe.size (.cells #[.int .i32 0, .int .i32 0, .int .i32 0, .int .i32 0] 37)
            generalize w3_5.alloc (.cells #[.int .i32 0, .int .i32 0, .int .i32 0, .int .i32 0] 37) = w8_4 at *
            generalize w3_5.heap.size = g4 at *
            refine hK.out _ _ ⟨hp.cell 0, hp.cell 1, hp.cell 2, hp.cell 3, hq.cell 0, hq.cell 1, hq.cell 2, hq.cell 3⟩ (fun hHeld => ?_)
            clear hK K
            try (simp only [Act.put, List.setIfInBounds_toArray, List.set_cons_zero, List.set_cons_succ])
            refine rd1 6 (fun K hK => ?hc10_6)
            have c0 : w8_4.cell? ⟨g4, 0, none⟩ = some (.int .i32 0) := h4.cell 0
            have z0 := h4.frozen 0
            have c1 : w8_4.cell? ⟨g4, 1, none⟩ = some (.int .i32 0) := h4.cell 1
            have z1 := h4.frozen 1
            have c2 : w8_4.cell? ⟨g4, 2, none⟩ = some (.int .i32 0) := h4.cell 2
            have z2 := h4.frozen 2
            have c3 : w8_4.cell? ⟨g4, 3, none⟩ = some (.int .i32 0) := h4.cell 3
            have z3 := h4.frozen 3
            go_simp
            try go_wp2_with fail
            replace hp := ((((hp.far (p := ⟨g4, 0, none⟩) (by dsimp only; omega) (.int .i32 a0)).far (p := ⟨g4, 1, none⟩) (by dsimp only; omega) (.int .i32 a1)).far (p := ⟨g4, 2, none⟩) (by dsimp only; omega) (.int .i32 a2)).far (p := ⟨g4, 3, none⟩) (by dsimp only; omega) (.int .i32 a3))
            replace hq := ((((hq.far (p := ⟨g4, 0, none⟩) (by dsimp only; omega) (.int .i32 a0)).far (p := ⟨g4, 1, none⟩) (by dsimp only; omega) (.int .i32 a1)).far (p := ⟨g4, 2, none⟩) (by dsimp only; omega) (.int .i32 a2)).far (p := ⟨g4, 3, none⟩) (by dsimp only; omega) (.int .i32 a3))
            replace h5 := ((((h5.far (p := ⟨g4, 0, none⟩) (by dsimp only; omega) (.int .i32 a0)).far (p := ⟨g4, 1, none⟩) (by dsimp only; omega) (.int .i32 a1)).far (p := ⟨g4, 2, none⟩) (by dsimp only; omega) (.int .i32 a2)).far (p := ⟨g4, 3, none⟩) (by dsimp only; omega) (.int .i32 a3))
            replace h4 := ((((h4.set_ 0 (.int .i32 a0)).set_ 1 (.int .i32 a1)).set_ 2 (.int .i32 a2)).set_ 3 (.int .i32 a3))
            replace hbe := (((hbe.setCell (p := ⟨g4, 0, none⟩) (by dsimp only; omega) (.int .i32 a0)).setCell (p := ⟨g4, 1, none⟩) (by dsimp only; omega) (.int .i32 a1)).setCell (p := ⟨g4, 2, none⟩) (by dsimp only; omega) (.int .i32 a2)).setCell (p := ⟨g4, 3, none⟩) (by dsimp only; omega) (.int .i32 a3)
            clear c0 z0 c1 z1 c2 z2 c3 z3
            generalize ((((w8_4.setCell ⟨g4, 0, none⟩ (.int .i32 a0)).setCell ⟨g4, 1, none⟩ (.int .i32 a1)).setCell ⟨g4, 2, none⟩ (.int .i32 a2)).setCell ⟨g4, 3, none⟩ (.int .i32 a3)) = w10_6 at *
            refine hK.out _ _ ⟨hp.cell 0, hp.cell 1, hp.cell 2, hp.cell 3, hq.cell 0, hq.cell 1, hq.cell 2, hq.cell 3⟩ (fun hHeld => ?_)
            clear hK K
            try (simp only [Act.put, List.setIfInBounds_toArray, List.set_cons_zero, List.set_cons_succ])
            refine rd1 7 (fun K hK => ?hc11_7)
            have c0 : w10_6.cell? ⟨g5, 0, none⟩ = some (.int .i32 0) := h5.cell 0
            have z0 := h5.frozen 0
            have c1 : w10_6.cell? ⟨g5, 1, none⟩ = some (.int .i32 0) := h5.cell 1
            have z1 := h5.frozen 1
            have c2 : w10_6.cell? ⟨g5, 2, none⟩ = some (.int .i32 0) := h5.cell 2
            have z2 := h5.frozen 2
            have c3 : w10_6.cell? ⟨g5, 3, none⟩ = some (.int .i32 0) := h5.cell 3
            have z3 := h5.frozen 3
            go_simp
            try go_wp2_with fail
            replace hp := ((((hp.far (p := ⟨g5, 0, none⟩) (by dsimp only; omega) (.int .i32 b0)).far (p := ⟨g5, 1, none⟩) (by dsimp only; omega) (.int .i32 b1)).far (p := ⟨g5, 2, none⟩) (by dsimp only; omega) (.int .i32 b2)).far (p := ⟨g5, 3, none⟩) (by dsimp only; omega) (.int .i32 b3))
            replace hq := ((((hq.far (p := ⟨g5, 0, none⟩) (by dsimp only; omega) (.int .i32 b0)).far (p := ⟨g5, 1, none⟩) (by dsimp only; omega) (.int .i32 b1)).far (p := ⟨g5, 2, none⟩) (by dsimp only; omega) (.int .i32 b2)).far (p := ⟨g5, 3, none⟩) (by dsimp only; omega) (.int .i32 b3))
            replace h4 := ((((h4.far (p := ⟨g5, 0, none⟩) (by dsimp only; omega) (.int .i32 b0)).far (p := ⟨g5, 1, none⟩) (by dsimp only; omega) (.int .i32 b1)).far (p := ⟨g5, 2, none⟩) (by dsimp only; omega) (.int .i32 b2)).far (p := ⟨g5, 3, none⟩) (by dsimp only; omega) (.int .i32 b3))
            replace h5 := ((((h5.set_ 0 (.int .i32 b0)).set_ 1 (.int .i32 b1)).set_ 2 (.int .i32 b2)).set_ 3 (.int .i32 b3))
            replace hbe := (((hbe.setCell (p := ⟨g5, 0, none⟩) (by dsimp only; omega) (.int .i32 b0)).setCell (p := ⟨g5, 1, none⟩) (by dsimp only; omega) (.int .i32 b1)).setCell (p := ⟨g5, 2, none⟩) (by dsimp only; omega) (.int .i32 b2)).setCell (p := ⟨g5, 3, none⟩) (by dsimp only; omega) (.int .i32 b3)
            clear c0 z0 c1 z1 c2 z2 c3 z3
            generalize ((((w10_6.setCell ⟨g5, 0, none⟩ (.int .i32 b0)).setCell ⟨g5, 1, none⟩ (.int .i32 b1)).setCell ⟨g5, 2, none⟩ (.int .i32 b2)).setCell ⟨g5, 3, none⟩ (.int .i32 b3)) = w11_7 at *
            refine hK.out _ _ ⟨hp.cell 0, hp.cell 1, hp.cell 2, hp.cell 3, hq.cell 0, hq.cell 1, hq.cell 2, hq.cell 3⟩ (fun hHeld => ?_)
            clear hK K
            try (simp only [Act.put, List.setIfInBounds_toArray, List.set_cons_zero, List.set_cons_succ])
            refine wpAnyH_done ?hrz11 ?hqz11 _
            case hrz11 => kernel_rfl
            refine NoPanic.normal ?_
            try go_wp2_with fail
            go_meet
            exact ⟨g4, g5, rfl, rfl, by omega, h4, h5, by omega, by omega, hbe⟩
      case hc2_4 =>
        go_simp
        try go_wp2_with fail
        have lg4 : w1_1.heap.size ≥ w.heap.size + 2 := by have := hq.lt; omega
        replace hp := hp.alloc (.cells #[.int .i32 0, .int .i32 0, .int .i32 0, .int .i32 0] 37)
        replace hq := hq.alloc (.cells #[.int .i32 0, .int .i32 0, .int .i32 0, .int .i32 0] 37)
        have h4 := Blk.new w1_1 37 #[.int .i32 0, .int .i32 0, .int .i32 0, .int .i32 0]
        replace hbe := hbe.alloc hbe.size (.cells #[.int .i32 0, .int .i32 0, .int .i32 0, .int .i32 0] 37)
        generalize w1_1.alloc (.cells #[.int .i32 0, .int .i32 0, .int .i32 0, .int .i32 0] 37) = w2_4 at *
        generalize w1_1.heap.size = g4 at *
        refine hK.out _ _ ⟨hp.cell 0, hp.cell 1, hp.cell 2, hp.cell 3, hq.cell 0, hq.cell 1, hq.cell 2, hq.cell 3⟩ (fun hHeld => ?_)
        clear hK K
        try (simp only [Act.put, List.setIfInBounds_toArray, List.set_cons_zero, List.set_cons_succ])
        refine rd2 3 5 (fun K hK => ?hc12_3) (fun K hK => ?hc12_5)
        case hc12_3 =>
          go_simp
          refine (HQ.out _).mono ?_
          rintro e w12_3 ⟨rfl, bb⟩
          go_wp2_with fail
          replace hp := hp.below bb hp.lt
          replace hq := hq.below bb hq.lt
          replace h4 := h4.below bb h4.lt
          replace hbe := hbe.on bb
          clear bb
          refine hK.out _ _ ⟨hp.cell 0, hp.cell 1, hp.cell 2, hp.cell 3, hq.cell 0, hq.cell 1, hq.cell 2, hq.cell 3⟩ (fun hHeld => ?_)
          clear hK K
          try (simp only [Act.put, List.setIfInBounds_toArray, List.set_cons_zero, List.set_cons_succ])
          refine rd1 5 (fun K hK => ?hc13_5)
          case hc13_5 =>
            go_simp
            try go_wp2_with fail
            have lg5 : w12_3.heap.size ≥ w.heap.size + 2 := by have := hq.lt; omega
            have hne := h4.lt
            replace hp := hp.alloc (.cells #[.int .i32 0, .int .i32 0, .int .i32 0, .int .i32 0] 37)
            replace hq := hq.alloc (.cells #[.int .i32 0, .int .i32 0, .int .i32 0, .int .i32 0] 37)
            replace h4 := h4.alloc (.cells #[.int .i32 0, .int .i32 0, .int .i32 0, .int .i32 0] 37)
            have h5 := Blk.new w12_3 37 #[.int .i32 0, .int .i32 0, .int .i32 0, .int .i32 0]
            replace hbe := hbe.alloc hbe.size (.cells #[.int .i32 0, .int .i32 0, .int .i32 0, .int .i32 0] 37)
            generalize w12_3.alloc (.cells #[.int .i32 0, .int .i32 0, .int .i32 0, .int .i32 0] 37) = w13_5 at *
            generalize w12_3.heap.size = g5 at *
            refine hK.out _ _ ⟨hp.cell 0, hp.cell 1, hp.cell 2, hp.cell 3, hq.cell 0, hq.cell 1, hq.cell 2, hq.cell 3⟩ (fun hHeld => ?_)
            clear hK K
            try (simp only [Act.put, List.setIfInBounds_toArray, List.set_cons_zero, List.set_cons_succ])
            refine rd1 6 (fun K hK => ?hc15_6)
            have c0 : w13_5.cell? ⟨g4, 0, none⟩ = some (.int .i32 0) := h4.cell 0
            have z0 := h4.frozen 0
            have c1 : w13_5.cell? ⟨g4, 1, none⟩ = some (.int .i32 0) := h4.cell 1
            have z1 := h4.frozen 1
            have c2 : w13_5.cell? ⟨g4, 2, none⟩ = some (.int .i32 0) := h4.cell 2
            have z2 := h4.frozen 2
            have c3 : w13_5.cell? ⟨g4, 3, none⟩ = some (.int .i32 0) := h4.cell 3
            have z3 := h4.frozen 3
            go_simp
            try go_wp2_with fail
            replace hp := ((((hp.far (p := ⟨g4, 0, none⟩) (by dsimp only; omega) (.int .i32 a0)).far (p := ⟨g4, 1, none⟩) (by dsimp only; omega) (.int .i32 a1)).far (p := ⟨g4, 2, none⟩) (by dsimp only; omega) (.int .i32 a2)).far (p := ⟨g4, 3, none⟩) (by dsimp only; omega) (.int .i32 a3))
            replace hq := ((((hq.far (p := ⟨g4, 0, none⟩) (by dsimp only; omega) (.int .i32 a0)).far (p := ⟨g4, 1, none⟩) (by dsimp only; omega) (.int .i32 a1)).far (p := ⟨g4, 2, none⟩) (by dsimp only; omega) (.int .i32 a2)).far (p := ⟨g4, 3, none⟩) (by dsimp only; omega) (.int .i32 a3))
            replace h5 := ((((h5.far (p := ⟨g4, 0, none⟩) (by dsimp only; omega) (.int .i32 a0)).far (p := ⟨g4, 1, none⟩) (by dsimp only; omega) (.int .i32 a1)).far (p := ⟨g4, 2, none⟩) (by dsimp only; omega) (.int .i32 a2)).far (p := ⟨g4, 3, none⟩) (by dsimp only; omega) (.int .i32 a3))
            replace h4 := ((((h4.set_ 0 (.int .i32 a0)).set_ 1 (.int .i32 a1)).set_ 2 (.int .i32 a2)).set_ 3 (.int .i32 a3))
            replace hbe := (((hbe.setCell (p := ⟨g4, 0, none⟩) (by dsimp only; omega) (.int .i32 a0)).setCell (p := ⟨g4, 1, none⟩) (by dsimp only; omega) (.int .i32 a1)).setCell (p := ⟨g4, 2, none⟩) (by dsimp only; omega) (.int .i32 a2)).setCell (p := ⟨g4, 3, none⟩) (by dsimp only; omega) (.int .i32 a3)
            clear c0 z0 c1 z1 c2 z2 c3 z3
            generalize ((((w13_5.setCell ⟨g4, 0, none⟩ (.int .i32 a0)).setCell ⟨g4, 1, none⟩ (.int .i32 a1)).setCell ⟨g4, 2, none⟩ (.int .i32 a2)).setCell ⟨g4, 3, none⟩ (.int .i32 a3)) = w15_6 at *
            refine hK.out _ _ ⟨hp.cell 0, hp.cell 1, hp.cell 2, hp.cell 3, hq.cell 0, hq.cell 1, hq.cell 2, hq.cell 3⟩ (fun hHeld => ?_)
            clear hK K
            try (simp only [Act.put, List.setIfInBounds_toArray, List.set_cons_zero, List.set_cons_succ])
            refine rd1 7 (fun K hK => ?hc16_7)
            have c0 : w15_6.cell? ⟨g5, 0, none⟩ = some (.int .i32 0) := h5.cell 0
            have z0 := h5.frozen 0
            have c1 : w15_6.cell? ⟨g5, 1, none⟩ = some (.int .i32 0) := h5.cell 1
            have z1 := h5.frozen 1
            have c2 : w15_6.cell? ⟨g5, 2, none⟩ = some (.int .i32 0) := h5.cell 2
            have z2 := h5.frozen 2
            have c3 : w15_6.cell? ⟨g5, 3, none⟩ = some (.int .i32 0) := h5.cell 3
            have z3 := h5.frozen 3
            go_simp
            try go_wp2_with fail
            replace hp := ((((hp.far (p := ⟨g5, 0, none⟩) (by dsimp only; omega) (.int .i32 b0)).far (p := ⟨g5, 1, none⟩) (by dsimp only; omega) (.int .i32 b1)).far (p := ⟨g5, 2, none⟩) (by dsimp only; omega) (.int .i32 b2)).far (p := ⟨g5, 3, none⟩) (by dsimp only; omega) (.int .i32 b3))
            replace hq := ((((hq.far (p := ⟨g5, 0, none⟩) (by dsimp only; omega) (.int .i32 b0)).far (p := ⟨g5, 1, none⟩) (by dsimp only; omega) (.int .i32 b1)).far (p := ⟨g5, 2, none⟩) (by dsimp only; omega) (.int .i32 b2)).far (p := ⟨g5, 3, none⟩) (by dsimp only; omega) (.int .i32 b3))
            replace h4 := ((((h4.far (p := ⟨g5, 0, none⟩) (by dsimp only; omega) (.int .i32 b0)).far (p := ⟨g5, 1, none⟩) (by dsimp only; omega) (.int .i32 b1)).far (p := ⟨g5, 2, none⟩) (by dsimp only; omega) (.int .i32 b2)).far (p := ⟨g5, 3, none⟩) (by dsimp only; omega) (.int .i32 b3))
            replace h5 := ((((h5.set_ 0 (.int .i32 b0)).set_ 1 (.int .i32 b1)).set_ 2 (.int .i32 b2)).set_ 3 (.int .i32 b3))
            replace hbe := (((hbe.setCell (p := ⟨g5, 0, none⟩) (by dsimp only; omega) (.int .i32 b0)).setCell (p := ⟨g5, 1, none⟩) (by dsimp only; omega) (.int .i32 b1)).setCell (p := ⟨g5, 2, none⟩) (by dsimp only; omega) (.int .i32 b2)).setCell (p := ⟨g5, 3, none⟩) (by dsimp only; omega) (.int .i32 b3)
            clear c0 z0 c1 z1 c2 z2 c3 z3
            generalize ((((w15_6.setCell ⟨g5, 0, none⟩ (.int .i32 b0)).setCell ⟨g5, 1, none⟩ (.int .i32 b1)).setCell ⟨g5, 2, none⟩ (.int .i32 b2)).setCell ⟨g5, 3, none⟩ (.int .i32 b3)) = w16_7 at *
            refine hK.out _ _ ⟨hp.cell 0, hp.cell 1, hp.cell 2, hp.cell 3, hq.cell 0, hq.cell 1, hq.cell 2, hq.cell 3⟩ (fun hHeld => ?_)
            clear hK K
            try (simp only [Act.put, List.setIfInBounds_toArray, List.set_cons_zero, List.set_cons_succ])
            refine wpAnyH_done ?hrz16 ?hqz16 _
            case hrz16 => kernel_rfl
            refine NoPanic.normal ?_
            try go_wp2_with fail
            go_meet
            exact ⟨g4, g5, rfl, rfl, by omega, h4, h5, by omega, by omega, hbe⟩
        case hc12_5 =>
          go_simp
          try go_wp2_with fail
          have lg5 : w2_4.heap.size ≥ w.heap.size + 2 := by have := hq.lt; omega
          have hne := h4.lt
          replace hp := hp.alloc (.cells #[.int .i32 0, .int .i32 0, .int .i32 0, .int .i32 0] 37)
          replace hq := hq.alloc (.cells #[.int .i32 0, .int .i32 0, .int .i32 0, .int .i32 0] 37)
          replace h4 := h4.alloc (.cells #[.int .i32 0, .int .i32 0, .int .i32 0, .int .i32 0] 37)
          have h5 := Blk.new w2_4 37 #[.int .i32 0, .int .i32 0, .int .i32 0, .int .i32 0]
          replace hbe := hbe.alloc hbe.size (.cells #[.int .i32 0, .int .i32 0, .int .i32 0, .int .i32 0] 37)
          generalize w2_4.alloc (.cells #[.int .i32 0, .int .i32 0, .int .i32 0, .int .i32 0] 37) = w12_5 at *
          generalize w2_4.heap.size = g5 at *
          refine hK.out _ _ ⟨hp.cell 0, hp.cell 1, hp.cell 2, hp.cell 3, hq.cell 0, hq.cell 1, hq.cell 2, hq.cell 3⟩ (fun hHeld => ?_)
          clear hK K
          try (simp only [Act.put, List.setIfInBounds_toArray, List.set_cons_zero, List.set_cons_succ])
          refine rd1 3 (fun K hK => ?hc17_3)
          case hc17_3 =>
            go_simp
            refine (HQ.out _).mono ?_
            rintro e w17_3 ⟨rfl, bb⟩
            go_wp2_with fail
            replace hp := hp.below bb hp.lt
            replace hq := hq.below bb hq.lt
            replace h4 := h4.below bb h4.lt
            replace h5 := h5.below bb h5.lt
            replace hbe := hbe.on bb
            clear bb
            refine hK.out _ _ ⟨hp.cell 0, hp.cell 1, hp.cell 2, hp.cell 3, hq.cell 0, hq.cell 1, hq.cell 2, hq.cell 3⟩ (fun hHeld => ?_)
            clear hK K
            try (simp only [Act.put, List.setIfInBounds_toArray, List.set_cons_zero, List.set_cons_succ])
            refine rd1 6 (fun K hK => ?hc19_6)
            have c0 : w17_3.cell? ⟨g4, 0, none⟩ = some (.int .i32 0) := h4.cell 0
            have z0 := h4.frozen 0
            have c1 : w17_3.cell? ⟨g4, 1, none⟩ = some (.int .i32 0) := h4.cell 1
            have z1 := h4.frozen 1
            have c2 : w17_3.cell? ⟨g4, 2, none⟩ = some (.int .i32 0) := h4.cell 2
            have z2 := h4.frozen 2
            have c3 : w17_3.cell? ⟨g4, 3, none⟩ = some (.int .i32 0) := h4.cell 3
            have z3 := h4.frozen 3
            go_simp
            try go_wp2_with fail
            replace hp := ((((hp.far (p := ⟨g4, 0, none⟩) (by dsimp only; omega) (.int .i32 a0)).far (p := ⟨g4, 1, none⟩) (by dsimp only; omega) (.int .i32 a1)).far (p := ⟨g4, 2, none⟩) (by dsimp only; omega) (.int .i32 a2)).far (p := ⟨g4, 3, none⟩) (by dsimp only; omega) (.int .i32 a3))
            replace hq := ((((hq.far (p := ⟨g4, 0, none⟩) (by dsimp only; omega) (.int .i32 a0)).far (p := ⟨g4, 1, none⟩) (by dsimp only; omega) (.int .i32 a1)).far (p := ⟨g4, 2, none⟩) (by dsimp only; omega) (.int .i32 a2)).far (p := ⟨g4, 3, none⟩) (by dsimp only; omega) (.int .i32 a3))
            replace h5 := ((((h5.far (p := ⟨g4, 0, none⟩) (by dsimp only; omega) (.int .i32 a0)).far (p := ⟨g4, 1, none⟩) (by dsimp only; omega) (.int .i32 a1)).far (p := ⟨g4, 2, none⟩) (by dsimp only; omega) (.int .i32 a2)).far (p := ⟨g4, 3, none⟩) (by dsimp only; omega) (.int .i32 a3))
            replace h4 := ((((h4.set_ 0 (.int .i32 a0)).set_ 1 (.int .i32 a1)).set_ 2 (.int .i32 a2)).set_ 3 (.int .i32 a3))
            replace hbe := (((hbe.setCell (p := ⟨g4, 0, none⟩) (by dsimp only; omega) (.int .i32 a0)).setCell (p := ⟨g4, 1, none⟩) (by dsimp only; omega) (.int .i32 a1)).setCell (p := ⟨g4, 2, none⟩) (by dsimp only; omega) (.int .i32 a2)).setCell (p := ⟨g4, 3, none⟩) (by dsimp only; omega) (.int .i32 a3)
            clear c0 z0 c1 z1 c2 z2 c3 z3
            generalize ((((w17_3.setCell ⟨g4, 0, none⟩ (.int .i32 a0)).setCell ⟨g4, 1, none⟩ (.int .i32 a1)).setCell ⟨g4, 2, none⟩ (.int .i32 a2)).setCell ⟨g4, 3, none⟩ (.int .i32 a3)) = w19_6 at *
            refine hK.out _ _ ⟨hp.cell 0, hp.cell 1, hp.cell 2, hp.cell 3, hq.cell 0, hq.cell 1, hq.cell 2, hq.cell 3⟩ (fun hHeld => ?_)
            clear hK K
            try (simp only [Act.put, List.setIfInBounds_toArray, List.set_cons_zero, List.set_cons_succ])
            refine rd1 7 (fun K hK => ?hc20_7)
            have c0 : w19_6.cell? ⟨g5, 0, none⟩ = some (.int .i32 0) := h5.cell 0
            have z0 := h5.frozen 0
            have c1 : w19_6.cell? ⟨g5, 1, none⟩ = some (.int .i32 0) := h5.cell 1
            have z1 := h5.frozen 1
            have c2 : w19_6.cell? ⟨g5, 2, none⟩ = some (.int .i32 0) := h5.cell 2
            have z2 := h5.frozen 2
            have c3 : w19_6.cell? ⟨g5, 3, none⟩ = some (.int .i32 0) := h5.cell 3
            have z3 := h5.frozen 3
            go_simp
            try go_wp2_with fail
            replace hp := ((((hp.far (p := ⟨g5, 0, none⟩) (by dsimp only; omega) (.int .i32 b0)).far (p := ⟨g5, 1, none⟩) (by dsimp only; omega) (.int .i32 b1)).far (p := ⟨g5, 2, none⟩) (by dsimp only; omega) (.int .i32 b2)).far (p := ⟨g5, 3, none⟩) (by dsimp only; omega) (.int .i32 b3))
            replace hq := ((((hq.far (p := ⟨g5, 0, none⟩) (by dsimp only; omega) (.int .i32 b0)).far (p := ⟨g5, 1, none⟩) (by dsimp only; omega) (.int .i32 b1)).far (p := ⟨g5, 2, none⟩) (by dsimp only; omega) (.int .i32 b2)).far (p := ⟨g5, 3, none⟩) (by dsimp only; omega) (.int .i32 b3))
            replace h4 := ((((h4.far (p := ⟨g5, 0, none⟩) (by dsimp only; omega) (.int .i32 b0)).far (p := ⟨g5, 1, none⟩) (by dsimp only; omega) (.int .i32 b1)).far (p := ⟨g5, 2, none⟩) (by dsimp only; omega) (.int .i32 b2)).far (p := ⟨g5, 3, none⟩) (by dsimp only; omega) (.int .i32 b3))
            replace h5 := ((((h5.set_ 0 (.int .i32 b0)).set_ 1 (.int .i32 b1)).set_ 2 (.int .i32 b2)).set_ 3 (.int .i32 b3))
            replace hbe := (((hbe.setCell (p := ⟨g5, 0, none⟩) (by dsimp only; omega) (.int .i32 b0)).setCell (p := ⟨g5, 1, none⟩) (by dsimp only; omega) (.int .i32 b1)).setCell (p := ⟨g5, 2, none⟩) (by dsimp only; omega) (.int .i32 b2)).setCell (p := ⟨g5, 3, none⟩) (by dsimp only; omega) (.int .i32 b3)
            clear c0 z0 c1 z1 c2 z2 c3 z3
            generalize ((((w19_6.setCell ⟨g5, 0, none⟩ (.int .i32 b0)).setCell ⟨g5, 1, none⟩ (.int .i32 b1)).setCell ⟨g5, 2, none⟩ (.int .i32 b2)).setCell ⟨g5, 3, none⟩ (.int .i32 b3)) = w20_7 at *
            refine hK.out _ _ ⟨hp.cell 0, hp.cell 1, hp.cell 2, hp.cell 3, hq.cell 0, hq.cell 1, hq.cell 2, hq.cell 3⟩ (fun hHeld => ?_)
            clear hK K
            try (simp only [Act.put, List.setIfInBounds_toArray, List.set_cons_zero, List.set_cons_succ])
            refine wpAnyH_done ?hrz20 ?hqz20 _
            case hrz20 => kernel_rfl
            refine NoPanic.normal ?_
            try go_wp2_with fail
            go_meet
            exact ⟨g4, g5, rfl, rfl, by omega, h4, h5, by omega, by omega, hbe⟩
      case hc2_5 =>
        go_simp
        try go_wp2_with fail
        have lg5 : w1_1.heap.size ≥ w.heap.size + 2 := by have := hq.lt; omega
        replace hp := hp.alloc (.cells #[.int .i32 0, .int .i32 0, .int .i32 0, .int .i32 0] 37)
        replace hq := hq.alloc (.cells #[.int .i32 0, .int .i32 0, .int .i32 0, .int .i32 0] 37)
        have h5 := Blk.new w1_1 37 #[.int .i32 0, .int .i32 0, .int .i32 0, .int .i32 0]
        replace hbe := hbe.alloc hbe.size (.cells #[.int .i32 0, .int .i32 0, .int .i32 0, .int .i32 0] 37)
        generalize w1_1.alloc (.cells #[.int .i32 0, .int .i32 0, .int .i32 0, .int .i32 0] 37) = w2_5 at *
        generalize w1_1.heap.size = g5 at *
        refine hK.out _ _ ⟨hp.cell 0, hp.cell 1, hp.cell 2, hp.cell 3, hq.cell 0, hq.cell 1, hq.cell 2, hq.cell 3⟩ (fun hHeld => ?_)
        clear hK K
        try (simp only [Act.put, List.setIfInBounds_toArray, List.set_cons_zero, List.set_cons_succ])
        refine rd2 3 4 (fun K hK => ?hc21_3) (fun K hK => ?hc21_4)
        case hc21_3 =>
          go_simp
          refine (HQ.out _).mono ?_
          rintro e w21_3 ⟨rfl, bb⟩
          go_wp2_with fail
          replace hp := hp.below bb hp.lt
          replace hq := hq.below bb hq.lt
          replace h5 := h5.below bb h5.lt
          replace hbe := hbe.on bb
          clear bb
          refine hK.out _ _ ⟨hp.cell 0, hp.cell 1, hp.cell 2, hp.cell 3, hq.cell 0, hq.cell 1, hq.cell 2, hq.cell 3⟩ (fun hHeld => ?_)
          clear hK K
          try (simp only [Act.put, List.setIfInBounds_toArray, List.set_cons_zero, List.set_cons_succ])
          refine rd1 4 (fun K hK => ?hc22_4)
          case hc22_4 =>
            go_simp
            try go_wp2_with fail
            have lg4 : w21_3.heap.size ≥ w.heap.size + 2 := by have := hq.lt; omega
            have hne := h5.lt
            replace hp := hp.alloc (.cells #[.int .i32 0, .int .i32 0, .int .i32 0, .int .i32 0] 37)
            replace hq := hq.alloc (.cells #[.int .i32 0, .int .i32 0, .int .i32 0, .int .i32 0] 37)
            replace h5 := h5.alloc (.cells #[.int .i32 0, .int .i32 0, .int .i32 0, .int .i32 0] 37)
            have h4 := Blk.new w21_3 37 #[.int .i32 0, .int .i32 0, .int .i32 0, .int .i32 0]
            replace hbe := hbe.alloc hbe.size (.cells #[.int .i32 0, .int .i32 0, .int .i32 0, .int .i32 0] 37)
            generalize w21_3.alloc (.cells #[.int .i32 0, .int .i32 0, .int .i32 0, .int .i32 0] 37) = w22_4 at *
            generalize w21_3.heap.size = g4 at *
            refine hK.out _ _ ⟨hp.cell 0, hp.cell 1, hp.cell 2, hp.cell 3, hq.cell 0, hq.cell 1, hq.cell 2, hq.cell 3⟩ (fun hHeld => ?_)
            clear hK K
            try (simp only [Act.put, List.setIfInBounds_toArray, List.set_cons_zero, List.set_cons_succ])
            refine rd1 6 (fun K hK => ?hc24_6)
            have c0 : w22_4.cell? ⟨g4, 0, none⟩ = some (.int .i32 0) := h4.cell 0
            have z0 := h4.frozen 0
            have c1 : w22_4.cell? ⟨g4, 1, none⟩ = some (.int .i32 0) := h4.cell 1
            have z1 := h4.frozen 1
            have c2 : w22_4.cell? ⟨g4, 2, none⟩ = some (.int .i32 0) := h4.cell 2
            have z2 := h4.frozen 2
            have c3 : w22_4.cell? ⟨g4, 3, none⟩ = some (.int .i32 0) := h4.cell 3
            have z3 := h4.frozen 3
            go_simp
            try go_wp2_with fail
            replace hp := ((((hp.far (p := ⟨g4, 0, none⟩) (by dsimp only; omega) (.int .i32 a0)).far (p := ⟨g4, 1, none⟩) (by dsimp only; omega) (.int .i32 a1)).far (p := ⟨g4, 2, none⟩) (by dsimp only; omega) (.int .i32 a2)).far (p := ⟨g4, 3, none⟩) (by dsimp only; omega) (.int .i32 a3))
            replace hq := ((((hq.far (p := ⟨g4, 0, none⟩) (by dsimp only; omega) (.int .i32 a0)).far (p := ⟨g4, 1, none⟩) (by dsimp only; omega) (.int .i32 a1)).far (p := ⟨g4, 2, none⟩) (by dsimp only; omega) (.int .i32 a2)).far (p := ⟨g4, 3, none⟩) (by dsimp only; omega) (.int .i32 a3))
            replace h5 := ((((h5.far (p := ⟨g4, 0, none⟩) (by dsimp only; omega) (.int .i32 a0)).far (p := ⟨g4, 1, none⟩) (by dsimp only; omega) (.int .i32 a1)).far (p := ⟨g4, 2, none⟩) (by dsimp only; omega) (.int .i32 a2)).far (p := ⟨g4, 3, none⟩) (by dsimp only; omega) (.int .i32 a3))
            replace h4 := ((((h4.set_ 0 (.int .i32 a0)).set_ 1 (.int .i32 a1)).set_ 2 (.int .i32 a2)).set_ 3 (.int .i32 a3))
            replace hbe := (((hbe.setCell (p := ⟨g4, 0, none⟩) (by dsimp only; omega) (.int .i32 a0)).setCell (p := ⟨g4, 1, none⟩) (by dsimp only; omega) (.int .i32 a1)).setCell (p := ⟨g4, 2, none⟩) (by dsimp only; omega) (.int .i32 a2)).setCell (p := ⟨g4, 3, none⟩) (by dsimp only; omega) (.int .i32 a3)
            clear c0 z0 c1 z1 c2 z2 c3 z3
            generalize ((((w22_4.setCell ⟨g4, 0, none⟩ (.int .i32 a0)).setCell ⟨g4, 1, none⟩ (.int .i32 a1)).setCell ⟨g4, 2, none⟩ (.int .i32 a2)).setCell ⟨g4, 3, none⟩ (.int .i32 a3)) = w24_6 at *
            refine hK.out _ _ ⟨hp.cell 0, hp.cell 1, hp.cell 2, hp.cell 3, hq.cell 0, hq.cell 1, hq.cell 2, hq.cell 3⟩ (fun hHeld => ?_)
            clear hK K
            try (simp only [Act.put, List.setIfInBounds_toArray, List.set_cons_zero, List.set_cons_succ])
            refine rd1 7 (fun K hK => ?hc25_7)
            have c0 : w24_6.cell? ⟨g5, 0, none⟩ = some (.int .i32 0) := h5.cell 0
            have z0 := h5.frozen 0
            have c1 : w24_6.cell? ⟨g5, 1, none⟩ = some (.int .i32 0) := h5.cell 1
            have z1 := h5.frozen 1
            have c2 : w24_6.cell? ⟨g5, 2, none⟩ = some (.int .i32 0) := h5.cell 2
            have z2 := h5.frozen 2
            have c3 : w24_6.cell? ⟨g5, 3, none⟩ = some (.int .i32 0) := h5.cell 3
            have z3 := h5.frozen 3
            go_simp
            try go_wp2_with fail
            replace hp := ((((hp.far (p := ⟨g5, 0, none⟩) (by dsimp only; omega) (.int .i32 b0)).far (p := ⟨g5, 1, none⟩) (by dsimp only; omega) (.int .i32 b1)).far (p := ⟨g5, 2, none⟩) (by dsimp only; omega) (.int .i32 b2)).far (p := ⟨g5, 3, none⟩) (by dsimp only; omega) (.int .i32 b3))
            replace hq := ((((hq.far (p := ⟨g5, 0, none⟩) (by dsimp only; omega) (.int .i32 b0)).far (p := ⟨g5, 1, none⟩) (by dsimp only; omega) (.int .i32 b1)).far (p := ⟨g5, 2, none⟩) (by dsimp only; omega) (.int .i32 b2)).far (p := ⟨g5, 3, none⟩) (by dsimp only; omega) (.int .i32 b3))
            replace h4 := ((((h4.far (p := ⟨g5, 0, none⟩) (by dsimp only; omega) (.int .i32 b0)).far (p := ⟨g5, 1, none⟩) (by dsimp only; omega) (.int .i32 b1)).far (p := ⟨g5, 2, none⟩) (by dsimp only; omega) (.int .i32 b2)).far (p := ⟨g5, 3, none⟩) (by dsimp only; omega) (.int .i32 b3))
            replace h5 := ((((h5.set_ 0 (.int .i32 b0)).set_ 1 (.int .i32 b1)).set_ 2 (.int .i32 b2)).set_ 3 (.int .i32 b3))
            replace hbe := (((hbe.setCell (p := ⟨g5, 0, none⟩) (by dsimp only; omega) (.int .i32 b0)).setCell (p := ⟨g5, 1, none⟩) (by dsimp only; omega) (.int .i32 b1)).setCell (p := ⟨g5, 2, none⟩) (by dsimp only; omega) (.int .i32 b2)).setCell (p := ⟨g5, 3, none⟩) (by dsimp only; omega) (.int .i32 b3)
            clear c0 z0 c1 z1 c2 z2 c3 z3
            generalize ((((w24_6.setCell ⟨g5, 0, none⟩ (.int .i32 b0)).setCell ⟨g5, 1, none⟩ (.int .i32 b1)).setCell ⟨g5, 2, none⟩ (.int .i32 b2)).setCell ⟨g5, 3, none⟩ (.int .i32 b3)) = w25_7 at *
            refine hK.out _ _ ⟨hp.cell 0, hp.cell 1, hp.cell 2, hp.cell 3, hq.cell 0, hq.cell 1, hq.cell 2, hq.cell 3⟩ (fun hHeld => ?_)
            clear hK K
            try (simp only [Act.put, List.setIfInBounds_toArray, List.set_cons_zero, List.set_cons_succ])
            refine wpAnyH_done ?hrz25 ?hqz25 _
            case hrz25 => kernel_rfl
            refine NoPanic.normal ?_
            try go_wp2_with fail
            go_meet
            exact ⟨g4, g5, rfl, rfl, by omega, h4, h5, by omega, by omega, hbe⟩
        case hc21_4 =>
          go_simp
          try go_wp2_with fail
          have lg4 : w2_5.heap.size ≥ w.heap.size + 2 := by have := hq.lt; omega
          have hne := h5.lt
          replace hp := hp.alloc (.cells #[.int .i32 0, .int .i32 0, .int .i32 0, .int .i32 0] 37)
          replace hq := hq.alloc (.cells #[.int .i32 0, .int .i32 0, .int .i32 0, .int .i32 0] 37)
          replace h5 := h5.alloc (.cells #[.int .i32 0, .int .i32 0, .int .i32 0, .int .i32 0] 37)
          have h4 := Blk.new w2_5 37 #[.int .i32 0, .int .i32 0, .int .i32 0, .int .i32 0]
          replace hbe := hbe.alloc hbe.size (.cells #[.int .i32 0, .int .i32 0, .int .i32 0, .int .i32 0] 37)
          generalize w2_5.alloc (.cells #[.int .i32 0, .int .i32 0, .int .i32 0, .int .i32 0] 37) = w21_4 at *
          generalize w2_5.heap.size = g4 at *
          refine hK.out _ _ ⟨hp.cell 0, hp.cell 1, hp.cell 2, hp.cell 3, hq.cell 0, hq.cell 1, hq.cell 2, hq.cell 3⟩ (fun hHeld => ?_)
          clear hK K
          try (simp only [Act.put, List.setIfInBounds_toArray, List.set_cons_zero, List.set_cons_succ])
          refine rd1 3 (fun K hK => ?hc26_3)
          case hc26_3 =>
            go_simp
            refine (HQ.out _).mono ?_
            rintro e w26_3 ⟨rfl, bb⟩
            go_wp2_with fail
            replace hp := hp.below bb hp.lt
            replace hq := hq.below bb hq.lt
            replace h4 := h4.below bb h4.lt
            replace h5 := h5.below bb h5.lt
            replace hbe := hbe.on bb
            clear bb
            refine hK.out _ _ ⟨hp.cell 0, hp.cell 1, hp.cell 2, hp.cell 3, hq.cell 0, hq.cell 1, hq.cell 2, hq.cell 3⟩ (fun hHeld => ?_)
            clear hK K
            try (simp only [Act.put, List.setIfInBounds_toArray, List.set_cons_zero, List.set_cons_succ])
            refine rd1 6 (fun K hK => ?hc28_6)
            have c0 : w26_3.cell? ⟨g4, 0, none⟩ = some (.int .i32 0) := h4.cell 0
            have z0 := h4.frozen 0
            have c1 : w26_3.cell? ⟨g4, 1, none⟩ = some (.int .i32 0) := h4.cell 1
            have z1 := h4.frozen 1
            have c2 : w26_3.cell? ⟨g4, 2, none⟩ = some (.int .i32 0) := h4.cell 2
            have z2 := h4.frozen 2
            have c3 : w26_3.cell? ⟨g4, 3, none⟩ = some (.int .i32 0) := h4.cell 3
            have z3 := h4.frozen 3
            go_simp
            try go_wp2_with fail
            replace hp := ((((hp.far (p := ⟨g4, 0, none⟩) (by dsimp only; omega) (.int .i32 a0)).far (p := ⟨g4, 1, none⟩) (by dsimp only; omega) (.int .i32 a1)).far (p := ⟨g4, 2, none⟩) (by dsimp only; omega) (.int .i32 a2)).far (p := ⟨g4, 3, none⟩) (by dsimp only; omega) (.int .i32 a3))
            replace hq := ((((hq.far (p := ⟨g4, 0, none⟩) (by dsimp only; omega) (.int .i32 a0)).far (p := ⟨g4, 1, none⟩) (by dsimp only; omega) (.int .i32 a1)).far (p := ⟨g4, 2, none⟩) (by dsimp only; omega) (.int .i32 a2)).far (p := ⟨g4, 3, none⟩) (by dsimp only; omega) (.int .i32 a3))
            replace h5 := ((((h5.far (p := ⟨g4, 0, none⟩) (by dsimp only; omega) (.int .i32 a0)).far (p := ⟨g4, 1, none⟩) (by dsimp only; omega) (.int .i32 a1)).far (p := ⟨g4, 2, none⟩) (by dsimp only; omega) (.int .i32 a2)).far (p := ⟨g4, 3, none⟩) (by dsimp only; omega) (.int .i32 a3))
            replace h4 := ((((h4.set_ 0 (.int .i32 a0)).set_ 1 (.int .i32 a1)).set_ 2 (.int .i32 a2)).set_ 3 (.int .i32 a3))
            replace hbe := (((hbe.setCell (p := ⟨g4, 0, none⟩) (by dsimp only; omega) (.int .i32 a0)).setCell (p := ⟨g4, 1, none⟩) (by dsimp only; omega) (.int .i32 a1)).setCell (p := ⟨g4, 2, none⟩) (by dsimp only; omega) (.int .i32 a2)).setCell (p := ⟨g4, 3, none⟩) (by dsimp only; omega) (.int .i32 a3)
            clear c0 z0 c1 z1 c2 z2 c3 z3
            generalize ((((w26_3.setCell ⟨g4, 0, none⟩ (.int .i32 a0)).setCell ⟨g4, 1, none⟩ (.int .i32 a1)).setCell ⟨g4, 2, none⟩ (.int .i32 a2)).setCell ⟨g4, 3, none⟩ (.int .i32 a3)) = w28_6 at *
            refine hK.out _ _ ⟨hp.cell 0, hp.cell 1, hp.cell 2, hp.cell 3, hq.cell 0, hq.cell 1, hq.cell 2, hq.cell 3⟩ (fun hHeld => ?_)
            clear hK K
            try (simp only [Act.put, List.setIfInBounds_toArray, List.set_cons_zero, List.set_cons_succ])
            refine rd1 7 (fun K hK => ?hc29_7)
            have c0 : w28_6.cell? ⟨g5, 0, none⟩ = some (.int .i32 0) := h5.cell 0
            have z0 := h5.frozen 0
            have c1 : w28_6.cell? ⟨g5, 1, none⟩ = some (.int .i32 0) := h5.cell 1
            have z1 := h5.frozen 1
            have c2 : w28_6.cell? ⟨g5, 2, none⟩ = some (.int .i32 0) := h5.cell 2
            have z2 := h5.frozen 2
            have c3 : w28_6.cell? ⟨g5, 3, none⟩ = some (.int .i32 0) := h5.cell 3
            have z3 := h5.frozen 3
            go_simp
            try go_wp2_with fail
            replace hp := ((((hp.far (p := ⟨g5, 0, none⟩) (by dsimp only; omega) (.int .i32 b0)).far (p := ⟨g5, 1, none⟩) (by dsimp only; omega) (.int .i32 b1)).far (p := ⟨g5, 2, none⟩) (by dsimp only; omega) (.int .i32 b2)).far (p := ⟨g5, 3, none⟩) (by dsimp only; omega) (.int .i32 b3))
            replace hq := ((((hq.far (p := ⟨g5, 0, none⟩) (by dsimp only; omega) (.int .i32 b0)).far (p := ⟨g5, 1, none⟩) (by dsimp only; omega) (.int .i32 b1)).far (p := ⟨g5, 2, none⟩) (by dsimp only; omega) (.int .i32 b2)).far (p := ⟨g5, 3, none⟩) (by dsimp only; omega) (.int .i32 b3))
            replace h4 := ((((h4.far (p := ⟨g5, 0, none⟩) (by dsimp only; omega) (.int .i32 b0)).far (p := ⟨g5, 1, none⟩) (by dsimp only; omega) (.int .i32 b1)).far (p := ⟨g5, 2, none⟩) (by dsimp only; omega) (.int .i32 b2)).far (p := ⟨g5, 3, none⟩) (by dsimp only; omega) (.int .i32 b3))
            replace h5 := ((((h5.set_ 0 (.int .i32 b0)).set_ 1 (.int .i32 b1)).set_ 2 (.int .i32 b2)).set_ 3 (.int .i32 b3))
            replace hbe := (((hbe.setCell (p := ⟨g5, 0, none⟩) (by dsimp only; omega) (.int .i32 b0)).setCell (p := ⟨g5, 1, none⟩) (by dsimp only; omega) (.int .i32 b1)).setCell (p := ⟨g5, 2, none⟩) (by dsimp only; omega) (.int .i32 b2)).setCell (p := ⟨g5, 3, none⟩) (by dsimp only; omega) (.int .i32 b3)
            clear c0 z0 c1 z1 c2 z2 c3 z3
            generalize ((((w28_6.setCell ⟨g5, 0, none⟩ (.int .i32 b0)).setCell ⟨g5, 1, none⟩ (.int .i32 b1)).setCell ⟨g5, 2, none⟩ (.int .i32 b2)).setCell ⟨g5, 3, none⟩ (.int .i32 b3)) = w29_7 at *
            refine hK.out _ _ ⟨hp.cell 0, hp.cell 1, hp.cell 2, hp.cell 3, hq.cell 0, hq.cell 1, hq.cell 2, hq.cell 3⟩ (fun hHeld => ?_)
            clear hK K
            try (simp only [Act.put, List.setIfInBounds_toArray, List.set_cons_zero, List.set_cons_succ])
            refine wpAnyH_done ?hrz29 ?hqz29 _
            case hrz29 => kernel_rfl
            refine NoPanic.normal ?_
            try go_wp2_with fail
            go_meet
            exact ⟨g4, g5, rfl, rfl, by omega, h4, h5, by omega, by omega, hbe⟩
    case hc1_4 =>
      go_simp
      try go_wp2_with fail
      have lg4 : w0.heap.size ≥ w.heap.size + 2 := by have := hq.lt; omega
      replace hp := hp.alloc (.cells #[.int .i32 0, .int .i32 0, .int .i32 0, .int .i32 0] 37)
      replace hq := hq.alloc (.cells #[.int .i32 0, .int .i32 0, .int .i32 0, .int .i32 0] 37)
      have h4 := Blk.new w0 37 #[.int .i32 0, .int .i32 0, .int .i32 0, .int .i32 0]
      replace hbe := hbe.alloc hbe.size (.cells #[.int .i32 0, .int .i32 0, .int .i32 0, .int .i32 0] 37)
      generalize w0.alloc (.cells #[.int .i32 0, .int .i32 0, .int .i32 0, .int .i32 0] 37) = w1_4 at *
      generalize w0.heap.size = g4 at *
      refine hK.out _ _ ⟨hp.cell 0, hp.cell 1, hp.cell 2, hp.cell 3, hq.cell 0, hq.cell 1, hq.cell 2, hq.cell 3⟩ (fun hHeld => ?_)
      clear hK K
      try (simp only [Act.put, List.setIfInBounds_toArray, List.set_cons_zero, List.set_cons_succ])
      refine rd2 1 5 (fun K hK => ?hc30_1) (fun K hK => ?hc30_5)
      case hc30_1 =>
        go_simp
        refine (HP.out _).mono ?_
        rintro e w30_1 ⟨rfl, bb⟩
        go_wp2_with fail
        replace hp := hp.below bb hp.lt
        replace hq := hq.below bb hq.lt
        replace h4 := h4.below bb h4.lt
        replace hbe := hbe.on bb
        clear bb
        refine hK.out _ _ ⟨hp.cell 0, hp.cell 1, hp.cell 2, hp.cell 3, hq.cell 0, hq.cell 1, hq.cell 2, hq.cell 3⟩ (fun hHeld => ?_)
        clear hK K
        try (simp only [Act.put, List.setIfInBounds_toArray, List.set_cons_zero, List.set_cons_succ])
        refine rd2 3 5 (fun K hK => ?hc31_3) (fun K hK => ?hc31_5)
        case hc31_3 =>
          go_simp
          refine (HQ.out _).mono ?_
          rintro e w31_3 ⟨rfl, bb⟩
          go_wp2_with fail
          replace hp := hp.below bb hp.lt
          replace hq := hq.below bb hq.lt
          replace h4 := h4.below bb h4.lt
          replace hbe := hbe.on bb
          clear bb
          refine hK.out _ _ ⟨hp.cell 0, hp.cell 1, hp.cell 2, hp.cell 3, hq.cell 0, hq.cell 1, hq.cell 2, hq.cell 3⟩ (fun hHeld => ?_)
          clear hK K
          try (simp only [Act.put, List.setIfInBounds_toArray, List.set_cons_zero, List.set_cons_succ])
          refine rd1 5 (fun K hK => ?hc32_5)
          case hc32_5 =>
            go_simp
            try go_wp2_with fail
            have lg5 : w31_3.heap.size ≥ w.heap.size + 2 := by have := hq.lt; omega
            have hne := h4.lt
            replace hp := hp.alloc (.cells #[.int .i32 0, .int .i32 0, .int .i32 0, .int .i32 0] 37)
            replace hq := hq.alloc (.cells #[.int .i32 0, .int .i32 0, .int .i32 0, .int .i32 0] 37)
            replace h4 := h4.alloc (.cells #[.int .i32 0, .int .i32 0, .int .i32 0, .int .i32 0] 37)
            have h5 := Blk.new w31_3 37 #[.int .i32 0, .int .i32 0, .int .i32 0, .int .i32 0]
            replace hbe := hbe.alloc hbe.size (.cells #[.int .i32 0, .int .i32 0, .int .i32 0, .int .i32 0] 37)
            generalize w31_3.alloc (.cells #[.int .i32 0, .int .i32 0, .int .i32 0, .int .i32 0] 37) = w32_5 at *
            generalize w31_3.heap.size = g5 at *
            refine hK.out _ _ ⟨hp.cell 0, hp.cell 1, hp.cell 2, hp.cell 3, hq.cell 0, hq.cell 1, hq.cell 2, hq.cell 3⟩ (fun hHeld => ?_)
            clear hK K
            try (simp only [Act.put, List.setIfInBounds_toArray, List.set_cons_zero, List.set_cons_succ])
            refine rd1 6 (fun K hK => ?hc34_6)
            have c0 : w32_5.cell? ⟨g4, 0, none⟩ = some (.int .i32 0) := h4.cell 0
            have z0 := h4.frozen 0
            have c1 : w32_5.cell? ⟨g4, 1, none⟩ = some (.int .i32 0) := h4.cell 1
            have z1 := h4.frozen 1
            have c2 : w32_5.cell? ⟨g4, 2, none⟩ = some (.int .i32 0) := h4.cell 2
            have z2 := h4.frozen 2
            have c3 : w32_5.cell? ⟨g4, 3, none⟩ = some (.int .i32 0) := h4.cell 3
            have z3 := h4.frozen 3
            go_simp
            try go_wp2_with fail
            replace hp := ((((hp.far (p := ⟨g4, 0, none⟩) (by dsimp only; omega) (.int .i32 a0)).far (p := ⟨g4, 1, none⟩) (by dsimp only; omega) (.int .i32 a1)).far (p := ⟨g4, 2, none⟩) (by dsimp only; omega) (.int .i32 a2)).far (p := ⟨g4, 3, none⟩) (by dsimp only; omega) (.int .i32 a3))
            replace hq := ((((hq.far (p := ⟨g4, 0, none⟩) (by dsimp only; omega) (.int .i32 a0)).far (p := ⟨g4, 1, none⟩) (by dsimp only; omega) (.int .i32 a1)).far (p := ⟨g4, 2, none⟩) (by dsimp only; omega) (.int .i32 a2)).far (p := ⟨g4, 3, none⟩) (by dsimp only; omega) (.int .i32 a3))
            replace h5 := ((((h5.far (p := ⟨g4, 0, none⟩) (by dsimp only; omega) (.int .i32 a0)).far (p := ⟨g4, 1, none⟩) (by dsimp only; omega) (.int .i32 a1)).far (p := ⟨g4, 2, none⟩) (by dsimp only; omega) (.int .i32 a2)).far (p := ⟨g4, 3, none⟩) (by dsimp only; omega) (.int .i32 a3))
            replace h4 := ((((h4.set_ 0 (.int .i32 a0)).set_ 1 (.int .i32 a1)).set_ 2 (.int .i32 a2)).set_ 3 (.int .i32 a3))
            replace hbe := (((hbe.setCell (p := ⟨g4, 0, none⟩) (by dsimp only; omega) (.int .i32 a0)).setCell (p := ⟨g4, 1, none⟩) (by dsimp only; omega) (.int .i32 a1)).setCell (p := ⟨g4, 2, none⟩) (by dsimp only; omega) (.int .i32 a2)).setCell (p := ⟨g4, 3, none⟩) (by dsimp only; omega) (.int .i32 a3)
            clear c0 z0 c1 z1 c2 z2 c3 z3
            generalize ((((w32_5.setCell ⟨g4, 0, none⟩ (.int .i32 a0)).setCell ⟨g4, 1, none⟩ (.int .i32 a1)).setCell ⟨g4, 2, none⟩ (.int .i32 a2)).setCell ⟨g4, 3, none⟩ (.int .i32 a3)) = w34_6 at *
            refine hK.out _ _ ⟨hp.cell 0, hp.cell 1, hp.cell 2, hp.cell 3, hq.cell 0, hq.cell 1, hq.cell 2, hq.cell 3⟩ (fun hHeld => ?_)
            clear hK K
            try (simp only [Act.put, List.setIfInBounds_toArray, List.set_cons_zero, List.set_cons_succ])
            refine rd1 7 (fun K hK => ?hc35_7)
            have c0 : w34_6.cell? ⟨g5, 0, none⟩ = some (.int .i32 0) := h5.cell 0
            have z0 := h5.frozen 0
            have c1 : w34_6.cell? ⟨g5, 1, none⟩ = some (.int .i32 0) := h5.cell 1
            have z1 := h5.frozen 1
            have c2 : w34_6.cell? ⟨g5, 2, none⟩ = some (.int .i32 0) := h5.cell 2
            have z2 := h5.frozen 2
            have c3 : w34_6.cell? ⟨g5, 3, none⟩ = some (.int .i32 0) := h5.cell 3
            have z3 := h5.frozen 3
            go_simp
            try go_wp2_with fail
            replace hp := ((((hp.far (p := ⟨g5, 0, none⟩) (by dsimp only; omega) (.int .i32 b0)).far (p := ⟨g5, 1, none⟩) (by dsimp only; omega) (.int .i32 b1)).far (p := ⟨g5, 2, none⟩) (by dsimp only; omega) (.int .i32 b2)).far (p := ⟨g5, 3, none⟩) (by dsimp only; omega) (.int .i32 b3))
            replace hq := ((((hq.far (p := ⟨g5, 0, none⟩) (by dsimp only; omega) (.int .i32 b0)).far (p := ⟨g5, 1, none⟩) (by dsimp only; omega) (.int .i32 b1)).far (p := ⟨g5, 2, none⟩) (by dsimp only; omega) (.int .i32 b2)).far (p := ⟨g5, 3, none⟩) (by dsimp only; omega) (.int .i32 b3))
            replace h4 := ((((h4.far (p := ⟨g5, 0, none⟩) (by dsimp only; omega) (.int .i32 b0)).far (p := ⟨g5, 1, none⟩) (by dsimp only; omega) (.int .i32 b1)).far (p := ⟨g5, 2, none⟩) (by dsimp only; omega) (.int .i32 b2)).far (p := ⟨g5, 3, none⟩) (by dsimp only; omega) (.int .i32 b3))
            replace h5 := ((((h5.set_ 0 (.int .i32 b0)).set_ 1 (.int .i32 b1)).set_ 2 (.int .i32 b2)).set_ 3 (.int .i32 b3))
            replace hbe := (((hbe.setCell (p := ⟨g5, 0, none⟩) (by dsimp only; omega) (.int .i32 b0)).setCell (p := ⟨g5, 1, none⟩) (by dsimp only; omega) (.int .i32 b1)).setCell (p := ⟨g5, 2, none⟩) (by dsimp only; omega) (.int .i32 b2)).setCell (p := ⟨g5, 3, none⟩) (by dsimp only; omega) (.int .i32 b3)
            clear c0 z0 c1 z1 c2 z2 c3 z3
            generalize ((((w34_6.setCell ⟨g5, 0, none⟩ (.int .i32 b0)).setCell ⟨g5, 1, none⟩ (.int .i32 b1)).setCell ⟨g5, 2, none⟩ (.int .i32 b2)).setCell ⟨g5, 3, none⟩ (.int .i32 b3)) = w35_7 at *
            refine hK.out _ _ ⟨hp.cell 0, hp.cell 1, hp.cell 2, hp.cell 3, hq.cell 0, hq.cell 1, hq.cell 2, hq.cell 3⟩ (fun hHeld => ?_)
            clear hK K
            try (simp only [Act.put, List.setIfInBounds_toArray, List.set_cons_zero, List.set_cons_succ])
            refine wpAnyH_done ?hrz35 ?hqz35 _
            case hrz35 => kernel_rfl
            refine NoPanic.normal ?_
            try go_wp2_with fail
            go_meet
            exact ⟨g4, g5, rfl, rfl, by omega, h4, h5, by omega, by omega, hbe⟩
        case hc31_5 =>
          go_simp
          try go_wp2_with fail
          have lg5 : w30_1.heap.size ≥ w.heap.size + 2 := by have := hq.lt; omega
          have hne := h4.lt
          replace hp := hp.alloc (.cells #[.int .i32 0, .int .i32 0, .int .i32 0, .int .i32 0] 37)
          replace hq := hq.alloc (.cells #[.int .i32 0, .int .i32 0, .int .i32 0, .int .i32 0] 37)
          replace h4 := h4.alloc (.cells #[.int .i32 0, .int .i32 0, .int .i32 0, .int .i32 0] 37)
          have h5 := Blk.new w30_1 37 #[.int .i32 0, .int .i32 0, .int .i32 0, .int .i32 0]
          replace hbe := hbe.alloc hbe.size (.cells #[.int .i32 0, .int .i32 0, .int .i32 0, .int .i32 0] 37)
          generalize w30_1.alloc (.cells #[.int .i32 0, .int .i32 0, .int .i32 0, .int .i32 0] 37) = w31_5 at *
          generalize w30_1.heap.size = g5 at *
          refine hK.out _ _ ⟨hp.cell 0, hp.cell 1, hp.cell 2, hp.cell 3, hq.cell 0, hq.cell 1, hq.cell 2, hq.cell 3⟩ (fun hHeld => ?_)
          clear hK K
          try (simp only [Act.put, List.setIfInBounds_toArray, List.set_cons_zero, List.set_cons_succ])
          refine rd1 3 (fun K hK => ?hc36_3)
          case hc36_3 =>
            go_simp
            refine (HQ.out _).mono ?_
            rintro e w36_3 ⟨rfl, bb⟩
            go_wp2_with fail
            replace hp := hp.below bb hp.lt
            replace hq := hq.below bb hq.lt
            replace h4 := h4.below bb h4.lt
            replace h5 := h5.below bb h5.lt
            replace hbe := hbe.on bb
            clear bb
            refine hK.out _ _ ⟨hp.cell 0, hp.cell 1, hp.cell 2, hp.cell 3, hq.cell 0, hq.cell 1, hq.cell 2, hq.cell 3⟩ (fun hHeld => ?_)
            clear hK K
            try (simp only [Act.put, List.setIfInBounds_toArray, List.set_cons_zero, List.set_cons_succ])
            refine rd1 6 (fun K hK => ?hc38_6)
            have c0 : w36_3.cell? ⟨g4, 0, none⟩ = some (.int .i32 0) := h4.cell 0
            have z0 := h4.frozen 0
            have c1 : w36_3.cell? ⟨g4, 1, none⟩ = some (.int .i32 0) := h4.cell 1
            have z1 := h4.frozen 1
            have c2 : w36_3.cell? ⟨g4, 2, none⟩ = some (.int .i32 0) := h4.cell 2
            have z2 := h4.frozen 2
            have c3 : w36_3.cell? ⟨g4, 3, none⟩ = some (.int .i32 0) := h4.cell 3
            have z3 := h4.frozen 3
            go_simp
            try go_wp2_with fail
            replace hp := ((((hp.far (p := ⟨g4, 0, none⟩) (by dsimp only; omega) (.int .i32 a0)).far (p := ⟨g4, 1, none⟩) (by dsimp only; omega) (.int .i32 a1)).far (p := ⟨g4, 2, none⟩) (by dsimp only; omega) (.int .i32 a2)).far (p := ⟨g4, 3, none⟩) (by dsimp only; omega) (.int .i32 a3))
            replace hq := ((((hq.far (p := ⟨g4, 0, none⟩) (by dsimp only; omega) (.int .i32 a0)).far (p := ⟨g4, 1, none⟩) (by dsimp only; omega) (.int .i32 a1)).far (p := ⟨g4, 2, none⟩) (by dsimp only; omega) (.int .i32 a2)).far (p := ⟨g4, 3, none⟩) (by dsimp only; omega) (.int .i32 a3))
            replace h5 := ((((h5.far (p := ⟨g4, 0, none⟩) (by dsimp only; omega) (.int .i32 a0)).far (p := ⟨g4, 1, none⟩) (by dsimp only; omega) (.int .i32 a1)).far (p := ⟨g4, 2, none⟩) (by dsimp only; omega) (.int .i32 a2)).far (p := ⟨g4, 3, none⟩) (by dsimp only; omega) (.int .i32 a3))
            replace h4 := ((((h4.set_ 0 (.int .i32 a0)).set_ 1 (.int .i32 a1)).set_ 2 (.int .i32 a2)).set_ 3 (.int .i32 a3))
            replace hbe := (((hbe.setCell (p := ⟨g4, 0, none⟩) (by dsimp only; omega) (.int .i32 a0)).setCell (p := ⟨g4, 1, none⟩) (by dsimp only; omega) (.int .i32 a1)).setCell (p := ⟨g4, 2, none⟩) (by dsimp only; omega) (.int .i32 a2)).setCell (p := ⟨g4, 3, none⟩) (by dsimp only; omega) (.int .i32 a3)
            clear c0 z0 c1 z1 c2 z2 c3 z3
            generalize ((((w36_3.setCell ⟨g4, 0, none⟩ (.int .i32 a0)).setCell ⟨g4, 1, none⟩ (.int .i32 a1)).setCell ⟨g4, 2, none⟩ (.int .i32 a2)).setCell ⟨g4, 3, none⟩ (.int .i32 a3)) = w38_6 at *
            refine hK.out _ _ ⟨hp.cell 0, hp.cell 1, hp.cell 2, hp.cell 3, hq.cell 0, hq.cell 1, hq.cell 2, hq.cell 3⟩ (fun hHeld => ?_)
            clear hK K
            try (simp only [Act.put, List.setIfInBounds_toArray, List.set_cons_zero, List.set_cons_succ])
            refine rd1 7 (fun K hK => ?hc39_7)
            have c0 : w38_6.cell? ⟨g5, 0, none⟩ = some (.int .i32 0) := h5.cell 0
            have z0 := h5.frozen 0
            have c1 : w38_6.cell? ⟨g5, 1, none⟩ = some (.int .i32 0) := h5.cell 1
            have z1 := h5.frozen 1
            have c2 : w38_6.cell? ⟨g5, 2, none⟩ = some (.int .i32 0) := h5.cell 2
            have z2 := h5.frozen 2
            have c3 : w38_6.cell? ⟨g5, 3, none⟩ = some (.int .i32 0) := h5.cell 3
            have z3 := h5.frozen 3
            go_simp
            try go_wp2_with fail
            replace hp := ((((hp.far (p := ⟨g5, 0, none⟩) (by dsimp only; omega) (.int .i32 b0)).far (p := ⟨g5, 1, none⟩) (by dsimp only; omega) (.int .i32 b1)).far (p := ⟨g5, 2, none⟩) (by dsimp only; omega) (.int .i32 b2)).far (p := ⟨g5, 3, none⟩) (by dsimp only; omega) (.int .i32 b3))
            replace hq := ((((hq.far (p := ⟨g5, 0, none⟩) (by dsimp only; omega) (.int .i32 b0)).far (p := ⟨g5, 1, none⟩) (by dsimp only; omega) (.int .i32 b1)).far (p := ⟨g5, 2, none⟩) (by dsimp only; omega) (.int .i32 b2)).far (p := ⟨g5, 3, none⟩) (by dsimp only; omega) (.int .i32 b3))
            replace h4 := ((((h4.far (p := ⟨g5, 0, none⟩) (by dsimp only; omega) (.int .i32 b0)).far (p := ⟨g5, 1, none⟩) (by dsimp only; omega) (.int .i32 b1)).far (p := ⟨g5, 2, none⟩) (by dsimp only; omega) (.int .i32 b2)).far (p := ⟨g5, 3, none⟩) (by dsimp only; omega) (.int .i32 b3))
            replace h5 := ((((h5.set_ 0 (.int .i32 b0)).set_ 1 (.int .i32 b1)).set_ 2 (.int .i32 b2)).set_ 3 (.int .i32 b3))
            replace hbe := (((hbe.setCell (p := ⟨g5, 0, none⟩) (by dsimp only; omega) (.int .i32 b0)).setCell (p := ⟨g5, 1, none⟩) (by dsimp only; omega) (.int .i32 b1)).setCell (p := ⟨g5, 2, none⟩) (by dsimp only; omega) (.int .i32 b2)).setCell (p := ⟨g5, 3, none⟩) (by dsimp only; omega) (.int .i32 b3)
            clear c0 z0 c1 z1 c2 z2 c3 z3
            generalize ((((w38_6.setCell ⟨g5, 0, none⟩ (.int .i32 b0)).setCell ⟨g5, 1, none⟩ (.int .i32 b1)).setCell ⟨g5, 2, none⟩ (.int .i32 b2)).setCell ⟨g5, 3, none⟩ (.int .i32 b3)) = w39_7 at *
            refine hK.out _ _ ⟨hp.cell 0, hp.cell 1, hp.cell 2, hp.cell 3, hq.cell 0, hq.cell 1, hq.cell 2, hq.cell 3⟩ (fun hHeld => ?_)
            clear hK K
            try (simp only [Act.put, List.setIfInBounds_toArray, List.set_cons_zero, List.set_cons_succ])
            refine wpAnyH_done ?hrz39 ?hqz39 _
            case hrz39 => kernel_rfl
            refine NoPanic.normal ?_
            try go_wp2_with fail
            go_meet
            exact ⟨g4, g5, rfl, rfl, by omega, h4, h5, by omega, by omega, hbe⟩
      case hc30_5 =>
        go_simp
        try go_wp2_with fail
        have lg5 : w1_4.heap.size ≥ w.heap.size + 2 := by have := hq.lt; omega
        have hne := h4.lt
        replace hp := hp.alloc (.cells #[.int .i32 0, .int .i32 0, .int .i32 0, .int .i32 0] 37)
        replace hq := hq.alloc (.cells #[.int .i32 0, .int .i32 0, .int .i32 0, .int .i32 0] 37)
        replace h4 := h4.alloc (.cells #[.int .i32 0, .int .i32 0, .int .i32 0, .int .i32 0] 37)
        have h5 := Blk.new w1_4 37 #[.int .i32 0, .int .i32 0, .int .i32 0, .int .i32 0]
        replace hbe := hbe.alloc hbe.size (.cells #[.int .i32 0, .int .i32 0, .int .i32 0, .int .i32 0] 37)
        generalize w1_4.alloc (.cells #[.int .i32 0, .int .i32 0, .int .i32 0, .int .i32 0] 37) = w30_5 at *
        generalize w1_4.heap.size = g5 at *
        refine hK.out _ _ ⟨hp.cell 0, hp.cell 1, hp.cell 2, hp.cell 3, hq.cell 0, hq.cell 1, hq.cell 2, hq.cell 3⟩ (fun hHeld => ?_)
        clear hK K
        try (simp only [Act.put, List.setIfInBounds_toArray, List.set_cons_zero, List.set_cons_succ])
        refine rd1 1 (fun K hK => ?hc40_1)
        case hc40_1 =>
          go_simp
          refine (HP.out _).mono ?_
          rintro e w40_1 ⟨rfl, bb⟩
          go_wp2_with fail
          replace hp := hp.below bb hp.lt
          replace hq := hq.below bb hq.lt
          replace h4 := h4.below bb h4.lt
          replace h5 := h5.below bb h5.lt
          replace hbe := hbe.on bb
          clear bb
          refine hK.out _ _ ⟨hp.cell 0, hp.cell 1, hp.cell 2, hp.cell 3, hq.cell 0, hq.cell 1, hq.cell 2, hq.cell 3⟩ (fun hHeld => ?_)
          clear hK K
          try (simp only [Act.put, List.setIfInBounds_toArray, List.set_cons_zero, List.set_cons_succ])
          refine rd1 3 (fun K hK => ?hc41_3)
          case hc41_3 =>
            go_simp
            refine (HQ.out _).mono ?_
            rintro e w41_3 ⟨rfl, bb⟩
            go_wp2_with fail
            replace hp := hp.below bb hp.lt
            replace hq := hq.below bb hq.lt
            replace h4 := h4.below bb h4.lt
            replace h5 := h5.below bb h5.lt
            replace hbe := hbe.on bb
            clear bb
            refine hK.out _ _ ⟨hp.cell 0, hp.cell 1, hp.cell 2, hp.cell 3, hq.cell 0, hq.cell 1, hq.cell 2, hq.cell 3⟩ (fun hHeld => ?_)
            clear hK K
            try (simp only [Act.put, List.setIfInBounds_toArray, List.set_cons_zero, List.set_cons_succ])
            refine rd1 6 (fun K hK => ?hc43_6)
            have c0 : w41_3.cell? ⟨g4, 0, none⟩ = some (.int .i32 0) := h4.cell 0
            have z0 := h4.frozen 0
            have c1 : w41_3.cell? ⟨g4, 1, none⟩ = some (.int .i32 0) := h4.cell 1
            have z1 := h4.frozen 1
            have c2 : w41_3.cell? ⟨g4, 2, none⟩ = some (.int .i32 0) := h4.cell 2
            have z2 := h4.frozen 2
            have c3 : w41_3.cell? ⟨g4, 3, none⟩ = some (.int .i32 0) := h4.cell 3
            have z3 := h4.frozen 3
            go_simp
            try go_wp2_with fail
            replace hp := ((((hp.far (p := ⟨g4, 0, none⟩) (by dsimp only; omega) (.int .i32 a0)).far (p := ⟨g4, 1, none⟩) (by dsimp only; omega) (.int .i32 a1)).far (p := ⟨g4, 2, none⟩) (by dsimp only; omega) (.int .i32 a2)).far (p := ⟨g4, 3, none⟩) (by dsimp only; omega) (.int .i32 a3))
            replace hq := ((((hq.far (p := ⟨g4, 0, none⟩) (by dsimp only; omega) (.int .i32 a0)).far (p := ⟨g4, 1, none⟩) (by dsimp only; omega) (.int .i32 a1)).far (p := ⟨g4, 2, none⟩) (by dsimp only; omega) (.int .i32 a2)).far (p := ⟨g4, 3, none⟩) (by dsimp only; omega) (.int .i32 a3))
            replace h5 := ((((h5.far (p := ⟨g4, 0, none⟩) (by dsimp only; omega) (.int .i32 a0)).far (p := ⟨g4, 1, none⟩) (by dsimp only; omega) (.int .i32 a1)).far (p := ⟨g4, 2, none⟩) (by dsimp only; omega) (.int .i32 a2)).far (p := ⟨g4, 3, none⟩) (by dsimp only; omega) (.int .i32 a3))
            replace h4 := ((((h4.set_ 0 (.int .i32 a0)).set_ 1 (.int .i32 a1)).set_ 2 (.int .i32 a2)).set_ 3 (.int .i32 a3))
            replace hbe := (((hbe.setCell (p := ⟨g4, 0, none⟩) (by dsimp only; omega) (.int .i32 a0)).setCell (p := ⟨g4, 1, none⟩) (by dsimp only; omega) (.int .i32 a1)).setCell (p := ⟨g4, 2, none⟩) (by dsimp only; omega) (.int .i32 a2)).setCell (p := ⟨g4, 3, none⟩) (by dsimp only; omega) (.int .i32 a3)
            clear c0 z0 c1 z1 c2 z2 c3 z3
            generalize ((((w41_3.setCell ⟨g4, 0, none⟩ (.int .i32 a0)).setCell ⟨g4, 1, none⟩ (.int .i32 a1)).setCell ⟨g4, 2, none⟩ (.int .i32 a2)).setCell ⟨g4, 3, none⟩ (.int .i32 a3)) = w43_6 at *
            refine hK.out _ _ ⟨hp.cell 0, hp.cell 1, hp.cell 2, hp.cell 3, hq.cell 0, hq.cell 1, hq.cell 2, hq.cell 3⟩ (fun hHeld => ?_)
            clear hK K
            try (simp only [Act.put, List.setIfInBounds_toArray, List.set_cons_zero, List.set_cons_succ])
            refine rd1 7 (fun K hK => ?hc44_7)
            have c0 : w43_6.cell? ⟨g5, 0, none⟩ = some (.int .i32 0) := h5.cell 0
            have z0 := h5.frozen 0
            have c1 : w43_6.cell? ⟨g5, 1, none⟩ = some (.int .i32 0) := h5.cell 1
            have z1 := h5.frozen 1
            have c2 : w43_6.cell? ⟨g5, 2, none⟩ = some (.int .i32 0) := h5.cell 2
            have z2 := h5.frozen 2
            have c3 : w43_6.cell? ⟨g5, 3, none⟩ = some (.int .i32 0) := h5.cell 3
            have z3 := h5.frozen 3
            go_simp
            try go_wp2_with fail
            replace hp := ((((hp.far (p := ⟨g5, 0, none⟩) (by dsimp only; omega) (.int .i32 b0)).far (p := ⟨g5, 1, none⟩) (by dsimp only; omega) (.int .i32 b1)).far (p := ⟨g5, 2, none⟩) (by dsimp only; omega) (.int .i32 b2)).far (p := ⟨g5, 3, none⟩) (by dsimp only; omega) (.int .i32 b3))
            replace hq := ((((hq.far (p := ⟨g5, 0, none⟩) (by dsimp only; omega) (.int .i32 b0)).far (p := ⟨g5, 1, none⟩) (by dsimp only; omega) (.int .i32 b1)).far (p := ⟨g5, 2, none⟩) (by dsimp only; omega) (.int .i32 b2)).far (p := ⟨g5, 3, none⟩) (by dsimp only; omega) (.int .i32 b3))
            replace h4 := ((((h4.far (p := ⟨g5, 0, none⟩) (by dsimp only; omega) (.int .i32 b0)).far (p := ⟨g5, 1, none⟩) (by dsimp only; omega) (.int .i32 b1)).far (p := ⟨g5, 2, none⟩) (by dsimp only; omega) (.int .i32 b2)).far (p := ⟨g5, 3, none⟩) (by dsimp only; omega) (.int .i32 b3))
            replace h5 := ((((h5.set_ 0 (.int .i32 b0)).set_ 1 (.int .i32 b1)).set_ 2 (.int .i32 b2)).set_ 3 (.int .i32 b3))
            replace hbe := (((hbe.setCell (p := ⟨g5, 0, none⟩) (by dsimp only; omega) (.int .i32 b0)).setCell (p := ⟨g5, 1, none⟩) (by dsimp only; omega) (.int .i32 b1)).setCell (p := ⟨g5, 2, none⟩) (by dsimp only; omega) (.int .i32 b2)).setCell (p := ⟨g5, 3, none⟩) (by dsimp only; omega) (.int .i32 b3)
            clear c0 z0 c1 z1 c2 z2 c3 z3
            generalize ((((w43_6.setCell ⟨g5, 0, none⟩ (.int .i32 b0)).setCell ⟨g5, 1, none⟩ (.int .i32 b1)).setCell ⟨g5, 2, none⟩ (.int .i32 b2)).setCell ⟨g5, 3, none⟩ (.int .i32 b3)) = w44_7 at *
            refine hK.out _ _ ⟨hp.cell 0, hp.cell 1, hp.cell 2, hp.cell 3, hq.cell 0, hq.cell 1, hq.cell 2, hq.cell 3⟩ (fun hHeld => ?_)
            clear hK K
            try (simp only [Act.put, List.setIfInBounds_toArray, List.set_cons_zero, List.set_cons_succ])
            refine wpAnyH_done ?hrz44 ?hqz44 _
            case hrz44 => kernel_rfl
            refine NoPanic.normal ?_
            try go_wp2_with fail
            go_meet
            exact ⟨g4, g5, rfl, rfl, by omega, h4, h5, by omega, by omega, hbe⟩
    case hc1_5 =>
      go_simp
      try go_wp2_with fail
      have lg5 : w0.heap.size ≥ w.heap.size + 2 := by have := hq.lt; omega
      replace hp := hp.alloc (.cells #[.int .i32 0, .int .i32 0, .int .i32 0, .int .i32 0] 37)
      replace hq := hq.alloc (.cells #[.int .i32 0, .int .i32 0, .int .i32 0, .int .i32 0] 37)
      have h5 := Blk.new w0 37 #[.int .i32 0, .int .i32 0, .int .i32 0, .int .i32 0]
      replace hbe := hbe.alloc hbe.size (.cells #[.int .i32 0, .int .i32 0, .int .i32 0, .int .i32 0] 37)
      generalize w0.alloc (.cells #[.int .i32 0, .int .i32 0, .int .i32 0, .int .i32 0] 37) = w1_5 at *
      generalize w0.heap.size = g5 at *
      refine hK.out _ _ ⟨hp.cell 0, hp.cell 1, hp.cell 2, hp.cell 3, hq.cell 0, hq.cell 1, hq.cell 2, hq.cell 3⟩ (fun hHeld => ?_)
      clear hK K
      try (simp only [Act.put, List.setIfInBounds_toArray, List.set_cons_zero, List.set_cons_succ])
      refine rd2 1 4 (fun K hK => ?hc45_1) (fun K hK => ?hc45_4)
      case hc45_1 =>
        go_simp
        refine (HP.out _).mono ?_
        rintro e w45_1 ⟨rfl, bb⟩
        go_wp2_with fail
        replace hp := hp.below bb hp.lt
        replace hq := hq.below bb hq.lt
        replace h5 := h5.below bb h5.lt
        replace hbe := hbe.on bb
        clear bb
        refine hK.out _ _ ⟨hp.cell 0, hp.cell 1, hp.cell 2, hp.cell 3, hq.cell 0, hq.cell 1, hq.cell 2, hq.cell 3⟩ (fun hHeld => ?_)
        clear hK K
        try (simp only [Act.put, List.setIfInBounds_toArray, List.set_cons_zero, List.set_cons_succ])
        refine rd2 3 4 (fun K hK => ?hc46_3) (fun K hK => ?hc46_4)
        case hc46_3 =>
          go_simp
          refine (HQ.out _).mono ?_
          rintro e w46_3 ⟨rfl, bb⟩
          go_wp2_with fail
          replace hp := hp.below bb hp.lt
          replace hq := hq.below bb hq.lt
          replace h5 := h5.below bb h5.lt
          replace hbe := hbe.on bb
          clear bb
          refine hK.out _ _ ⟨hp.cell 0, hp.cell 1, hp.cell 2, hp.cell 3, hq.cell 0, hq.cell 1, hq.cell 2, hq.cell 3⟩ (fun hHeld => ?_)
          clear hK K
          try (simp only [Act.put, List.setIfInBounds_toArray, List.set_cons_zero, List.set_cons_succ])
          refine rd1 4 (fun K hK => ?hc47_4)
          case hc47_4 =>
            go_simp
            try go_wp2_with fail
            have lg4 : w46_3.heap.size ≥ w.heap.size + 2 := by have := hq.lt; omega
            have hne := h5.lt
            replace hp := hp.alloc (.cells #[.int .i32 0, .int .i32 0, .int .i32 0, .int .i32 0] 37)
            replace hq := hq.alloc (.cells #[.int .i32 0, .int .i32 0, .int .i32 0, .int .i32 0] 37)
            replace h5 := h5.alloc (.cells #[.int .i32 0, .int .i32 0, .int .i32 0, .int .i32 0] 37)
            have h4 := Blk.new w46_3 37 #[.int .i32 0, .int .i32 0, .int .i32 0, .int .i32 0]
            replace hbe := hbe.alloc hbe.size (.cells #[.int .i32 0, .int .i32 0, .int .i32 0, .int .i32 0] 37)
            generalize w46_3.alloc (.cells #[.int .i32 0, .int .i32 0, .int .i32 0, .int .i32 0] 37) = w47_4 at *
            generalize w46_3.heap.size = g4 at *
            refine hK.out _ _ ⟨hp.cell 0, hp.cell 1, hp.cell 2, hp.cell 3, hq.cell 0, hq.cell 1, hq.cell 2, hq.cell 3⟩ (fun hHeld => ?_)
            clear hK K
            try (simp only [Act.put, List.setIfInBounds_toArray, List.set_cons_zero, List.set_cons_succ])
            refine rd1 6 (fun K hK => ?hc49_6)
            have c0 : w47_4.cell? ⟨g4, 0, none⟩ = some (.int .i32 0) := h4.cell 0
            have z0 := h4.frozen 0
            have c1 : w47_4.cell? ⟨g4, 1, none⟩ = some (.int .i32 0) := h4.cell 1
            have z1 := h4.frozen 1
            have c2 : w47_4.cell? ⟨g4, 2, none⟩ = some (.int .i32 0) := h4.cell 2
            have z2 := h4.frozen 2
            have c3 : w47_4.cell? ⟨g4, 3, none⟩ = some (.int .i32 0) := h4.cell 3
            have z3 := h4.frozen 3
            go_simp
            try go_wp2_with fail
            replace hp := ((((hp.far (p := ⟨g4, 0, none⟩) (by dsimp only; omega) (.int .i32 a0)).far (p := ⟨g4, 1, none⟩) (by dsimp only; omega) (.int .i32 a1)).far (p := ⟨g4, 2, none⟩) (by dsimp only; omega) (.int .i32 a2)).far (p := ⟨g4, 3, none⟩) (by dsimp only; omega) (.int .i32 a3))
            replace hq := ((((hq.far (p := ⟨g4, 0, none⟩) (by dsimp only; omega) (.int .i32 a0)).far (p := ⟨g4, 1, none⟩) (by dsimp only; omega) (.int .i32 a1)).far (p := ⟨g4, 2, none⟩) (by dsimp only; omega) (.int .i32 a2)).far (p := ⟨g4, 3, none⟩) (by dsimp only; omega) (.int .i32 a3))
            replace h5 := ((((h5.far (p := ⟨g4, 0, none⟩) (by dsimp only; omega) (.int .i32 a0)).far (p := ⟨g4, 1, none⟩) (by dsimp only; omega) (.int .i32 a1)).far (p := ⟨g4, 2, none⟩) (by dsimp only; omega) (.int .i32 a2)).far (p := ⟨g4, 3, none⟩) (by dsimp only; omega) (.int .i32 a3))
            replace h4 := ((((h4.set_ 0 (.int .i32 a0)).set_ 1 (.int .i32 a1)).set_ 2 (.int .i32 a2)).set_ 3 (.int .i32 a3))
            replace hbe := (((hbe.setCell (p := ⟨g4, 0, none⟩) (by dsimp only; omega) (.int .i32 a0)).setCell (p := ⟨g4, 1, none⟩) (by dsimp only; omega) (.int .i32 a1)).setCell (p := ⟨g4, 2, none⟩) (by dsimp only; omega) (.int .i32 a2)).setCell (p := ⟨g4, 3, none⟩) (by dsimp only; omega) (.int .i32 a3)
            clear c0 z0 c1 z1 c2 z2 c3 z3
            generalize ((((w47_4.setCell ⟨g4, 0, none⟩ (.int .i32 a0)).setCell ⟨g4, 1, none⟩ (.int .i32 a1)).setCell ⟨g4, 2, none⟩ (.int .i32 a2)).setCell ⟨g4, 3, none⟩ (.int .i32 a3)) = w49_6 at *
            refine hK.out _ _ ⟨hp.cell 0, hp.cell 1, hp.cell 2, hp.cell 3, hq.cell 0, hq.cell 1, hq.cell 2, hq.cell 3⟩ (fun hHeld => ?_)
            clear hK K
            try (simp only [Act.put, List.setIfInBounds_toArray, List.set_cons_zero, List.set_cons_succ])
            refine rd1 7 (fun K hK => ?hc50_7)
            have c0 : w49_6.cell? ⟨g5, 0, none⟩ = some (.int .i32 0) := h5.cell 0
            have z0 := h5.frozen 0
            have c1 : w49_6.cell? ⟨g5, 1, none⟩ = some (.int .i32 0) := h5.cell 1
            have z1 := h5.frozen 1
            have c2 : w49_6.cell? ⟨g5, 2, none⟩ = some (.int .i32 0) := h5.cell 2
            have z2 := h5.frozen 2
            have c3 : w49_6.cell? ⟨g5, 3, none⟩ = some (.int .i32 0) := h5.cell 3
            have z3 := h5.frozen 3
            go_simp
            try go_wp2_with fail
            replace hp := ((((hp.far (p := ⟨g5, 0, none⟩) (by dsimp only; omega) (.int .i32 b0)).far (p := ⟨g5, 1, none⟩) (by dsimp only; omega) (.int .i32 b1)).far (p := ⟨g5, 2, none⟩) (by dsimp only; omega) (.int .i32 b2)).far (p := ⟨g5, 3, none⟩) (by dsimp only; omega) (.int .i32 b3))
            replace hq := ((((hq.far (p := ⟨g5, 0, none⟩) (by dsimp only; omega) (.int .i32 b0)).far (p := ⟨g5, 1, none⟩) (by dsimp only; omega) (.int .i32 b1)).far (p := ⟨g5, 2, none⟩) (by dsimp only; omega) (.int .i32 b2)).far (p := ⟨g5, 3, none⟩) (by dsimp only; omega) (.int .i32 b3))
            replace h4 := ((((h4.far (p := ⟨g5, 0, none⟩) (by dsimp only; omega) (.int .i32 b0)).far (p := ⟨g5, 1, none⟩) (by dsimp only; omega) (.int .i32 b1)).far (p := ⟨g5, 2, none⟩) (by dsimp only; omega) (.int .i32 b2)).far (p := ⟨g5, 3, none⟩) (by dsimp only; omega) (.int .i32 b3))
            replace h5 := ((((h5.set_ 0 (.int .i32 b0)).set_ 1 (.int .i32 b1)).set_ 2 (.int .i32 b2)).set_ 3 (.int .i32 b3))
            replace hbe := (((hbe.setCell (p := ⟨g5, 0, none⟩) (by dsimp only; omega) (.int .i32 b0)).setCell (p := ⟨g5, 1, none⟩) (by dsimp only; omega) (.int .i32 b1)).setCell (p := ⟨g5, 2, none⟩) (by dsimp only; omega) (.int .i32 b2)).setCell (p := ⟨g5, 3, none⟩) (by dsimp only; omega) (.int .i32 b3)
            clear c0 z0 c1 z1 c2 z2 c3 z3
            generalize ((((w49_6.setCell ⟨g5, 0, none⟩ (.int .i32 b0)).setCell ⟨g5, 1, none⟩ (.int .i32 b1)).setCell ⟨g5, 2, none⟩ (.int .i32 b2)).setCell ⟨g5, 3, none⟩ (.int .i32 b3)) = w50_7 at *
            refine hK.out _ _ ⟨hp.cell 0, hp.cell 1, hp.cell 2, hp.cell 3, hq.cell 0, hq.cell 1, hq.cell 2, hq.cell 3⟩ (fun hHeld => ?_)
            clear hK K
            try (simp only [Act.put, List.setIfInBounds_toArray, List.set_cons_zero, List.set_cons_succ])
            refine wpAnyH_done ?hrz50 ?hqz50 _
            case hrz50 => kernel_rfl
            refine NoPanic.normal ?_
            try go_wp2_with fail
            go_meet
            exact ⟨g4, g5, rfl, rfl, by omega, h4, h5, by omega, by omega, hbe⟩
        case hc46_4 =>
          go_simp
          try go_wp2_with fail
          have lg4 : w45_1.heap.size ≥ w.heap.size + 2 := by have := hq.lt; omega
          have hne := h5.lt
          replace hp := hp.alloc (.cells #[.int .i32 0, .int .i32 0, .int .i32 0, .int .i32 0] 37)
          replace hq := hq.alloc (.cells #[.int .i32 0, .int .i32 0, .int .i32 0, .int .i32 0] 37)
          replace h5 := h5.alloc (.cells #[.int .i32 0, .int .i32 0, .int .i32 0, .int .i32 0] 37)
          have h4 := Blk.new w45_1 37 #[.int .i32 0, .int .i32 0, .int .i32 0, .int .i32 0]
          replace hbe := hbe.alloc hbe.size (.cells #[.int .i32 0, .int .i32 0, .int .i32 0, .int .i32 0] 37)
          generalize w45_1.alloc (.cells #[.int .i32 0, .int .i32 0, .int .i32 0, .int .i32 0] 37) = w46_4 at *
          generalize w45_1.heap.size = g4 at *
          refine hK.out _ _ ⟨hp.cell 0, hp.cell 1, hp.cell 2, hp.cell 3, hq.cell 0, hq.cell 1, hq.cell 2, hq.cell 3⟩ (fun hHeld => ?_)
          clear hK K
          try (simp only [Act.put, List.setIfInBounds_toArray, List.set_cons_zero, List.set_cons_succ])
          refine rd1 3 (fun K hK => ?hc51_3)
          case hc51_3 =>
            go_simp
            refine (HQ.out _).mono ?_
            rintro e w51_3 ⟨rfl, bb⟩
            go_wp2_with fail
            replace hp := hp.below bb hp.lt
            replace hq := hq.below bb hq.lt
            replace h4 := h4.below bb h4.lt
            replace h5 := h5.below bb h5.lt
            replace hbe := hbe.on bb
            clear bb
            refine hK.out _ _ ⟨hp.cell 0, hp.cell 1, hp.cell 2, hp.cell 3, hq.cell 0, hq.cell 1, hq.cell 2, hq.cell 3⟩ (fun hHeld => ?_)
            clear hK K
            try (simp only [Act.put, List.setIfInBounds_toArray, List.set_cons_zero, List.set_cons_succ])
            refine rd1 6 (fun K hK => ?hc53_6)
            have c0 : w51_3.cell? ⟨g4, 0, none⟩ = some (.int .i32 0) := h4.cell 0
            have z0 := h4.frozen 0
            have c1 : w51_3.cell? ⟨g4, 1, none⟩ = some (.int .i32 0) := h4.cell 1
            have z1 := h4.frozen 1
            have c2 : w51_3.cell? ⟨g4, 2, none⟩ = some (.int .i32 0) := h4.cell 2
            have z2 := h4.frozen 2
            have c3 : w51_3.cell? ⟨g4, 3, none⟩ = some (.int .i32 0) := h4.cell 3
            have z3 := h4.frozen 3
            go_simp
            try go_wp2_with fail
            replace hp := ((((hp.far (p := ⟨g4, 0, none⟩) (by dsimp only; omega) (.int .i32 a0)).far (p := ⟨g4, 1, none⟩) (by dsimp only; omega) (.int .i32 a1)).far (p := ⟨g4, 2, none⟩) (by dsimp only; omega) (.int .i32 a2)).far (p := ⟨g4, 3, none⟩) (by dsimp only; omega) (.int .i32 a3))
            replace hq := ((((hq.far (p := ⟨g4, 0, none⟩) (by dsimp only; omega) (.int .i32 a0)).far (p := ⟨g4, 1, none⟩) (by dsimp only; omega) (.int .i32 a1)).far (p := ⟨g4, 2, none⟩) (by dsimp only; omega) (.int .i32 a2)).far (p := ⟨g4, 3, none⟩) (by dsimp only; omega) (.int .i32 a3))
            replace h5 := ((((h5.far (p := ⟨g4, 0, none⟩) (by dsimp only; omega) (.int .i32 a0)).far (p := ⟨g4, 1, none⟩) (by dsimp only; omega) (.int .i32 a1)).far (p := ⟨g4, 2, none⟩) (by dsimp only; omega) (.int .i32 a2)).far (p := ⟨g4, 3, none⟩) (by dsimp only; omega) (.int .i32 a3))
            replace h4 := ((((h4.set_ 0 (.int .i32 a0)).set_ 1 (.int .i32 a1)).set_ 2 (.int .i32 a2)).set_ 3 (.int .i32 a3))
            replace hbe := (((hbe.setCell (p := ⟨g4, 0, none⟩) (by dsimp only; omega) (.int .i32 a0)).setCell (p := ⟨g4, 1, none⟩) (by dsimp only; omega) (.int .i32 a1)).setCell (p := ⟨g4, 2, none⟩) (by dsimp only; omega) (.int .i32 a2)).setCell (p := ⟨g4, 3, none⟩) (by dsimp only; omega) (.int .i32 a3)
            clear c0 z0 c1 z1 c2 z2 c3 z3
            generalize ((((w51_3.setCell ⟨g4, 0, none⟩ (.int .i32 a0)).setCell ⟨g4, 1, none⟩ (.int .i32 a1)).setCell ⟨g4, 2, none⟩ (.int .i32 a2)).setCell ⟨g4, 3, none⟩ (.int .i32 a3)) = w53_6 at *
            refine hK.out _ _ ⟨hp.cell 0, hp.cell 1, hp.cell 2, hp.cell 3, hq.cell 0, hq.cell 1, hq.cell 2, hq.cell 3⟩ (fun hHeld => ?_)
            clear hK K
            try (simp only [Act.put, List.setIfInBounds_toArray, List.set_cons_zero, List.set_cons_succ])
            refine rd1 7 (fun K hK => ?hc54_7)
            have c0 : w53_6.cell? ⟨g5, 0, none⟩ = some (.int .i32 0) := h5.cell 0
            have z0 := h5.frozen 0
            have c1 : w53_6.cell? ⟨g5, 1, none⟩ = some (.int .i32 0) := h5.cell 1
            have z1 := h5.frozen 1
            have c2 : w53_6.cell? ⟨g5, 2, none⟩ = some (.int .i32 0) := h5.cell 2
            have z2 := h5.frozen 2
            have c3 : w53_6.cell? ⟨g5, 3, none⟩ = some (.int .i32 0) := h5.cell 3
            have z3 := h5.frozen 3
            go_simp
            try go_wp2_with fail
            replace hp := ((((hp.far (p := ⟨g5, 0, none⟩) (by dsimp only; omega) (.int .i32 b0)).far (p := ⟨g5, 1, none⟩) (by dsimp only; omega) (.int .i32 b1)).far (p := ⟨g5, 2, none⟩) (by dsimp only; omega) (.int .i32 b2)).far (p := ⟨g5, 3, none⟩) (by dsimp only; omega) (.int .i32 b3))
            replace hq := ((((hq.far (p := ⟨g5, 0, none⟩) (by dsimp only; omega) (.int .i32 b0)).far (p := ⟨g5, 1, none⟩) (by dsimp only; omega) (.int .i32 b1)).far (p := ⟨g5, 2, none⟩) (by dsimp only; omega) (.int .i32 b2)).far (p := ⟨g5, 3, none⟩) (by dsimp only; omega) (.int .i32 b3))
            replace h4 := ((((h4.far (p := ⟨g5, 0, none⟩) (by dsimp only; omega) (.int .i32 b0)).far (p := ⟨g5, 1, none⟩) (by dsimp only; omega) (.int .i32 b1)).far (p := ⟨g5, 2, none⟩) (by dsimp only; omega) (.int .i32 b2)).far (p := ⟨g5, 3, none⟩) (by dsimp only; omega) (.int .i32 b3))
            replace h5 := ((((h5.set_ 0 (.int .i32 b0)).set_ 1 (.int .i32 b1)).set_ 2 (.int .i32 b2)).set_ 3 (.int .i32 b3))
            replace hbe := (((hbe.setCell (p := ⟨g5, 0, none⟩) (by dsimp only; omega) (.int .i32 b0)).setCell (p := ⟨g5, 1, none⟩) (by dsimp only; omega) (.int .i32 b1)).setCell (p := ⟨g5, 2, none⟩) (by dsimp only; omega) (.int .i32 b2)).setCell (p := ⟨g5, 3, none⟩) (by dsimp only; omega) (.int .i32 b3)
            clear c0 z0 c1 z1 c2 z2 c3 z3
            generalize ((((w53_6.setCell ⟨g5, 0, none⟩ (.int .i32 b0)).setCell ⟨g5, 1, none⟩ (.int .i32 b1)).setCell ⟨g5, 2, none⟩ (.int .i32 b2)).setCell ⟨g5, 3, none⟩ (.int .i32 b3)) = w54_7 at *
            refine hK.out _ _ ⟨hp.cell 0, hp.cell 1, hp.cell 2, hp.cell 3, hq.cell 0, hq.cell 1, hq.cell 2, hq.cell 3⟩ (fun hHeld => ?_)
            clear hK K
            try (simp only [Act.put, List.setIfInBounds_toArray, List.set_cons_zero, List.set_cons_succ])
            refine wpAnyH_done ?hrz54 ?hqz54 _
            case hrz54 => kernel_rfl
            refine NoPanic.normal ?_
            try go_wp2_with fail
            go_meet
            exact ⟨g4, g5, rfl, rfl, by omega, h4, h5, by omega, by omega, hbe⟩
      case hc45_4 =>
        go_simp
        try go_wp2_with fail
        have lg4 : w1_5.heap.size ≥ w.heap.size + 2 := by have := hq.lt; omega
        have hne := h5.lt
        replace hp := hp.alloc (.cells #[.int .i32 0, .int .i32 0, .int .i32 0, .int .i32 0] 37)
        replace hq := hq.alloc (.cells #[.int .i32 0, .int .i32 0, .int .i32 0, .int .i32 0] 37)
        replace h5 := h5.alloc (.cells #[.int .i32 0, .int .i32 0, .int .i32 0, .int .i32 0] 37)
        have h4 := Blk.new w1_5 37 #[.int .i32 0, .int .i32 0, .int .i32 0, .int .i32 0]
        replace hbe := hbe.alloc hbe.size (.cells #[.int .i32 0, .int .i32 0, .int .i32 0, .int .i32 0] 37)
        generalize w1_5.alloc (.cells #[.int .i32 0, .int .i32 0, .int .i32 0, .int .i32 0] 37) = w45_4 at *
        generalize w1_5.heap.size = g4 at *
        refine hK.out _ _ ⟨hp.cell 0, hp.cell 1, hp.cell 2, hp.cell 3, hq.cell 0, hq.cell 1, hq.cell 2, hq.cell 3⟩ (fun hHeld => ?_)
        clear hK K
        try (simp only [Act.put, List.setIfInBounds_toArray, List.set_cons_zero, List.set_cons_succ])
        refine rd1 1 (fun K hK => ?hc55_1)
        case hc55_1 =>
          go_simp
          refine (HP.out _).mono ?_
          rintro e w55_1 ⟨rfl, bb⟩
          go_wp2_with fail
          replace hp := hp.below bb hp.lt
          replace hq := hq.below bb hq.lt
          replace h4 := h4.below bb h4.lt
          replace h5 := h5.below bb h5.lt
          replace hbe := hbe.on bb
          clear bb
          refine hK.out _ _ ⟨hp.cell 0, hp.cell 1, hp.cell 2, hp.cell 3, hq.cell 0, hq.cell 1, hq.cell 2, hq.cell 3⟩ (fun hHeld => ?_)
          clear hK K
          try (simp only [Act.put, List.setIfInBounds_toArray, List.set_cons_zero, List.set_cons_succ])
          refine rd1 3 (fun K hK => ?hc56_3)
          case hc56_3 =>
            go_simp
            refine (HQ.out _).mono ?_
            rintro e w56_3 ⟨rfl, bb⟩
            go_wp2_with fail
            replace hp := hp.below bb hp.lt
            replace hq := hq.below bb hq.lt
            replace h4 := h4.below bb h4.lt
            replace h5 := h5.below bb h5.lt
            replace hbe := hbe.on bb
            clear bb
            refine hK.out _ _ ⟨hp.cell 0, hp.cell 1, hp.cell 2, hp.cell 3, hq.cell 0, hq.cell 1, hq.cell 2, hq.cell 3⟩ (fun hHeld => ?_)
            clear hK K
            try (simp only [Act.put, List.setIfInBounds_toArray, List.set_cons_zero, List.set_cons_succ])
            refine rd1 6 (fun K hK => ?hc58_6)
            have c0 : w56_3.cell? ⟨g4, 0, none⟩ = some (.int .i32 0) := h4.cell 0
            have z0 := h4.frozen 0
            have c1 : w56_3.cell? ⟨g4, 1, none⟩ = some (.int .i32 0) := h4.cell 1
            have z1 := h4.frozen 1
            have c2 : w56_3.cell? ⟨g4, 2, none⟩ = some (.int .i32 0) := h4.cell 2
            have z2 := h4.frozen 2
            have c3 : w56_3.cell? ⟨g4, 3, none⟩ = some (.int .i32 0) := h4.cell 3
            have z3 := h4.frozen 3
            go_simp
            try go_wp2_with fail
            replace hp := ((((hp.far (p := ⟨g4, 0, none⟩) (by dsimp only; omega) (.int .i32 a0)).far (p := ⟨g4, 1, none⟩) (by dsimp only; omega) (.int .i32 a1)).far (p := ⟨g4, 2, none⟩) (by dsimp only; omega) (.int .i32 a2)).far (p := ⟨g4, 3, none⟩) (by dsimp only; omega) (.int .i32 a3))
            replace hq := ((((hq.far (p := ⟨g4, 0, none⟩) (by dsimp only; omega) (.int .i32 a0)).far (p := ⟨g4, 1, none⟩) (by dsimp only; omega) (.int .i32 a1)).far (p := ⟨g4, 2, none⟩) (by dsimp only; omega) (.int .i32 a2)).far (p := ⟨g4, 3, none⟩) (by dsimp only; omega) (.int .i32 a3))
            replace h5 := ((((h5.far (p := ⟨g4, 0, none⟩) (by dsimp only; omega) (.int .i32 a0)).far (p := ⟨g4, 1, none⟩) (by dsimp only; omega) (.int .i32 a1)).far (p := ⟨g4, 2, none⟩) (by dsimp only; omega) (.int .i32 a2)).far (p := ⟨g4, 3, none⟩) (by dsimp only; omega) (.int .i32 a3))
            replace h4 := ((((h4.set_ 0 (.int .i32 a0)).set_ 1 (.int .i32 a1)).set_ 2 (.int .i32 a2)).set_ 3 (.int .i32 a3))
            replace hbe := (((hbe.setCell (p := ⟨g4, 0, none⟩) (by dsimp only; omega) (.int .i32 a0)).setCell (p := ⟨g4, 1, none⟩) (by dsimp only; omega) (.int .i32 a1)).setCell (p := ⟨g4, 2, none⟩) (by dsimp only; omega) (.int .i32 a2)).setCell (p := ⟨g4, 3, none⟩) (by dsimp only; omega) (.int .i32 a3)
            clear c0 z0 c1 z1 c2 z2 c3 z3
            generalize ((((w56_3.setCell ⟨g4, 0, none⟩ (.int .i32 a0)).setCell ⟨g4, 1, none⟩ (.int .i32 a1)).setCell ⟨g4, 2, none⟩ (.int .i32 a2)).setCell ⟨g4, 3, none⟩ (.int .i32 a3)) = w58_6 at *
            refine hK.out _ _ ⟨hp.cell 0, hp.cell 1, hp.cell 2, hp.cell 3, hq.cell 0, hq.cell 1, hq.cell 2, hq.cell 3⟩ (fun hHeld => ?_)
            clear hK K
            try (simp only [Act.put, List.setIfInBounds_toArray, List.set_cons_zero, List.set_cons_succ])
            refine rd1 7 (fun K hK => ?hc59_7)
            have c0 : w58_6.cell? ⟨g5, 0, none⟩ = some (.int .i32 0) := h5.cell 0
            have z0 := h5.frozen 0
            have c1 : w58_6.cell? ⟨g5, 1, none⟩ = some (.int .i32 0) := h5.cell 1
            have z1 := h5.frozen 1
            have c2 : w58_6.cell? ⟨g5, 2, none⟩ = some (.int .i32 0) := h5.cell 2
            have z2 := h5.frozen 2
            have c3 : w58_6.cell? ⟨g5, 3, none⟩ = some (.int .i32 0) := h5.cell 3
            have z3 := h5.frozen 3
            go_simp
            try go_wp2_with fail
            replace hp := ((((hp.far (p := ⟨g5, 0, none⟩) (by dsimp only; omega) (.int .i32 b0)).far (p := ⟨g5, 1, none⟩) (by dsimp only; omega) (.int .i32 b1)).far (p := ⟨g5, 2, none⟩) (by dsimp only; omega) (.int .i32 b2)).far (p := ⟨g5, 3, none⟩) (by dsimp only; omega) (.int .i32 b3))
            replace hq := ((((hq.far (p := ⟨g5, 0, none⟩) (by dsimp only; omega) (.int .i32 b0)).far (p := ⟨g5, 1, none⟩) (by dsimp only; omega) (.int .i32 b1)).far (p := ⟨g5, 2, none⟩) (by dsimp only; omega) (.int .i32 b2)).far (p := ⟨g5, 3, none⟩) (by dsimp only; omega) (.int .i32 b3))
            replace h4 := ((((h4.far (p := ⟨g5, 0, none⟩) (by dsimp only; omega) (.int .i32 b0)).far (p := ⟨g5, 1, none⟩) (by dsimp only; omega) (.int .i32 b1)).far (p := ⟨g5, 2, none⟩) (by dsimp only; omega) (.int .i32 b2)).far (p := ⟨g5, 3, none⟩) (by dsimp only; omega) (.int .i32 b3))
            replace h5 := ((((h5.set_ 0 (.int .i32 b0)).set_ 1 (.int .i32 b1)).set_ 2 (.int .i32 b2)).set_ 3 (.int .i32 b3))
            replace hbe := (((hbe.setCell (p := ⟨g5, 0, none⟩) (by dsimp only; omega) (.int .i32 b0)).setCell (p := ⟨g5, 1, none⟩) (by dsimp only; omega) (.int .i32 b1)).setCell (p := ⟨g5, 2, none⟩) (by dsimp only; omega) (.int .i32 b2)).setCell (p := ⟨g5, 3, none⟩) (by dsimp only; omega) (.int .i32 b3)
            clear c0 z0 c1 z1 c2 z2 c3 z3
            generalize ((((w58_6.setCell ⟨g5, 0, none⟩ (.int .i32 b0)).setCell ⟨g5, 1, none⟩ (.int .i32 b1)).setCell ⟨g5, 2, none⟩ (.int .i32 b2)).setCell ⟨g5, 3, none⟩ (.int .i32 b3)) = w59_7 at *
            refine hK.out _ _ ⟨hp.cell 0, hp.cell 1, hp.cell 2, hp.cell 3, hq.cell 0, hq.cell 1, hq.cell 2, hq.cell 3⟩ (fun hHeld => ?_)
            clear hK K
            try (simp only [Act.put, List.setIfInBounds_toArray, List.set_cons_zero, List.set_cons_succ])
            refine wpAnyH_done ?hrz59 ?hqz59 _
            case hrz59 => kernel_rfl
            refine NoPanic.normal ?_
            try go_wp2_with fail
            go_meet
            exact ⟨g4, g5, rfl, rfl, by omega, h4, h5, by omega, by omega, hbe⟩
  case rest =>
    clear hp hq hbe
    obtain ⟨g, h, rfl, rfl, hgh, h4, h5, hg2, hh2, hbe⟩ := hcut
    go_wp2_with fail
    go_loopw [7, 13] (fun s i wr => ∃ I s0 : Int, i = .int .i64 I ∧ s = .int .i64 s0 ∧ Hid (DotI a0 a1 a2 a3 b0 b1 b2 b3 I s0) ∧ Blk wr g 37 #[.int .i32 a0, .int .i32 a1, .int .i32 a2, .int .i32 a3] ∧ Blk wr h 37 #[.int .i32 b0, .int .i32 b1, .int .i32 b2, .int .i32 b3] ∧ Below w.heap.size w wr) (fun _ i _ => 4 - (intOf i).toNat)
    case atStart => exact ⟨0, 0, rfl, rfl, .inl ⟨rfl, rfl⟩, h4, h5, hbe⟩
    case round =>
      clear h4 h5 hbe
      obtain ⟨I, s0, rfl, rfl, hcut, h4, h5, hbe⟩ := hrel
      rcases hcut.out with ⟨rfl, e0⟩ | ⟨rfl, e0⟩ | ⟨rfl, e0⟩ | ⟨rfl, e0⟩ | ⟨rfl, e0⟩
      · have E := hid (show s0 = 0 from e0)
        have hbd : IntKind.i64.wrap (s0 + tmP a0 b0) = s0 + tmP a0 b0 := by have := m0.out; have := m1.out; have := m2.out; have := m3.out; exact IntWalk.i64_in _ (by omega)
        clear e0 hcut
        go_wp2_with fail
        refine wp_region_noPanic ?_
        refine wp_region_held_drew (S := fun w' : World => w'.cell? ⟨g, 0, none⟩ = some (.int .i32 a0) ∧ w'.cell? ⟨h, 0, none⟩ = some (.int .i32 b0)) (by kernel_rfl) ⟨h4.cell 0, h5.cell 0⟩ (fun hHeld => ?_)
        refine (show wpAnyH _ _ _ _ _ 10 _ _ _ from ?_)
        try (simp only [Act.put, List.setIfInBounds_toArray, List.set_cons_zero, List.set_cons_succ])
        replace h4 := h4.drew
        replace h5 := h5.drew
        replace hbe := hbe.drew
        generalize wr.drew = w2 at *
        refine tk 0 hHeld ?_
        refine tk 1 hHeld ?_
        refine tk 2 hHeld ?_
        refine tk 3 hHeld ?_
        refine tk 4 hHeld ?_
        refine tk 5 hHeld ?_
        refine tk 6 hHeld ?_
        refine rd1 7 (fun K hK => ?hcq07)
        go_simp
        refine (HT0.out _).mono ?_
        rintro e w3 ⟨rfl, bb⟩
        replace h4 := h4.below bb h4.lt
        replace h5 := h5.below bb h5.lt
        replace hbe := hbe.on bb
        clear bb
        go_wp2_with fail
        refine hK.out _ _ ⟨h4.cell 0, h5.cell 0⟩ (fun hHeld => ?_)
        clear hK K
        try (simp only [Act.put, List.setIfInBounds_toArray, List.set_cons_zero, List.set_cons_succ])
        refine tk 8 hHeld ?_
        refine tk 9 hHeld ?_
        refine wpAnyH_done ?hrzq0 ?hqzq0 _
        case hrzq0 => kernel_rfl
        refine NoPanic.normal ?_
        go_wp2
        go_roundw
        case rel => exact ⟨1, s0 + tmP a0 b0, rfl, rfl, .inr <| .inl ⟨rfl, by have := E.out; omega⟩, h4, h5, hbe⟩
        case measure => simp [intOf]
      · have E := hid (show s0 = tmP a0 b0 from e0)
        have hbd : IntKind.i64.wrap (s0 + tmP a1 b1) = s0 + tmP a1 b1 := by have := m0.out; have := m1.out; have := m2.out; have := m3.out; exact IntWalk.i64_in _ (by omega)
        clear e0 hcut
        go_wp2_with fail
        refine wp_region_noPanic ?_
        refine wp_region_held_drew (S := fun w' : World => w'.cell? ⟨g, 1, none⟩ = some (.int .i32 a1) ∧ w'.cell? ⟨h, 1, none⟩ = some (.int .i32 b1)) (by kernel_rfl) ⟨h4.cell 1, h5.cell 1⟩ (fun hHeld => ?_)
        refine (show wpAnyH _ _ _ _ _ 10 _ _ _ from ?_)
        try (simp only [Act.put, List.setIfInBounds_toArray, List.set_cons_zero, List.set_cons_succ])
        replace h4 := h4.drew
        replace h5 := h5.drew
        replace hbe := hbe.drew
        generalize wr.drew = w2 at *
        refine tk 0 hHeld ?_
        refine tk 1 hHeld ?_
        refine tk 2 hHeld ?_
        refine tk 3 hHeld ?_
        refine tk 4 hHeld ?_
        refine tk 5 hHeld ?_
        refine tk 6 hHeld ?_
        refine rd1 7 (fun K hK => ?hcq17)
        go_simp
        refine (HT1.out _).mono ?_
        rintro e w3 ⟨rfl, bb⟩
        replace h4 := h4.below bb h4.lt
        replace h5 := h5.below bb h5.lt
        replace hbe := hbe.on bb
        clear bb
        go_wp2_with fail
        refine hK.out _ _ ⟨h4.cell 1, h5.cell 1⟩ (fun hHeld => ?_)
        clear hK K
        try (simp only [Act.put, List.setIfInBounds_toArray, List.set_cons_zero, List.set_cons_succ])
        refine tk 8 hHeld ?_
        refine tk 9 hHeld ?_
        refine wpAnyH_done ?hrzq1 ?hqzq1 _
        case hrzq1 => kernel_rfl
        refine NoPanic.normal ?_
        go_wp2
        go_roundw
        case rel => exact ⟨2, s0 + tmP a1 b1, rfl, rfl, .inr <| .inr <| .inl ⟨rfl, by have := E.out; omega⟩, h4, h5, hbe⟩
        case measure => simp [intOf]
      · have E := hid (show s0 = tmP a0 b0 + tmP a1 b1 from e0)
        have hbd : IntKind.i64.wrap (s0 + tmP a2 b2) = s0 + tmP a2 b2 := by have := m0.out; have := m1.out; have := m2.out; have := m3.out; exact IntWalk.i64_in _ (by omega)
        clear e0 hcut
        go_wp2_with fail
        refine wp_region_noPanic ?_
        refine wp_region_held_drew (S := fun w' : World => w'.cell? ⟨g, 2, none⟩ = some (.int .i32 a2) ∧ w'.cell? ⟨h, 2, none⟩ = some (.int .i32 b2)) (by kernel_rfl) ⟨h4.cell 2, h5.cell 2⟩ (fun hHeld => ?_)
        refine (show wpAnyH _ _ _ _ _ 10 _ _ _ from ?_)
        try (simp only [Act.put, List.setIfInBounds_toArray, List.set_cons_zero, List.set_cons_succ])
        replace h4 := h4.drew
        replace h5 := h5.drew
        replace hbe := hbe.drew
        generalize wr.drew = w2 at *
        refine tk 0 hHeld ?_
        refine tk 1 hHeld ?_
        refine tk 2 hHeld ?_
        refine tk 3 hHeld ?_
        refine tk 4 hHeld ?_
        refine tk 5 hHeld ?_
        refine tk 6 hHeld ?_
        refine rd1 7 (fun K hK => ?hcq27)
        go_simp
        refine (HT2.out _).mono ?_
        rintro e w3 ⟨rfl, bb⟩
        replace h4 := h4.below bb h4.lt
        replace h5 := h5.below bb h5.lt
        replace hbe := hbe.on bb
        clear bb
        go_wp2_with fail
        refine hK.out _ _ ⟨h4.cell 2, h5.cell 2⟩ (fun hHeld => ?_)
        clear hK K
        try (simp only [Act.put, List.setIfInBounds_toArray, List.set_cons_zero, List.set_cons_succ])
        refine tk 8 hHeld ?_
        refine tk 9 hHeld ?_
        refine wpAnyH_done ?hrzq2 ?hqzq2 _
        case hrzq2 => kernel_rfl
        refine NoPanic.normal ?_
        go_wp2
        go_roundw
        case rel => exact ⟨3, s0 + tmP a2 b2, rfl, rfl, .inr <| .inr <| .inr <| .inl ⟨rfl, by have := E.out; omega⟩, h4, h5, hbe⟩
        case measure => simp [intOf]
      · have E := hid (show s0 = tmP a0 b0 + tmP a1 b1 + tmP a2 b2 from e0)
        have hbd : IntKind.i64.wrap (s0 + tmP a3 b3) = s0 + tmP a3 b3 := by have := m0.out; have := m1.out; have := m2.out; have := m3.out; exact IntWalk.i64_in _ (by omega)
        clear e0 hcut
        go_wp2_with fail
        refine wp_region_noPanic ?_
        refine wp_region_held_drew (S := fun w' : World => w'.cell? ⟨g, 3, none⟩ = some (.int .i32 a3) ∧ w'.cell? ⟨h, 3, none⟩ = some (.int .i32 b3)) (by kernel_rfl) ⟨h4.cell 3, h5.cell 3⟩ (fun hHeld => ?_)
        refine (show wpAnyH _ _ _ _ _ 10 _ _ _ from ?_)
        try (simp only [Act.put, List.setIfInBounds_toArray, List.set_cons_zero, List.set_cons_succ])
        replace h4 := h4.drew
        replace h5 := h5.drew
        replace hbe := hbe.drew
        generalize wr.drew = w2 at *
        refine tk 0 hHeld ?_
        refine tk 1 hHeld ?_
        refine tk 2 hHeld ?_
        refine tk 3 hHeld ?_
        refine tk 4 hHeld ?_
        refine tk 5 hHeld ?_
        refine tk 6 hHeld ?_
        refine rd1 7 (fun K hK => ?hcq37)
        go_simp
        refine (HT3.out _).mono ?_
        rintro e w3 ⟨rfl, bb⟩
        replace h4 := h4.below bb h4.lt
        replace h5 := h5.below bb h5.lt
        replace hbe := hbe.on bb
        clear bb
        go_wp2_with fail
        refine hK.out _ _ ⟨h4.cell 3, h5.cell 3⟩ (fun hHeld => ?_)
        clear hK K
        try (simp only [Act.put, List.setIfInBounds_toArray, List.set_cons_zero, List.set_cons_succ])
        refine tk 8 hHeld ?_
        refine tk 9 hHeld ?_
        refine wpAnyH_done ?hrzq3 ?hqzq3 _
        case hrzq3 => kernel_rfl
        refine NoPanic.normal ?_
        go_wp2
        go_roundw
        case rel => exact ⟨4, s0 + tmP a3 b3, rfl, rfl, .inr <| .inr <| .inr <| .inr <| ⟨rfl, by have := E.out; omega⟩, h4, h5, hbe⟩
        case measure => simp [intOf]
      · rw [HE.out] at e0
        subst e0
        clear hcut
        go_wp2
        go_ret
        exact ⟨rfl, hbe⟩
end Go.Proofs.Ytlcikfnhgldonaa
