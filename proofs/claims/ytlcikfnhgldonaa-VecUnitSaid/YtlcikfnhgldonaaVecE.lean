/- Chapter 09: vectors: across both; by a number. -/
import Derived.Test.YtlcikfnhgldonaaVecD
namespace Go.Proofs.Ytlcikfnhgldonaa
open Go.RowKit
set_option linter.unusedVariables false
set_option linter.unusedSimpArgs false

set_option maxHeartbeats 16000000 in
theorem v_Cross (a0 a1 a2 b0 b1 b2 : Int) (w : World) (ia0 : I32 a0) (ia1 : I32 a1) (ia2 : I32 a2) (ib0 : I32 b0) (ib1 : I32 b1) (ib2 : I32 b2) :
    Calls Try.prog 46 #[.agg #[.int .i32 a0, .int .i32 a1, .int .i32 a2], .agg #[.int .i32 b0, .int .i32 b1, .int .i32 b2]] w fun e w' => e = .returned (.tuple #[.agg #[.int .i32 (clampP (tvP a1 b2 - tvP a2 b1)), .int .i32 (clampP (tvP a2 b0 - tvP a0 b2)), .int .i32 (clampP (tvP a0 b1 - tvP a1 b0))], .int .i64 (cutC (tvP a1 b2 - tvP a2 b1) + cutC (tvP a2 b0 - tvP a0 b2) + cutC (tvP a0 b1 - tvP a1 b0))]) ∧ Below w.heap.size w w' := by
  have HP := hid fun w => v_parts a0 a1 a2 w
  have HQ := hid fun w => v_parts b0 b1 b2 w
  have hmf : ∀ (fn : Fn) (first cap : Array Value) (w : World), (Instr.makeFunc fn first cap).run Try.prog w = .ok (.func fn first cap) w := fun _ _ _ _ => rfl
  have hp0 : Blk (((w.alloc (.cells #[.int .i32 a0, .int .i32 a1, .int .i32 a2] 40)).alloc (.cells #[.int .i32 b0, .int .i32 b1, .int .i32 b2] 40)).alloc (.cells #[.int .i32 0, .int .i32 0, .int .i32 0] 40)) w.heap.size 40 #[.int .i32 a0, .int .i32 a1, .int .i32 a2] := ((Blk.new w _ _).alloc _).alloc _
  have hp1 : Blk (((w.alloc (.cells #[.int .i32 a0, .int .i32 a1, .int .i32 a2] 40)).alloc (.cells #[.int .i32 b0, .int .i32 b1, .int .i32 b2] 40)).alloc (.cells #[.int .i32 0, .int .i32 0, .int .i32 0] 40)) (w.heap.size + 1) 40 #[.int .i32 b0, .int .i32 b1, .int .i32 b2] := by have := (Blk.new (w.alloc (.cells #[.int .i32 a0, .int .i32 a1, .int .i32 a2] 40)) 40 #[.int .i32 b0, .int .i32 b1, .int .i32 b2]).alloc (.cells #[.int .i32 0, .int .i32 0, .int .i32 0] 40); simpa using this
  have hr : Blk (((w.alloc (.cells #[.int .i32 a0, .int .i32 a1, .int .i32 a2] 40)).alloc (.cells #[.int .i32 b0, .int .i32 b1, .int .i32 b2] 40)).alloc (.cells #[.int .i32 0, .int .i32 0, .int .i32 0] 40)) (w.heap.size + 1 + 1) 40 #[.int .i32 0, .int .i32 0, .int .i32 0] := by have := Blk.new ((w.alloc (.cells #[.int .i32 a0, .int .i32 a1, .int .i32 a2] 40)).alloc (.cells #[.int .i32 b0, .int .i32 b1, .int .i32 b2] 40)) 40 #[.int .i32 0, .int .i32 0, .int .i32 0]; simpa using this
  have hb : Below w.heap.size w (((w.alloc (.cells #[.int .i32 a0, .int .i32 a1, .int .i32 a2] 40)).alloc (.cells #[.int .i32 b0, .int .i32 b1, .int .i32 b2] 40)).alloc (.cells #[.int .i32 0, .int .i32 0, .int .i32 0] 40)) := (((Below.refl _ w).alloc (Nat.le_refl _) _).alloc (by simp) _).alloc (by simp; omega) _
  go_enter Try.func46, Try.ntmps46
  go_upto_region 1 with fail
  generalize ((w.alloc (.cells #[.int .i32 a0, .int .i32 a1, .int .i32 a2] 40)).alloc (.cells #[.int .i32 b0, .int .i32 b1, .int .i32 b2] 40)).alloc (.cells #[.int .i32 0, .int .i32 0, .int .i32 0] 40) = W0 at *
  go_cut [6, 7] from 8 to 11 (fun x y wx => ∃ g h : Nat, x = .pointer (some ⟨g, 0, none⟩) ∧ y = .pointer (some ⟨h, 0, none⟩) ∧ Blk wx g 71 #[.int .i32 a0, .int .i32 a1, .int .i32 a2] ∧ Blk wx h 71 #[.int .i32 b0, .int .i32 b1, .int .i32 b2] ∧ Blk wx (w.heap.size + 1 + 1) 40 #[.int .i32 0, .int .i32 0, .int .i32 0] ∧ Below w.heap.size w wx)
  case first =>
    refine wp_region_noPanic ?_
    refine wp_region_held_drew (S := (fun w' : World => w'.cell? ⟨w.heap.size, 0, none⟩ = some (.int .i32 a0) ∧ w'.cell? ⟨w.heap.size, 1, none⟩ = some (.int .i32 a1) ∧ w'.cell? ⟨w.heap.size, 2, none⟩ = some (.int .i32 a2) ∧ w'.cell? ⟨w.heap.size + 1, 0, none⟩ = some (.int .i32 b0) ∧ w'.cell? ⟨w.heap.size + 1, 1, none⟩ = some (.int .i32 b1) ∧ w'.cell? ⟨w.heap.size + 1, 2, none⟩ = some (.int .i32 b2) ∧ w'.cell? ⟨w.heap.size + 1 + 1, 0, none⟩ = some (.int .i32 0) ∧ w'.cell? ⟨w.heap.size + 1 + 1, 1, none⟩ = some (.int .i32 0) ∧ w'.cell? ⟨w.heap.size + 1 + 1, 2, none⟩ = some (.int .i32 0))) (by kernel_rfl) ⟨hp0.cell 0, hp0.cell 1, hp0.cell 2, hp1.cell 0, hp1.cell 1, hp1.cell 2, hr.cell 0, hr.cell 1, hr.cell 2⟩ (fun hHeld => ?_)
    refine (show wpAnyH _ _ _ _ _ 8 _ _ _ from ?_)
    try (simp only [Act.put, List.setIfInBounds_toArray, List.set_cons_zero, List.set_cons_succ])
    replace hp0 := hp0.drew
    replace hp1 := hp1.drew
    replace hr := hr.drew
    replace hb := hb.drew
    generalize W0.drew = W237 at *
    refine tk 0 hHeld ?_
    refine tk 2 hHeld ?_
    refine rd3 1 4 5 (fun K hK => ?hc238q1) (fun K hK => ?hc238q4) (fun K hK => ?hc238q5)
    case hc238q1 =>
      go_simp
      refine (HP.out _).mono ?_
      rintro e v239 ⟨rfl, bb⟩
      go_wp2_with fail
      replace hp0 := hp0.below bb hp0.lt
      replace hp1 := hp1.below bb hp1.lt
      replace hr := hr.below bb hr.lt
      replace hb := hb.on bb
      clear bb
      refine hK.out _ _ ⟨hp0.cell 0, hp0.cell 1, hp0.cell 2, hp1.cell 0, hp1.cell 1, hp1.cell 2, hr.cell 0, hr.cell 1, hr.cell 2⟩ (fun hHeld => ?_)
      clear hK K
      try (simp only [Act.put, List.setIfInBounds_toArray, List.set_cons_zero, List.set_cons_succ])
      refine rd3 3 4 5 (fun K hK => ?hc240q3) (fun K hK => ?hc240q4) (fun K hK => ?hc240q5)
      case hc240q3 =>
        go_simp
        refine (HQ.out _).mono ?_
        rintro e v241 ⟨rfl, bb⟩
        go_wp2_with fail
        replace hp0 := hp0.below bb hp0.lt
        replace hp1 := hp1.below bb hp1.lt
        replace hr := hr.below bb hr.lt
        replace hb := hb.on bb
        clear bb
        refine hK.out _ _ ⟨hp0.cell 0, hp0.cell 1, hp0.cell 2, hp1.cell 0, hp1.cell 1, hp1.cell 2, hr.cell 0, hr.cell 1, hr.cell 2⟩ (fun hHeld => ?_)
        clear hK K
        try (simp only [Act.put, List.setIfInBounds_toArray, List.set_cons_zero, List.set_cons_succ])
        refine rd2 4 5 (fun K hK => ?hc242q4) (fun K hK => ?hc242q5)
        case hc242q4 =>
          go_simp
          try go_wp2_with fail
          have lb243 := hb.size
          have l243hp0 := hp0.lt
          have l243hp1 := hp1.lt
          have l243hr := hr.lt
          replace hp0 := hp0.alloc (.cells #[.int .i32 0, .int .i32 0, .int .i32 0] 71)
          replace hp1 := hp1.alloc (.cells #[.int .i32 0, .int .i32 0, .int .i32 0] 71)
          replace hr := hr.alloc (.cells #[.int .i32 0, .int .i32 0, .int .i32 0] 71)
          have n243 := Blk.new v241 71 #[.int .i32 0, .int .i32 0, .int .i32 0]
          replace hb := hb.alloc hb.size (.cells #[.int .i32 0, .int .i32 0, .int .i32 0] 71)
          generalize v241.alloc (.cells #[.int .i32 0, .int .i32 0, .int .i32 0] 71) = v243 at *
          generalize v241.heap.size = g243 at *
          refine hK.out _ _ ⟨hp0.cell 0, hp0.cell 1, hp0.cell 2, hp1.cell 0, hp1.cell 1, hp1.cell 2, hr.cell 0, hr.cell 1, hr.cell 2⟩ (fun hHeld => ?_)
          clear hK K
          try (simp only [Act.put, List.setIfInBounds_toArray, List.set_cons_zero, List.set_cons_succ])
          refine rd1 5 (fun K hK => ?_)
          go_simp
          try go_wp2_with fail
          have lb245 := hb.size
          have l245hp0 := hp0.lt
          have l245hp1 := hp1.lt
          have l245hr := hr.lt
          have l245n243 := n243.lt
          replace hp0 := hp0.alloc (.cells #[.int .i32 0, .int .i32 0, .int .i32 0] 71)
          replace hp1 := hp1.alloc (.cells #[.int .i32 0, .int .i32 0, .int .i32 0] 71)
          replace hr := hr.alloc (.cells #[.int .i32 0, .int .i32 0, .int .i32 0] 71)
          replace n243 := n243.alloc (.cells #[.int .i32 0, .int .i32 0, .int .i32 0] 71)
          have n245 := Blk.new v243 71 #[.int .i32 0, .int .i32 0, .int .i32 0]
          replace hb := hb.alloc hb.size (.cells #[.int .i32 0, .int .i32 0, .int .i32 0] 71)
          generalize v243.alloc (.cells #[.int .i32 0, .int .i32 0, .int .i32 0] 71) = v245 at *
          generalize v243.heap.size = g245 at *
          refine hK.out _ _ ⟨hp0.cell 0, hp0.cell 1, hp0.cell 2, hp1.cell 0, hp1.cell 1, hp1.cell 2, hr.cell 0, hr.cell 1, hr.cell 2⟩ (fun hHeld => ?_)
          clear hK K
          try (simp only [Act.put, List.setIfInBounds_toArray, List.set_cons_zero, List.set_cons_succ])
          refine rd1 6 (fun K hK => ?_)
          have c0 : v245.cell? ⟨g243, 0, none⟩ = some (.int .i32 0) := n243.cell 0
          have z0 := n243.frozen 0
          have c1 : v245.cell? ⟨g243, 1, none⟩ = some (.int .i32 0) := n243.cell 1
          have z1 := n243.frozen 1
          have c2 : v245.cell? ⟨g243, 2, none⟩ = some (.int .i32 0) := n243.cell 2
          have z2 := n243.frozen 2
          go_simp
          try go_wp2_with fail
          replace hp0 := (((hp0.far (p := ⟨g243, 0, none⟩) (by dsimp only; omega) (.int .i32 a0)).far (p := ⟨g243, 1, none⟩) (by dsimp only; omega) (.int .i32 a1)).far (p := ⟨g243, 2, none⟩) (by dsimp only; omega) (.int .i32 a2))
          replace hp1 := (((hp1.far (p := ⟨g243, 0, none⟩) (by dsimp only; omega) (.int .i32 a0)).far (p := ⟨g243, 1, none⟩) (by dsimp only; omega) (.int .i32 a1)).far (p := ⟨g243, 2, none⟩) (by dsimp only; omega) (.int .i32 a2))
          replace hr := (((hr.far (p := ⟨g243, 0, none⟩) (by dsimp only; omega) (.int .i32 a0)).far (p := ⟨g243, 1, none⟩) (by dsimp only; omega) (.int .i32 a1)).far (p := ⟨g243, 2, none⟩) (by dsimp only; omega) (.int .i32 a2))
          replace n245 := (((n245.far (p := ⟨g243, 0, none⟩) (by dsimp only; omega) (.int .i32 a0)).far (p := ⟨g243, 1, none⟩) (by dsimp only; omega) (.int .i32 a1)).far (p := ⟨g243, 2, none⟩) (by dsimp only; omega) (.int .i32 a2))
          replace n243 := (((n243.set_ 0 (.int .i32 a0)).set_ 1 (.int .i32 a1)).set_ 2 (.int .i32 a2))
          replace hb := (((hb.setCell (p := ⟨g243, 0, none⟩) (by dsimp only; omega) (.int .i32 a0)).setCell (p := ⟨g243, 1, none⟩) (by dsimp only; omega) (.int .i32 a1)).setCell (p := ⟨g243, 2, none⟩) (by dsimp only; omega) (.int .i32 a2))
          clear c0 z0 c1 z1 c2 z2
          generalize (((v245.setCell ⟨g243, 0, none⟩ (.int .i32 a0)).setCell ⟨g243, 1, none⟩ (.int .i32 a1)).setCell ⟨g243, 2, none⟩ (.int .i32 a2)) = v247 at *
          refine hK.out _ _ ⟨hp0.cell 0, hp0.cell 1, hp0.cell 2, hp1.cell 0, hp1.cell 1, hp1.cell 2, hr.cell 0, hr.cell 1, hr.cell 2⟩ (fun hHeld => ?_)
          clear hK K
          try (simp only [Act.put, List.setIfInBounds_toArray, List.set_cons_zero, List.set_cons_succ])
          refine rd1 7 (fun K hK => ?_)
          have c0 : v247.cell? ⟨g245, 0, none⟩ = some (.int .i32 0) := n245.cell 0
          have z0 := n245.frozen 0
          have c1 : v247.cell? ⟨g245, 1, none⟩ = some (.int .i32 0) := n245.cell 1
          have z1 := n245.frozen 1
          have c2 : v247.cell? ⟨g245, 2, none⟩ = some (.int .i32 0) := n245.cell 2
          have z2 := n245.frozen 2
          go_simp
          try go_wp2_with fail
          replace hp0 := (((hp0.far (p := ⟨g245, 0, none⟩) (by dsimp only; omega) (.int .i32 b0)).far (p := ⟨g245, 1, none⟩) (by dsimp only; omega) (.int .i32 b1)).far (p := ⟨g245, 2, none⟩) (by dsimp only; omega) (.int .i32 b2))
          replace hp1 := (((hp1.far (p := ⟨g245, 0, none⟩) (by dsimp only; omega) (.int .i32 b0)).far (p := ⟨g245, 1, none⟩) (by dsimp only; omega) (.int .i32 b1)).far (p := ⟨g245, 2, none⟩) (by dsimp only; omega) (.int .i32 b2))
          replace hr := (((hr.far (p := ⟨g245, 0, none⟩) (by dsimp only; omega) (.int .i32 b0)).far (p := ⟨g245, 1, none⟩) (by dsimp only; omega) (.int .i32 b1)).far (p := ⟨g245, 2, none⟩) (by dsimp only; omega) (.int .i32 b2))
          replace n243 := (((n243.far (p := ⟨g245, 0, none⟩) (by dsimp only; omega) (.int .i32 b0)).far (p := ⟨g245, 1, none⟩) (by dsimp only; omega) (.int .i32 b1)).far (p := ⟨g245, 2, none⟩) (by dsimp only; omega) (.int .i32 b2))
          replace n245 := (((n245.set_ 0 (.int .i32 b0)).set_ 1 (.int .i32 b1)).set_ 2 (.int .i32 b2))
          replace hb := (((hb.setCell (p := ⟨g245, 0, none⟩) (by dsimp only; omega) (.int .i32 b0)).setCell (p := ⟨g245, 1, none⟩) (by dsimp only; omega) (.int .i32 b1)).setCell (p := ⟨g245, 2, none⟩) (by dsimp only; omega) (.int .i32 b2))
          clear c0 z0 c1 z1 c2 z2
          generalize (((v247.setCell ⟨g245, 0, none⟩ (.int .i32 b0)).setCell ⟨g245, 1, none⟩ (.int .i32 b1)).setCell ⟨g245, 2, none⟩ (.int .i32 b2)) = v249 at *
          refine hK.out _ _ ⟨hp0.cell 0, hp0.cell 1, hp0.cell 2, hp1.cell 0, hp1.cell 1, hp1.cell 2, hr.cell 0, hr.cell 1, hr.cell 2⟩ (fun hHeld => ?_)
          clear hK K
          try (simp only [Act.put, List.setIfInBounds_toArray, List.set_cons_zero, List.set_cons_succ])
          refine wpAnyH_done ?hru250 ?hqu250 _
          case hru250 => kernel_rfl
          refine NoPanic.normal ?_
          try go_wp2_with fail
          go_meet
          exact ⟨g243, g245, rfl, rfl, n243, n245, hr, hb⟩
        case hc242q5 =>
          go_simp
          try go_wp2_with fail
          have lb251 := hb.size
          have l251hp0 := hp0.lt
          have l251hp1 := hp1.lt
          have l251hr := hr.lt
          replace hp0 := hp0.alloc (.cells #[.int .i32 0, .int .i32 0, .int .i32 0] 71)
          replace hp1 := hp1.alloc (.cells #[.int .i32 0, .int .i32 0, .int .i32 0] 71)
          replace hr := hr.alloc (.cells #[.int .i32 0, .int .i32 0, .int .i32 0] 71)
          have n251 := Blk.new v241 71 #[.int .i32 0, .int .i32 0, .int .i32 0]
          replace hb := hb.alloc hb.size (.cells #[.int .i32 0, .int .i32 0, .int .i32 0] 71)
          generalize v241.alloc (.cells #[.int .i32 0, .int .i32 0, .int .i32 0] 71) = v251 at *
          generalize v241.heap.size = g251 at *
          refine hK.out _ _ ⟨hp0.cell 0, hp0.cell 1, hp0.cell 2, hp1.cell 0, hp1.cell 1, hp1.cell 2, hr.cell 0, hr.cell 1, hr.cell 2⟩ (fun hHeld => ?_)
          clear hK K
          try (simp only [Act.put, List.setIfInBounds_toArray, List.set_cons_zero, List.set_cons_succ])
          refine rd1 4 (fun K hK => ?_)
          go_simp
          try go_wp2_with fail
          have lb253 := hb.size
          have l253hp0 := hp0.lt
          have l253hp1 := hp1.lt
          have l253hr := hr.lt
          have l253n251 := n251.lt
          replace hp0 := hp0.alloc (.cells #[.int .i32 0, .int .i32 0, .int .i32 0] 71)
          replace hp1 := hp1.alloc (.cells #[.int .i32 0, .int .i32 0, .int .i32 0] 71)
          replace hr := hr.alloc (.cells #[.int .i32 0, .int .i32 0, .int .i32 0] 71)
          replace n251 := n251.alloc (.cells #[.int .i32 0, .int .i32 0, .int .i32 0] 71)
          have n253 := Blk.new v251 71 #[.int .i32 0, .int .i32 0, .int .i32 0]
          replace hb := hb.alloc hb.size (.cells #[.int .i32 0, .int .i32 0, .int .i32 0] 71)
          generalize v251.alloc (.cells #[.int .i32 0, .int .i32 0, .int .i32 0] 71) = v253 at *
          generalize v251.heap.size = g253 at *
          refine hK.out _ _ ⟨hp0.cell 0, hp0.cell 1, hp0.cell 2, hp1.cell 0, hp1.cell 1, hp1.cell 2, hr.cell 0, hr.cell 1, hr.cell 2⟩ (fun hHeld => ?_)
          clear hK K
          try (simp only [Act.put, List.setIfInBounds_toArray, List.set_cons_zero, List.set_cons_succ])
          refine rd1 6 (fun K hK => ?_)
          have c0 : v253.cell? ⟨g253, 0, none⟩ = some (.int .i32 0) := n253.cell 0
          have z0 := n253.frozen 0
          have c1 : v253.cell? ⟨g253, 1, none⟩ = some (.int .i32 0) := n253.cell 1
          have z1 := n253.frozen 1
          have c2 : v253.cell? ⟨g253, 2, none⟩ = some (.int .i32 0) := n253.cell 2
          have z2 := n253.frozen 2
          go_simp
          try go_wp2_with fail
          replace hp0 := (((hp0.far (p := ⟨g253, 0, none⟩) (by dsimp only; omega) (.int .i32 a0)).far (p := ⟨g253, 1, none⟩) (by dsimp only; omega) (.int .i32 a1)).far (p := ⟨g253, 2, none⟩) (by dsimp only; omega) (.int .i32 a2))
          replace hp1 := (((hp1.far (p := ⟨g253, 0, none⟩) (by dsimp only; omega) (.int .i32 a0)).far (p := ⟨g253, 1, none⟩) (by dsimp only; omega) (.int .i32 a1)).far (p := ⟨g253, 2, none⟩) (by dsimp only; omega) (.int .i32 a2))
          replace hr := (((hr.far (p := ⟨g253, 0, none⟩) (by dsimp only; omega) (.int .i32 a0)).far (p := ⟨g253, 1, none⟩) (by dsimp only; omega) (.int .i32 a1)).far (p := ⟨g253, 2, none⟩) (by dsimp only; omega) (.int .i32 a2))
          replace n251 := (((n251.far (p := ⟨g253, 0, none⟩) (by dsimp only; omega) (.int .i32 a0)).far (p := ⟨g253, 1, none⟩) (by dsimp only; omega) (.int .i32 a1)).far (p := ⟨g253, 2, none⟩) (by dsimp only; omega) (.int .i32 a2))
          replace n253 := (((n253.set_ 0 (.int .i32 a0)).set_ 1 (.int .i32 a1)).set_ 2 (.int .i32 a2))
          replace hb := (((hb.setCell (p := ⟨g253, 0, none⟩) (by dsimp only; omega) (.int .i32 a0)).setCell (p := ⟨g253, 1, none⟩) (by dsimp only; omega) (.int .i32 a1)).setCell (p := ⟨g253, 2, none⟩) (by dsimp only; omega) (.int .i32 a2))
          clear c0 z0 c1 z1 c2 z2
          generalize (((v253.setCell ⟨g253, 0, none⟩ (.int .i32 a0)).setCell ⟨g253, 1, none⟩ (.int .i32 a1)).setCell ⟨g253, 2, none⟩ (.int .i32 a2)) = v255 at *
          refine hK.out _ _ ⟨hp0.cell 0, hp0.cell 1, hp0.cell 2, hp1.cell 0, hp1.cell 1, hp1.cell 2, hr.cell 0, hr.cell 1, hr.cell 2⟩ (fun hHeld => ?_)
          clear hK K
          try (simp only [Act.put, List.setIfInBounds_toArray, List.set_cons_zero, List.set_cons_succ])
          refine rd1 7 (fun K hK => ?_)
          have c0 : v255.cell? ⟨g251, 0, none⟩ = some (.int .i32 0) := n251.cell 0
          have z0 := n251.frozen 0
          have c1 : v255.cell? ⟨g251, 1, none⟩ = some (.int .i32 0) := n251.cell 1
          have z1 := n251.frozen 1
          have c2 : v255.cell? ⟨g251, 2, none⟩ = some (.int .i32 0) := n251.cell 2
          have z2 := n251.frozen 2
          go_simp
          try go_wp2_with fail
          replace hp0 := (((hp0.far (p := ⟨g251, 0, none⟩) (by dsimp only; omega) (.int .i32 b0)).far (p := ⟨g251, 1, none⟩) (by dsimp only; omega) (.int .i32 b1)).far (p := ⟨g251, 2, none⟩) (by dsimp only; omega) (.int .i32 b2))
          replace hp1 := (((hp1.far (p := ⟨g251, 0, none⟩) (by dsimp only; omega) (.int .i32 b0)).far (p := ⟨g251, 1, none⟩) (by dsimp only; omega) (.int .i32 b1)).far (p := ⟨g251, 2, none⟩) (by dsimp only; omega) (.int .i32 b2))
          replace hr := (((hr.far (p := ⟨g251, 0, none⟩) (by dsimp only; omega) (.int .i32 b0)).far (p := ⟨g251, 1, none⟩) (by dsimp only; omega) (.int .i32 b1)).far (p := ⟨g251, 2, none⟩) (by dsimp only; omega) (.int .i32 b2))
          replace n253 := (((n253.far (p := ⟨g251, 0, none⟩) (by dsimp only; omega) (.int .i32 b0)).far (p := ⟨g251, 1, none⟩) (by dsimp only; omega) (.int .i32 b1)).far (p := ⟨g251, 2, none⟩) (by dsimp only; omega) (.int .i32 b2))
          replace n251 := (((n251.set_ 0 (.int .i32 b0)).set_ 1 (.int .i32 b1)).set_ 2 (.int .i32 b2))
          replace hb := (((hb.setCell (p := ⟨g251, 0, none⟩) (by dsimp only; omega) (.int .i32 b0)).setCell (p := ⟨g251, 1, none⟩) (by dsimp only; omega) (.int .i32 b1)).setCell (p := ⟨g251, 2, none⟩) (by dsimp only; omega) (.int .i32 b2))
          clear c0 z0 c1 z1 c2 z2
          generalize (((v255.setCell ⟨g251, 0, none⟩ (.int .i32 b0)).setCell ⟨g251, 1, none⟩ (.int .i32 b1)).setCell ⟨g251, 2, none⟩ (.int .i32 b2)) = v257 at *
          refine hK.out _ _ ⟨hp0.cell 0, hp0.cell 1, hp0.cell 2, hp1.cell 0, hp1.cell 1, hp1.cell 2, hr.cell 0, hr.cell 1, hr.cell 2⟩ (fun hHeld => ?_)
          clear hK K
          try (simp only [Act.put, List.setIfInBounds_toArray, List.set_cons_zero, List.set_cons_succ])
          refine wpAnyH_done ?hru258 ?hqu258 _
          case hru258 => kernel_rfl
          refine NoPanic.normal ?_
          try go_wp2_with fail
          go_meet
          exact ⟨g253, g251, rfl, rfl, n253, n251, hr, hb⟩
      case hc240q4 =>
        go_simp
        try go_wp2_with fail
        have lb259 := hb.size
        have l259hp0 := hp0.lt
        have l259hp1 := hp1.lt
        have l259hr := hr.lt
        replace hp0 := hp0.alloc (.cells #[.int .i32 0, .int .i32 0, .int .i32 0] 71)
        replace hp1 := hp1.alloc (.cells #[.int .i32 0, .int .i32 0, .int .i32 0] 71)
        replace hr := hr.alloc (.cells #[.int .i32 0, .int .i32 0, .int .i32 0] 71)
        have n259 := Blk.new v239 71 #[.int .i32 0, .int .i32 0, .int .i32 0]
        replace hb := hb.alloc hb.size (.cells #[.int .i32 0, .int .i32 0, .int .i32 0] 71)
        generalize v239.alloc (.cells #[.int .i32 0, .int .i32 0, .int .i32 0] 71) = v259 at *
        generalize v239.heap.size = g259 at *
        refine hK.out _ _ ⟨hp0.cell 0, hp0.cell 1, hp0.cell 2, hp1.cell 0, hp1.cell 1, hp1.cell 2, hr.cell 0, hr.cell 1, hr.cell 2⟩ (fun hHeld => ?_)
        clear hK K
        try (simp only [Act.put, List.setIfInBounds_toArray, List.set_cons_zero, List.set_cons_succ])
        refine rd2 3 5 (fun K hK => ?hc260q3) (fun K hK => ?hc260q5)
        case hc260q3 =>
          go_simp
          refine (HQ.out _).mono ?_
          rintro e v261 ⟨rfl, bb⟩
          go_wp2_with fail
          replace hp0 := hp0.below bb hp0.lt
          replace hp1 := hp1.below bb hp1.lt
          replace hr := hr.below bb hr.lt
          replace n259 := n259.below bb n259.lt
          replace hb := hb.on bb
          clear bb
          refine hK.out _ _ ⟨hp0.cell 0, hp0.cell 1, hp0.cell 2, hp1.cell 0, hp1.cell 1, hp1.cell 2, hr.cell 0, hr.cell 1, hr.cell 2⟩ (fun hHeld => ?_)
          clear hK K
          try (simp only [Act.put, List.setIfInBounds_toArray, List.set_cons_zero, List.set_cons_succ])
          refine rd1 5 (fun K hK => ?_)
          go_simp
          try go_wp2_with fail
          have lb263 := hb.size
          have l263hp0 := hp0.lt
          have l263hp1 := hp1.lt
          have l263hr := hr.lt
          have l263n259 := n259.lt
          replace hp0 := hp0.alloc (.cells #[.int .i32 0, .int .i32 0, .int .i32 0] 71)
          replace hp1 := hp1.alloc (.cells #[.int .i32 0, .int .i32 0, .int .i32 0] 71)
          replace hr := hr.alloc (.cells #[.int .i32 0, .int .i32 0, .int .i32 0] 71)
          replace n259 := n259.alloc (.cells #[.int .i32 0, .int .i32 0, .int .i32 0] 71)
          have n263 := Blk.new v261 71 #[.int .i32 0, .int .i32 0, .int .i32 0]
          replace hb := hb.alloc hb.size (.cells #[.int .i32 0, .int .i32 0, .int .i32 0] 71)
          generalize v261.alloc (.cells #[.int .i32 0, .int .i32 0, .int .i32 0] 71) = v263 at *
          generalize v261.heap.size = g263 at *
          refine hK.out _ _ ⟨hp0.cell 0, hp0.cell 1, hp0.cell 2, hp1.cell 0, hp1.cell 1, hp1.cell 2, hr.cell 0, hr.cell 1, hr.cell 2⟩ (fun hHeld => ?_)
          clear hK K
          try (simp only [Act.put, List.setIfInBounds_toArray, List.set_cons_zero, List.set_cons_succ])
          refine rd1 6 (fun K hK => ?_)
          have c0 : v263.cell? ⟨g259, 0, none⟩ = some (.int .i32 0) := n259.cell 0
          have z0 := n259.frozen 0
          have c1 : v263.cell? ⟨g259, 1, none⟩ = some (.int .i32 0) := n259.cell 1
          have z1 := n259.frozen 1
          have c2 : v263.cell? ⟨g259, 2, none⟩ = some (.int .i32 0) := n259.cell 2
          have z2 := n259.frozen 2
          go_simp
          try go_wp2_with fail
          replace hp0 := (((hp0.far (p := ⟨g259, 0, none⟩) (by dsimp only; omega) (.int .i32 a0)).far (p := ⟨g259, 1, none⟩) (by dsimp only; omega) (.int .i32 a1)).far (p := ⟨g259, 2, none⟩) (by dsimp only; omega) (.int .i32 a2))
          replace hp1 := (((hp1.far (p := ⟨g259, 0, none⟩) (by dsimp only; omega) (.int .i32 a0)).far (p := ⟨g259, 1, none⟩) (by dsimp only; omega) (.int .i32 a1)).far (p := ⟨g259, 2, none⟩) (by dsimp only; omega) (.int .i32 a2))
          replace hr := (((hr.far (p := ⟨g259, 0, none⟩) (by dsimp only; omega) (.int .i32 a0)).far (p := ⟨g259, 1, none⟩) (by dsimp only; omega) (.int .i32 a1)).far (p := ⟨g259, 2, none⟩) (by dsimp only; omega) (.int .i32 a2))
          replace n263 := (((n263.far (p := ⟨g259, 0, none⟩) (by dsimp only; omega) (.int .i32 a0)).far (p := ⟨g259, 1, none⟩) (by dsimp only; omega) (.int .i32 a1)).far (p := ⟨g259, 2, none⟩) (by dsimp only; omega) (.int .i32 a2))
          replace n259 := (((n259.set_ 0 (.int .i32 a0)).set_ 1 (.int .i32 a1)).set_ 2 (.int .i32 a2))
          replace hb := (((hb.setCell (p := ⟨g259, 0, none⟩) (by dsimp only; omega) (.int .i32 a0)).setCell (p := ⟨g259, 1, none⟩) (by dsimp only; omega) (.int .i32 a1)).setCell (p := ⟨g259, 2, none⟩) (by dsimp only; omega) (.int .i32 a2))
          clear c0 z0 c1 z1 c2 z2
          generalize (((v263.setCell ⟨g259, 0, none⟩ (.int .i32 a0)).setCell ⟨g259, 1, none⟩ (.int .i32 a1)).setCell ⟨g259, 2, none⟩ (.int .i32 a2)) = v265 at *
          refine hK.out _ _ ⟨hp0.cell 0, hp0.cell 1, hp0.cell 2, hp1.cell 0, hp1.cell 1, hp1.cell 2, hr.cell 0, hr.cell 1, hr.cell 2⟩ (fun hHeld => ?_)
          clear hK K
          try (simp only [Act.put, List.setIfInBounds_toArray, List.set_cons_zero, List.set_cons_succ])
          refine rd1 7 (fun K hK => ?_)
          have c0 : v265.cell? ⟨g263, 0, none⟩ = some (.int .i32 0) := n263.cell 0
          have z0 := n263.frozen 0
          have c1 : v265.cell? ⟨g263, 1, none⟩ = some (.int .i32 0) := n263.cell 1
          have z1 := n263.frozen 1
          have c2 : v265.cell? ⟨g263, 2, none⟩ = some (.int .i32 0) := n263.cell 2
          have z2 := n263.frozen 2
          go_simp
          try go_wp2_with fail
          replace hp0 := (((hp0.far (p := ⟨g263, 0, none⟩) (by dsimp only; omega) (.int .i32 b0)).far (p := ⟨g263, 1, none⟩) (by dsimp only; omega) (.int .i32 b1)).far (p := ⟨g263, 2, none⟩) (by dsimp only; omega) (.int .i32 b2))
          replace hp1 := (((hp1.far (p := ⟨g263, 0, none⟩) (by dsimp only; omega) (.int .i32 b0)).far (p := ⟨g263, 1, none⟩) (by dsimp only; omega) (.int .i32 b1)).far (p := ⟨g263, 2, none⟩) (by dsimp only; omega) (.int .i32 b2))
          replace hr := (((hr.far (p := ⟨g263, 0, none⟩) (by dsimp only; omega) (.int .i32 b0)).far (p := ⟨g263, 1, none⟩) (by dsimp only; omega) (.int .i32 b1)).far (p := ⟨g263, 2, none⟩) (by dsimp only; omega) (.int .i32 b2))
          replace n259 := (((n259.far (p := ⟨g263, 0, none⟩) (by dsimp only; omega) (.int .i32 b0)).far (p := ⟨g263, 1, none⟩) (by dsimp only; omega) (.int .i32 b1)).far (p := ⟨g263, 2, none⟩) (by dsimp only; omega) (.int .i32 b2))
          replace n263 := (((n263.set_ 0 (.int .i32 b0)).set_ 1 (.int .i32 b1)).set_ 2 (.int .i32 b2))
          replace hb := (((hb.setCell (p := ⟨g263, 0, none⟩) (by dsimp only; omega) (.int .i32 b0)).setCell (p := ⟨g263, 1, none⟩) (by dsimp only; omega) (.int .i32 b1)).setCell (p := ⟨g263, 2, none⟩) (by dsimp only; omega) (.int .i32 b2))
          clear c0 z0 c1 z1 c2 z2
          generalize (((v265.setCell ⟨g263, 0, none⟩ (.int .i32 b0)).setCell ⟨g263, 1, none⟩ (.int .i32 b1)).setCell ⟨g263, 2, none⟩ (.int .i32 b2)) = v267 at *
          refine hK.out _ _ ⟨hp0.cell 0, hp0.cell 1, hp0.cell 2, hp1.cell 0, hp1.cell 1, hp1.cell 2, hr.cell 0, hr.cell 1, hr.cell 2⟩ (fun hHeld => ?_)
          clear hK K
          try (simp only [Act.put, List.setIfInBounds_toArray, List.set_cons_zero, List.set_cons_succ])
          refine wpAnyH_done ?hru268 ?hqu268 _
          case hru268 => kernel_rfl
          refine NoPanic.normal ?_
          try go_wp2_with fail
          go_meet
          exact ⟨g259, g263, rfl, rfl, n259, n263, hr, hb⟩
        case hc260q5 =>
          go_simp
          try go_wp2_with fail
          have lb269 := hb.size
          have l269hp0 := hp0.lt
          have l269hp1 := hp1.lt
          have l269hr := hr.lt
          have l269n259 := n259.lt
          replace hp0 := hp0.alloc (.cells #[.int .i32 0, .int .i32 0, .int .i32 0] 71)
          replace hp1 := hp1.alloc (.cells #[.int .i32 0, .int .i32 0, .int .i32 0] 71)
          replace hr := hr.alloc (.cells #[.int .i32 0, .int .i32 0, .int .i32 0] 71)
          replace n259 := n259.alloc (.cells #[.int .i32 0, .int .i32 0, .int .i32 0] 71)
          have n269 := Blk.new v259 71 #[.int .i32 0, .int .i32 0, .int .i32 0]
          replace hb := hb.alloc hb.size (.cells #[.int .i32 0, .int .i32 0, .int .i32 0] 71)
          generalize v259.alloc (.cells #[.int .i32 0, .int .i32 0, .int .i32 0] 71) = v269 at *
          generalize v259.heap.size = g269 at *
          refine hK.out _ _ ⟨hp0.cell 0, hp0.cell 1, hp0.cell 2, hp1.cell 0, hp1.cell 1, hp1.cell 2, hr.cell 0, hr.cell 1, hr.cell 2⟩ (fun hHeld => ?_)
          clear hK K
          try (simp only [Act.put, List.setIfInBounds_toArray, List.set_cons_zero, List.set_cons_succ])
          refine rd1 3 (fun K hK => ?_)
          go_simp
          refine (HQ.out _).mono ?_
          rintro e v271 ⟨rfl, bb⟩
          go_wp2_with fail
          replace hp0 := hp0.below bb hp0.lt
          replace hp1 := hp1.below bb hp1.lt
          replace hr := hr.below bb hr.lt
          replace n259 := n259.below bb n259.lt
          replace n269 := n269.below bb n269.lt
          replace hb := hb.on bb
          clear bb
          refine hK.out _ _ ⟨hp0.cell 0, hp0.cell 1, hp0.cell 2, hp1.cell 0, hp1.cell 1, hp1.cell 2, hr.cell 0, hr.cell 1, hr.cell 2⟩ (fun hHeld => ?_)
          clear hK K
          try (simp only [Act.put, List.setIfInBounds_toArray, List.set_cons_zero, List.set_cons_succ])
          refine rd1 6 (fun K hK => ?_)
          have c0 : v271.cell? ⟨g259, 0, none⟩ = some (.int .i32 0) := n259.cell 0
          have z0 := n259.frozen 0
          have c1 : v271.cell? ⟨g259, 1, none⟩ = some (.int .i32 0) := n259.cell 1
          have z1 := n259.frozen 1
          have c2 : v271.cell? ⟨g259, 2, none⟩ = some (.int .i32 0) := n259.cell 2
          have z2 := n259.frozen 2
          go_simp
          try go_wp2_with fail
          replace hp0 := (((hp0.far (p := ⟨g259, 0, none⟩) (by dsimp only; omega) (.int .i32 a0)).far (p := ⟨g259, 1, none⟩) (by dsimp only; omega) (.int .i32 a1)).far (p := ⟨g259, 2, none⟩) (by dsimp only; omega) (.int .i32 a2))
          replace hp1 := (((hp1.far (p := ⟨g259, 0, none⟩) (by dsimp only; omega) (.int .i32 a0)).far (p := ⟨g259, 1, none⟩) (by dsimp only; omega) (.int .i32 a1)).far (p := ⟨g259, 2, none⟩) (by dsimp only; omega) (.int .i32 a2))
          replace hr := (((hr.far (p := ⟨g259, 0, none⟩) (by dsimp only; omega) (.int .i32 a0)).far (p := ⟨g259, 1, none⟩) (by dsimp only; omega) (.int .i32 a1)).far (p := ⟨g259, 2, none⟩) (by dsimp only; omega) (.int .i32 a2))
          replace n269 := (((n269.far (p := ⟨g259, 0, none⟩) (by dsimp only; omega) (.int .i32 a0)).far (p := ⟨g259, 1, none⟩) (by dsimp only; omega) (.int .i32 a1)).far (p := ⟨g259, 2, none⟩) (by dsimp only; omega) (.int .i32 a2))
          replace n259 := (((n259.set_ 0 (.int .i32 a0)).set_ 1 (.int .i32 a1)).set_ 2 (.int .i32 a2))
          replace hb := (((hb.setCell (p := ⟨g259, 0, none⟩) (by dsimp only; omega) (.int .i32 a0)).setCell (p := ⟨g259, 1, none⟩) (by dsimp only; omega) (.int .i32 a1)).setCell (p := ⟨g259, 2, none⟩) (by dsimp only; omega) (.int .i32 a2))
          clear c0 z0 c1 z1 c2 z2
          generalize (((v271.setCell ⟨g259, 0, none⟩ (.int .i32 a0)).setCell ⟨g259, 1, none⟩ (.int .i32 a1)).setCell ⟨g259, 2, none⟩ (.int .i32 a2)) = v273 at *
          refine hK.out _ _ ⟨hp0.cell 0, hp0.cell 1, hp0.cell 2, hp1.cell 0, hp1.cell 1, hp1.cell 2, hr.cell 0, hr.cell 1, hr.cell 2⟩ (fun hHeld => ?_)
          clear hK K
          try (simp only [Act.put, List.setIfInBounds_toArray, List.set_cons_zero, List.set_cons_succ])
          refine rd1 7 (fun K hK => ?_)
          have c0 : v273.cell? ⟨g269, 0, none⟩ = some (.int .i32 0) := n269.cell 0
          have z0 := n269.frozen 0
          have c1 : v273.cell? ⟨g269, 1, none⟩ = some (.int .i32 0) := n269.cell 1
          have z1 := n269.frozen 1
          have c2 : v273.cell? ⟨g269, 2, none⟩ = some (.int .i32 0) := n269.cell 2
          have z2 := n269.frozen 2
          go_simp
          try go_wp2_with fail
          replace hp0 := (((hp0.far (p := ⟨g269, 0, none⟩) (by dsimp only; omega) (.int .i32 b0)).far (p := ⟨g269, 1, none⟩) (by dsimp only; omega) (.int .i32 b1)).far (p := ⟨g269, 2, none⟩) (by dsimp only; omega) (.int .i32 b2))
          replace hp1 := (((hp1.far (p := ⟨g269, 0, none⟩) (by dsimp only; omega) (.int .i32 b0)).far (p := ⟨g269, 1, none⟩) (by dsimp only; omega) (.int .i32 b1)).far (p := ⟨g269, 2, none⟩) (by dsimp only; omega) (.int .i32 b2))
          replace hr := (((hr.far (p := ⟨g269, 0, none⟩) (by dsimp only; omega) (.int .i32 b0)).far (p := ⟨g269, 1, none⟩) (by dsimp only; omega) (.int .i32 b1)).far (p := ⟨g269, 2, none⟩) (by dsimp only; omega) (.int .i32 b2))
          replace n259 := (((n259.far (p := ⟨g269, 0, none⟩) (by dsimp only; omega) (.int .i32 b0)).far (p := ⟨g269, 1, none⟩) (by dsimp only; omega) (.int .i32 b1)).far (p := ⟨g269, 2, none⟩) (by dsimp only; omega) (.int .i32 b2))
          replace n269 := (((n269.set_ 0 (.int .i32 b0)).set_ 1 (.int .i32 b1)).set_ 2 (.int .i32 b2))
          replace hb := (((hb.setCell (p := ⟨g269, 0, none⟩) (by dsimp only; omega) (.int .i32 b0)).setCell (p := ⟨g269, 1, none⟩) (by dsimp only; omega) (.int .i32 b1)).setCell (p := ⟨g269, 2, none⟩) (by dsimp only; omega) (.int .i32 b2))
          clear c0 z0 c1 z1 c2 z2
          generalize (((v273.setCell ⟨g269, 0, none⟩ (.int .i32 b0)).setCell ⟨g269, 1, none⟩ (.int .i32 b1)).setCell ⟨g269, 2, none⟩ (.int .i32 b2)) = v275 at *
          refine hK.out _ _ ⟨hp0.cell 0, hp0.cell 1, hp0.cell 2, hp1.cell 0, hp1.cell 1, hp1.cell 2, hr.cell 0, hr.cell 1, hr.cell 2⟩ (fun hHeld => ?_)
          clear hK K
          try (simp only [Act.put, List.setIfInBounds_toArray, List.set_cons_zero, List.set_cons_succ])
          refine wpAnyH_done ?hru276 ?hqu276 _
          case hru276 => kernel_rfl
          refine NoPanic.normal ?_
          try go_wp2_with fail
          go_meet
          exact ⟨g259, g269, rfl, rfl, n259, n269, hr, hb⟩
      case hc240q5 =>
        go_simp
        try go_wp2_with fail
        have lb277 := hb.size
        have l277hp0 := hp0.lt
        have l277hp1 := hp1.lt
        have l277hr := hr.lt
        replace hp0 := hp0.alloc (.cells #[.int .i32 0, .int .i32 0, .int .i32 0] 71)
        replace hp1 := hp1.alloc (.cells #[.int .i32 0, .int .i32 0, .int .i32 0] 71)
        replace hr := hr.alloc (.cells #[.int .i32 0, .int .i32 0, .int .i32 0] 71)
        have n277 := Blk.new v239 71 #[.int .i32 0, .int .i32 0, .int .i32 0]
        replace hb := hb.alloc hb.size (.cells #[.int .i32 0, .int .i32 0, .int .i32 0] 71)
        generalize v239.alloc (.cells #[.int .i32 0, .int .i32 0, .int .i32 0] 71) = v277 at *
        generalize v239.heap.size = g277 at *
        refine hK.out _ _ ⟨hp0.cell 0, hp0.cell 1, hp0.cell 2, hp1.cell 0, hp1.cell 1, hp1.cell 2, hr.cell 0, hr.cell 1, hr.cell 2⟩ (fun hHeld => ?_)
        clear hK K
        try (simp only [Act.put, List.setIfInBounds_toArray, List.set_cons_zero, List.set_cons_succ])
        refine rd2 3 4 (fun K hK => ?hc278q3) (fun K hK => ?hc278q4)
        case hc278q3 =>
          go_simp
          refine (HQ.out _).mono ?_
          rintro e v279 ⟨rfl, bb⟩
          go_wp2_with fail
          replace hp0 := hp0.below bb hp0.lt
          replace hp1 := hp1.below bb hp1.lt
          replace hr := hr.below bb hr.lt
          replace n277 := n277.below bb n277.lt
          replace hb := hb.on bb
          clear bb
          refine hK.out _ _ ⟨hp0.cell 0, hp0.cell 1, hp0.cell 2, hp1.cell 0, hp1.cell 1, hp1.cell 2, hr.cell 0, hr.cell 1, hr.cell 2⟩ (fun hHeld => ?_)
          clear hK K
          try (simp only [Act.put, List.setIfInBounds_toArray, List.set_cons_zero, List.set_cons_succ])
          refine rd1 4 (fun K hK => ?_)
          go_simp
          try go_wp2_with fail
          have lb281 := hb.size
          have l281hp0 := hp0.lt
          have l281hp1 := hp1.lt
          have l281hr := hr.lt
          have l281n277 := n277.lt
          replace hp0 := hp0.alloc (.cells #[.int .i32 0, .int .i32 0, .int .i32 0] 71)
          replace hp1 := hp1.alloc (.cells #[.int .i32 0, .int .i32 0, .int .i32 0] 71)
          replace hr := hr.alloc (.cells #[.int .i32 0, .int .i32 0, .int .i32 0] 71)
          replace n277 := n277.alloc (.cells #[.int .i32 0, .int .i32 0, .int .i32 0] 71)
          have n281 := Blk.new v279 71 #[.int .i32 0, .int .i32 0, .int .i32 0]
          replace hb := hb.alloc hb.size (.cells #[.int .i32 0, .int .i32 0, .int .i32 0] 71)
          generalize v279.alloc (.cells #[.int .i32 0, .int .i32 0, .int .i32 0] 71) = v281 at *
          generalize v279.heap.size = g281 at *
          refine hK.out _ _ ⟨hp0.cell 0, hp0.cell 1, hp0.cell 2, hp1.cell 0, hp1.cell 1, hp1.cell 2, hr.cell 0, hr.cell 1, hr.cell 2⟩ (fun hHeld => ?_)
          clear hK K
          try (simp only [Act.put, List.setIfInBounds_toArray, List.set_cons_zero, List.set_cons_succ])
          refine rd1 6 (fun K hK => ?_)
          have c0 : v281.cell? ⟨g281, 0, none⟩ = some (.int .i32 0) := n281.cell 0
          have z0 := n281.frozen 0
          have c1 : v281.cell? ⟨g281, 1, none⟩ = some (.int .i32 0) := n281.cell 1
          have z1 := n281.frozen 1
          have c2 : v281.cell? ⟨g281, 2, none⟩ = some (.int .i32 0) := n281.cell 2
          have z2 := n281.frozen 2
          go_simp
          try go_wp2_with fail
          replace hp0 := (((hp0.far (p := ⟨g281, 0, none⟩) (by dsimp only; omega) (.int .i32 a0)).far (p := ⟨g281, 1, none⟩) (by dsimp only; omega) (.int .i32 a1)).far (p := ⟨g281, 2, none⟩) (by dsimp only; omega) (.int .i32 a2))
          replace hp1 := (((hp1.far (p := ⟨g281, 0, none⟩) (by dsimp only; omega) (.int .i32 a0)).far (p := ⟨g281, 1, none⟩) (by dsimp only; omega) (.int .i32 a1)).far (p := ⟨g281, 2, none⟩) (by dsimp only; omega) (.int .i32 a2))
          replace hr := (((hr.far (p := ⟨g281, 0, none⟩) (by dsimp only; omega) (.int .i32 a0)).far (p := ⟨g281, 1, none⟩) (by dsimp only; omega) (.int .i32 a1)).far (p := ⟨g281, 2, none⟩) (by dsimp only; omega) (.int .i32 a2))
          replace n277 := (((n277.far (p := ⟨g281, 0, none⟩) (by dsimp only; omega) (.int .i32 a0)).far (p := ⟨g281, 1, none⟩) (by dsimp only; omega) (.int .i32 a1)).far (p := ⟨g281, 2, none⟩) (by dsimp only; omega) (.int .i32 a2))
          replace n281 := (((n281.set_ 0 (.int .i32 a0)).set_ 1 (.int .i32 a1)).set_ 2 (.int .i32 a2))
          replace hb := (((hb.setCell (p := ⟨g281, 0, none⟩) (by dsimp only; omega) (.int .i32 a0)).setCell (p := ⟨g281, 1, none⟩) (by dsimp only; omega) (.int .i32 a1)).setCell (p := ⟨g281, 2, none⟩) (by dsimp only; omega) (.int .i32 a2))
          clear c0 z0 c1 z1 c2 z2
          generalize (((v281.setCell ⟨g281, 0, none⟩ (.int .i32 a0)).setCell ⟨g281, 1, none⟩ (.int .i32 a1)).setCell ⟨g281, 2, none⟩ (.int .i32 a2)) = v283 at *
          refine hK.out _ _ ⟨hp0.cell 0, hp0.cell 1, hp0.cell 2, hp1.cell 0, hp1.cell 1, hp1.cell 2, hr.cell 0, hr.cell 1, hr.cell 2⟩ (fun hHeld => ?_)
          clear hK K
          try (simp only [Act.put, List.setIfInBounds_toArray, List.set_cons_zero, List.set_cons_succ])
          refine rd1 7 (fun K hK => ?_)
          have c0 : v283.cell? ⟨g277, 0, none⟩ = some (.int .i32 0) := n277.cell 0
          have z0 := n277.frozen 0
          have c1 : v283.cell? ⟨g277, 1, none⟩ = some (.int .i32 0) := n277.cell 1
          have z1 := n277.frozen 1
          have c2 : v283.cell? ⟨g277, 2, none⟩ = some (.int .i32 0) := n277.cell 2
          have z2 := n277.frozen 2
          go_simp
          try go_wp2_with fail
          replace hp0 := (((hp0.far (p := ⟨g277, 0, none⟩) (by dsimp only; omega) (.int .i32 b0)).far (p := ⟨g277, 1, none⟩) (by dsimp only; omega) (.int .i32 b1)).far (p := ⟨g277, 2, none⟩) (by dsimp only; omega) (.int .i32 b2))
          replace hp1 := (((hp1.far (p := ⟨g277, 0, none⟩) (by dsimp only; omega) (.int .i32 b0)).far (p := ⟨g277, 1, none⟩) (by dsimp only; omega) (.int .i32 b1)).far (p := ⟨g277, 2, none⟩) (by dsimp only; omega) (.int .i32 b2))
          replace hr := (((hr.far (p := ⟨g277, 0, none⟩) (by dsimp only; omega) (.int .i32 b0)).far (p := ⟨g277, 1, none⟩) (by dsimp only; omega) (.int .i32 b1)).far (p := ⟨g277, 2, none⟩) (by dsimp only; omega) (.int .i32 b2))
          replace n281 := (((n281.far (p := ⟨g277, 0, none⟩) (by dsimp only; omega) (.int .i32 b0)).far (p := ⟨g277, 1, none⟩) (by dsimp only; omega) (.int .i32 b1)).far (p := ⟨g277, 2, none⟩) (by dsimp only; omega) (.int .i32 b2))
          replace n277 := (((n277.set_ 0 (.int .i32 b0)).set_ 1 (.int .i32 b1)).set_ 2 (.int .i32 b2))
          replace hb := (((hb.setCell (p := ⟨g277, 0, none⟩) (by dsimp only; omega) (.int .i32 b0)).setCell (p := ⟨g277, 1, none⟩) (by dsimp only; omega) (.int .i32 b1)).setCell (p := ⟨g277, 2, none⟩) (by dsimp only; omega) (.int .i32 b2))
          clear c0 z0 c1 z1 c2 z2
          generalize (((v283.setCell ⟨g277, 0, none⟩ (.int .i32 b0)).setCell ⟨g277, 1, none⟩ (.int .i32 b1)).setCell ⟨g277, 2, none⟩ (.int .i32 b2)) = v285 at *
          refine hK.out _ _ ⟨hp0.cell 0, hp0.cell 1, hp0.cell 2, hp1.cell 0, hp1.cell 1, hp1.cell 2, hr.cell 0, hr.cell 1, hr.cell 2⟩ (fun hHeld => ?_)
          clear hK K
          try (simp only [Act.put, List.setIfInBounds_toArray, List.set_cons_zero, List.set_cons_succ])
          refine wpAnyH_done ?hru286 ?hqu286 _
          case hru286 => kernel_rfl
          refine NoPanic.normal ?_
          try go_wp2_with fail
          go_meet
          exact ⟨g281, g277, rfl, rfl, n281, n277, hr, hb⟩
        case hc278q4 =>
          go_simp
          try go_wp2_with fail
          have lb287 := hb.size
          have l287hp0 := hp0.lt
          have l287hp1 := hp1.lt
          have l287hr := hr.lt
          have l287n277 := n277.lt
          replace hp0 := hp0.alloc (.cells #[.int .i32 0, .int .i32 0, .int .i32 0] 71)
          replace hp1 := hp1.alloc (.cells #[.int .i32 0, .int .i32 0, .int .i32 0] 71)
          replace hr := hr.alloc (.cells #[.int .i32 0, .int .i32 0, .int .i32 0] 71)
          replace n277 := n277.alloc (.cells #[.int .i32 0, .int .i32 0, .int .i32 0] 71)
          have n287 := Blk.new v277 71 #[.int .i32 0, .int .i32 0, .int .i32 0]
          replace hb := hb.alloc hb.size (.cells #[.int .i32 0, .int .i32 0, .int .i32 0] 71)
          generalize v277.alloc (.cells #[.int .i32 0, .int .i32 0, .int .i32 0] 71) = v287 at *
          generalize v277.heap.size = g287 at *
          refine hK.out _ _ ⟨hp0.cell 0, hp0.cell 1, hp0.cell 2, hp1.cell 0, hp1.cell 1, hp1.cell 2, hr.cell 0, hr.cell 1, hr.cell 2⟩ (fun hHeld => ?_)
          clear hK K
          try (simp only [Act.put, List.setIfInBounds_toArray, List.set_cons_zero, List.set_cons_succ])
          refine rd1 3 (fun K hK => ?_)
          go_simp
          refine (HQ.out _).mono ?_
          rintro e v289 ⟨rfl, bb⟩
          go_wp2_with fail
          replace hp0 := hp0.below bb hp0.lt
          replace hp1 := hp1.below bb hp1.lt
          replace hr := hr.below bb hr.lt
          replace n277 := n277.below bb n277.lt
          replace n287 := n287.below bb n287.lt
          replace hb := hb.on bb
          clear bb
          refine hK.out _ _ ⟨hp0.cell 0, hp0.cell 1, hp0.cell 2, hp1.cell 0, hp1.cell 1, hp1.cell 2, hr.cell 0, hr.cell 1, hr.cell 2⟩ (fun hHeld => ?_)
          clear hK K
          try (simp only [Act.put, List.setIfInBounds_toArray, List.set_cons_zero, List.set_cons_succ])
          refine rd1 6 (fun K hK => ?_)
          have c0 : v289.cell? ⟨g287, 0, none⟩ = some (.int .i32 0) := n287.cell 0
          have z0 := n287.frozen 0
          have c1 : v289.cell? ⟨g287, 1, none⟩ = some (.int .i32 0) := n287.cell 1
          have z1 := n287.frozen 1
          have c2 : v289.cell? ⟨g287, 2, none⟩ = some (.int .i32 0) := n287.cell 2
          have z2 := n287.frozen 2
          go_simp
          try go_wp2_with fail
          replace hp0 := (((hp0.far (p := ⟨g287, 0, none⟩) (by dsimp only; omega) (.int .i32 a0)).far (p := ⟨g287, 1, none⟩) (by dsimp only; omega) (.int .i32 a1)).far (p := ⟨g287, 2, none⟩) (by dsimp only; omega) (.int .i32 a2))
          replace hp1 := (((hp1.far (p := ⟨g287, 0, none⟩) (by dsimp only; omega) (.int .i32 a0)).far (p := ⟨g287, 1, none⟩) (by dsimp only; omega) (.int .i32 a1)).far (p := ⟨g287, 2, none⟩) (by dsimp only; omega) (.int .i32 a2))
          replace hr := (((hr.far (p := ⟨g287, 0, none⟩) (by dsimp only; omega) (.int .i32 a0)).far (p := ⟨g287, 1, none⟩) (by dsimp only; omega) (.int .i32 a1)).far (p := ⟨g287, 2, none⟩) (by dsimp only; omega) (.int .i32 a2))
          replace n277 := (((n277.far (p := ⟨g287, 0, none⟩) (by dsimp only; omega) (.int .i32 a0)).far (p := ⟨g287, 1, none⟩) (by dsimp only; omega) (.int .i32 a1)).far (p := ⟨g287, 2, none⟩) (by dsimp only; omega) (.int .i32 a2))
          replace n287 := (((n287.set_ 0 (.int .i32 a0)).set_ 1 (.int .i32 a1)).set_ 2 (.int .i32 a2))
          replace hb := (((hb.setCell (p := ⟨g287, 0, none⟩) (by dsimp only; omega) (.int .i32 a0)).setCell (p := ⟨g287, 1, none⟩) (by dsimp only; omega) (.int .i32 a1)).setCell (p := ⟨g287, 2, none⟩) (by dsimp only; omega) (.int .i32 a2))
          clear c0 z0 c1 z1 c2 z2
          generalize (((v289.setCell ⟨g287, 0, none⟩ (.int .i32 a0)).setCell ⟨g287, 1, none⟩ (.int .i32 a1)).setCell ⟨g287, 2, none⟩ (.int .i32 a2)) = v291 at *
          refine hK.out _ _ ⟨hp0.cell 0, hp0.cell 1, hp0.cell 2, hp1.cell 0, hp1.cell 1, hp1.cell 2, hr.cell 0, hr.cell 1, hr.cell 2⟩ (fun hHeld => ?_)
          clear hK K
          try (simp only [Act.put, List.setIfInBounds_toArray, List.set_cons_zero, List.set_cons_succ])
          refine rd1 7 (fun K hK => ?_)
          have c0 : v291.cell? ⟨g277, 0, none⟩ = some (.int .i32 0) := n277.cell 0
          have z0 := n277.frozen 0
          have c1 : v291.cell? ⟨g277, 1, none⟩ = some (.int .i32 0) := n277.cell 1
          have z1 := n277.frozen 1
          have c2 : v291.cell? ⟨g277, 2, none⟩ = some (.int .i32 0) := n277.cell 2
          have z2 := n277.frozen 2
          go_simp
          try go_wp2_with fail
          replace hp0 := (((hp0.far (p := ⟨g277, 0, none⟩) (by dsimp only; omega) (.int .i32 b0)).far (p := ⟨g277, 1, none⟩) (by dsimp only; omega) (.int .i32 b1)).far (p := ⟨g277, 2, none⟩) (by dsimp only; omega) (.int .i32 b2))
          replace hp1 := (((hp1.far (p := ⟨g277, 0, none⟩) (by dsimp only; omega) (.int .i32 b0)).far (p := ⟨g277, 1, none⟩) (by dsimp only; omega) (.int .i32 b1)).far (p := ⟨g277, 2, none⟩) (by dsimp only; omega) (.int .i32 b2))
          replace hr := (((hr.far (p := ⟨g277, 0, none⟩) (by dsimp only; omega) (.int .i32 b0)).far (p := ⟨g277, 1, none⟩) (by dsimp only; omega) (.int .i32 b1)).far (p := ⟨g277, 2, none⟩) (by dsimp only; omega) (.int .i32 b2))
          replace n287 := (((n287.far (p := ⟨g277, 0, none⟩) (by dsimp only; omega) (.int .i32 b0)).far (p := ⟨g277, 1, none⟩) (by dsimp only; omega) (.int .i32 b1)).far (p := ⟨g277, 2, none⟩) (by dsimp only; omega) (.int .i32 b2))
          replace n277 := (((n277.set_ 0 (.int .i32 b0)).set_ 1 (.int .i32 b1)).set_ 2 (.int .i32 b2))
          replace hb := (((hb.setCell (p := ⟨g277, 0, none⟩) (by dsimp only; omega) (.int .i32 b0)).setCell (p := ⟨g277, 1, none⟩) (by dsimp only; omega) (.int .i32 b1)).setCell (p := ⟨g277, 2, none⟩) (by dsimp only; omega) (.int .i32 b2))
          clear c0 z0 c1 z1 c2 z2
          generalize (((v291.setCell ⟨g277, 0, none⟩ (.int .i32 b0)).setCell ⟨g277, 1, none⟩ (.int .i32 b1)).setCell ⟨g277, 2, none⟩ (.int .i32 b2)) = v293 at *
          refine hK.out _ _ ⟨hp0.cell 0, hp0.cell 1, hp0.cell 2, hp1.cell 0, hp1.cell 1, hp1.cell 2, hr.cell 0, hr.cell 1, hr.cell 2⟩ (fun hHeld => ?_)
          clear hK K
          try (simp only [Act.put, List.setIfInBounds_toArray, List.set_cons_zero, List.set_cons_succ])
          refine wpAnyH_done ?hru294 ?hqu294 _
          case hru294 => kernel_rfl
          refine NoPanic.normal ?_
          try go_wp2_with fail
          go_meet
          exact ⟨g287, g277, rfl, rfl, n287, n277, hr, hb⟩
    case hc238q4 =>
      go_simp
      try go_wp2_with fail
      have lb295 := hb.size
      have l295hp0 := hp0.lt
      have l295hp1 := hp1.lt
      have l295hr := hr.lt
      replace hp0 := hp0.alloc (.cells #[.int .i32 0, .int .i32 0, .int .i32 0] 71)
      replace hp1 := hp1.alloc (.cells #[.int .i32 0, .int .i32 0, .int .i32 0] 71)
      replace hr := hr.alloc (.cells #[.int .i32 0, .int .i32 0, .int .i32 0] 71)
      have n295 := Blk.new W237 71 #[.int .i32 0, .int .i32 0, .int .i32 0]
      replace hb := hb.alloc hb.size (.cells #[.int .i32 0, .int .i32 0, .int .i32 0] 71)
      generalize W237.alloc (.cells #[.int .i32 0, .int .i32 0, .int .i32 0] 71) = v295 at *
      generalize W237.heap.size = g295 at *
      refine hK.out _ _ ⟨hp0.cell 0, hp0.cell 1, hp0.cell 2, hp1.cell 0, hp1.cell 1, hp1.cell 2, hr.cell 0, hr.cell 1, hr.cell 2⟩ (fun hHeld => ?_)
      clear hK K
      try (simp only [Act.put, List.setIfInBounds_toArray, List.set_cons_zero, List.set_cons_succ])
      refine rd2 1 5 (fun K hK => ?hc296q1) (fun K hK => ?hc296q5)
      case hc296q1 =>
        go_simp
        refine (HP.out _).mono ?_
        rintro e v297 ⟨rfl, bb⟩
        go_wp2_with fail
        replace hp0 := hp0.below bb hp0.lt
        replace hp1 := hp1.below bb hp1.lt
        replace hr := hr.below bb hr.lt
        replace n295 := n295.below bb n295.lt
        replace hb := hb.on bb
        clear bb
        refine hK.out _ _ ⟨hp0.cell 0, hp0.cell 1, hp0.cell 2, hp1.cell 0, hp1.cell 1, hp1.cell 2, hr.cell 0, hr.cell 1, hr.cell 2⟩ (fun hHeld => ?_)
        clear hK K
        try (simp only [Act.put, List.setIfInBounds_toArray, List.set_cons_zero, List.set_cons_succ])
        refine rd2 3 5 (fun K hK => ?hc298q3) (fun K hK => ?hc298q5)
        case hc298q3 =>
          go_simp
          refine (HQ.out _).mono ?_
          rintro e v299 ⟨rfl, bb⟩
          go_wp2_with fail
          replace hp0 := hp0.below bb hp0.lt
          replace hp1 := hp1.below bb hp1.lt
          replace hr := hr.below bb hr.lt
          replace n295 := n295.below bb n295.lt
          replace hb := hb.on bb
          clear bb
          refine hK.out _ _ ⟨hp0.cell 0, hp0.cell 1, hp0.cell 2, hp1.cell 0, hp1.cell 1, hp1.cell 2, hr.cell 0, hr.cell 1, hr.cell 2⟩ (fun hHeld => ?_)
          clear hK K
          try (simp only [Act.put, List.setIfInBounds_toArray, List.set_cons_zero, List.set_cons_succ])
          refine rd1 5 (fun K hK => ?_)
          go_simp
          try go_wp2_with fail
          have lb301 := hb.size
          have l301hp0 := hp0.lt
          have l301hp1 := hp1.lt
          have l301hr := hr.lt
          have l301n295 := n295.lt
          replace hp0 := hp0.alloc (.cells #[.int .i32 0, .int .i32 0, .int .i32 0] 71)
          replace hp1 := hp1.alloc (.cells #[.int .i32 0, .int .i32 0, .int .i32 0] 71)
          replace hr := hr.alloc (.cells #[.int .i32 0, .int .i32 0, .int .i32 0] 71)
          replace n295 := n295.alloc (.cells #[.int .i32 0, .int .i32 0, .int .i32 0] 71)
          have n301 := Blk.new v299 71 #[.int .i32 0, .int .i32 0, .int .i32 0]
          replace hb := hb.alloc hb.size (.cells #[.int .i32 0, .int .i32 0, .int .i32 0] 71)
          generalize v299.alloc (.cells #[.int .i32 0, .int .i32 0, .int .i32 0] 71) = v301 at *
          generalize v299.heap.size = g301 at *
          refine hK.out _ _ ⟨hp0.cell 0, hp0.cell 1, hp0.cell 2, hp1.cell 0, hp1.cell 1, hp1.cell 2, hr.cell 0, hr.cell 1, hr.cell 2⟩ (fun hHeld => ?_)
          clear hK K
          try (simp only [Act.put, List.setIfInBounds_toArray, List.set_cons_zero, List.set_cons_succ])
          refine rd1 6 (fun K hK => ?_)
          have c0 : v301.cell? ⟨g295, 0, none⟩ = some (.int .i32 0) := n295.cell 0
          have z0 := n295.frozen 0
          have c1 : v301.cell? ⟨g295, 1, none⟩ = some (.int .i32 0) := n295.cell 1
          have z1 := n295.frozen 1
          have c2 : v301.cell? ⟨g295, 2, none⟩ = some (.int .i32 0) := n295.cell 2
          have z2 := n295.frozen 2
          go_simp
          try go_wp2_with fail
          replace hp0 := (((hp0.far (p := ⟨g295, 0, none⟩) (by dsimp only; omega) (.int .i32 a0)).far (p := ⟨g295, 1, none⟩) (by dsimp only; omega) (.int .i32 a1)).far (p := ⟨g295, 2, none⟩) (by dsimp only; omega) (.int .i32 a2))
          replace hp1 := (((hp1.far (p := ⟨g295, 0, none⟩) (by dsimp only; omega) (.int .i32 a0)).far (p := ⟨g295, 1, none⟩) (by dsimp only; omega) (.int .i32 a1)).far (p := ⟨g295, 2, none⟩) (by dsimp only; omega) (.int .i32 a2))
          replace hr := (((hr.far (p := ⟨g295, 0, none⟩) (by dsimp only; omega) (.int .i32 a0)).far (p := ⟨g295, 1, none⟩) (by dsimp only; omega) (.int .i32 a1)).far (p := ⟨g295, 2, none⟩) (by dsimp only; omega) (.int .i32 a2))
          replace n301 := (((n301.far (p := ⟨g295, 0, none⟩) (by dsimp only; omega) (.int .i32 a0)).far (p := ⟨g295, 1, none⟩) (by dsimp only; omega) (.int .i32 a1)).far (p := ⟨g295, 2, none⟩) (by dsimp only; omega) (.int .i32 a2))
          replace n295 := (((n295.set_ 0 (.int .i32 a0)).set_ 1 (.int .i32 a1)).set_ 2 (.int .i32 a2))
          replace hb := (((hb.setCell (p := ⟨g295, 0, none⟩) (by dsimp only; omega) (.int .i32 a0)).setCell (p := ⟨g295, 1, none⟩) (by dsimp only; omega) (.int .i32 a1)).setCell (p := ⟨g295, 2, none⟩) (by dsimp only; omega) (.int .i32 a2))
          clear c0 z0 c1 z1 c2 z2
          generalize (((v301.setCell ⟨g295, 0, none⟩ (.int .i32 a0)).setCell ⟨g295, 1, none⟩ (.int .i32 a1)).setCell ⟨g295, 2, none⟩ (.int .i32 a2)) = v303 at *
          refine hK.out _ _ ⟨hp0.cell 0, hp0.cell 1, hp0.cell 2, hp1.cell 0, hp1.cell 1, hp1.cell 2, hr.cell 0, hr.cell 1, hr.cell 2⟩ (fun hHeld => ?_)
          clear hK K
          try (simp only [Act.put, List.setIfInBounds_toArray, List.set_cons_zero, List.set_cons_succ])
          refine rd1 7 (fun K hK => ?_)
          have c0 : v303.cell? ⟨g301, 0, none⟩ = some (.int .i32 0) := n301.cell 0
          have z0 := n301.frozen 0
          have c1 : v303.cell? ⟨g301, 1, none⟩ = some (.int .i32 0) := n301.cell 1
          have z1 := n301.frozen 1
          have c2 : v303.cell? ⟨g301, 2, none⟩ = some (.int .i32 0) := n301.cell 2
          have z2 := n301.frozen 2
          go_simp
          try go_wp2_with fail
          replace hp0 := (((hp0.far (p := ⟨g301, 0, none⟩) (by dsimp only; omega) (.int .i32 b0)).far (p := ⟨g301, 1, none⟩) (by dsimp only; omega) (.int .i32 b1)).far (p := ⟨g301, 2, none⟩) (by dsimp only; omega) (.int .i32 b2))
          replace hp1 := (((hp1.far (p := ⟨g301, 0, none⟩) (by dsimp only; omega) (.int .i32 b0)).far (p := ⟨g301, 1, none⟩) (by dsimp only; omega) (.int .i32 b1)).far (p := ⟨g301, 2, none⟩) (by dsimp only; omega) (.int .i32 b2))
          replace hr := (((hr.far (p := ⟨g301, 0, none⟩) (by dsimp only; omega) (.int .i32 b0)).far (p := ⟨g301, 1, none⟩) (by dsimp only; omega) (.int .i32 b1)).far (p := ⟨g301, 2, none⟩) (by dsimp only; omega) (.int .i32 b2))
          replace n295 := (((n295.far (p := ⟨g301, 0, none⟩) (by dsimp only; omega) (.int .i32 b0)).far (p := ⟨g301, 1, none⟩) (by dsimp only; omega) (.int .i32 b1)).far (p := ⟨g301, 2, none⟩) (by dsimp only; omega) (.int .i32 b2))
          replace n301 := (((n301.set_ 0 (.int .i32 b0)).set_ 1 (.int .i32 b1)).set_ 2 (.int .i32 b2))
          replace hb := (((hb.setCell (p := ⟨g301, 0, none⟩) (by dsimp only; omega) (.int .i32 b0)).setCell (p := ⟨g301, 1, none⟩) (by dsimp only; omega) (.int .i32 b1)).setCell (p := ⟨g301, 2, none⟩) (by dsimp only; omega) (.int .i32 b2))
          clear c0 z0 c1 z1 c2 z2
          generalize (((v303.setCell ⟨g301, 0, none⟩ (.int .i32 b0)).setCell ⟨g301, 1, none⟩ (.int .i32 b1)).setCell ⟨g301, 2, none⟩ (.int .i32 b2)) = v305 at *
          refine hK.out _ _ ⟨hp0.cell 0, hp0.cell 1, hp0.cell 2, hp1.cell 0, hp1.cell 1, hp1.cell 2, hr.cell 0, hr.cell 1, hr.cell 2⟩ (fun hHeld => ?_)
          clear hK K
          try (simp only [Act.put, List.setIfInBounds_toArray, List.set_cons_zero, List.set_cons_succ])
          refine wpAnyH_done ?hru306 ?hqu306 _
          case hru306 => kernel_rfl
          refine NoPanic.normal ?_
          try go_wp2_with fail
          go_meet
          exact ⟨g295, g301, rfl, rfl, n295, n301, hr, hb⟩
        case hc298q5 =>
          go_simp
          try go_wp2_with fail
          have lb307 := hb.size
          have l307hp0 := hp0.lt
          have l307hp1 := hp1.lt
          have l307hr := hr.lt
          have l307n295 := n295.lt
          replace hp0 := hp0.alloc (.cells #[.int .i32 0, .int .i32 0, .int .i32 0] 71)
          replace hp1 := hp1.alloc (.cells #[.int .i32 0, .int .i32 0, .int .i32 0] 71)
          replace hr := hr.alloc (.cells #[.int .i32 0, .int .i32 0, .int .i32 0] 71)
          replace n295 := n295.alloc (.cells #[.int .i32 0, .int .i32 0, .int .i32 0] 71)
          have n307 := Blk.new v297 71 #[.int .i32 0, .int .i32 0, .int .i32 0]
          replace hb := hb.alloc hb.size (.cells #[.int .i32 0, .int .i32 0, .int .i32 0] 71)
          generalize v297.alloc (.cells #[.int .i32 0, .int .i32 0, .int .i32 0] 71) = v307 at *
          generalize v297.heap.size = g307 at *
          refine hK.out _ _ ⟨hp0.cell 0, hp0.cell 1, hp0.cell 2, hp1.cell 0, hp1.cell 1, hp1.cell 2, hr.cell 0, hr.cell 1, hr.cell 2⟩ (fun hHeld => ?_)
          clear hK K
          try (simp only [Act.put, List.setIfInBounds_toArray, List.set_cons_zero, List.set_cons_succ])
          refine rd1 3 (fun K hK => ?_)
          go_simp
          refine (HQ.out _).mono ?_
          rintro e v309 ⟨rfl, bb⟩
          go_wp2_with fail
          replace hp0 := hp0.below bb hp0.lt
          replace hp1 := hp1.below bb hp1.lt
          replace hr := hr.below bb hr.lt
          replace n295 := n295.below bb n295.lt
          replace n307 := n307.below bb n307.lt
          replace hb := hb.on bb
          clear bb
          refine hK.out _ _ ⟨hp0.cell 0, hp0.cell 1, hp0.cell 2, hp1.cell 0, hp1.cell 1, hp1.cell 2, hr.cell 0, hr.cell 1, hr.cell 2⟩ (fun hHeld => ?_)
          clear hK K
          try (simp only [Act.put, List.setIfInBounds_toArray, List.set_cons_zero, List.set_cons_succ])
          refine rd1 6 (fun K hK => ?_)
          have c0 : v309.cell? ⟨g295, 0, none⟩ = some (.int .i32 0) := n295.cell 0
          have z0 := n295.frozen 0
          have c1 : v309.cell? ⟨g295, 1, none⟩ = some (.int .i32 0) := n295.cell 1
          have z1 := n295.frozen 1
          have c2 : v309.cell? ⟨g295, 2, none⟩ = some (.int .i32 0) := n295.cell 2
          have z2 := n295.frozen 2
          go_simp
          try go_wp2_with fail
          replace hp0 := (((hp0.far (p := ⟨g295, 0, none⟩) (by dsimp only; omega) (.int .i32 a0)).far (p := ⟨g295, 1, none⟩) (by dsimp only; omega) (.int .i32 a1)).far (p := ⟨g295, 2, none⟩) (by dsimp only; omega) (.int .i32 a2))
          replace hp1 := (((hp1.far (p := ⟨g295, 0, none⟩) (by dsimp only; omega) (.int .i32 a0)).far (p := ⟨g295, 1, none⟩) (by dsimp only; omega) (.int .i32 a1)).far (p := ⟨g295, 2, none⟩) (by dsimp only; omega) (.int .i32 a2))
          replace hr := (((hr.far (p := ⟨g295, 0, none⟩) (by dsimp only; omega) (.int .i32 a0)).far (p := ⟨g295, 1, none⟩) (by dsimp only; omega) (.int .i32 a1)).far (p := ⟨g295, 2, none⟩) (by dsimp only; omega) (.int .i32 a2))
          replace n307 := (((n307.far (p := ⟨g295, 0, none⟩) (by dsimp only; omega) (.int .i32 a0)).far (p := ⟨g295, 1, none⟩) (by dsimp only; omega) (.int .i32 a1)).far (p := ⟨g295, 2, none⟩) (by dsimp only; omega) (.int .i32 a2))
          replace n295 := (((n295.set_ 0 (.int .i32 a0)).set_ 1 (.int .i32 a1)).set_ 2 (.int .i32 a2))
          replace hb := (((hb.setCell (p := ⟨g295, 0, none⟩) (by dsimp only; omega) (.int .i32 a0)).setCell (p := ⟨g295, 1, none⟩) (by dsimp only; omega) (.int .i32 a1)).setCell (p := ⟨g295, 2, none⟩) (by dsimp only; omega) (.int .i32 a2))
          clear c0 z0 c1 z1 c2 z2
          generalize (((v309.setCell ⟨g295, 0, none⟩ (.int .i32 a0)).setCell ⟨g295, 1, none⟩ (.int .i32 a1)).setCell ⟨g295, 2, none⟩ (.int .i32 a2)) = v311 at *
          refine hK.out _ _ ⟨hp0.cell 0, hp0.cell 1, hp0.cell 2, hp1.cell 0, hp1.cell 1, hp1.cell 2, hr.cell 0, hr.cell 1, hr.cell 2⟩ (fun hHeld => ?_)
          clear hK K
          try (simp only [Act.put, List.setIfInBounds_toArray, List.set_cons_zero, List.set_cons_succ])
          refine rd1 7 (fun K hK => ?_)
          have c0 : v311.cell? ⟨g307, 0, none⟩ = some (.int .i32 0) := n307.cell 0
          have z0 := n307.frozen 0
          have c1 : v311.cell? ⟨g307, 1, none⟩ = some (.int .i32 0) := n307.cell 1
          have z1 := n307.frozen 1
          have c2 : v311.cell? ⟨g307, 2, none⟩ = some (.int .i32 0) := n307.cell 2
          have z2 := n307.frozen 2
          go_simp
          try go_wp2_with fail
          replace hp0 := (((hp0.far (p := ⟨g307, 0, none⟩) (by dsimp only; omega) (.int .i32 b0)).far (p := ⟨g307, 1, none⟩) (by dsimp only; omega) (.int .i32 b1)).far (p := ⟨g307, 2, none⟩) (by dsimp only; omega) (.int .i32 b2))
          replace hp1 := (((hp1.far (p := ⟨g307, 0, none⟩) (by dsimp only; omega) (.int .i32 b0)).far (p := ⟨g307, 1, none⟩) (by dsimp only; omega) (.int .i32 b1)).far (p := ⟨g307, 2, none⟩) (by dsimp only; omega) (.int .i32 b2))
          replace hr := (((hr.far (p := ⟨g307, 0, none⟩) (by dsimp only; omega) (.int .i32 b0)).far (p := ⟨g307, 1, none⟩) (by dsimp only; omega) (.int .i32 b1)).far (p := ⟨g307, 2, none⟩) (by dsimp only; omega) (.int .i32 b2))
          replace n295 := (((n295.far (p := ⟨g307, 0, none⟩) (by dsimp only; omega) (.int .i32 b0)).far (p := ⟨g307, 1, none⟩) (by dsimp only; omega) (.int .i32 b1)).far (p := ⟨g307, 2, none⟩) (by dsimp only; omega) (.int .i32 b2))
          replace n307 := (((n307.set_ 0 (.int .i32 b0)).set_ 1 (.int .i32 b1)).set_ 2 (.int .i32 b2))
          replace hb := (((hb.setCell (p := ⟨g307, 0, none⟩) (by dsimp only; omega) (.int .i32 b0)).setCell (p := ⟨g307, 1, none⟩) (by dsimp only; omega) (.int .i32 b1)).setCell (p := ⟨g307, 2, none⟩) (by dsimp only; omega) (.int .i32 b2))
          clear c0 z0 c1 z1 c2 z2
          generalize (((v311.setCell ⟨g307, 0, none⟩ (.int .i32 b0)).setCell ⟨g307, 1, none⟩ (.int .i32 b1)).setCell ⟨g307, 2, none⟩ (.int .i32 b2)) = v313 at *
          refine hK.out _ _ ⟨hp0.cell 0, hp0.cell 1, hp0.cell 2, hp1.cell 0, hp1.cell 1, hp1.cell 2, hr.cell 0, hr.cell 1, hr.cell 2⟩ (fun hHeld => ?_)
          clear hK K
          try (simp only [Act.put, List.setIfInBounds_toArray, List.set_cons_zero, List.set_cons_succ])
          refine wpAnyH_done ?hru314 ?hqu314 _
          case hru314 => kernel_rfl
          refine NoPanic.normal ?_
          try go_wp2_with fail
          go_meet
          exact ⟨g295, g307, rfl, rfl, n295, n307, hr, hb⟩
      case hc296q5 =>
        go_simp
        try go_wp2_with fail
        have lb315 := hb.size
        have l315hp0 := hp0.lt
        have l315hp1 := hp1.lt
        have l315hr := hr.lt
        have l315n295 := n295.lt
        replace hp0 := hp0.alloc (.cells #[.int .i32 0, .int .i32 0, .int .i32 0] 71)
        replace hp1 := hp1.alloc (.cells #[.int .i32 0, .int .i32 0, .int .i32 0] 71)
        replace hr := hr.alloc (.cells #[.int .i32 0, .int .i32 0, .int .i32 0] 71)
        replace n295 := n295.alloc (.cells #[.int .i32 0, .int .i32 0, .int .i32 0] 71)
        have n315 := Blk.new v295 71 #[.int .i32 0, .int .i32 0, .int .i32 0]
        replace hb := hb.alloc hb.size (.cells #[.int .i32 0, .int .i32 0, .int .i32 0] 71)
        generalize v295.alloc (.cells #[.int .i32 0, .int .i32 0, .int .i32 0] 71) = v315 at *
        generalize v295.heap.size = g315 at *
        refine hK.out _ _ ⟨hp0.cell 0, hp0.cell 1, hp0.cell 2, hp1.cell 0, hp1.cell 1, hp1.cell 2, hr.cell 0, hr.cell 1, hr.cell 2⟩ (fun hHeld => ?_)
        clear hK K
        try (simp only [Act.put, List.setIfInBounds_toArray, List.set_cons_zero, List.set_cons_succ])
        refine rd1 1 (fun K hK => ?_)
        go_simp
        refine (HP.out _).mono ?_
        rintro e v317 ⟨rfl, bb⟩
        go_wp2_with fail
        replace hp0 := hp0.below bb hp0.lt
        replace hp1 := hp1.below bb hp1.lt
        replace hr := hr.below bb hr.lt
        replace n295 := n295.below bb n295.lt
        replace n315 := n315.below bb n315.lt
        replace hb := hb.on bb
        clear bb
        refine hK.out _ _ ⟨hp0.cell 0, hp0.cell 1, hp0.cell 2, hp1.cell 0, hp1.cell 1, hp1.cell 2, hr.cell 0, hr.cell 1, hr.cell 2⟩ (fun hHeld => ?_)
        clear hK K
        try (simp only [Act.put, List.setIfInBounds_toArray, List.set_cons_zero, List.set_cons_succ])
        refine rd1 3 (fun K hK => ?_)
        go_simp
        refine (HQ.out _).mono ?_
        rintro e v319 ⟨rfl, bb⟩
        go_wp2_with fail
        replace hp0 := hp0.below bb hp0.lt
        replace hp1 := hp1.below bb hp1.lt
        replace hr := hr.below bb hr.lt
        replace n295 := n295.below bb n295.lt
        replace n315 := n315.below bb n315.lt
        replace hb := hb.on bb
        clear bb
        refine hK.out _ _ ⟨hp0.cell 0, hp0.cell 1, hp0.cell 2, hp1.cell 0, hp1.cell 1, hp1.cell 2, hr.cell 0, hr.cell 1, hr.cell 2⟩ (fun hHeld => ?_)
        clear hK K
        try (simp only [Act.put, List.setIfInBounds_toArray, List.set_cons_zero, List.set_cons_succ])
        refine rd1 6 (fun K hK => ?_)
        have c0 : v319.cell? ⟨g295, 0, none⟩ = some (.int .i32 0) := n295.cell 0
        have z0 := n295.frozen 0
        have c1 : v319.cell? ⟨g295, 1, none⟩ = some (.int .i32 0) := n295.cell 1
        have z1 := n295.frozen 1
        have c2 : v319.cell? ⟨g295, 2, none⟩ = some (.int .i32 0) := n295.cell 2
        have z2 := n295.frozen 2
        go_simp
        try go_wp2_with fail
        replace hp0 := (((hp0.far (p := ⟨g295, 0, none⟩) (by dsimp only; omega) (.int .i32 a0)).far (p := ⟨g295, 1, none⟩) (by dsimp only; omega) (.int .i32 a1)).far (p := ⟨g295, 2, none⟩) (by dsimp only; omega) (.int .i32 a2))
        replace hp1 := (((hp1.far (p := ⟨g295, 0, none⟩) (by dsimp only; omega) (.int .i32 a0)).far (p := ⟨g295, 1, none⟩) (by dsimp only; omega) (.int .i32 a1)).far (p := ⟨g295, 2, none⟩) (by dsimp only; omega) (.int .i32 a2))
        replace hr := (((hr.far (p := ⟨g295, 0, none⟩) (by dsimp only; omega) (.int .i32 a0)).far (p := ⟨g295, 1, none⟩) (by dsimp only; omega) (.int .i32 a1)).far (p := ⟨g295, 2, none⟩) (by dsimp only; omega) (.int .i32 a2))
        replace n315 := (((n315.far (p := ⟨g295, 0, none⟩) (by dsimp only; omega) (.int .i32 a0)).far (p := ⟨g295, 1, none⟩) (by dsimp only; omega) (.int .i32 a1)).far (p := ⟨g295, 2, none⟩) (by dsimp only; omega) (.int .i32 a2))
        replace n295 := (((n295.set_ 0 (.int .i32 a0)).set_ 1 (.int .i32 a1)).set_ 2 (.int .i32 a2))
        replace hb := (((hb.setCell (p := ⟨g295, 0, none⟩) (by dsimp only; omega) (.int .i32 a0)).setCell (p := ⟨g295, 1, none⟩) (by dsimp only; omega) (.int .i32 a1)).setCell (p := ⟨g295, 2, none⟩) (by dsimp only; omega) (.int .i32 a2))
        clear c0 z0 c1 z1 c2 z2
        generalize (((v319.setCell ⟨g295, 0, none⟩ (.int .i32 a0)).setCell ⟨g295, 1, none⟩ (.int .i32 a1)).setCell ⟨g295, 2, none⟩ (.int .i32 a2)) = v321 at *
        refine hK.out _ _ ⟨hp0.cell 0, hp0.cell 1, hp0.cell 2, hp1.cell 0, hp1.cell 1, hp1.cell 2, hr.cell 0, hr.cell 1, hr.cell 2⟩ (fun hHeld => ?_)
        clear hK K
        try (simp only [Act.put, List.setIfInBounds_toArray, List.set_cons_zero, List.set_cons_succ])
        refine rd1 7 (fun K hK => ?_)
        have c0 : v321.cell? ⟨g315, 0, none⟩ = some (.int .i32 0) := n315.cell 0
        have z0 := n315.frozen 0
        have c1 : v321.cell? ⟨g315, 1, none⟩ = some (.int .i32 0) := n315.cell 1
        have z1 := n315.frozen 1
        have c2 : v321.cell? ⟨g315, 2, none⟩ = some (.int .i32 0) := n315.cell 2
        have z2 := n315.frozen 2
        go_simp
        try go_wp2_with fail
        replace hp0 := (((hp0.far (p := ⟨g315, 0, none⟩) (by dsimp only; omega) (.int .i32 b0)).far (p := ⟨g315, 1, none⟩) (by dsimp only; omega) (.int .i32 b1)).far (p := ⟨g315, 2, none⟩) (by dsimp only; omega) (.int .i32 b2))
        replace hp1 := (((hp1.far (p := ⟨g315, 0, none⟩) (by dsimp only; omega) (.int .i32 b0)).far (p := ⟨g315, 1, none⟩) (by dsimp only; omega) (.int .i32 b1)).far (p := ⟨g315, 2, none⟩) (by dsimp only; omega) (.int .i32 b2))
        replace hr := (((hr.far (p := ⟨g315, 0, none⟩) (by dsimp only; omega) (.int .i32 b0)).far (p := ⟨g315, 1, none⟩) (by dsimp only; omega) (.int .i32 b1)).far (p := ⟨g315, 2, none⟩) (by dsimp only; omega) (.int .i32 b2))
        replace n295 := (((n295.far (p := ⟨g315, 0, none⟩) (by dsimp only; omega) (.int .i32 b0)).far (p := ⟨g315, 1, none⟩) (by dsimp only; omega) (.int .i32 b1)).far (p := ⟨g315, 2, none⟩) (by dsimp only; omega) (.int .i32 b2))
        replace n315 := (((n315.set_ 0 (.int .i32 b0)).set_ 1 (.int .i32 b1)).set_ 2 (.int .i32 b2))
        replace hb := (((hb.setCell (p := ⟨g315, 0, none⟩) (by dsimp only; omega) (.int .i32 b0)).setCell (p := ⟨g315, 1, none⟩) (by dsimp only; omega) (.int .i32 b1)).setCell (p := ⟨g315, 2, none⟩) (by dsimp only; omega) (.int .i32 b2))
        clear c0 z0 c1 z1 c2 z2
        generalize (((v321.setCell ⟨g315, 0, none⟩ (.int .i32 b0)).setCell ⟨g315, 1, none⟩ (.int .i32 b1)).setCell ⟨g315, 2, none⟩ (.int .i32 b2)) = v323 at *
        refine hK.out _ _ ⟨hp0.cell 0, hp0.cell 1, hp0.cell 2, hp1.cell 0, hp1.cell 1, hp1.cell 2, hr.cell 0, hr.cell 1, hr.cell 2⟩ (fun hHeld => ?_)
        clear hK K
        try (simp only [Act.put, List.setIfInBounds_toArray, List.set_cons_zero, List.set_cons_succ])
        refine wpAnyH_done ?hru324 ?hqu324 _
        case hru324 => kernel_rfl
        refine NoPanic.normal ?_
        try go_wp2_with fail
        go_meet
        exact ⟨g295, g315, rfl, rfl, n295, n315, hr, hb⟩
    case hc238q5 =>
      go_simp
      try go_wp2_with fail
      have lb325 := hb.size
      have l325hp0 := hp0.lt
      have l325hp1 := hp1.lt
      have l325hr := hr.lt
      replace hp0 := hp0.alloc (.cells #[.int .i32 0, .int .i32 0, .int .i32 0] 71)
      replace hp1 := hp1.alloc (.cells #[.int .i32 0, .int .i32 0, .int .i32 0] 71)
      replace hr := hr.alloc (.cells #[.int .i32 0, .int .i32 0, .int .i32 0] 71)
      have n325 := Blk.new W237 71 #[.int .i32 0, .int .i32 0, .int .i32 0]
      replace hb := hb.alloc hb.size (.cells #[.int .i32 0, .int .i32 0, .int .i32 0] 71)
      generalize W237.alloc (.cells #[.int .i32 0, .int .i32 0, .int .i32 0] 71) = v325 at *
      generalize W237.heap.size = g325 at *
      refine hK.out _ _ ⟨hp0.cell 0, hp0.cell 1, hp0.cell 2, hp1.cell 0, hp1.cell 1, hp1.cell 2, hr.cell 0, hr.cell 1, hr.cell 2⟩ (fun hHeld => ?_)
      clear hK K
      try (simp only [Act.put, List.setIfInBounds_toArray, List.set_cons_zero, List.set_cons_succ])
      refine rd2 1 4 (fun K hK => ?hc326q1) (fun K hK => ?hc326q4)
      case hc326q1 =>
        go_simp
        refine (HP.out _).mono ?_
        rintro e v327 ⟨rfl, bb⟩
        go_wp2_with fail
        replace hp0 := hp0.below bb hp0.lt
        replace hp1 := hp1.below bb hp1.lt
        replace hr := hr.below bb hr.lt
        replace n325 := n325.below bb n325.lt
        replace hb := hb.on bb
        clear bb
        refine hK.out _ _ ⟨hp0.cell 0, hp0.cell 1, hp0.cell 2, hp1.cell 0, hp1.cell 1, hp1.cell 2, hr.cell 0, hr.cell 1, hr.cell 2⟩ (fun hHeld => ?_)
        clear hK K
        try (simp only [Act.put, List.setIfInBounds_toArray, List.set_cons_zero, List.set_cons_succ])
        refine rd2 3 4 (fun K hK => ?hc328q3) (fun K hK => ?hc328q4)
        case hc328q3 =>
          go_simp
          refine (HQ.out _).mono ?_
          rintro e v329 ⟨rfl, bb⟩
          go_wp2_with fail
          replace hp0 := hp0.below bb hp0.lt
          replace hp1 := hp1.below bb hp1.lt
          replace hr := hr.below bb hr.lt
          replace n325 := n325.below bb n325.lt
          replace hb := hb.on bb
          clear bb
          refine hK.out _ _ ⟨hp0.cell 0, hp0.cell 1, hp0.cell 2, hp1.cell 0, hp1.cell 1, hp1.cell 2, hr.cell 0, hr.cell 1, hr.cell 2⟩ (fun hHeld => ?_)
          clear hK K
          try (simp only [Act.put, List.setIfInBounds_toArray, List.set_cons_zero, List.set_cons_succ])
          refine rd1 4 (fun K hK => ?_)
          go_simp
          try go_wp2_with fail
          have lb331 := hb.size
          have l331hp0 := hp0.lt
          have l331hp1 := hp1.lt
          have l331hr := hr.lt
          have l331n325 := n325.lt
          replace hp0 := hp0.alloc (.cells #[.int .i32 0, .int .i32 0, .int .i32 0] 71)
          replace hp1 := hp1.alloc (.cells #[.int .i32 0, .int .i32 0, .int .i32 0] 71)
          replace hr := hr.alloc (.cells #[.int .i32 0, .int .i32 0, .int .i32 0] 71)
          replace n325 := n325.alloc (.cells #[.int .i32 0, .int .i32 0, .int .i32 0] 71)
          have n331 := Blk.new v329 71 #[.int .i32 0, .int .i32 0, .int .i32 0]
          replace hb := hb.alloc hb.size (.cells #[.int .i32 0, .int .i32 0, .int .i32 0] 71)
          generalize v329.alloc (.cells #[.int .i32 0, .int .i32 0, .int .i32 0] 71) = v331 at *
          generalize v329.heap.size = g331 at *
          refine hK.out _ _ ⟨hp0.cell 0, hp0.cell 1, hp0.cell 2, hp1.cell 0, hp1.cell 1, hp1.cell 2, hr.cell 0, hr.cell 1, hr.cell 2⟩ (fun hHeld => ?_)
          clear hK K
          try (simp only [Act.put, List.setIfInBounds_toArray, List.set_cons_zero, List.set_cons_succ])
          refine rd1 6 (fun K hK => ?_)
          have c0 : v331.cell? ⟨g331, 0, none⟩ = some (.int .i32 0) := n331.cell 0
          have z0 := n331.frozen 0
          have c1 : v331.cell? ⟨g331, 1, none⟩ = some (.int .i32 0) := n331.cell 1
          have z1 := n331.frozen 1
          have c2 : v331.cell? ⟨g331, 2, none⟩ = some (.int .i32 0) := n331.cell 2
          have z2 := n331.frozen 2
          go_simp
          try go_wp2_with fail
          replace hp0 := (((hp0.far (p := ⟨g331, 0, none⟩) (by dsimp only; omega) (.int .i32 a0)).far (p := ⟨g331, 1, none⟩) (by dsimp only; omega) (.int .i32 a1)).far (p := ⟨g331, 2, none⟩) (by dsimp only; omega) (.int .i32 a2))
          replace hp1 := (((hp1.far (p := ⟨g331, 0, none⟩) (by dsimp only; omega) (.int .i32 a0)).far (p := ⟨g331, 1, none⟩) (by dsimp only; omega) (.int .i32 a1)).far (p := ⟨g331, 2, none⟩) (by dsimp only; omega) (.int .i32 a2))
          replace hr := (((hr.far (p := ⟨g331, 0, none⟩) (by dsimp only; omega) (.int .i32 a0)).far (p := ⟨g331, 1, none⟩) (by dsimp only; omega) (.int .i32 a1)).far (p := ⟨g331, 2, none⟩) (by dsimp only; omega) (.int .i32 a2))
          replace n325 := (((n325.far (p := ⟨g331, 0, none⟩) (by dsimp only; omega) (.int .i32 a0)).far (p := ⟨g331, 1, none⟩) (by dsimp only; omega) (.int .i32 a1)).far (p := ⟨g331, 2, none⟩) (by dsimp only; omega) (.int .i32 a2))
          replace n331 := (((n331.set_ 0 (.int .i32 a0)).set_ 1 (.int .i32 a1)).set_ 2 (.int .i32 a2))
          replace hb := (((hb.setCell (p := ⟨g331, 0, none⟩) (by dsimp only; omega) (.int .i32 a0)).setCell (p := ⟨g331, 1, none⟩) (by dsimp only; omega) (.int .i32 a1)).setCell (p := ⟨g331, 2, none⟩) (by dsimp only; omega) (.int .i32 a2))
          clear c0 z0 c1 z1 c2 z2
          generalize (((v331.setCell ⟨g331, 0, none⟩ (.int .i32 a0)).setCell ⟨g331, 1, none⟩ (.int .i32 a1)).setCell ⟨g331, 2, none⟩ (.int .i32 a2)) = v333 at *
          refine hK.out _ _ ⟨hp0.cell 0, hp0.cell 1, hp0.cell 2, hp1.cell 0, hp1.cell 1, hp1.cell 2, hr.cell 0, hr.cell 1, hr.cell 2⟩ (fun hHeld => ?_)
          clear hK K
          try (simp only [Act.put, List.setIfInBounds_toArray, List.set_cons_zero, List.set_cons_succ])
          refine rd1 7 (fun K hK => ?_)
          have c0 : v333.cell? ⟨g325, 0, none⟩ = some (.int .i32 0) := n325.cell 0
          have z0 := n325.frozen 0
          have c1 : v333.cell? ⟨g325, 1, none⟩ = some (.int .i32 0) := n325.cell 1
          have z1 := n325.frozen 1
          have c2 : v333.cell? ⟨g325, 2, none⟩ = some (.int .i32 0) := n325.cell 2
          have z2 := n325.frozen 2
          go_simp
          try go_wp2_with fail
          replace hp0 := (((hp0.far (p := ⟨g325, 0, none⟩) (by dsimp only; omega) (.int .i32 b0)).far (p := ⟨g325, 1, none⟩) (by dsimp only; omega) (.int .i32 b1)).far (p := ⟨g325, 2, none⟩) (by dsimp only; omega) (.int .i32 b2))
          replace hp1 := (((hp1.far (p := ⟨g325, 0, none⟩) (by dsimp only; omega) (.int .i32 b0)).far (p := ⟨g325, 1, none⟩) (by dsimp only; omega) (.int .i32 b1)).far (p := ⟨g325, 2, none⟩) (by dsimp only; omega) (.int .i32 b2))
          replace hr := (((hr.far (p := ⟨g325, 0, none⟩) (by dsimp only; omega) (.int .i32 b0)).far (p := ⟨g325, 1, none⟩) (by dsimp only; omega) (.int .i32 b1)).far (p := ⟨g325, 2, none⟩) (by dsimp only; omega) (.int .i32 b2))
          replace n331 := (((n331.far (p := ⟨g325, 0, none⟩) (by dsimp only; omega) (.int .i32 b0)).far (p := ⟨g325, 1, none⟩) (by dsimp only; omega) (.int .i32 b1)).far (p := ⟨g325, 2, none⟩) (by dsimp only; omega) (.int .i32 b2))
          replace n325 := (((n325.set_ 0 (.int .i32 b0)).set_ 1 (.int .i32 b1)).set_ 2 (.int .i32 b2))
          replace hb := (((hb.setCell (p := ⟨g325, 0, none⟩) (by dsimp only; omega) (.int .i32 b0)).setCell (p := ⟨g325, 1, none⟩) (by dsimp only; omega) (.int .i32 b1)).setCell (p := ⟨g325, 2, none⟩) (by dsimp only; omega) (.int .i32 b2))
          clear c0 z0 c1 z1 c2 z2
          generalize (((v333.setCell ⟨g325, 0, none⟩ (.int .i32 b0)).setCell ⟨g325, 1, none⟩ (.int .i32 b1)).setCell ⟨g325, 2, none⟩ (.int .i32 b2)) = v335 at *
          refine hK.out _ _ ⟨hp0.cell 0, hp0.cell 1, hp0.cell 2, hp1.cell 0, hp1.cell 1, hp1.cell 2, hr.cell 0, hr.cell 1, hr.cell 2⟩ (fun hHeld => ?_)
          clear hK K
          try (simp only [Act.put, List.setIfInBounds_toArray, List.set_cons_zero, List.set_cons_succ])
          refine wpAnyH_done ?hru336 ?hqu336 _
          case hru336 => kernel_rfl
          refine NoPanic.normal ?_
          try go_wp2_with fail
          go_meet
          exact ⟨g331, g325, rfl, rfl, n331, n325, hr, hb⟩
        case hc328q4 =>
          go_simp
          try go_wp2_with fail
          have lb337 := hb.size
          have l337hp0 := hp0.lt
          have l337hp1 := hp1.lt
          have l337hr := hr.lt
          have l337n325 := n325.lt
          replace hp0 := hp0.alloc (.cells #[.int .i32 0, .int .i32 0, .int .i32 0] 71)
          replace hp1 := hp1.alloc (.cells #[.int .i32 0, .int .i32 0, .int .i32 0] 71)
          replace hr := hr.alloc (.cells #[.int .i32 0, .int .i32 0, .int .i32 0] 71)
          replace n325 := n325.alloc (.cells #[.int .i32 0, .int .i32 0, .int .i32 0] 71)
          have n337 := Blk.new v327 71 #[.int .i32 0, .int .i32 0, .int .i32 0]
          replace hb := hb.alloc hb.size (.cells #[.int .i32 0, .int .i32 0, .int .i32 0] 71)
          generalize v327.alloc (.cells #[.int .i32 0, .int .i32 0, .int .i32 0] 71) = v337 at *
          generalize v327.heap.size = g337 at *
          refine hK.out _ _ ⟨hp0.cell 0, hp0.cell 1, hp0.cell 2, hp1.cell 0, hp1.cell 1, hp1.cell 2, hr.cell 0, hr.cell 1, hr.cell 2⟩ (fun hHeld => ?_)
          clear hK K
          try (simp only [Act.put, List.setIfInBounds_toArray, List.set_cons_zero, List.set_cons_succ])
          refine rd1 3 (fun K hK => ?_)
          go_simp
          refine (HQ.out _).mono ?_
          rintro e v339 ⟨rfl, bb⟩
          go_wp2_with fail
          replace hp0 := hp0.below bb hp0.lt
          replace hp1 := hp1.below bb hp1.lt
          replace hr := hr.below bb hr.lt
          replace n325 := n325.below bb n325.lt
          replace n337 := n337.below bb n337.lt
          replace hb := hb.on bb
          clear bb
          refine hK.out _ _ ⟨hp0.cell 0, hp0.cell 1, hp0.cell 2, hp1.cell 0, hp1.cell 1, hp1.cell 2, hr.cell 0, hr.cell 1, hr.cell 2⟩ (fun hHeld => ?_)
          clear hK K
          try (simp only [Act.put, List.setIfInBounds_toArray, List.set_cons_zero, List.set_cons_succ])
          refine rd1 6 (fun K hK => ?_)
          have c0 : v339.cell? ⟨g337, 0, none⟩ = some (.int .i32 0) := n337.cell 0
          have z0 := n337.frozen 0
          have c1 : v339.cell? ⟨g337, 1, none⟩ = some (.int .i32 0) := n337.cell 1
          have z1 := n337.frozen 1
          have c2 : v339.cell? ⟨g337, 2, none⟩ = some (.int .i32 0) := n337.cell 2
          have z2 := n337.frozen 2
          go_simp
          try go_wp2_with fail
          replace hp0 := (((hp0.far (p := ⟨g337, 0, none⟩) (by dsimp only; omega) (.int .i32 a0)).far (p := ⟨g337, 1, none⟩) (by dsimp only; omega) (.int .i32 a1)).far (p := ⟨g337, 2, none⟩) (by dsimp only; omega) (.int .i32 a2))
          replace hp1 := (((hp1.far (p := ⟨g337, 0, none⟩) (by dsimp only; omega) (.int .i32 a0)).far (p := ⟨g337, 1, none⟩) (by dsimp only; omega) (.int .i32 a1)).far (p := ⟨g337, 2, none⟩) (by dsimp only; omega) (.int .i32 a2))
          replace hr := (((hr.far (p := ⟨g337, 0, none⟩) (by dsimp only; omega) (.int .i32 a0)).far (p := ⟨g337, 1, none⟩) (by dsimp only; omega) (.int .i32 a1)).far (p := ⟨g337, 2, none⟩) (by dsimp only; omega) (.int .i32 a2))
          replace n325 := (((n325.far (p := ⟨g337, 0, none⟩) (by dsimp only; omega) (.int .i32 a0)).far (p := ⟨g337, 1, none⟩) (by dsimp only; omega) (.int .i32 a1)).far (p := ⟨g337, 2, none⟩) (by dsimp only; omega) (.int .i32 a2))
          replace n337 := (((n337.set_ 0 (.int .i32 a0)).set_ 1 (.int .i32 a1)).set_ 2 (.int .i32 a2))
          replace hb := (((hb.setCell (p := ⟨g337, 0, none⟩) (by dsimp only; omega) (.int .i32 a0)).setCell (p := ⟨g337, 1, none⟩) (by dsimp only; omega) (.int .i32 a1)).setCell (p := ⟨g337, 2, none⟩) (by dsimp only; omega) (.int .i32 a2))
          clear c0 z0 c1 z1 c2 z2
          generalize (((v339.setCell ⟨g337, 0, none⟩ (.int .i32 a0)).setCell ⟨g337, 1, none⟩ (.int .i32 a1)).setCell ⟨g337, 2, none⟩ (.int .i32 a2)) = v341 at *
          refine hK.out _ _ ⟨hp0.cell 0, hp0.cell 1, hp0.cell 2, hp1.cell 0, hp1.cell 1, hp1.cell 2, hr.cell 0, hr.cell 1, hr.cell 2⟩ (fun hHeld => ?_)
          clear hK K
          try (simp only [Act.put, List.setIfInBounds_toArray, List.set_cons_zero, List.set_cons_succ])
          refine rd1 7 (fun K hK => ?_)
          have c0 : v341.cell? ⟨g325, 0, none⟩ = some (.int .i32 0) := n325.cell 0
          have z0 := n325.frozen 0
          have c1 : v341.cell? ⟨g325, 1, none⟩ = some (.int .i32 0) := n325.cell 1
          have z1 := n325.frozen 1
          have c2 : v341.cell? ⟨g325, 2, none⟩ = some (.int .i32 0) := n325.cell 2
          have z2 := n325.frozen 2
          go_simp
          try go_wp2_with fail
          replace hp0 := (((hp0.far (p := ⟨g325, 0, none⟩) (by dsimp only; omega) (.int .i32 b0)).far (p := ⟨g325, 1, none⟩) (by dsimp only; omega) (.int .i32 b1)).far (p := ⟨g325, 2, none⟩) (by dsimp only; omega) (.int .i32 b2))
          replace hp1 := (((hp1.far (p := ⟨g325, 0, none⟩) (by dsimp only; omega) (.int .i32 b0)).far (p := ⟨g325, 1, none⟩) (by dsimp only; omega) (.int .i32 b1)).far (p := ⟨g325, 2, none⟩) (by dsimp only; omega) (.int .i32 b2))
          replace hr := (((hr.far (p := ⟨g325, 0, none⟩) (by dsimp only; omega) (.int .i32 b0)).far (p := ⟨g325, 1, none⟩) (by dsimp only; omega) (.int .i32 b1)).far (p := ⟨g325, 2, none⟩) (by dsimp only; omega) (.int .i32 b2))
          replace n337 := (((n337.far (p := ⟨g325, 0, none⟩) (by dsimp only; omega) (.int .i32 b0)).far (p := ⟨g325, 1, none⟩) (by dsimp only; omega) (.int .i32 b1)).far (p := ⟨g325, 2, none⟩) (by dsimp only; omega) (.int .i32 b2))
          replace n325 := (((n325.set_ 0 (.int .i32 b0)).set_ 1 (.int .i32 b1)).set_ 2 (.int .i32 b2))
          replace hb := (((hb.setCell (p := ⟨g325, 0, none⟩) (by dsimp only; omega) (.int .i32 b0)).setCell (p := ⟨g325, 1, none⟩) (by dsimp only; omega) (.int .i32 b1)).setCell (p := ⟨g325, 2, none⟩) (by dsimp only; omega) (.int .i32 b2))
          clear c0 z0 c1 z1 c2 z2
          generalize (((v341.setCell ⟨g325, 0, none⟩ (.int .i32 b0)).setCell ⟨g325, 1, none⟩ (.int .i32 b1)).setCell ⟨g325, 2, none⟩ (.int .i32 b2)) = v343 at *
          refine hK.out _ _ ⟨hp0.cell 0, hp0.cell 1, hp0.cell 2, hp1.cell 0, hp1.cell 1, hp1.cell 2, hr.cell 0, hr.cell 1, hr.cell 2⟩ (fun hHeld => ?_)
          clear hK K
          try (simp only [Act.put, List.setIfInBounds_toArray, List.set_cons_zero, List.set_cons_succ])
          refine wpAnyH_done ?hru344 ?hqu344 _
          case hru344 => kernel_rfl
          refine NoPanic.normal ?_
          try go_wp2_with fail
          go_meet
          exact ⟨g337, g325, rfl, rfl, n337, n325, hr, hb⟩
      case hc326q4 =>
        go_simp
        try go_wp2_with fail
        have lb345 := hb.size
        have l345hp0 := hp0.lt
        have l345hp1 := hp1.lt
        have l345hr := hr.lt
        have l345n325 := n325.lt
        replace hp0 := hp0.alloc (.cells #[.int .i32 0, .int .i32 0, .int .i32 0] 71)
        replace hp1 := hp1.alloc (.cells #[.int .i32 0, .int .i32 0, .int .i32 0] 71)
        replace hr := hr.alloc (.cells #[.int .i32 0, .int .i32 0, .int .i32 0] 71)
        replace n325 := n325.alloc (.cells #[.int .i32 0, .int .i32 0, .int .i32 0] 71)
        have n345 := Blk.new v325 71 #[.int .i32 0, .int .i32 0, .int .i32 0]
        replace hb := hb.alloc hb.size (.cells #[.int .i32 0, .int .i32 0, .int .i32 0] 71)
        generalize v325.alloc (.cells #[.int .i32 0, .int .i32 0, .int .i32 0] 71) = v345 at *
        generalize v325.heap.size = g345 at *
        refine hK.out _ _ ⟨hp0.cell 0, hp0.cell 1, hp0.cell 2, hp1.cell 0, hp1.cell 1, hp1.cell 2, hr.cell 0, hr.cell 1, hr.cell 2⟩ (fun hHeld => ?_)
        clear hK K
        try (simp only [Act.put, List.setIfInBounds_toArray, List.set_cons_zero, List.set_cons_succ])
        refine rd1 1 (fun K hK => ?_)
        go_simp
        refine (HP.out _).mono ?_
        rintro e v347 ⟨rfl, bb⟩
        go_wp2_with fail
        replace hp0 := hp0.below bb hp0.lt
        replace hp1 := hp1.below bb hp1.lt
        replace hr := hr.below bb hr.lt
        replace n325 := n325.below bb n325.lt
        replace n345 := n345.below bb n345.lt
        replace hb := hb.on bb
        clear bb
        refine hK.out _ _ ⟨hp0.cell 0, hp0.cell 1, hp0.cell 2, hp1.cell 0, hp1.cell 1, hp1.cell 2, hr.cell 0, hr.cell 1, hr.cell 2⟩ (fun hHeld => ?_)
        clear hK K
        try (simp only [Act.put, List.setIfInBounds_toArray, List.set_cons_zero, List.set_cons_succ])
        refine rd1 3 (fun K hK => ?_)
        go_simp
        refine (HQ.out _).mono ?_
        rintro e v349 ⟨rfl, bb⟩
        go_wp2_with fail
        replace hp0 := hp0.below bb hp0.lt
        replace hp1 := hp1.below bb hp1.lt
        replace hr := hr.below bb hr.lt
        replace n325 := n325.below bb n325.lt
        replace n345 := n345.below bb n345.lt
        replace hb := hb.on bb
        clear bb
        refine hK.out _ _ ⟨hp0.cell 0, hp0.cell 1, hp0.cell 2, hp1.cell 0, hp1.cell 1, hp1.cell 2, hr.cell 0, hr.cell 1, hr.cell 2⟩ (fun hHeld => ?_)
        clear hK K
        try (simp only [Act.put, List.setIfInBounds_toArray, List.set_cons_zero, List.set_cons_succ])
        refine rd1 6 (fun K hK => ?_)
        have c0 : v349.cell? ⟨g345, 0, none⟩ = some (.int .i32 0) := n345.cell 0
        have z0 := n345.frozen 0
        have c1 : v349.cell? ⟨g345, 1, none⟩ = some (.int .i32 0) := n345.cell 1
        have z1 := n345.frozen 1
        have c2 : v349.cell? ⟨g345, 2, none⟩ = some (.int .i32 0) := n345.cell 2
        have z2 := n345.frozen 2
        go_simp
        try go_wp2_with fail
        replace hp0 := (((hp0.far (p := ⟨g345, 0, none⟩) (by dsimp only; omega) (.int .i32 a0)).far (p := ⟨g345, 1, none⟩) (by dsimp only; omega) (.int .i32 a1)).far (p := ⟨g345, 2, none⟩) (by dsimp only; omega) (.int .i32 a2))
        replace hp1 := (((hp1.far (p := ⟨g345, 0, none⟩) (by dsimp only; omega) (.int .i32 a0)).far (p := ⟨g345, 1, none⟩) (by dsimp only; omega) (.int .i32 a1)).far (p := ⟨g345, 2, none⟩) (by dsimp only; omega) (.int .i32 a2))
        replace hr := (((hr.far (p := ⟨g345, 0, none⟩) (by dsimp only; omega) (.int .i32 a0)).far (p := ⟨g345, 1, none⟩) (by dsimp only; omega) (.int .i32 a1)).far (p := ⟨g345, 2, none⟩) (by dsimp only; omega) (.int .i32 a2))
        replace n325 := (((n325.far (p := ⟨g345, 0, none⟩) (by dsimp only; omega) (.int .i32 a0)).far (p := ⟨g345, 1, none⟩) (by dsimp only; omega) (.int .i32 a1)).far (p := ⟨g345, 2, none⟩) (by dsimp only; omega) (.int .i32 a2))
        replace n345 := (((n345.set_ 0 (.int .i32 a0)).set_ 1 (.int .i32 a1)).set_ 2 (.int .i32 a2))
        replace hb := (((hb.setCell (p := ⟨g345, 0, none⟩) (by dsimp only; omega) (.int .i32 a0)).setCell (p := ⟨g345, 1, none⟩) (by dsimp only; omega) (.int .i32 a1)).setCell (p := ⟨g345, 2, none⟩) (by dsimp only; omega) (.int .i32 a2))
        clear c0 z0 c1 z1 c2 z2
        generalize (((v349.setCell ⟨g345, 0, none⟩ (.int .i32 a0)).setCell ⟨g345, 1, none⟩ (.int .i32 a1)).setCell ⟨g345, 2, none⟩ (.int .i32 a2)) = v351 at *
        refine hK.out _ _ ⟨hp0.cell 0, hp0.cell 1, hp0.cell 2, hp1.cell 0, hp1.cell 1, hp1.cell 2, hr.cell 0, hr.cell 1, hr.cell 2⟩ (fun hHeld => ?_)
        clear hK K
        try (simp only [Act.put, List.setIfInBounds_toArray, List.set_cons_zero, List.set_cons_succ])
        refine rd1 7 (fun K hK => ?_)
        have c0 : v351.cell? ⟨g325, 0, none⟩ = some (.int .i32 0) := n325.cell 0
        have z0 := n325.frozen 0
        have c1 : v351.cell? ⟨g325, 1, none⟩ = some (.int .i32 0) := n325.cell 1
        have z1 := n325.frozen 1
        have c2 : v351.cell? ⟨g325, 2, none⟩ = some (.int .i32 0) := n325.cell 2
        have z2 := n325.frozen 2
        go_simp
        try go_wp2_with fail
        replace hp0 := (((hp0.far (p := ⟨g325, 0, none⟩) (by dsimp only; omega) (.int .i32 b0)).far (p := ⟨g325, 1, none⟩) (by dsimp only; omega) (.int .i32 b1)).far (p := ⟨g325, 2, none⟩) (by dsimp only; omega) (.int .i32 b2))
        replace hp1 := (((hp1.far (p := ⟨g325, 0, none⟩) (by dsimp only; omega) (.int .i32 b0)).far (p := ⟨g325, 1, none⟩) (by dsimp only; omega) (.int .i32 b1)).far (p := ⟨g325, 2, none⟩) (by dsimp only; omega) (.int .i32 b2))
        replace hr := (((hr.far (p := ⟨g325, 0, none⟩) (by dsimp only; omega) (.int .i32 b0)).far (p := ⟨g325, 1, none⟩) (by dsimp only; omega) (.int .i32 b1)).far (p := ⟨g325, 2, none⟩) (by dsimp only; omega) (.int .i32 b2))
        replace n345 := (((n345.far (p := ⟨g325, 0, none⟩) (by dsimp only; omega) (.int .i32 b0)).far (p := ⟨g325, 1, none⟩) (by dsimp only; omega) (.int .i32 b1)).far (p := ⟨g325, 2, none⟩) (by dsimp only; omega) (.int .i32 b2))
        replace n325 := (((n325.set_ 0 (.int .i32 b0)).set_ 1 (.int .i32 b1)).set_ 2 (.int .i32 b2))
        replace hb := (((hb.setCell (p := ⟨g325, 0, none⟩) (by dsimp only; omega) (.int .i32 b0)).setCell (p := ⟨g325, 1, none⟩) (by dsimp only; omega) (.int .i32 b1)).setCell (p := ⟨g325, 2, none⟩) (by dsimp only; omega) (.int .i32 b2))
        clear c0 z0 c1 z1 c2 z2
        generalize (((v351.setCell ⟨g325, 0, none⟩ (.int .i32 b0)).setCell ⟨g325, 1, none⟩ (.int .i32 b1)).setCell ⟨g325, 2, none⟩ (.int .i32 b2)) = v353 at *
        refine hK.out _ _ ⟨hp0.cell 0, hp0.cell 1, hp0.cell 2, hp1.cell 0, hp1.cell 1, hp1.cell 2, hr.cell 0, hr.cell 1, hr.cell 2⟩ (fun hHeld => ?_)
        clear hK K
        try (simp only [Act.put, List.setIfInBounds_toArray, List.set_cons_zero, List.set_cons_succ])
        refine wpAnyH_done ?hru354 ?hqu354 _
        case hru354 => kernel_rfl
        refine NoPanic.normal ?_
        try go_wp2_with fail
        go_meet
        exact ⟨g345, g325, rfl, rfl, n345, n325, hr, hb⟩
  case rest =>
    clear hp0 hp1 hr hb
    obtain ⟨g, h, rfl, rfl, hA, hB, hr, hb⟩ := hcut
    have s0 := tv_bd a1 b2 ia1 ib2
    have t0 := tv_bd a2 b1 ia2 ib1
    have s1 := tv_bd a2 b0 ia2 ib0
    have t1 := tv_bd a0 b2 ia0 ib2
    have s2 := tv_bd a0 b1 ia0 ib1
    have t2 := tv_bd a1 b0 ia1 ib0
    have HE := fun w2 (hw : wc = w2) => v_each_Cross (.pointer (some ⟨g, 0, none⟩)) (.pointer (some ⟨h, 0, none⟩)) (tvP a1 b2 - tvP a2 b1) (tvP a2 b0 - tvP a0 b2) (tvP a0 b1 - tvP a1 b0) wc (by unfold I32 I64 at *; omega) (by unfold I32 I64 at *; omega) (by unfold I32 I64 at *; omega) (by
      intro i V hi w' hw
      rcases hi with ⟨rfl, rfl⟩ | ⟨rfl, rfl⟩ | ⟨rfl, rfl⟩
      · exact c_Cross0 g h a0 a1 a2 b0 b1 b2 w' ia0 ia1 ia2 ib0 ib1 ib2 (hA.below hw hA.lt) (hB.below hw hB.lt)
      · exact c_Cross1 g h a0 a1 a2 b0 b1 b2 w' ia0 ia1 ia2 ib0 ib1 ib2 (hA.below hw hA.lt) (hB.below hw hB.lt)
      · exact c_Cross2 g h a0 a1 a2 b0 b1 b2 w' ia0 ia1 ia2 ib0 ib1 ib2 (hA.below hw hA.lt) (hB.below hw hB.lt))
    replace HE := HE _ rfl
    generalize hy0 : clampP (tvP a1 b2 - tvP a2 b1) = y0 at HE
    generalize hy1 : clampP (tvP a2 b0 - tvP a0 b2) = y1 at HE
    generalize hy2 : clampP (tvP a0 b1 - tvP a1 b0) = y2 at HE
    generalize hN : cutC (tvP a1 b2 - tvP a2 b1) + cutC (tvP a2 b0 - tvP a0 b2) + cutC (tvP a0 b1 - tvP a1 b0) = N at HE
    have HY := hid (show _ ∧ _ ∧ _ ∧ _ from ⟨hy0, hy1, hy2, hN⟩)
    clear hy0 hy1 hy2 hN
    have HE2 := hid HE
    clear HE
    go_wp2_with fail
    refine (HE2.out).mono ?_
    rintro e w2 ⟨rfl, bb2⟩
    replace hr := hr.below bb2 hr.lt
    replace hb := hb.on bb2
    have d0 : w2.cell? ⟨w.heap.size + 1 + 1, 0, none⟩ = some (.int .i32 0) := hr.cell 0
    have z0 := hr.frozen 0
    have d1 : w2.cell? ⟨w.heap.size + 1 + 1, 1, none⟩ = some (.int .i32 0) := hr.cell 1
    have z1 := hr.frozen 1
    have d2 : w2.cell? ⟨w.heap.size + 1 + 1, 2, none⟩ = some (.int .i32 0) := hr.cell 2
    have z2 := hr.frozen 2
    have hf : Blk (((w2.setCell ⟨w.heap.size + 1 + 1, 0, none⟩ (.int .i32 y0)).setCell ⟨w.heap.size + 1 + 1, 1, none⟩ (.int .i32 y1)).setCell ⟨w.heap.size + 1 + 1, 2, none⟩ (.int .i32 y2)) (w.heap.size + 1 + 1) 40 #[.int .i32 y0, .int .i32 y1, .int .i32 y2] := (((hr.set_ 0 (.int .i32 y0)).set_ 1 (.int .i32 y1)).set_ 2 (.int .i32 y2))
    have hbf : Below w.heap.size w (((w2.setCell ⟨w.heap.size + 1 + 1, 0, none⟩ (.int .i32 y0)).setCell ⟨w.heap.size + 1 + 1, 1, none⟩ (.int .i32 y1)).setCell ⟨w.heap.size + 1 + 1, 2, none⟩ (.int .i32 y2)) := (((hb.setCell (p := ⟨w.heap.size + 1 + 1, 0, none⟩) (by dsimp only; omega) (.int .i32 y0)).setCell (p := ⟨w.heap.size + 1 + 1, 1, none⟩) (by dsimp only; omega) (.int .i32 y1)).setCell (p := ⟨w.heap.size + 1 + 1, 2, none⟩) (by dsimp only; omega) (.int .i32 y2))
    go_wp2
    generalize (((w2.setCell ⟨w.heap.size + 1 + 1, 0, none⟩ (.int .i32 y0)).setCell ⟨w.heap.size + 1 + 1, 1, none⟩ (.int .i32 y1)).setCell ⟨w.heap.size + 1 + 1, 2, none⟩ (.int .i32 y2)) = wf at *
    have f0 : wf.cell? ⟨w.heap.size + 1 + 1, 0, none⟩ = some (.int .i32 y0) := hf.cell 0
    have f1 : wf.cell? ⟨w.heap.size + 1 + 1, 1, none⟩ = some (.int .i32 y1) := hf.cell 1
    have f2 : wf.cell? ⟨w.heap.size + 1 + 1, 2, none⟩ = some (.int .i32 y2) := hf.cell 2
    simp [bodyPost, results, Try.results46, go_sem, f0, f1, f2]
    exact ⟨⟨⟨HY.out.1.symm, HY.out.2.1.symm, HY.out.2.2.1.symm⟩, HY.out.2.2.2.symm⟩, hbf⟩

set_option maxHeartbeats 16000000 in
theorem v_Scale (a0 a1 a2 k : Int) (w : World) (ia0 : I32 a0) (ia1 : I32 a1) (ia2 : I32 a2) (ik : I32 k) :
    Calls Try.prog 42 #[.agg #[.int .i32 a0, .int .i32 a1, .int .i32 a2], .int .i32 k] w fun e w' => e = .returned (.tuple #[.agg #[.int .i32 (clampP (tvP a0 k)), .int .i32 (clampP (tvP a1 k)), .int .i32 (clampP (tvP a2 k))], .int .i64 (cutC (tvP a0 k) + cutC (tvP a1 k) + cutC (tvP a2 k))]) ∧ Below w.heap.size w w' := by
  have HP := hid fun w => v_parts a0 a1 a2 w
  have hmf : ∀ (fn : Fn) (first cap : Array Value) (w : World), (Instr.makeFunc fn first cap).run Try.prog w = .ok (.func fn first cap) w := fun _ _ _ _ => rfl
  have hp0 : Blk (((w.alloc (.cells #[.int .i32 a0, .int .i32 a1, .int .i32 a2] 40)).alloc (.cells #[.int .i32 k] 21)).alloc (.cells #[.int .i32 0, .int .i32 0, .int .i32 0] 40)) w.heap.size 40 #[.int .i32 a0, .int .i32 a1, .int .i32 a2] := ((Blk.new w _ _).alloc _).alloc _
  have hk : Blk (((w.alloc (.cells #[.int .i32 a0, .int .i32 a1, .int .i32 a2] 40)).alloc (.cells #[.int .i32 k] 21)).alloc (.cells #[.int .i32 0, .int .i32 0, .int .i32 0] 40)) (w.heap.size + 1) 21 #[.int .i32 k] := by have := (Blk.new (w.alloc (.cells #[.int .i32 a0, .int .i32 a1, .int .i32 a2] 40)) 21 #[.int .i32 k]).alloc (.cells #[.int .i32 0, .int .i32 0, .int .i32 0] 40); simpa using this
  have hr : Blk (((w.alloc (.cells #[.int .i32 a0, .int .i32 a1, .int .i32 a2] 40)).alloc (.cells #[.int .i32 k] 21)).alloc (.cells #[.int .i32 0, .int .i32 0, .int .i32 0] 40)) (w.heap.size + 1 + 1) 40 #[.int .i32 0, .int .i32 0, .int .i32 0] := by have := Blk.new ((w.alloc (.cells #[.int .i32 a0, .int .i32 a1, .int .i32 a2] 40)).alloc (.cells #[.int .i32 k] 21)) 40 #[.int .i32 0, .int .i32 0, .int .i32 0]; simpa using this
  have hb : Below w.heap.size w (((w.alloc (.cells #[.int .i32 a0, .int .i32 a1, .int .i32 a2] 40)).alloc (.cells #[.int .i32 k] 21)).alloc (.cells #[.int .i32 0, .int .i32 0, .int .i32 0] 40)) := (((Below.refl _ w).alloc (Nat.le_refl _) _).alloc (by simp) _).alloc (by simp; omega) _
  have f0 : (((w.alloc (.cells #[.int .i32 a0, .int .i32 a1, .int .i32 a2] 40)).alloc (.cells #[.int .i32 k] 21)).alloc (.cells #[.int .i32 0, .int .i32 0, .int .i32 0] 40)).cell? ⟨w.heap.size, 0, none⟩ = some (.int .i32 a0) := hp0.cell 0
  have f1 : (((w.alloc (.cells #[.int .i32 a0, .int .i32 a1, .int .i32 a2] 40)).alloc (.cells #[.int .i32 k] 21)).alloc (.cells #[.int .i32 0, .int .i32 0, .int .i32 0] 40)).cell? ⟨w.heap.size, 1, none⟩ = some (.int .i32 a1) := hp0.cell 1
  have f2 : (((w.alloc (.cells #[.int .i32 a0, .int .i32 a1, .int .i32 a2] 40)).alloc (.cells #[.int .i32 k] 21)).alloc (.cells #[.int .i32 0, .int .i32 0, .int .i32 0] 40)).cell? ⟨w.heap.size, 2, none⟩ = some (.int .i32 a2) := hp0.cell 2
  go_enter Try.func42, Try.ntmps42
  go_wp2_with fail
  clear f0 f1 f2
  generalize ((w.alloc (.cells #[.int .i32 a0, .int .i32 a1, .int .i32 a2] 40)).alloc (.cells #[.int .i32 k] 21)).alloc (.cells #[.int .i32 0, .int .i32 0, .int .i32 0] 40) = W0 at *
  refine (HP.out _).mono ?_
  rintro e w1 ⟨rfl, b1⟩
  replace hk := hk.below b1 hk.lt
  replace hr := hr.below b1 hr.lt
  replace hb := hb.on b1
  have hA := Blk.new w1 71 #[.int .i32 a0, .int .i32 a1, .int .i32 a2]
  replace hk := hk.alloc (.cells #[.int .i32 a0, .int .i32 a1, .int .i32 a2] 71)
  replace hr := hr.alloc (.cells #[.int .i32 a0, .int .i32 a1, .int .i32 a2] 71)
  replace hb := hb.alloc hb.size (.cells #[.int .i32 a0, .int .i32 a1, .int .i32 a2] 71)
  generalize hwc : w1.alloc (.cells #[.int .i32 a0, .int .i32 a1, .int .i32 a2] 71) = wc at *
  generalize hg : w1.heap.size = g at *
  have HE := v_each_Scale (.pointer (some ⟨g, 0, none⟩)) (.pointer (some ⟨w.heap.size + 1, 0, none⟩)) (tvP a0 k) (tvP a1 k) (tvP a2 k) wc (by have := tv_bd a0 k ia0 ik; unfold I64; omega) (by have := tv_bd a1 k ia1 ik; unfold I64; omega) (by have := tv_bd a2 k ia2 ik; unfold I64; omega) (by
    intro i V hi w' hw
    rcases hi with ⟨rfl, rfl⟩ | ⟨rfl, rfl⟩ | ⟨rfl, rfl⟩
    · exact c_Scale0 g (w.heap.size + 1) a0 a1 a2 k w' ia0 ia1 ia2 ik (hA.below hw hA.lt) (hk.below hw hk.lt)
    · exact c_Scale1 g (w.heap.size + 1) a0 a1 a2 k w' ia0 ia1 ia2 ik (hA.below hw hA.lt) (hk.below hw hk.lt)
    · exact c_Scale2 g (w.heap.size + 1) a0 a1 a2 k w' ia0 ia1 ia2 ik (hA.below hw hA.lt) (hk.below hw hk.lt))
  generalize hy0 : clampP (tvP a0 k) = y0 at HE
  generalize hy1 : clampP (tvP a1 k) = y1 at HE
  generalize hy2 : clampP (tvP a2 k) = y2 at HE
  generalize hN : cutC (tvP a0 k) + cutC (tvP a1 k) + cutC (tvP a2 k) = N at HE
  have HY := hid (show _ ∧ _ ∧ _ ∧ _ from ⟨hy0, hy1, hy2, hN⟩)
  clear hy0 hy1 hy2 hN
  have HE2 := hid HE
  clear HE
  go_wp2_with fail
  refine (HE2.out).mono ?_
  rintro e w2 ⟨rfl, bb2⟩
  replace hr := hr.below bb2 hr.lt
  replace hb := hb.on bb2
  have d0 : w2.cell? ⟨w.heap.size + 1 + 1, 0, none⟩ = some (.int .i32 0) := hr.cell 0
  have z0 := hr.frozen 0
  have d1 : w2.cell? ⟨w.heap.size + 1 + 1, 1, none⟩ = some (.int .i32 0) := hr.cell 1
  have z1 := hr.frozen 1
  have d2 : w2.cell? ⟨w.heap.size + 1 + 1, 2, none⟩ = some (.int .i32 0) := hr.cell 2
  have z2 := hr.frozen 2
  have hf : Blk (((w2.setCell ⟨w.heap.size + 1 + 1, 0, none⟩ (.int .i32 y0)).setCell ⟨w.heap.size + 1 + 1, 1, none⟩ (.int .i32 y1)).setCell ⟨w.heap.size + 1 + 1, 2, none⟩ (.int .i32 y2)) (w.heap.size + 1 + 1) 40 #[.int .i32 y0, .int .i32 y1, .int .i32 y2] := (((hr.set_ 0 (.int .i32 y0)).set_ 1 (.int .i32 y1)).set_ 2 (.int .i32 y2))
  have hbf : Below w.heap.size w (((w2.setCell ⟨w.heap.size + 1 + 1, 0, none⟩ (.int .i32 y0)).setCell ⟨w.heap.size + 1 + 1, 1, none⟩ (.int .i32 y1)).setCell ⟨w.heap.size + 1 + 1, 2, none⟩ (.int .i32 y2)) := (((hb.setCell (p := ⟨w.heap.size + 1 + 1, 0, none⟩) (by dsimp only; omega) (.int .i32 y0)).setCell (p := ⟨w.heap.size + 1 + 1, 1, none⟩) (by dsimp only; omega) (.int .i32 y1)).setCell (p := ⟨w.heap.size + 1 + 1, 2, none⟩) (by dsimp only; omega) (.int .i32 y2))
  go_wp2
  generalize (((w2.setCell ⟨w.heap.size + 1 + 1, 0, none⟩ (.int .i32 y0)).setCell ⟨w.heap.size + 1 + 1, 1, none⟩ (.int .i32 y1)).setCell ⟨w.heap.size + 1 + 1, 2, none⟩ (.int .i32 y2)) = wf at *
  have f0 : wf.cell? ⟨w.heap.size + 1 + 1, 0, none⟩ = some (.int .i32 y0) := hf.cell 0
  have f1 : wf.cell? ⟨w.heap.size + 1 + 1, 1, none⟩ = some (.int .i32 y1) := hf.cell 1
  have f2 : wf.cell? ⟨w.heap.size + 1 + 1, 2, none⟩ = some (.int .i32 y2) := hf.cell 2
  simp [bodyPost, results, Try.results42, go_sem, f0, f1, f2]
  exact ⟨⟨⟨HY.out.1.symm, HY.out.2.1.symm, HY.out.2.2.1.symm⟩, HY.out.2.2.2.symm⟩, hbf⟩
end Go.Proofs.Ytlcikfnhgldonaa
