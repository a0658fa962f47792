/- Chapter 42: the walk of FuseRest. -/
import Derived.Test.YtgmepohfkpncmaaFuseH
namespace Go.Proofs.Ytgmepohfkpncmaa
open Go.RowKit
set_option linter.unusedVariables false
set_option linter.unusedSimpArgs false

set_option maxRecDepth 20000 in
set_option maxHeartbeats 16000000 in
theorem fuseRest_walk (b0 b1 b2 u x0 x1 x2 d : Int) (w : World) (vb0 : (Lit.int .i32 b0).wf = true) (vb1 : (Lit.int .i32 b1).wf = true) (vb2 : (Lit.int .i32 b2).wf = true) (vu : (Lit.int .i32 u).wf = true) (vx0 : (Lit.int .i32 x0).wf = true) (vx1 : (Lit.int .i32 x1).wf = true) (vx2 : (Lit.int .i32 x2).wf = true) (vd : (Lit.int .i32 d).wf = true) :
    Calls Try.prog 4 #[.agg #[.int .i32 b0, .int .i32 b1, .int .i32 b2], .int .i32 u, .agg #[.int .i32 x0, .int .i32 x1, .int .i32 x2], .int .i32 d] w fun e w' => e = .returned (.bool true) ∧ Below w.heap.size w w' := by
  have ib0 : I32 b0 := bounds_i32 vb0
  have ib1 : I32 b1 := bounds_i32 vb1
  have ib2 : I32 b2 := bounds_i32 vb2
  have iu : I32 u := bounds_i32 vu
  have ix0 : I32 x0 := bounds_i32 vx0
  have ix1 : I32 x1 := bounds_i32 vx1
  have ix2 : I32 x2 := bounds_i32 vx2
  have id_ : I32 d := bounds_i32 vd
  clear vb0 vb1 vb2 vu vx0 vx1 vx2 vd
  have HK := hid law42_knows
  have hp0 : Blk ((w.alloc (.cells #[.int .i32 b0, .int .i32 b1, .int .i32 b2] 25)).alloc (.cells #[.int .i32 x0, .int .i32 x1, .int .i32 x2] 25)) w.heap.size 25 #[.int .i32 b0, .int .i32 b1, .int .i32 b2] := (Blk.new w _ _).alloc _
  have hp1 : Blk ((w.alloc (.cells #[.int .i32 b0, .int .i32 b1, .int .i32 b2] 25)).alloc (.cells #[.int .i32 x0, .int .i32 x1, .int .i32 x2] 25)) (w.heap.size + 1) 25 #[.int .i32 x0, .int .i32 x1, .int .i32 x2] := by have := Blk.new (w.alloc (.cells #[.int .i32 b0, .int .i32 b1, .int .i32 b2] 25)) 25 #[.int .i32 x0, .int .i32 x1, .int .i32 x2]; simpa using this
  have hb : Below w.heap.size w ((w.alloc (.cells #[.int .i32 b0, .int .i32 b1, .int .i32 b2] 25)).alloc (.cells #[.int .i32 x0, .int .i32 x1, .int .i32 x2] 25)) := ((Below.refl _ w).alloc (Nat.le_refl _) _).alloc (by simp) _
  by_cases n0 : 16384 < b0
  · have e0 : decide (16384 < b0) = true := decide_eq_true n0
    clear n0
    clear ib0 ib1 ib2 iu ix0 ix1 ix2 id_
    have f0 : ((w.alloc (.cells #[.int .i32 b0, .int .i32 b1, .int .i32 b2] 25)).alloc (.cells #[.int .i32 x0, .int .i32 x1, .int .i32 x2] 25)).cell? ⟨w.heap.size, 0, none⟩ = some (.int .i32 b0) := hp0.cell 0
    have f1 : ((w.alloc (.cells #[.int .i32 b0, .int .i32 b1, .int .i32 b2] 25)).alloc (.cells #[.int .i32 x0, .int .i32 x1, .int .i32 x2] 25)).cell? ⟨w.heap.size, 1, none⟩ = some (.int .i32 b1) := hp0.cell 1
    have f2 : ((w.alloc (.cells #[.int .i32 b0, .int .i32 b1, .int .i32 b2] 25)).alloc (.cells #[.int .i32 x0, .int .i32 x1, .int .i32 x2] 25)).cell? ⟨w.heap.size, 2, none⟩ = some (.int .i32 b2) := hp0.cell 2
    go_enter Try.func4, Try.ntmps4
    go_wp2_with fail
    generalize ((w.alloc (.cells #[.int .i32 b0, .int .i32 b1, .int .i32 b2] 25)).alloc (.cells #[.int .i32 x0, .int .i32 x1, .int .i32 x2] 25)) = W0 at *
    refine (HK.out _).mono ?_
    rintro e w1 ⟨rfl, b1⟩
    go_wp2
    go_ret
    exact ⟨rfl, f_on hb b1⟩
  · have e0 : decide (16384 < b0) = false := decide_eq_false n0
    by_cases n1 : b0 < -16384
    · have e1 : decide (b0 < -16384) = true := decide_eq_true n1
      clear n0 n1
      clear ib0 ib1 ib2 iu ix0 ix1 ix2 id_
      have f0 : ((w.alloc (.cells #[.int .i32 b0, .int .i32 b1, .int .i32 b2] 25)).alloc (.cells #[.int .i32 x0, .int .i32 x1, .int .i32 x2] 25)).cell? ⟨w.heap.size, 0, none⟩ = some (.int .i32 b0) := hp0.cell 0
      have f1 : ((w.alloc (.cells #[.int .i32 b0, .int .i32 b1, .int .i32 b2] 25)).alloc (.cells #[.int .i32 x0, .int .i32 x1, .int .i32 x2] 25)).cell? ⟨w.heap.size, 1, none⟩ = some (.int .i32 b1) := hp0.cell 1
      have f2 : ((w.alloc (.cells #[.int .i32 b0, .int .i32 b1, .int .i32 b2] 25)).alloc (.cells #[.int .i32 x0, .int .i32 x1, .int .i32 x2] 25)).cell? ⟨w.heap.size, 2, none⟩ = some (.int .i32 b2) := hp0.cell 2
      go_enter Try.func4, Try.ntmps4
      go_wp2_with fail
      generalize ((w.alloc (.cells #[.int .i32 b0, .int .i32 b1, .int .i32 b2] 25)).alloc (.cells #[.int .i32 x0, .int .i32 x1, .int .i32 x2] 25)) = W0 at *
      refine (HK.out _).mono ?_
      rintro e w1 ⟨rfl, b1⟩
      go_wp2
      go_ret
      exact ⟨rfl, f_on hb b1⟩
    · have e1 : decide (b0 < -16384) = false := decide_eq_false n1
      by_cases n2 : 16384 < b1
      · have e2 : decide (16384 < b1) = true := decide_eq_true n2
        clear n0 n1 n2
        clear ib0 ib1 ib2 iu ix0 ix1 ix2 id_
        have f0 : ((w.alloc (.cells #[.int .i32 b0, .int .i32 b1, .int .i32 b2] 25)).alloc (.cells #[.int .i32 x0, .int .i32 x1, .int .i32 x2] 25)).cell? ⟨w.heap.size, 0, none⟩ = some (.int .i32 b0) := hp0.cell 0
        have f1 : ((w.alloc (.cells #[.int .i32 b0, .int .i32 b1, .int .i32 b2] 25)).alloc (.cells #[.int .i32 x0, .int .i32 x1, .int .i32 x2] 25)).cell? ⟨w.heap.size, 1, none⟩ = some (.int .i32 b1) := hp0.cell 1
        have f2 : ((w.alloc (.cells #[.int .i32 b0, .int .i32 b1, .int .i32 b2] 25)).alloc (.cells #[.int .i32 x0, .int .i32 x1, .int .i32 x2] 25)).cell? ⟨w.heap.size, 2, none⟩ = some (.int .i32 b2) := hp0.cell 2
        go_enter Try.func4, Try.ntmps4
        go_wp2_with fail
        generalize ((w.alloc (.cells #[.int .i32 b0, .int .i32 b1, .int .i32 b2] 25)).alloc (.cells #[.int .i32 x0, .int .i32 x1, .int .i32 x2] 25)) = W0 at *
        refine (HK.out _).mono ?_
        rintro e w1 ⟨rfl, b1⟩
        go_wp2
        go_ret
        exact ⟨rfl, f_on hb b1⟩
      · have e2 : decide (16384 < b1) = false := decide_eq_false n2
        by_cases n3 : b1 < -16384
        · have e3 : decide (b1 < -16384) = true := decide_eq_true n3
          clear n0 n1 n2 n3
          clear ib0 ib1 ib2 iu ix0 ix1 ix2 id_
          have f0 : ((w.alloc (.cells #[.int .i32 b0, .int .i32 b1, .int .i32 b2] 25)).alloc (.cells #[.int .i32 x0, .int .i32 x1, .int .i32 x2] 25)).cell? ⟨w.heap.size, 0, none⟩ = some (.int .i32 b0) := hp0.cell 0
          have f1 : ((w.alloc (.cells #[.int .i32 b0, .int .i32 b1, .int .i32 b2] 25)).alloc (.cells #[.int .i32 x0, .int .i32 x1, .int .i32 x2] 25)).cell? ⟨w.heap.size, 1, none⟩ = some (.int .i32 b1) := hp0.cell 1
          have f2 : ((w.alloc (.cells #[.int .i32 b0, .int .i32 b1, .int .i32 b2] 25)).alloc (.cells #[.int .i32 x0, .int .i32 x1, .int .i32 x2] 25)).cell? ⟨w.heap.size, 2, none⟩ = some (.int .i32 b2) := hp0.cell 2
          go_enter Try.func4, Try.ntmps4
          go_wp2_with fail
          generalize ((w.alloc (.cells #[.int .i32 b0, .int .i32 b1, .int .i32 b2] 25)).alloc (.cells #[.int .i32 x0, .int .i32 x1, .int .i32 x2] 25)) = W0 at *
          refine (HK.out _).mono ?_
          rintro e w1 ⟨rfl, b1⟩
          go_wp2
          go_ret
          exact ⟨rfl, f_on hb b1⟩
        · have e3 : decide (b1 < -16384) = false := decide_eq_false n3
          by_cases n4 : 16384 < b2
          · have e4 : decide (16384 < b2) = true := decide_eq_true n4
            clear n0 n1 n2 n3 n4
            clear ib0 ib1 ib2 iu ix0 ix1 ix2 id_
            have f0 : ((w.alloc (.cells #[.int .i32 b0, .int .i32 b1, .int .i32 b2] 25)).alloc (.cells #[.int .i32 x0, .int .i32 x1, .int .i32 x2] 25)).cell? ⟨w.heap.size, 0, none⟩ = some (.int .i32 b0) := hp0.cell 0
            have f1 : ((w.alloc (.cells #[.int .i32 b0, .int .i32 b1, .int .i32 b2] 25)).alloc (.cells #[.int .i32 x0, .int .i32 x1, .int .i32 x2] 25)).cell? ⟨w.heap.size, 1, none⟩ = some (.int .i32 b1) := hp0.cell 1
            have f2 : ((w.alloc (.cells #[.int .i32 b0, .int .i32 b1, .int .i32 b2] 25)).alloc (.cells #[.int .i32 x0, .int .i32 x1, .int .i32 x2] 25)).cell? ⟨w.heap.size, 2, none⟩ = some (.int .i32 b2) := hp0.cell 2
            go_enter Try.func4, Try.ntmps4
            go_wp2_with fail
            generalize ((w.alloc (.cells #[.int .i32 b0, .int .i32 b1, .int .i32 b2] 25)).alloc (.cells #[.int .i32 x0, .int .i32 x1, .int .i32 x2] 25)) = W0 at *
            refine (HK.out _).mono ?_
            rintro e w1 ⟨rfl, b1⟩
            go_wp2
            go_ret
            exact ⟨rfl, f_on hb b1⟩
          · have e4 : decide (16384 < b2) = false := decide_eq_false n4
            by_cases n5 : b2 < -16384
            · have e5 : decide (b2 < -16384) = true := decide_eq_true n5
              clear n0 n1 n2 n3 n4 n5
              clear ib0 ib1 ib2 iu ix0 ix1 ix2 id_
              have f0 : ((w.alloc (.cells #[.int .i32 b0, .int .i32 b1, .int .i32 b2] 25)).alloc (.cells #[.int .i32 x0, .int .i32 x1, .int .i32 x2] 25)).cell? ⟨w.heap.size, 0, none⟩ = some (.int .i32 b0) := hp0.cell 0
              have f1 : ((w.alloc (.cells #[.int .i32 b0, .int .i32 b1, .int .i32 b2] 25)).alloc (.cells #[.int .i32 x0, .int .i32 x1, .int .i32 x2] 25)).cell? ⟨w.heap.size, 1, none⟩ = some (.int .i32 b1) := hp0.cell 1
              have f2 : ((w.alloc (.cells #[.int .i32 b0, .int .i32 b1, .int .i32 b2] 25)).alloc (.cells #[.int .i32 x0, .int .i32 x1, .int .i32 x2] 25)).cell? ⟨w.heap.size, 2, none⟩ = some (.int .i32 b2) := hp0.cell 2
              go_enter Try.func4, Try.ntmps4
              go_wp2_with fail
              generalize ((w.alloc (.cells #[.int .i32 b0, .int .i32 b1, .int .i32 b2] 25)).alloc (.cells #[.int .i32 x0, .int .i32 x1, .int .i32 x2] 25)) = W0 at *
              refine (HK.out _).mono ?_
              rintro e w1 ⟨rfl, b1⟩
              go_wp2
              go_ret
              exact ⟨rfl, f_on hb b1⟩
            · have e5 : decide (b2 < -16384) = false := decide_eq_false n5
              have h0 : -16384 ≤ b0 ∧ b0 ≤ 16384 := by omega
              have h1 : -16384 ≤ b1 ∧ b1 ≤ 16384 := by omega
              have h2 : -16384 ≤ b2 ∧ b2 ≤ 16384 := by omega
              have HL := hid fun w => r9_Length x0 x1 x2 w ix0 ix1 ix2
              have HU := hid fun w => f_rest b0 b1 b2 0 0 u d w h0 h1 h2 (by unfold I32; omega) (by unfold I32; omega) iu id_ (fun _ => up_law u)
              have HS := fun h => hid fun w => f_rest b0 b1 b2 x0 x1 x2 d w h0 h1 h2 ix0 ix1 ix2 id_ h
              have HE : Hid (erOk x0 x1 x2 = (decide (32768 ≤ rootP (sqP [x0, x1, x2])) && decide (rootP (sqP [x0, x1, x2]) ≤ 98304))) := rfl
              generalize rootP (sqP [x0, x1, x2]) = L at *
              clear n0 n1 n2 n3 n4 n5 h0 h1 h2 ib0 ib1 ib2 iu ix0 ix1 ix2 id_
              have f0 : ((w.alloc (.cells #[.int .i32 b0, .int .i32 b1, .int .i32 b2] 25)).alloc (.cells #[.int .i32 x0, .int .i32 x1, .int .i32 x2] 25)).cell? ⟨w.heap.size, 0, none⟩ = some (.int .i32 b0) := hp0.cell 0
              have f1 : ((w.alloc (.cells #[.int .i32 b0, .int .i32 b1, .int .i32 b2] 25)).alloc (.cells #[.int .i32 x0, .int .i32 x1, .int .i32 x2] 25)).cell? ⟨w.heap.size, 1, none⟩ = some (.int .i32 b1) := hp0.cell 1
              have f2 : ((w.alloc (.cells #[.int .i32 b0, .int .i32 b1, .int .i32 b2] 25)).alloc (.cells #[.int .i32 x0, .int .i32 x1, .int .i32 x2] 25)).cell? ⟨w.heap.size, 2, none⟩ = some (.int .i32 b2) := hp0.cell 2
              go_enter Try.func4, Try.ntmps4
              go_wp2_with fail
              clear f0 f1 f2 e0 e1 e2 e3 e4 e5
              generalize ((w.alloc (.cells #[.int .i32 b0, .int .i32 b1, .int .i32 b2] 25)).alloc (.cells #[.int .i32 x0, .int .i32 x1, .int .i32 x2] 25)) = W0 at *
              refine (HK.out _).mono ?_
              rintro e w1 ⟨rfl, bb⟩
              replace hp0 := hp0.below bb hp0.lt
              replace hp1 := hp1.below bb hp1.lt
              replace hb := f_on hb bb
              clear bb HK
              go_upto_region 3 with fail
              have l0 := hp0.lt
              have l1 := hp1.lt
              go_cut [9] from 45 to 47 (fun p wx => ∃ a : Nat, p = .pointer (some ⟨a, 0, none⟩) ∧ Blk wx a 32 #[.int .i32 1073741824, .int .i32 0, .int .i32 0, .int .i32 0, .int .i32 b0, .int .i32 b1, .int .i32 b2, .int .i64 0, .int .i64 0] ∧ Blk wx w.heap.size 25 #[.int .i32 b0, .int .i32 b1, .int .i32 b2] ∧ Blk wx (w.heap.size + 1) 25 #[.int .i32 x0, .int .i32 x1, .int .i32 x2] ∧ Below w.heap.size w wx)
              case first =>
                refine wp_region_noPanic ?_
                refine wp_region_held_drew (S := (fun w' : World => w'.cell? ⟨w.heap.size, 0, none⟩ = some (.int .i32 b0) ∧ w'.cell? ⟨w.heap.size, 1, none⟩ = some (.int .i32 b1) ∧ w'.cell? ⟨w.heap.size, 2, none⟩ = some (.int .i32 b2))) (by kernel_rfl) ⟨hp0.cell 0, hp0.cell 1, hp0.cell 2⟩ (fun hHeld => ?_)
                refine (show wpAnyH _ _ _ _ _ 5 _ _ _ from ?_)
                try (simp only [Act.put, List.setIfInBounds_toArray, List.set_cons_zero, List.set_cons_succ])
                replace hp0 := hp0.drew
                replace hp1 := hp1.drew
                replace hb := hb.drew
                generalize (w1).drew = V1 at *
                refine tk 1 hHeld ?_
                refine rd2 0 3 (fun K hK => ?hc2q0) (fun K hK => ?hc2q3)
                case hc2q0 =>
                  go_simp
                  refine (f10_One _).mono ?_
                  rintro e V3 ⟨rfl, bb⟩
                  go_wp2_with fail
                  replace hp0 := hp0.below bb hp0.lt
                  replace hp1 := hp1.below bb hp1.lt
                  replace hb := f_on hb bb
                  clear bb
                  refine hK.out _ _ ⟨hp0.cell 0, hp0.cell 1, hp0.cell 2⟩ (fun hHeld => ?_)
                  clear hK K
                  try (simp only [Act.put, List.setIfInBounds_toArray, List.set_cons_zero, List.set_cons_succ])
                  refine tk 2 hHeld ?_
                  refine rd1 3 (fun K hK => ?_)
                  go_simp
                  try go_wp2_with fail
                  have l5hp0 := hp0.lt
                  have l5hp1 := hp1.lt
                  replace hp0 := hp0.alloc (.cells #[.int .i32 0, .int .i32 0, .int .i32 0, .int .i32 0, .int .i32 0, .int .i32 0, .int .i32 0, .int .i64 0, .int .i64 0] 32)
                  replace hp1 := hp1.alloc (.cells #[.int .i32 0, .int .i32 0, .int .i32 0, .int .i32 0, .int .i32 0, .int .i32 0, .int .i32 0, .int .i64 0, .int .i64 0] 32)
                  have hz5 := Blk.new V3 32 #[.int .i32 0, .int .i32 0, .int .i32 0, .int .i32 0, .int .i32 0, .int .i32 0, .int .i32 0, .int .i64 0, .int .i64 0]
                  have lz5 := hb.size
                  replace hb := hb.alloc hb.size (.cells #[.int .i32 0, .int .i32 0, .int .i32 0, .int .i32 0, .int .i32 0, .int .i32 0, .int .i32 0, .int .i64 0, .int .i64 0] 32)
                  generalize V3.alloc (.cells #[.int .i32 0, .int .i32 0, .int .i32 0, .int .i32 0, .int .i32 0, .int .i32 0, .int .i32 0, .int .i64 0, .int .i64 0] 32) = V5 at *
                  generalize V3.heap.size = az5 at *
                  refine hK.out _ _ ⟨hp0.cell 0, hp0.cell 1, hp0.cell 2⟩ (fun hHeld => ?_)
                  clear hK K
                  try (simp only [Act.put, List.setIfInBounds_toArray, List.set_cons_zero, List.set_cons_succ])
                  refine rd1 4 (fun K hK => ?_)
                  have cc0 : V5.cell? ⟨az5, 0, none⟩ = some (.int .i32 0) := hz5.cell 0
                  have zz0 := hz5.frozen 0
                  have cc1 : V5.cell? ⟨az5, 1, none⟩ = some (.int .i32 0) := hz5.cell 1
                  have zz1 := hz5.frozen 1
                  have cc2 : V5.cell? ⟨az5, 2, none⟩ = some (.int .i32 0) := hz5.cell 2
                  have zz2 := hz5.frozen 2
                  have cc3 : V5.cell? ⟨az5, 3, none⟩ = some (.int .i32 0) := hz5.cell 3
                  have zz3 := hz5.frozen 3
                  have cc4 : V5.cell? ⟨az5, 4, none⟩ = some (.int .i32 0) := hz5.cell 4
                  have zz4 := hz5.frozen 4
                  have cc5 : V5.cell? ⟨az5, 5, none⟩ = some (.int .i32 0) := hz5.cell 5
                  have zz5 := hz5.frozen 5
                  have cc6 : V5.cell? ⟨az5, 6, none⟩ = some (.int .i32 0) := hz5.cell 6
                  have zz6 := hz5.frozen 6
                  have cc7 : V5.cell? ⟨az5, 7, none⟩ = some (.int .i64 0) := hz5.cell 7
                  have zz7 := hz5.frozen 7
                  have cc8 : V5.cell? ⟨az5, 8, none⟩ = some (.int .i64 0) := hz5.cell 8
                  have zz8 := hz5.frozen 8
                  go_simp
                  try go_wp2_with fail
                  replace hp0 := (((((((((hp0.far (p := ⟨az5, 0, none⟩) (by dsimp only; omega) (.int .i32 1073741824)).far (p := ⟨az5, 1, none⟩) (by dsimp only; omega) (.int .i32 0)).far (p := ⟨az5, 2, none⟩) (by dsimp only; omega) (.int .i32 0)).far (p := ⟨az5, 3, none⟩) (by dsimp only; omega) (.int .i32 0)).far (p := ⟨az5, 4, none⟩) (by dsimp only; omega) (.int .i32 b0)).far (p := ⟨az5, 5, none⟩) (by dsimp only; omega) (.int .i32 b1)).far (p := ⟨az5, 6, none⟩) (by dsimp only; omega) (.int .i32 b2)).far (p := ⟨az5, 7, none⟩) (by dsimp only; omega) (.int .i64 0)).far (p := ⟨az5, 8, none⟩) (by dsimp only; omega) (.int .i64 0))
                  replace hp1 := (((((((((hp1.far (p := ⟨az5, 0, none⟩) (by dsimp only; omega) (.int .i32 1073741824)).far (p := ⟨az5, 1, none⟩) (by dsimp only; omega) (.int .i32 0)).far (p := ⟨az5, 2, none⟩) (by dsimp only; omega) (.int .i32 0)).far (p := ⟨az5, 3, none⟩) (by dsimp only; omega) (.int .i32 0)).far (p := ⟨az5, 4, none⟩) (by dsimp only; omega) (.int .i32 b0)).far (p := ⟨az5, 5, none⟩) (by dsimp only; omega) (.int .i32 b1)).far (p := ⟨az5, 6, none⟩) (by dsimp only; omega) (.int .i32 b2)).far (p := ⟨az5, 7, none⟩) (by dsimp only; omega) (.int .i64 0)).far (p := ⟨az5, 8, none⟩) (by dsimp only; omega) (.int .i64 0))
                  clear cc0 zz0 cc1 zz1 cc2 zz2 cc3 zz3 cc4 zz4 cc5 zz5 cc6 zz6 cc7 zz7 cc8 zz8
                  replace hz5 := (((((((((hz5.set_ 0 (.int .i32 1073741824)).set_ 1 (.int .i32 0)).set_ 2 (.int .i32 0)).set_ 3 (.int .i32 0)).set_ 4 (.int .i32 b0)).set_ 5 (.int .i32 b1)).set_ 6 (.int .i32 b2)).set_ 7 (.int .i64 0)).set_ 8 (.int .i64 0))
                  replace hb := (((((((((hb.setCell (p := ⟨az5, 0, none⟩) (by dsimp only; omega) (.int .i32 1073741824)).setCell (p := ⟨az5, 1, none⟩) (by dsimp only; omega) (.int .i32 0)).setCell (p := ⟨az5, 2, none⟩) (by dsimp only; omega) (.int .i32 0)).setCell (p := ⟨az5, 3, none⟩) (by dsimp only; omega) (.int .i32 0)).setCell (p := ⟨az5, 4, none⟩) (by dsimp only; omega) (.int .i32 b0)).setCell (p := ⟨az5, 5, none⟩) (by dsimp only; omega) (.int .i32 b1)).setCell (p := ⟨az5, 6, none⟩) (by dsimp only; omega) (.int .i32 b2)).setCell (p := ⟨az5, 7, none⟩) (by dsimp only; omega) (.int .i64 0)).setCell (p := ⟨az5, 8, none⟩) (by dsimp only; omega) (.int .i64 0))
                  generalize (((((((((V5.setCell ⟨az5, 0, none⟩ (.int .i32 1073741824)).setCell ⟨az5, 1, none⟩ (.int .i32 0)).setCell ⟨az5, 2, none⟩ (.int .i32 0)).setCell ⟨az5, 3, none⟩ (.int .i32 0)).setCell ⟨az5, 4, none⟩ (.int .i32 b0)).setCell ⟨az5, 5, none⟩ (.int .i32 b1)).setCell ⟨az5, 6, none⟩ (.int .i32 b2)).setCell ⟨az5, 7, none⟩ (.int .i64 0)).setCell ⟨az5, 8, none⟩ (.int .i64 0)) = V7 at *
                  refine hK.out _ _ ⟨hp0.cell 0, hp0.cell 1, hp0.cell 2⟩ (fun hHeld => ?_)
                  clear hK K
                  try (simp only [Act.put, List.setIfInBounds_toArray, List.set_cons_zero, List.set_cons_succ])
                  refine wpAnyH_done (by kernel_rfl) ?_ _
                  refine NoPanic.normal ?_
                  try go_wp2_with fail
                  go_meet
                  exact ⟨az5, rfl, hz5, hp0, hp1, hb⟩
                case hc2q3 =>
                  go_simp
                  try go_wp2_with fail
                  have l8hp0 := hp0.lt
                  have l8hp1 := hp1.lt
                  replace hp0 := hp0.alloc (.cells #[.int .i32 0, .int .i32 0, .int .i32 0, .int .i32 0, .int .i32 0, .int .i32 0, .int .i32 0, .int .i64 0, .int .i64 0] 32)
                  replace hp1 := hp1.alloc (.cells #[.int .i32 0, .int .i32 0, .int .i32 0, .int .i32 0, .int .i32 0, .int .i32 0, .int .i32 0, .int .i64 0, .int .i64 0] 32)
                  have hz8 := Blk.new V1 32 #[.int .i32 0, .int .i32 0, .int .i32 0, .int .i32 0, .int .i32 0, .int .i32 0, .int .i32 0, .int .i64 0, .int .i64 0]
                  have lz8 := hb.size
                  replace hb := hb.alloc hb.size (.cells #[.int .i32 0, .int .i32 0, .int .i32 0, .int .i32 0, .int .i32 0, .int .i32 0, .int .i32 0, .int .i64 0, .int .i64 0] 32)
                  generalize V1.alloc (.cells #[.int .i32 0, .int .i32 0, .int .i32 0, .int .i32 0, .int .i32 0, .int .i32 0, .int .i32 0, .int .i64 0, .int .i64 0] 32) = V8 at *
                  generalize V1.heap.size = az8 at *
                  refine hK.out _ _ ⟨hp0.cell 0, hp0.cell 1, hp0.cell 2⟩ (fun hHeld => ?_)
                  clear hK K
                  try (simp only [Act.put, List.setIfInBounds_toArray, List.set_cons_zero, List.set_cons_succ])
                  refine rd1 0 (fun K hK => ?_)
                  go_simp
                  refine (f10_One _).mono ?_
                  rintro e V10 ⟨rfl, bb⟩
                  go_wp2_with fail
                  replace hp0 := hp0.below bb hp0.lt
                  replace hp1 := hp1.below bb hp1.lt
                  replace hz8 := hz8.below bb hz8.lt
                  replace hb := f_on hb bb
                  clear bb
                  refine hK.out _ _ ⟨hp0.cell 0, hp0.cell 1, hp0.cell 2⟩ (fun hHeld => ?_)
                  clear hK K
                  try (simp only [Act.put, List.setIfInBounds_toArray, List.set_cons_zero, List.set_cons_succ])
                  refine tk 2 hHeld ?_
                  refine rd1 4 (fun K hK => ?_)
                  have cc0 : V10.cell? ⟨az8, 0, none⟩ = some (.int .i32 0) := hz8.cell 0
                  have zz0 := hz8.frozen 0
                  have cc1 : V10.cell? ⟨az8, 1, none⟩ = some (.int .i32 0) := hz8.cell 1
                  have zz1 := hz8.frozen 1
                  have cc2 : V10.cell? ⟨az8, 2, none⟩ = some (.int .i32 0) := hz8.cell 2
                  have zz2 := hz8.frozen 2
                  have cc3 : V10.cell? ⟨az8, 3, none⟩ = some (.int .i32 0) := hz8.cell 3
                  have zz3 := hz8.frozen 3
                  have cc4 : V10.cell? ⟨az8, 4, none⟩ = some (.int .i32 0) := hz8.cell 4
                  have zz4 := hz8.frozen 4
                  have cc5 : V10.cell? ⟨az8, 5, none⟩ = some (.int .i32 0) := hz8.cell 5
                  have zz5 := hz8.frozen 5
                  have cc6 : V10.cell? ⟨az8, 6, none⟩ = some (.int .i32 0) := hz8.cell 6
                  have zz6 := hz8.frozen 6
                  have cc7 : V10.cell? ⟨az8, 7, none⟩ = some (.int .i64 0) := hz8.cell 7
                  have zz7 := hz8.frozen 7
                  have cc8 : V10.cell? ⟨az8, 8, none⟩ = some (.int .i64 0) := hz8.cell 8
                  have zz8 := hz8.frozen 8
                  go_simp
                  try go_wp2_with fail
                  replace hp0 := (((((((((hp0.far (p := ⟨az8, 0, none⟩) (by dsimp only; omega) (.int .i32 1073741824)).far (p := ⟨az8, 1, none⟩) (by dsimp only; omega) (.int .i32 0)).far (p := ⟨az8, 2, none⟩) (by dsimp only; omega) (.int .i32 0)).far (p := ⟨az8, 3, none⟩) (by dsimp only; omega) (.int .i32 0)).far (p := ⟨az8, 4, none⟩) (by dsimp only; omega) (.int .i32 b0)).far (p := ⟨az8, 5, none⟩) (by dsimp only; omega) (.int .i32 b1)).far (p := ⟨az8, 6, none⟩) (by dsimp only; omega) (.int .i32 b2)).far (p := ⟨az8, 7, none⟩) (by dsimp only; omega) (.int .i64 0)).far (p := ⟨az8, 8, none⟩) (by dsimp only; omega) (.int .i64 0))
                  replace hp1 := (((((((((hp1.far (p := ⟨az8, 0, none⟩) (by dsimp only; omega) (.int .i32 1073741824)).far (p := ⟨az8, 1, none⟩) (by dsimp only; omega) (.int .i32 0)).far (p := ⟨az8, 2, none⟩) (by dsimp only; omega) (.int .i32 0)).far (p := ⟨az8, 3, none⟩) (by dsimp only; omega) (.int .i32 0)).far (p := ⟨az8, 4, none⟩) (by dsimp only; omega) (.int .i32 b0)).far (p := ⟨az8, 5, none⟩) (by dsimp only; omega) (.int .i32 b1)).far (p := ⟨az8, 6, none⟩) (by dsimp only; omega) (.int .i32 b2)).far (p := ⟨az8, 7, none⟩) (by dsimp only; omega) (.int .i64 0)).far (p := ⟨az8, 8, none⟩) (by dsimp only; omega) (.int .i64 0))
                  clear cc0 zz0 cc1 zz1 cc2 zz2 cc3 zz3 cc4 zz4 cc5 zz5 cc6 zz6 cc7 zz7 cc8 zz8
                  replace hz8 := (((((((((hz8.set_ 0 (.int .i32 1073741824)).set_ 1 (.int .i32 0)).set_ 2 (.int .i32 0)).set_ 3 (.int .i32 0)).set_ 4 (.int .i32 b0)).set_ 5 (.int .i32 b1)).set_ 6 (.int .i32 b2)).set_ 7 (.int .i64 0)).set_ 8 (.int .i64 0))
                  replace hb := (((((((((hb.setCell (p := ⟨az8, 0, none⟩) (by dsimp only; omega) (.int .i32 1073741824)).setCell (p := ⟨az8, 1, none⟩) (by dsimp only; omega) (.int .i32 0)).setCell (p := ⟨az8, 2, none⟩) (by dsimp only; omega) (.int .i32 0)).setCell (p := ⟨az8, 3, none⟩) (by dsimp only; omega) (.int .i32 0)).setCell (p := ⟨az8, 4, none⟩) (by dsimp only; omega) (.int .i32 b0)).setCell (p := ⟨az8, 5, none⟩) (by dsimp only; omega) (.int .i32 b1)).setCell (p := ⟨az8, 6, none⟩) (by dsimp only; omega) (.int .i32 b2)).setCell (p := ⟨az8, 7, none⟩) (by dsimp only; omega) (.int .i64 0)).setCell (p := ⟨az8, 8, none⟩) (by dsimp only; omega) (.int .i64 0))
                  generalize (((((((((V10.setCell ⟨az8, 0, none⟩ (.int .i32 1073741824)).setCell ⟨az8, 1, none⟩ (.int .i32 0)).setCell ⟨az8, 2, none⟩ (.int .i32 0)).setCell ⟨az8, 3, none⟩ (.int .i32 0)).setCell ⟨az8, 4, none⟩ (.int .i32 b0)).setCell ⟨az8, 5, none⟩ (.int .i32 b1)).setCell ⟨az8, 6, none⟩ (.int .i32 b2)).setCell ⟨az8, 7, none⟩ (.int .i64 0)).setCell ⟨az8, 8, none⟩ (.int .i64 0)) = V12 at *
                  refine hK.out _ _ ⟨hp0.cell 0, hp0.cell 1, hp0.cell 2⟩ (fun hHeld => ?_)
                  clear hK K
                  try (simp only [Act.put, List.setIfInBounds_toArray, List.set_cons_zero, List.set_cons_succ])
                  refine wpAnyH_done (by kernel_rfl) ?_ _
                  refine NoPanic.normal ?_
                  try go_wp2_with fail
                  go_meet
                  exact ⟨az8, rfl, hz8, hp0, hp1, hb⟩
              case rest =>
                clear hp0 hp1 hb l0 l1
                obtain ⟨a, rfl, ha, hp0, hp1, hb⟩ := hcut
                have f0 : wc.cell? ⟨w.heap.size, 0, none⟩ = some (.int .i32 b0) := hp0.cell 0
                have f1 : wc.cell? ⟨w.heap.size, 1, none⟩ = some (.int .i32 b1) := hp0.cell 1
                have f2 : wc.cell? ⟨w.heap.size, 2, none⟩ = some (.int .i32 b2) := hp0.cell 2
                have a0 : wc.cell? ⟨a, 0, none⟩ = some (.int .i32 1073741824) := ha.cell 0
                have a1 : wc.cell? ⟨a, 1, none⟩ = some (.int .i32 0) := ha.cell 1
                have a2 : wc.cell? ⟨a, 2, none⟩ = some (.int .i32 0) := ha.cell 2
                have a3 : wc.cell? ⟨a, 3, none⟩ = some (.int .i32 0) := ha.cell 3
                have a4 : wc.cell? ⟨a, 4, none⟩ = some (.int .i32 b0) := ha.cell 4
                have a5 : wc.cell? ⟨a, 5, none⟩ = some (.int .i32 b1) := ha.cell 5
                have a6 : wc.cell? ⟨a, 6, none⟩ = some (.int .i32 b2) := ha.cell 6
                have a7 : wc.cell? ⟨a, 7, none⟩ = some (.int .i64 0) := ha.cell 7
                have a8 : wc.cell? ⟨a, 8, none⟩ = some (.int .i64 0) := ha.cell 8
                go_upto_region 5 with fail
                clear f0 f1 f2 a0 a1 a2 a3 a4 a5 a6 a7 a8
                have lb := hb.size
                replace ha := ha.alloc (.cells #[.int .i32 1073741824, .int .i32 0, .int .i32 0, .int .i32 0, .int .i32 b0, .int .i32 b1, .int .i32 b2, .int .i64 1, .int .i64 0] 32)
                replace hp0 := hp0.alloc (.cells #[.int .i32 1073741824, .int .i32 0, .int .i32 0, .int .i32 0, .int .i32 b0, .int .i32 b1, .int .i32 b2, .int .i64 1, .int .i64 0] 32)
                replace hp1 := hp1.alloc (.cells #[.int .i32 1073741824, .int .i32 0, .int .i32 0, .int .i32 0, .int .i32 b0, .int .i32 b1, .int .i32 b2, .int .i64 1, .int .i64 0] 32)
                have hw := Blk.new wc 32 #[.int .i32 1073741824, .int .i32 0, .int .i32 0, .int .i32 0, .int .i32 b0, .int .i32 b1, .int .i32 b2, .int .i64 1, .int .i64 0]
                replace hb := hb.alloc hb.size (.cells #[.int .i32 1073741824, .int .i32 0, .int .i32 0, .int .i32 0, .int .i32 b0, .int .i32 b1, .int .i32 b2, .int .i64 1, .int .i64 0] 32)
                generalize (wc.alloc (.cells #[.int .i32 1073741824, .int .i32 0, .int .i32 0, .int .i32 0, .int .i32 b0, .int .i32 b1, .int .i32 b2, .int .i64 1, .int .i64 0] 32)) = W3 at *
                generalize wc.heap.size = b at *
                have f0 : W3.cell? ⟨w.heap.size + 1, 0, none⟩ = some (.int .i32 x0) := hp1.cell 0
                have f1 : W3.cell? ⟨w.heap.size + 1, 1, none⟩ = some (.int .i32 x1) := hp1.cell 1
                have f2 : W3.cell? ⟨w.heap.size + 1, 2, none⟩ = some (.int .i32 x2) := hp1.cell 2
                go_wp2_with fail
                clear f0 f1 f2
                refine (HL.out _).mono ?_
                rintro e w4 ⟨rfl, bb⟩
                replace ha := ha.below bb ha.lt
                replace hp0 := hp0.below bb hp0.lt
                replace hp1 := hp1.below bb hp1.lt
                replace hw := hw.below bb hw.lt
                replace hb := f_on hb bb
                clear bb HL
                go_upto_region 6 with fail
                go_cut [68] from 54 to 68 (fun p wx => p = .bool false ∧ Blk wx a 32 #[.int .i32 1073741824, .int .i32 0, .int .i32 0, .int .i32 0, .int .i32 b0, .int .i32 b1, .int .i32 b2, .int .i64 0, .int .i64 0] ∧ Blk wx w.heap.size 25 #[.int .i32 b0, .int .i32 b1, .int .i32 b2] ∧ Blk wx b 32 #[.int .i32 1073741824, .int .i32 0, .int .i32 0, .int .i32 0, .int .i32 b0, .int .i32 b1, .int .i32 b2, .int .i64 1, .int .i64 0] ∧ Below w.heap.size w wx)
                case first =>
                  by_cases g1 : L < 32768
                  · have e1 : decide (L < 32768) = true := decide_eq_true g1
                    have HS2 := HS (fun k => by rw [HE.out, decide_eq_false (show ¬ 32768 ≤ L by omega)] at k; cases k)
                    clear g1 HS HE
                    refine wp_region_noPanic ?_
                    refine wp_region_held_drew (S := (fun w' : World => w'.cell? ⟨a, 0, none⟩ = some (.int .i32 1073741824) ∧ w'.cell? ⟨a, 1, none⟩ = some (.int .i32 0) ∧ w'.cell? ⟨a, 2, none⟩ = some (.int .i32 0) ∧ w'.cell? ⟨a, 3, none⟩ = some (.int .i32 0) ∧ w'.cell? ⟨a, 4, none⟩ = some (.int .i32 b0) ∧ w'.cell? ⟨a, 5, none⟩ = some (.int .i32 b1) ∧ w'.cell? ⟨a, 6, none⟩ = some (.int .i32 b2) ∧ w'.cell? ⟨a, 7, none⟩ = some (.int .i64 0) ∧ w'.cell? ⟨a, 8, none⟩ = some (.int .i64 0) ∧ w'.cell? ⟨w.heap.size, 0, none⟩ = some (.int .i32 b0) ∧ w'.cell? ⟨w.heap.size, 1, none⟩ = some (.int .i32 b1) ∧ w'.cell? ⟨w.heap.size, 2, none⟩ = some (.int .i32 b2) ∧ w'.cell? ⟨(w.heap.size + 1), 0, none⟩ = some (.int .i32 x0) ∧ w'.cell? ⟨(w.heap.size + 1), 1, none⟩ = some (.int .i32 x1) ∧ w'.cell? ⟨(w.heap.size + 1), 2, none⟩ = some (.int .i32 x2) ∧ w'.cell? ⟨b, 0, none⟩ = some (.int .i32 1073741824) ∧ w'.cell? ⟨b, 1, none⟩ = some (.int .i32 0) ∧ w'.cell? ⟨b, 2, none⟩ = some (.int .i32 0) ∧ w'.cell? ⟨b, 3, none⟩ = some (.int .i32 0) ∧ w'.cell? ⟨b, 4, none⟩ = some (.int .i32 b0) ∧ w'.cell? ⟨b, 5, none⟩ = some (.int .i32 b1) ∧ w'.cell? ⟨b, 6, none⟩ = some (.int .i32 b2) ∧ w'.cell? ⟨b, 7, none⟩ = some (.int .i64 1) ∧ w'.cell? ⟨b, 8, none⟩ = some (.int .i64 0))) (by kernel_rfl) ⟨ha.cell 0, ha.cell 1, ha.cell 2, ha.cell 3, ha.cell 4, ha.cell 5, ha.cell 6, ha.cell 7, ha.cell 8, hp0.cell 0, hp0.cell 1, hp0.cell 2, hp1.cell 0, hp1.cell 1, hp1.cell 2, hw.cell 0, hw.cell 1, hw.cell 2, hw.cell 3, hw.cell 4, hw.cell 5, hw.cell 6, hw.cell 7, hw.cell 8⟩ (fun hHeld => ?_)
                    refine (show wpAnyH _ _ _ _ _ 15 _ _ _ from ?_)
                    try (simp only [Act.put, List.setIfInBounds_toArray, List.set_cons_zero, List.set_cons_succ])
                    replace ha := ha.drew
                    replace hp0 := hp0.drew
                    replace hp1 := hp1.drew
                    replace hw := hw.drew
                    replace hb := hb.drew
                    generalize (w4).drew = V13 at *
                    refine tk 0 hHeld ?_
                    refine tk 1 hHeld ?_
                    refine tk 2 hHeld ?_
                    refine tku 3 hHeld ?_
                    refine tku 4 hHeld ?_
                    refine tk 5 hHeld ?_
                    refine tk 6 hHeld ?_
                    refine tk 7 hHeld ?_
                    refine tk 8 hHeld ?_
                    refine tk 9 hHeld ?_
                    refine tk 10 hHeld ?_
                    refine tk 12 hHeld ?_
                    refine rd1 11 (fun K hK => ?_)
                    go_simp
                    refine (HS2.out _).mono ?_
                    rintro e V14 ⟨rfl, bb⟩
                    go_wp2_with fail
                    replace ha := ha.below bb ha.lt
                    replace hp0 := hp0.below bb hp0.lt
                    replace hp1 := hp1.below bb hp1.lt
                    replace hw := hw.below bb hw.lt
                    replace hb := f_on hb bb
                    clear bb
                    refine hK.out _ _ ⟨ha.cell 0, ha.cell 1, ha.cell 2, ha.cell 3, ha.cell 4, ha.cell 5, ha.cell 6, ha.cell 7, ha.cell 8, hp0.cell 0, hp0.cell 1, hp0.cell 2, hp1.cell 0, hp1.cell 1, hp1.cell 2, hw.cell 0, hw.cell 1, hw.cell 2, hw.cell 3, hw.cell 4, hw.cell 5, hw.cell 6, hw.cell 7, hw.cell 8⟩ (fun hHeld => ?_)
                    clear hK K
                    try (simp only [Act.put, List.setIfInBounds_toArray, List.set_cons_zero, List.set_cons_succ])
                    refine tk 13 hHeld ?_
                    refine tk 14 hHeld ?_
                    refine wpAnyH_done (by kernel_rfl) ?_ _
                    refine NoPanic.normal ?_
                    clear hHeld
                    try go_wp2_with fail
                    go_meet
                    exact ⟨rfl, ha, hp0, hw, hb⟩
                  · have e1 : decide (L < 32768) = false := decide_eq_false g1
                    by_cases g2 : 98304 < L
                    · have e2 : decide (98304 < L) = true := decide_eq_true g2
                      have HS2 := HS (fun k => by rw [HE.out, decide_eq_false (show ¬ L ≤ 98304 by omega), Bool.and_false] at k; cases k)
                      clear g1 g2 HS HE
                      refine wp_region_noPanic ?_
                      refine wp_region_held_drew (S := (fun w' : World => w'.cell? ⟨a, 0, none⟩ = some (.int .i32 1073741824) ∧ w'.cell? ⟨a, 1, none⟩ = some (.int .i32 0) ∧ w'.cell? ⟨a, 2, none⟩ = some (.int .i32 0) ∧ w'.cell? ⟨a, 3, none⟩ = some (.int .i32 0) ∧ w'.cell? ⟨a, 4, none⟩ = some (.int .i32 b0) ∧ w'.cell? ⟨a, 5, none⟩ = some (.int .i32 b1) ∧ w'.cell? ⟨a, 6, none⟩ = some (.int .i32 b2) ∧ w'.cell? ⟨a, 7, none⟩ = some (.int .i64 0) ∧ w'.cell? ⟨a, 8, none⟩ = some (.int .i64 0) ∧ w'.cell? ⟨w.heap.size, 0, none⟩ = some (.int .i32 b0) ∧ w'.cell? ⟨w.heap.size, 1, none⟩ = some (.int .i32 b1) ∧ w'.cell? ⟨w.heap.size, 2, none⟩ = some (.int .i32 b2) ∧ w'.cell? ⟨(w.heap.size + 1), 0, none⟩ = some (.int .i32 x0) ∧ w'.cell? ⟨(w.heap.size + 1), 1, none⟩ = some (.int .i32 x1) ∧ w'.cell? ⟨(w.heap.size + 1), 2, none⟩ = some (.int .i32 x2) ∧ w'.cell? ⟨b, 0, none⟩ = some (.int .i32 1073741824) ∧ w'.cell? ⟨b, 1, none⟩ = some (.int .i32 0) ∧ w'.cell? ⟨b, 2, none⟩ = some (.int .i32 0) ∧ w'.cell? ⟨b, 3, none⟩ = some (.int .i32 0) ∧ w'.cell? ⟨b, 4, none⟩ = some (.int .i32 b0) ∧ w'.cell? ⟨b, 5, none⟩ = some (.int .i32 b1) ∧ w'.cell? ⟨b, 6, none⟩ = some (.int .i32 b2) ∧ w'.cell? ⟨b, 7, none⟩ = some (.int .i64 1) ∧ w'.cell? ⟨b, 8, none⟩ = some (.int .i64 0))) (by kernel_rfl) ⟨ha.cell 0, ha.cell 1, ha.cell 2, ha.cell 3, ha.cell 4, ha.cell 5, ha.cell 6, ha.cell 7, ha.cell 8, hp0.cell 0, hp0.cell 1, hp0.cell 2, hp1.cell 0, hp1.cell 1, hp1.cell 2, hw.cell 0, hw.cell 1, hw.cell 2, hw.cell 3, hw.cell 4, hw.cell 5, hw.cell 6, hw.cell 7, hw.cell 8⟩ (fun hHeld => ?_)
                      refine (show wpAnyH _ _ _ _ _ 15 _ _ _ from ?_)
                      try (simp only [Act.put, List.setIfInBounds_toArray, List.set_cons_zero, List.set_cons_succ])
                      replace ha := ha.drew
                      replace hp0 := hp0.drew
                      replace hp1 := hp1.drew
                      replace hw := hw.drew
                      replace hb := hb.drew
                      generalize (w4).drew = V15 at *
                      refine tk 0 hHeld ?_
                      refine tk 1 hHeld ?_
                      refine tk 2 hHeld ?_
                      refine tk 3 hHeld ?_
                      refine tk 4 hHeld ?_
                      refine tk 5 hHeld ?_
                      refine tk 6 hHeld ?_
                      refine tk 7 hHeld ?_
                      refine tk 8 hHeld ?_
                      refine tk 9 hHeld ?_
                      refine tk 10 hHeld ?_
                      refine tk 12 hHeld ?_
                      refine rd1 11 (fun K hK => ?_)
                      go_simp
                      refine (HS2.out _).mono ?_
                      rintro e V16 ⟨rfl, bb⟩
                      go_wp2_with fail
                      replace ha := ha.below bb ha.lt
                      replace hp0 := hp0.below bb hp0.lt
                      replace hp1 := hp1.below bb hp1.lt
                      replace hw := hw.below bb hw.lt
                      replace hb := f_on hb bb
                      clear bb
                      refine hK.out _ _ ⟨ha.cell 0, ha.cell 1, ha.cell 2, ha.cell 3, ha.cell 4, ha.cell 5, ha.cell 6, ha.cell 7, ha.cell 8, hp0.cell 0, hp0.cell 1, hp0.cell 2, hp1.cell 0, hp1.cell 1, hp1.cell 2, hw.cell 0, hw.cell 1, hw.cell 2, hw.cell 3, hw.cell 4, hw.cell 5, hw.cell 6, hw.cell 7, hw.cell 8⟩ (fun hHeld => ?_)
                      clear hK K
                      try (simp only [Act.put, List.setIfInBounds_toArray, List.set_cons_zero, List.set_cons_succ])
                      refine tk 13 hHeld ?_
                      refine tk 14 hHeld ?_
                      refine wpAnyH_done (by kernel_rfl) ?_ _
                      refine NoPanic.normal ?_
                      clear hHeld
                      try go_wp2_with fail
                      go_meet
                      exact ⟨rfl, ha, hp0, hw, hb⟩
                    · have e2 : decide (98304 < L) = false := decide_eq_false g2
                      clear g1 g2 HS HE
                      refine wp_region_noPanic ?_
                      refine wp_region_held_drew (S := (fun w' : World => w'.cell? ⟨a, 0, none⟩ = some (.int .i32 1073741824) ∧ w'.cell? ⟨a, 1, none⟩ = some (.int .i32 0) ∧ w'.cell? ⟨a, 2, none⟩ = some (.int .i32 0) ∧ w'.cell? ⟨a, 3, none⟩ = some (.int .i32 0) ∧ w'.cell? ⟨a, 4, none⟩ = some (.int .i32 b0) ∧ w'.cell? ⟨a, 5, none⟩ = some (.int .i32 b1) ∧ w'.cell? ⟨a, 6, none⟩ = some (.int .i32 b2) ∧ w'.cell? ⟨a, 7, none⟩ = some (.int .i64 0) ∧ w'.cell? ⟨a, 8, none⟩ = some (.int .i64 0) ∧ w'.cell? ⟨w.heap.size, 0, none⟩ = some (.int .i32 b0) ∧ w'.cell? ⟨w.heap.size, 1, none⟩ = some (.int .i32 b1) ∧ w'.cell? ⟨w.heap.size, 2, none⟩ = some (.int .i32 b2) ∧ w'.cell? ⟨(w.heap.size + 1), 0, none⟩ = some (.int .i32 x0) ∧ w'.cell? ⟨(w.heap.size + 1), 1, none⟩ = some (.int .i32 x1) ∧ w'.cell? ⟨(w.heap.size + 1), 2, none⟩ = some (.int .i32 x2) ∧ w'.cell? ⟨b, 0, none⟩ = some (.int .i32 1073741824) ∧ w'.cell? ⟨b, 1, none⟩ = some (.int .i32 0) ∧ w'.cell? ⟨b, 2, none⟩ = some (.int .i32 0) ∧ w'.cell? ⟨b, 3, none⟩ = some (.int .i32 0) ∧ w'.cell? ⟨b, 4, none⟩ = some (.int .i32 b0) ∧ w'.cell? ⟨b, 5, none⟩ = some (.int .i32 b1) ∧ w'.cell? ⟨b, 6, none⟩ = some (.int .i32 b2) ∧ w'.cell? ⟨b, 7, none⟩ = some (.int .i64 1) ∧ w'.cell? ⟨b, 8, none⟩ = some (.int .i64 0))) (by kernel_rfl) ⟨ha.cell 0, ha.cell 1, ha.cell 2, ha.cell 3, ha.cell 4, ha.cell 5, ha.cell 6, ha.cell 7, ha.cell 8, hp0.cell 0, hp0.cell 1, hp0.cell 2, hp1.cell 0, hp1.cell 1, hp1.cell 2, hw.cell 0, hw.cell 1, hw.cell 2, hw.cell 3, hw.cell 4, hw.cell 5, hw.cell 6, hw.cell 7, hw.cell 8⟩ (fun hHeld => ?_)
                      refine (show wpAnyH _ _ _ _ _ 15 _ _ _ from ?_)
                      try (simp only [Act.put, List.setIfInBounds_toArray, List.set_cons_zero, List.set_cons_succ])
                      replace ha := ha.drew
                      replace hp0 := hp0.drew
                      replace hp1 := hp1.drew
                      replace hw := hw.drew
                      replace hb := hb.drew
                      generalize (w4).drew = V17 at *
                      refine tk 0 hHeld ?_
                      refine tk 1 hHeld ?_
                      refine tk 2 hHeld ?_
                      refine tk 3 hHeld ?_
                      refine tk 4 hHeld ?_
                      refine tk 5 hHeld ?_
                      refine tk 6 hHeld ?_
                      refine tku 7 hHeld ?_
                      refine tku 8 hHeld ?_
                      refine tku 9 hHeld ?_
                      refine tku 10 hHeld ?_
                      refine tku 11 hHeld ?_
                      refine tku 12 hHeld ?_
                      refine tku 13 hHeld ?_
                      refine tk 14 hHeld ?_
                      refine wpAnyH_done (by kernel_rfl) ?_ _
                      refine NoPanic.normal ?_
                      clear hHeld
                      try go_wp2_with fail
                      go_meet
                      exact ⟨rfl, ha, hp0, hw, hb⟩
                case rest =>
                  clear ha hp0 hp1 hw hb HS HE
                  obtain ⟨rfl, ha, hp0, hw, hb⟩ := hcut
                  go_upto_region 8 with fail
                  by_cases g : u < 0
                  · have e1 : decide (u < 0) = true := decide_eq_true g
                    clear g
                    refine wp_region_noPanic ?_
                    refine wp_region_held_drew (S := (fun w' : World => w'.cell? ⟨a, 0, none⟩ = some (.int .i32 1073741824) ∧ w'.cell? ⟨a, 1, none⟩ = some (.int .i32 0) ∧ w'.cell? ⟨a, 2, none⟩ = some (.int .i32 0) ∧ w'.cell? ⟨a, 3, none⟩ = some (.int .i32 0) ∧ w'.cell? ⟨a, 4, none⟩ = some (.int .i32 b0) ∧ w'.cell? ⟨a, 5, none⟩ = some (.int .i32 b1) ∧ w'.cell? ⟨a, 6, none⟩ = some (.int .i32 b2) ∧ w'.cell? ⟨a, 7, none⟩ = some (.int .i64 0) ∧ w'.cell? ⟨a, 8, none⟩ = some (.int .i64 0) ∧ w'.cell? ⟨w.heap.size, 0, none⟩ = some (.int .i32 b0) ∧ w'.cell? ⟨w.heap.size, 1, none⟩ = some (.int .i32 b1) ∧ w'.cell? ⟨w.heap.size, 2, none⟩ = some (.int .i32 b2) ∧ w'.cell? ⟨b, 0, none⟩ = some (.int .i32 1073741824) ∧ w'.cell? ⟨b, 1, none⟩ = some (.int .i32 0) ∧ w'.cell? ⟨b, 2, none⟩ = some (.int .i32 0) ∧ w'.cell? ⟨b, 3, none⟩ = some (.int .i32 0) ∧ w'.cell? ⟨b, 4, none⟩ = some (.int .i32 b0) ∧ w'.cell? ⟨b, 5, none⟩ = some (.int .i32 b1) ∧ w'.cell? ⟨b, 6, none⟩ = some (.int .i32 b2) ∧ w'.cell? ⟨b, 7, none⟩ = some (.int .i64 1) ∧ w'.cell? ⟨b, 8, none⟩ = some (.int .i64 0))) (by kernel_rfl) ⟨ha.cell 0, ha.cell 1, ha.cell 2, ha.cell 3, ha.cell 4, ha.cell 5, ha.cell 6, ha.cell 7, ha.cell 8, hp0.cell 0, hp0.cell 1, hp0.cell 2, hw.cell 0, hw.cell 1, hw.cell 2, hw.cell 3, hw.cell 4, hw.cell 5, hw.cell 6, hw.cell 7, hw.cell 8⟩ (fun hHeld => ?_)
                    refine (show wpAnyH _ _ _ _ _ 13 _ _ _ from ?_)
                    try (simp only [Act.put, List.setIfInBounds_toArray, List.set_cons_zero, List.set_cons_succ])
                    replace ha := ha.drew
                    replace hp0 := hp0.drew
                    replace hw := hw.drew
                    replace hb := hb.drew
                    generalize (wc).drew = V18 at *
                    refine tk 0 hHeld ?_
                    refine tk 1 hHeld ?_
                    refine tk 2 hHeld ?_
                    refine tku 3 hHeld ?_
                    refine tku 4 hHeld ?_
                    refine tku 5 hHeld ?_
                    refine tku 6 hHeld ?_
                    refine tku 7 hHeld ?_
                    refine tku 8 hHeld ?_
                    refine tku 9 hHeld ?_
                    refine tku 10 hHeld ?_
                    refine tk 11 hHeld ?_
                    refine tk 12 hHeld ?_
                    refine wpAnyH_done (by kernel_rfl) ?_ _
                    refine NoPanic.normal ?_
                    clear hHeld
                    go_wp2
                    go_ret
                    exact ⟨rfl, hb⟩
                  · have e1 : decide (u < 0) = false := decide_eq_false g
                    clear g
                    refine wp_region_noPanic ?_
                    refine wp_region_held_drew (S := (fun w' : World => w'.cell? ⟨a, 0, none⟩ = some (.int .i32 1073741824) ∧ w'.cell? ⟨a, 1, none⟩ = some (.int .i32 0) ∧ w'.cell? ⟨a, 2, none⟩ = some (.int .i32 0) ∧ w'.cell? ⟨a, 3, none⟩ = some (.int .i32 0) ∧ w'.cell? ⟨a, 4, none⟩ = some (.int .i32 b0) ∧ w'.cell? ⟨a, 5, none⟩ = some (.int .i32 b1) ∧ w'.cell? ⟨a, 6, none⟩ = some (.int .i32 b2) ∧ w'.cell? ⟨a, 7, none⟩ = some (.int .i64 0) ∧ w'.cell? ⟨a, 8, none⟩ = some (.int .i64 0) ∧ w'.cell? ⟨w.heap.size, 0, none⟩ = some (.int .i32 b0) ∧ w'.cell? ⟨w.heap.size, 1, none⟩ = some (.int .i32 b1) ∧ w'.cell? ⟨w.heap.size, 2, none⟩ = some (.int .i32 b2) ∧ w'.cell? ⟨b, 0, none⟩ = some (.int .i32 1073741824) ∧ w'.cell? ⟨b, 1, none⟩ = some (.int .i32 0) ∧ w'.cell? ⟨b, 2, none⟩ = some (.int .i32 0) ∧ w'.cell? ⟨b, 3, none⟩ = some (.int .i32 0) ∧ w'.cell? ⟨b, 4, none⟩ = some (.int .i32 b0) ∧ w'.cell? ⟨b, 5, none⟩ = some (.int .i32 b1) ∧ w'.cell? ⟨b, 6, none⟩ = some (.int .i32 b2) ∧ w'.cell? ⟨b, 7, none⟩ = some (.int .i64 1) ∧ w'.cell? ⟨b, 8, none⟩ = some (.int .i64 0))) (by kernel_rfl) ⟨ha.cell 0, ha.cell 1, ha.cell 2, ha.cell 3, ha.cell 4, ha.cell 5, ha.cell 6, ha.cell 7, ha.cell 8, hp0.cell 0, hp0.cell 1, hp0.cell 2, hw.cell 0, hw.cell 1, hw.cell 2, hw.cell 3, hw.cell 4, hw.cell 5, hw.cell 6, hw.cell 7, hw.cell 8⟩ (fun hHeld => ?_)
                    refine (show wpAnyH _ _ _ _ _ 13 _ _ _ from ?_)
                    try (simp only [Act.put, List.setIfInBounds_toArray, List.set_cons_zero, List.set_cons_succ])
                    replace ha := ha.drew
                    replace hp0 := hp0.drew
                    replace hw := hw.drew
                    replace hb := hb.drew
                    generalize (wc).drew = V19 at *
                    refine tk 0 hHeld ?_
                    refine tk 1 hHeld ?_
                    refine tk 2 hHeld ?_
                    refine tk 3 hHeld ?_
                    refine tk 4 hHeld ?_
                    refine tk 5 hHeld ?_
                    refine tk 6 hHeld ?_
                    refine tk 7 hHeld ?_
                    refine tk 9 hHeld ?_
                    refine rd1 8 (fun K hK => ?_)
                    go_simp
                    refine (HU.out _).mono ?_
                    rintro e V20 ⟨rfl, bb⟩
                    go_wp2_with fail
                    replace ha := ha.below bb ha.lt
                    replace hp0 := hp0.below bb hp0.lt
                    replace hw := hw.below bb hw.lt
                    replace hb := f_on hb bb
                    clear bb
                    refine hK.out _ _ ⟨ha.cell 0, ha.cell 1, ha.cell 2, ha.cell 3, ha.cell 4, ha.cell 5, ha.cell 6, ha.cell 7, ha.cell 8, hp0.cell 0, hp0.cell 1, hp0.cell 2, hw.cell 0, hw.cell 1, hw.cell 2, hw.cell 3, hw.cell 4, hw.cell 5, hw.cell 6, hw.cell 7, hw.cell 8⟩ (fun hHeld => ?_)
                    clear hK K
                    try (simp only [Act.put, List.setIfInBounds_toArray, List.set_cons_zero, List.set_cons_succ])
                    refine tk 10 hHeld ?_
                    refine tk 11 hHeld ?_
                    refine tk 12 hHeld ?_
                    refine wpAnyH_done (by kernel_rfl) ?_ _
                    refine NoPanic.normal ?_
                    clear hHeld
                    go_wp2
                    go_ret
                    exact ⟨rfl, hb⟩
end Go.Proofs.Ytgmepohfkpncmaa
