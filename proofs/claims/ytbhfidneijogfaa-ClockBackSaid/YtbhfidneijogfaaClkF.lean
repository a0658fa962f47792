/- Chapter 24: the document's Of. -/
import Derived.Test.YtbhfidneijogfaaClkE
namespace Go.Proofs.Ytbhfidneijogfaa
open Go.RowKit
set_option linter.unusedVariables false
set_option linter.unusedSimpArgs false
attribute [local go_sem] Oper.semAt_some
set_option maxRecDepth 20000 in
set_option maxHeartbeats 8000000 in
theorem r_Of (n : Int) (w : World) (hn : I64 n) : Calls Try.prog 41 #[.int .i64 n] w (Dated n w) := by
  by_cases hneg : n < 0
  · have hp := (Blk.new w 60 #[.bool false, .int .i64 0, .int .i64 0, .int .i64 0]).alloc (.cells #[.bool false, .int .i64 0, .int .i64 0, .int .i64 0, .int .i64 0] 62)
    have hq := Blk.new (w.alloc (.cells #[.bool false, .int .i64 0, .int .i64 0, .int .i64 0] 60)) 62 #[.bool false, .int .i64 0, .int .i64 0, .int .i64 0, .int .i64 0]
    simp only [World.size_alloc] at hq
    have hb := ((Below.refl w.heap.size w).alloc (Nat.le_refl _) (.cells #[.bool false, .int .i64 0, .int .i64 0, .int .i64 0] 60)).alloc (by simp) (.cells #[.bool false, .int .i64 0, .int .i64 0, .int .i64 0, .int .i64 0] 62)
    skip
    have g : inB n 0 315575999999 = false := (inB_no _ _ _).2 (by omega)
    go_enter Try.func41, Try.ntmps41
    go_upto_region 1 with (fail)
    generalize (w.alloc (.cells #[.bool false, .int .i64 0, .int .i64 0, .int .i64 0] 60)).alloc (.cells #[.bool false, .int .i64 0, .int .i64 0, .int .i64 0, .int .i64 0] 62) = W0 at *
    have f0 : (W0).cell? ⟨w.heap.size, 0, none⟩ = some (.bool false) := hp.cell 0
    have f1 : (W0).cell? ⟨w.heap.size, 1, none⟩ = some (.int .i64 0) := hp.cell 1
    have f2 : (W0).cell? ⟨w.heap.size, 2, none⟩ = some (.int .i64 0) := hp.cell 2
    have f3 : (W0).cell? ⟨w.heap.size, 3, none⟩ = some (.int .i64 0) := hp.cell 3
    have zf0 := hp.frozen 0
    have zf1 := hp.frozen 1
    have zf2 := hp.frozen 2
    have zf3 := hp.frozen 3
    have k0 : (W0).cell? ⟨w.heap.size + 1, 0, none⟩ = some (.bool false) := hq.cell 0
    have k1 : (W0).cell? ⟨w.heap.size + 1, 1, none⟩ = some (.int .i64 0) := hq.cell 1
    have k2 : (W0).cell? ⟨w.heap.size + 1, 2, none⟩ = some (.int .i64 0) := hq.cell 2
    have k3 : (W0).cell? ⟨w.heap.size + 1, 3, none⟩ = some (.int .i64 0) := hq.cell 3
    have k4 : (W0).cell? ⟨w.heap.size + 1, 4, none⟩ = some (.int .i64 0) := hq.cell 4
    have zk0 := hq.frozen 0
    have zk1 := hq.frozen 1
    have zk2 := hq.frozen 2
    have zk3 := hq.frozen 3
    have zk4 := hq.frozen 4
    go_wp2_with fail
    have tp := (((((((((hp.set_ 0 (.bool false)).set_ 1 (.int .i64 0)).set_ 2 (.int .i64 0)).set_ 3 (.int .i64 0)).far (p := ⟨w.heap.size + 1, 0, none⟩) (by simp) (.bool false)).far (p := ⟨w.heap.size + 1, 1, none⟩) (by simp) (.int .i64 0)).far (p := ⟨w.heap.size + 1, 2, none⟩) (by simp) (.int .i64 0)).far (p := ⟨w.heap.size + 1, 3, none⟩) (by simp) (.int .i64 0)).far (p := ⟨w.heap.size + 1, 4, none⟩) (by simp) (.int .i64 0))
    have tq := (((((((((hq.far (p := ⟨w.heap.size, 0, none⟩) (by simp) (.bool false)).far (p := ⟨w.heap.size, 1, none⟩) (by simp) (.int .i64 0)).far (p := ⟨w.heap.size, 2, none⟩) (by simp) (.int .i64 0)).far (p := ⟨w.heap.size, 3, none⟩) (by simp) (.int .i64 0)).set_ 0 (.bool false)).set_ 1 (.int .i64 0)).set_ 2 (.int .i64 0)).set_ 3 (.int .i64 0)).set_ 4 (.int .i64 0))
    have tb := (((((((((hb.setCell (p := ⟨w.heap.size, 0, none⟩) (by simp) (.bool false)).setCell (p := ⟨w.heap.size, 1, none⟩) (by simp) (.int .i64 0)).setCell (p := ⟨w.heap.size, 2, none⟩) (by simp) (.int .i64 0)).setCell (p := ⟨w.heap.size, 3, none⟩) (by simp) (.int .i64 0)).setCell (p := ⟨w.heap.size + 1, 0, none⟩) (by simp) (.bool false)).setCell (p := ⟨w.heap.size + 1, 1, none⟩) (by simp) (.int .i64 0)).setCell (p := ⟨w.heap.size + 1, 2, none⟩) (by simp) (.int .i64 0)).setCell (p := ⟨w.heap.size + 1, 3, none⟩) (by simp) (.int .i64 0)).setCell (p := ⟨w.heap.size + 1, 4, none⟩) (by simp) (.int .i64 0))
    refine bodyPost_ret (r_results _ _ w.heap.size (w.heap.size + 1) _ _ _ _ _ _ _ _ _ _ rfl rfl rfl tp tq) rfl ?_
    exact .inl ⟨g, rfl, tb⟩
  · by_cases hbig : 315576000000 ≤ n
    · have hp := (Blk.new w 60 #[.bool false, .int .i64 0, .int .i64 0, .int .i64 0]).alloc (.cells #[.bool false, .int .i64 0, .int .i64 0, .int .i64 0, .int .i64 0] 62)
      have hq := Blk.new (w.alloc (.cells #[.bool false, .int .i64 0, .int .i64 0, .int .i64 0] 60)) 62 #[.bool false, .int .i64 0, .int .i64 0, .int .i64 0, .int .i64 0]
      simp only [World.size_alloc] at hq
      have hb := ((Below.refl w.heap.size w).alloc (Nat.le_refl _) (.cells #[.bool false, .int .i64 0, .int .i64 0, .int .i64 0] 60)).alloc (by simp) (.cells #[.bool false, .int .i64 0, .int .i64 0, .int .i64 0, .int .i64 0] 62)
      skip
      have g : inB n 0 315575999999 = false := (inB_no _ _ _).2 (by omega)
      go_enter Try.func41, Try.ntmps41
      go_upto_region 1 with (fail)
      generalize (w.alloc (.cells #[.bool false, .int .i64 0, .int .i64 0, .int .i64 0] 60)).alloc (.cells #[.bool false, .int .i64 0, .int .i64 0, .int .i64 0, .int .i64 0] 62) = W0 at *
      have f0 : (W0).cell? ⟨w.heap.size, 0, none⟩ = some (.bool false) := hp.cell 0
      have f1 : (W0).cell? ⟨w.heap.size, 1, none⟩ = some (.int .i64 0) := hp.cell 1
      have f2 : (W0).cell? ⟨w.heap.size, 2, none⟩ = some (.int .i64 0) := hp.cell 2
      have f3 : (W0).cell? ⟨w.heap.size, 3, none⟩ = some (.int .i64 0) := hp.cell 3
      have zf0 := hp.frozen 0
      have zf1 := hp.frozen 1
      have zf2 := hp.frozen 2
      have zf3 := hp.frozen 3
      have k0 : (W0).cell? ⟨w.heap.size + 1, 0, none⟩ = some (.bool false) := hq.cell 0
      have k1 : (W0).cell? ⟨w.heap.size + 1, 1, none⟩ = some (.int .i64 0) := hq.cell 1
      have k2 : (W0).cell? ⟨w.heap.size + 1, 2, none⟩ = some (.int .i64 0) := hq.cell 2
      have k3 : (W0).cell? ⟨w.heap.size + 1, 3, none⟩ = some (.int .i64 0) := hq.cell 3
      have k4 : (W0).cell? ⟨w.heap.size + 1, 4, none⟩ = some (.int .i64 0) := hq.cell 4
      have zk0 := hq.frozen 0
      have zk1 := hq.frozen 1
      have zk2 := hq.frozen 2
      have zk3 := hq.frozen 3
      have zk4 := hq.frozen 4
      go_wp2_with fail
      have tp := (((((((((hp.set_ 0 (.bool false)).set_ 1 (.int .i64 0)).set_ 2 (.int .i64 0)).set_ 3 (.int .i64 0)).far (p := ⟨w.heap.size + 1, 0, none⟩) (by simp) (.bool false)).far (p := ⟨w.heap.size + 1, 1, none⟩) (by simp) (.int .i64 0)).far (p := ⟨w.heap.size + 1, 2, none⟩) (by simp) (.int .i64 0)).far (p := ⟨w.heap.size + 1, 3, none⟩) (by simp) (.int .i64 0)).far (p := ⟨w.heap.size + 1, 4, none⟩) (by simp) (.int .i64 0))
      have tq := (((((((((hq.far (p := ⟨w.heap.size, 0, none⟩) (by simp) (.bool false)).far (p := ⟨w.heap.size, 1, none⟩) (by simp) (.int .i64 0)).far (p := ⟨w.heap.size, 2, none⟩) (by simp) (.int .i64 0)).far (p := ⟨w.heap.size, 3, none⟩) (by simp) (.int .i64 0)).set_ 0 (.bool false)).set_ 1 (.int .i64 0)).set_ 2 (.int .i64 0)).set_ 3 (.int .i64 0)).set_ 4 (.int .i64 0))
      have tb := (((((((((hb.setCell (p := ⟨w.heap.size, 0, none⟩) (by simp) (.bool false)).setCell (p := ⟨w.heap.size, 1, none⟩) (by simp) (.int .i64 0)).setCell (p := ⟨w.heap.size, 2, none⟩) (by simp) (.int .i64 0)).setCell (p := ⟨w.heap.size, 3, none⟩) (by simp) (.int .i64 0)).setCell (p := ⟨w.heap.size + 1, 0, none⟩) (by simp) (.bool false)).setCell (p := ⟨w.heap.size + 1, 1, none⟩) (by simp) (.int .i64 0)).setCell (p := ⟨w.heap.size + 1, 2, none⟩) (by simp) (.int .i64 0)).setCell (p := ⟨w.heap.size + 1, 3, none⟩) (by simp) (.int .i64 0)).setCell (p := ⟨w.heap.size + 1, 4, none⟩) (by simp) (.int .i64 0))
      refine bodyPost_ret (r_results _ _ w.heap.size (w.heap.size + 1) _ _ _ _ _ _ _ _ _ _ rfl rfl rfl tp tq) rfl ?_
      exact .inl ⟨g, rfl, tb⟩
    · have g : inB n 0 315575999999 = true := (inB_iff _ _ _).2 (by omega)
      have hg0 : 0 ≤ n / 8640000 ∧ n / 8640000 ≤ 36524 := by omega
      have hr0 : 0 ≤ n % 8640000 ∧ n % 8640000 ≤ 8639999 := by omega
      have hn0 : 0 ≤ n := by omega
      have hE : Hid (∀ e w', (∃ d m y, isDay d m y ∧ rankP d m y = n / 8640000 ∧ e = .returned (.tuple #[.agg #[.bool true, .int .i64 d, .int .i64 m, .int .i64 y], restV (n % 8640000), .bool true]) ∧ Below w.heap.size w w') → Dated n w e w') := hid fun e w' h => .inr ⟨g, h⟩
      clear g
      have hp := (Blk.new w 60 #[.bool false, .int .i64 0, .int .i64 0, .int .i64 0]).alloc (.cells #[.bool false, .int .i64 0, .int .i64 0, .int .i64 0, .int .i64 0] 62)
      have hq := Blk.new (w.alloc (.cells #[.bool false, .int .i64 0, .int .i64 0, .int .i64 0] 60)) 62 #[.bool false, .int .i64 0, .int .i64 0, .int .i64 0, .int .i64 0]
      simp only [World.size_alloc] at hq
      have hb := ((Below.refl w.heap.size w).alloc (Nat.le_refl _) (.cells #[.bool false, .int .i64 0, .int .i64 0, .int .i64 0] 60)).alloc (by simp) (.cells #[.bool false, .int .i64 0, .int .i64 0, .int .i64 0, .int .i64 0] 62)
      have hd7 := Blk.new ((w.alloc (.cells #[.bool false, .int .i64 0, .int .i64 0, .int .i64 0] 60)).alloc (.cells #[.bool false, .int .i64 0, .int .i64 0, .int .i64 0, .int .i64 0] 62)) 60 #[.bool true, .int .i64 0, .int .i64 1, .int .i64 2000]
      simp only [World.size_alloc] at hd7
      replace hp := hp.alloc (.cells #[.bool true, .int .i64 0, .int .i64 1, .int .i64 2000] 60)
      replace hq := hq.alloc (.cells #[.bool true, .int .i64 0, .int .i64 1, .int .i64 2000] 60)
      replace hb := hb.alloc hb.size (.cells #[.bool true, .int .i64 0, .int .i64 1, .int .i64 2000] 60)
      generalize hgo : n / 8640000 = gone at *
      generalize hre : n % 8640000 = rest at *
      have HGO := hid hgo
      have HRE := hid hre
      have dq : n.tdiv 8640000 = gone := by rw [Int.tdiv_eq_ediv_of_nonneg hn0]; exact hgo
      have dr : n.tmod 8640000 = rest := by rw [Int.tmod_eq_emod_of_nonneg hn0]; exact hre
      go_enter Try.func41, Try.ntmps41
      go_wp2_with fail
      clear hgo hre dq dr
      generalize ((w.alloc (.cells #[.bool false, .int .i64 0, .int .i64 0, .int .i64 0] 60)).alloc (.cells #[.bool false, .int .i64 0, .int .i64 0, .int .i64 0, .int .i64 0] 62)).alloc (.cells #[.bool true, .int .i64 0, .int .i64 1, .int .i64 2000] 60) = W1 at *
      go_loopw [5] (fun v5 wr => ∃ D k Y : Int, (1 ≤ k ∧ k ≤ 12) ∧ (2000 ≤ Y ∧ Y ≤ 2099) ∧ v5 = .int .i64 D ∧ (0 ≤ D ∧ D ≤ 40000) ∧ Hid (yearsP (Y - 2000) + aheadP k Y + D = gone) ∧ Blk wr (w.heap.size + 1 + 1) 60 #[.bool true, .int .i64 0, .int .i64 k, .int .i64 Y] ∧ Blk wr w.heap.size 60 #[.bool false, .int .i64 0, .int .i64 0, .int .i64 0] ∧ Blk wr (w.heap.size + 1) 62 #[.bool false, .int .i64 0, .int .i64 0, .int .i64 0, .int .i64 0] ∧ Below w.heap.size w wr) (fun v5 _ => (intOf v5).toNat)
      case atStart => exact ⟨gone, 1, 2000, by omega, by omega, rfl, by omega, hid (by rw [ahead_one, show yearsP (2000 - 2000) = 0 from rfl]; omega), hd7, hp, hq, hb⟩
      case round =>
        clear hp hq hb hd7
        obtain ⟨D, k, Y, hk, hY, rfl, hD, hsum, hd7, hp, hq, hb⟩ := hrel
        have HDY := hid fun w => r_Days k Y w (by unfold I64; omega) (by unfold I64; omega)
        have hdk := days_in k Y hk hY
        have hdb := daysP_bd k Y
        have has := ahead_step k Y hk
        have e2 : wr.cell? ⟨w.heap.size + 1 + 1, 2, none⟩ = some (.int .i64 k) := hd7.cell 2
        have e3 : wr.cell? ⟨w.heap.size + 1 + 1, 3, none⟩ = some (.int .i64 Y) := hd7.cell 3
        have z2 := hd7.frozen 2
        have z3 := hd7.frozen 3
        have uk : IntKind.i64.wrap (k + 1) = k + 1 := IntWalk.i64_in _ (by omega)
        have uY : IntKind.i64.wrap (Y + 1) = Y + 1 := IntWalk.i64_in _ (by omega)
        by_cases hc : daysP k Y ≤ D
        · have dc : decide (daysP k Y ≤ D) = true := by simpa using hc
          have hpos : 28 ≤ daysP k Y := by omega
          have mD : (D - daysP k Y).toNat < D.toNat := by omega
          have hs2 : Hid (yearsP (Y - 2000) + aheadP (k + 1) Y + (D - daysP k Y) = gone) := hid (by have := hsum.out; omega)
          have uD : IntKind.i64.wrap (D - daysP k Y) = D - daysP k Y := IntWalk.i64_in _ (by omega)
          clear hdk has hsum
          generalize daysP k Y = N at *
          by_cases hk12 : k + 1 ≤ 12
          · have dk : decide (12 < k + 1) = false := by simp; omega
            go_wp2_with fail
            refine (HDY.out _).mono ?_
            rintro e w' ⟨rfl, rfl⟩
            go_wp2_with fail
            refine (HDY.out _).mono ?_
            rintro e w' ⟨rfl, rfl⟩
            go_wp2_with fail
            have td := hd7.set_ 2 (.int .i64 (k + 1))
            go_roundw
            case rel => exact ⟨D - N, k + 1, Y, by omega, hY, rfl, by omega, hs2, td, hp.far (by dsimp only; omega) _, hq.far (by dsimp only; omega) _, hb.setCell (by dsimp only; omega) _⟩
            case measure => simpa [intOf] using mD
          · obtain rfl : k = 12 := by omega
            have hys := years_step' Y hY.1
            have hs3 : Hid (yearsP (Y + 1 - 2000) + aheadP 1 (Y + 1) + (D - N) = gone) := hid (by have h7 := hs2.out; rw [show (12 : Int) + 1 = 13 from rfl] at h7; rw [ahead_one, hys]; omega)
            have hY9 : Y + 1 ≤ 2099 := by
              apply Int.not_lt.mp; intro h
              have h5 : yearsP (Y + 1 - 2000) = 36525 := by rw [show Y + 1 - 2000 = 100 by omega]; rfl
              have h6 := hs3.out
              rw [h5, ahead_one] at h6
              omega
            clear hys
            go_wp2_with fail
            refine (HDY.out _).mono ?_
            rintro e w' ⟨rfl, rfl⟩
            go_wp2_with fail
            refine (HDY.out _).mono ?_
            rintro e w' ⟨rfl, rfl⟩
            go_wp2_with fail
            have td := ((hd7.set_ 2 (.int .i64 13)).set_ 2 (.int .i64 1)).set_ 3 (.int .i64 (Y + 1))
            go_roundw
            case rel => exact ⟨D - N, 1, Y + 1, by omega, by omega, rfl, by omega, hs3, td, ((hp.far (by dsimp only; omega) _).far (by dsimp only; omega) _).far (by dsimp only; omega) _, ((hq.far (by dsimp only; omega) _).far (by dsimp only; omega) _).far (by dsimp only; omega) _, ((hb.setCell (by dsimp only; omega) _).setCell (by dsimp only; omega) _).setCell (by dsimp only; omega) _⟩
            case measure => simpa [intOf] using mD
        · have dc : decide (daysP k Y ≤ D) = false := by simpa using hc
          have hday : isDay (D + 1) k Y ∧ rankP (D + 1) k Y = gone := by
            have h6 := hsum.out
            refine ⟨⟨hY, hk, by omega, by omega⟩, ?_⟩
            unfold rankP
            omega
          have HDAY := hid hday
          clear hday hdk hsum has
          generalize daysP k Y = N at *
          have u1 : IntKind.i64.wrap (D + 1) = D + 1 := IntWalk.i64_in _ (by omega)
          have e1 : wr.cell? ⟨w.heap.size + 1 + 1, 1, none⟩ = some (.int .i64 0) := hd7.cell 1
          have z1 := hd7.frozen 1
          go_wp2_with fail
          refine (HDY.out _).mono ?_
          rintro e w' ⟨rfl, rfl⟩
          go_upto_region 13 with (fail)
          replace hd7 := hd7.set_ 1 (.int .i64 (D + 1))
          replace hp := hp.far (p := ⟨w.heap.size + 1 + 1, 1, none⟩) (by dsimp only; omega) (.int .i64 (D + 1))
          replace hq := hq.far (p := ⟨w.heap.size + 1 + 1, 1, none⟩) (by dsimp only; omega) (.int .i64 (D + 1))
          replace hb := hb.setCell (p := ⟨w.heap.size + 1 + 1, 1, none⟩) (by dsimp only; omega) (.int .i64 (D + 1))
          clear e1 e2 e3 z1 z2 z3 u1 uk uY
          generalize wr.setCell ⟨w.heap.size + 1 + 1, 1, none⟩ (.int .i64 (D + 1)) = V3 at *
          generalize D + 1 = D1 at *
          have e0 : V3.cell? ⟨w.heap.size + 1 + 1, 0, none⟩ = some (.bool true) := hd7.cell 0
          have e1 : V3.cell? ⟨w.heap.size + 1 + 1, 1, none⟩ = some (.int .i64 D1) := hd7.cell 1
          have e2 : V3.cell? ⟨w.heap.size + 1 + 1, 2, none⟩ = some (.int .i64 k) := hd7.cell 2
          have e3 : V3.cell? ⟨w.heap.size + 1 + 1, 3, none⟩ = some (.int .i64 Y) := hd7.cell 3
          have HRV : Hid (restV rest = .agg #[.bool true, .int .i64 (rest / 360000), .int .i64 (rest / 6000 % 60), .int .i64 (rest / 100 % 60), .int .i64 (rest % 100)]) := hid (by
            unfold restV
            rw [show rest % 360000 / 6000 = rest / 6000 % 60 by omega, show rest % 6000 / 100 = rest / 100 % 60 by omega])
          have f0 : (V3).cell? ⟨w.heap.size, 0, none⟩ = some (.bool false) := hp.cell 0
          have f1 : (V3).cell? ⟨w.heap.size, 1, none⟩ = some (.int .i64 0) := hp.cell 1
          have f2 : (V3).cell? ⟨w.heap.size, 2, none⟩ = some (.int .i64 0) := hp.cell 2
          have f3 : (V3).cell? ⟨w.heap.size, 3, none⟩ = some (.int .i64 0) := hp.cell 3
          have zf0 := hp.frozen 0
          have zf1 := hp.frozen 1
          have zf2 := hp.frozen 2
          have zf3 := hp.frozen 3
          have k0 : (V3).cell? ⟨w.heap.size + 1, 0, none⟩ = some (.bool false) := hq.cell 0
          have k1 : (V3).cell? ⟨w.heap.size + 1, 1, none⟩ = some (.int .i64 0) := hq.cell 1
          have k2 : (V3).cell? ⟨w.heap.size + 1, 2, none⟩ = some (.int .i64 0) := hq.cell 2
          have k3 : (V3).cell? ⟨w.heap.size + 1, 3, none⟩ = some (.int .i64 0) := hq.cell 3
          have k4 : (V3).cell? ⟨w.heap.size + 1, 4, none⟩ = some (.int .i64 0) := hq.cell 4
          have zk0 := hq.frozen 0
          have zk1 := hq.frozen 1
          have zk2 := hq.frozen 2
          have zk3 := hq.frozen 3
          have zk4 := hq.frozen 4
          go_wp2_with fail
          have tp := (((((((((hp.set_ 0 (.bool true)).set_ 1 (.int .i64 D1)).set_ 2 (.int .i64 k)).set_ 3 (.int .i64 Y)).far (p := ⟨w.heap.size + 1, 0, none⟩) (by simp) (.bool true)).far (p := ⟨w.heap.size + 1, 1, none⟩) (by simp) (.int .i64 (rest / 360000))).far (p := ⟨w.heap.size + 1, 2, none⟩) (by simp) (.int .i64 (rest / 6000 % 60))).far (p := ⟨w.heap.size + 1, 3, none⟩) (by simp) (.int .i64 (rest / 100 % 60))).far (p := ⟨w.heap.size + 1, 4, none⟩) (by simp) (.int .i64 (rest % 100)))
          have tq := (((((((((hq.far (p := ⟨w.heap.size, 0, none⟩) (by simp) (.bool true)).far (p := ⟨w.heap.size, 1, none⟩) (by simp) (.int .i64 D1)).far (p := ⟨w.heap.size, 2, none⟩) (by simp) (.int .i64 k)).far (p := ⟨w.heap.size, 3, none⟩) (by simp) (.int .i64 Y)).set_ 0 (.bool true)).set_ 1 (.int .i64 (rest / 360000))).set_ 2 (.int .i64 (rest / 6000 % 60))).set_ 3 (.int .i64 (rest / 100 % 60))).set_ 4 (.int .i64 (rest % 100)))
          have tb := (((((((((hb.setCell (p := ⟨w.heap.size, 0, none⟩) (by simp) (.bool true)).setCell (p := ⟨w.heap.size, 1, none⟩) (by simp) (.int .i64 D1)).setCell (p := ⟨w.heap.size, 2, none⟩) (by simp) (.int .i64 k)).setCell (p := ⟨w.heap.size, 3, none⟩) (by simp) (.int .i64 Y)).setCell (p := ⟨w.heap.size + 1, 0, none⟩) (by simp) (.bool true)).setCell (p := ⟨w.heap.size + 1, 1, none⟩) (by simp) (.int .i64 (rest / 360000))).setCell (p := ⟨w.heap.size + 1, 2, none⟩) (by simp) (.int .i64 (rest / 6000 % 60))).setCell (p := ⟨w.heap.size + 1, 3, none⟩) (by simp) (.int .i64 (rest / 100 % 60))).setCell (p := ⟨w.heap.size + 1, 4, none⟩) (by simp) (.int .i64 (rest % 100)))
          refine bodyPost_ret (r_results _ _ w.heap.size (w.heap.size + 1) _ _ _ _ _ _ _ _ _ _ rfl rfl rfl tp tq) rfl ?_
          exact hE.out _ _ ⟨D1, k, Y, HDAY.out.1, HDAY.out.2, by rw [HRV.out]; rfl, tb⟩
end Go.Proofs.Ytbhfidneijogfaa
