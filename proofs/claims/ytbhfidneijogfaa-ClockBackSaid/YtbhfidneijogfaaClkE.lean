/- Chapter 24: Of. -/
import Derived.Test.YtbhfidneijogfaaClkD
import Derived.Deep.CutRange
namespace Go.Proofs.Ytbhfidneijogfaa
open Go.RowKit
set_option linter.unusedVariables false
set_option linter.unusedSimpArgs false
attribute [local go_sem] Oper.semAt_some

def intAt (v : Option Value) : Int := match v with | some (.int _ i) => i | _ => 0
def left2 (g : Nat) (w : World) : Nat := (20 - intAt (w.cell? ⟨g, 2, none⟩)).toNat
theorem left2_is {g : Nat} {w : World} {t : TypeId} {a b y : Value} {k : Int} (h : Blk w g t #[a, b, .int .i64 k, y]) : left2 g w = (20 - k).toNat := by
  have c2 : w.cell? ⟨g, 2, none⟩ = some (.int .i64 k) := h.cell 2
  unfold left2
  rw [c2]
  rfl
def restV (r : Int) : Value := .agg #[.bool true, .int .i64 (r / 360000), .int .i64 (r % 360000 / 6000), .int .i64 (r % 6000 / 100), .int .i64 (r % 100)]
def Dated (n : Int) (w : World) (e : Ending) (w' : World) : Prop :=
  (inB n 0 315575999999 = false ∧ e = .returned (.tuple #[.agg #[.bool false, .int .i64 0, .int .i64 0, .int .i64 0], .agg #[.bool false, .int .i64 0, .int .i64 0, .int .i64 0, .int .i64 0], .bool false]) ∧ Below w.heap.size w w') ∨
  (inB n 0 315575999999 = true ∧ ∃ d m y, isDay d m y ∧ rankP d m y = n / 8640000 ∧ e = .returned (.tuple #[.agg #[.bool true, .int .i64 d, .int .i64 m, .int .i64 y], restV (n % 8640000), .bool true]) ∧ Below w.heap.size w w')
theorem c_results (w : World) (tmps : Array Value) (g h : Nat) (a0 a1 a2 a3 b0 b1 b2 b3 b4 v : Value) (h2 : tmps.getD 2 undef = .pointer (some ⟨g, 0, none⟩)) (h3 : tmps.getD 3 undef = .pointer (some ⟨h, 0, none⟩)) (h4 : tmps.getD 4 undef = v)
    (hg : Blk w g 60 #[a0, a1, a2, a3]) (hh : Blk w h 62 #[b0, b1, b2, b3, b4]) : (results Try.f40 tmps).run Try.prog w = .ok (.tuple #[.agg #[a0, a1, a2, a3], .agg #[b0, b1, b2, b3, b4], v]) w := by
  have f0 := hg.cell 0
  have f1 := hg.cell 1
  have f2 := hg.cell 2
  have f3 := hg.cell 3
  have k0 := hh.cell 0
  have k1 := hh.cell 1
  have k2 := hh.cell 2
  have k3 := hh.cell 3
  have k4 := hh.cell 4
  simp at f0 f1 f2 f3 k0 k1 k2 k3 k4
  simp at h2 h3 h4
  simp only [results, Try.f40]
  simp [h2, h3, h4]
  go_simp
theorem r_results (w : World) (tmps : Array Value) (g h : Nat) (a0 a1 a2 a3 b0 b1 b2 b3 b4 v : Value) (h2 : tmps.getD 2 undef = .pointer (some ⟨g, 0, none⟩)) (h3 : tmps.getD 3 undef = .pointer (some ⟨h, 0, none⟩)) (h4 : tmps.getD 4 undef = v)
    (hg : Blk w g 60 #[a0, a1, a2, a3]) (hh : Blk w h 62 #[b0, b1, b2, b3, b4]) : (results Try.f41 tmps).run Try.prog w = .ok (.tuple #[.agg #[a0, a1, a2, a3], .agg #[b0, b1, b2, b3, b4], v]) w := by
  have f0 := hg.cell 0
  have f1 := hg.cell 1
  have f2 := hg.cell 2
  have f3 := hg.cell 3
  have k0 := hh.cell 0
  have k1 := hh.cell 1
  have k2 := hh.cell 2
  have k3 := hh.cell 3
  have k4 := hh.cell 4
  simp at f0 f1 f2 f3 k0 k1 k2 k3 k4
  simp at h2 h3 h4
  simp only [results, Try.f41]
  simp [h2, h3, h4]
  go_simp
set_option maxRecDepth 20000 in
set_option maxHeartbeats 8000000 in
theorem c_Of (n : Int) (w : World) (hn : I64 n) : Calls Try.prog 40 #[.int .i64 n] w (Dated n w) := by
  cases g : inB n 0 315575999999
  · have hp := (Blk.new w 60 #[.bool false, .int .i64 0, .int .i64 0, .int .i64 0]).alloc (.cells #[.bool false, .int .i64 0, .int .i64 0, .int .i64 0, .int .i64 0] 62)
    have hq := Blk.new (w.alloc (.cells #[.bool false, .int .i64 0, .int .i64 0, .int .i64 0] 60)) 62 #[.bool false, .int .i64 0, .int .i64 0, .int .i64 0, .int .i64 0]
    simp only [World.size_alloc] at hq
    have hb := ((Below.refl w.heap.size w).alloc (Nat.le_refl _) (.cells #[.bool false, .int .i64 0, .int .i64 0, .int .i64 0] 60)).alloc (by simp) (.cells #[.bool false, .int .i64 0, .int .i64 0, .int .i64 0, .int .i64 0] 62)
    go_enter Try.func40, Try.ntmps40
    go_wp2_with fail
    generalize hW : (w.alloc (.cells #[.bool false, .int .i64 0, .int .i64 0, .int .i64 0] 60)).alloc (.cells #[.bool false, .int .i64 0, .int .i64 0, .int .i64 0, .int .i64 0] 62) = W0 at *
    refine (c_in _ _ _ _).mono ?_
    rintro e w' ⟨rfl, rfl⟩
    rw [g]
    have f0 : (W0).cell? ⟨w.heap.size, 0, none⟩ = some (.bool false) := hp.cell 0
    have f1 : (W0).cell? ⟨w.heap.size, 1, none⟩ = some (.int .i64 0) := hp.cell 1
    have f2 : (W0).cell? ⟨w.heap.size, 2, none⟩ = some (.int .i64 0) := hp.cell 2
    have f3 : (W0).cell? ⟨w.heap.size, 3, none⟩ = some (.int .i64 0) := hp.cell 3
    have zf0 := hp.frozen 0
    have zf1 := hp.frozen 1
    have zf2 := hp.frozen 2
    have zf3 := hp.frozen 3
    have k0 : (W0).cell? ⟨w.heap.size + 1, 0, none⟩ = some (.bool false) := hq.cell 0
    have k1 : (W0).cell? ⟨w.heap.size + 1, 1, none⟩ = some (.int .i64 0) := hq.cell 1
    have k2 : (W0).cell? ⟨w.heap.size + 1, 2, none⟩ = some (.int .i64 0) := hq.cell 2
    have k3 : (W0).cell? ⟨w.heap.size + 1, 3, none⟩ = some (.int .i64 0) := hq.cell 3
    have k4 : (W0).cell? ⟨w.heap.size + 1, 4, none⟩ = some (.int .i64 0) := hq.cell 4
    have zk0 := hq.frozen 0
    have zk1 := hq.frozen 1
    have zk2 := hq.frozen 2
    have zk3 := hq.frozen 3
    have zk4 := hq.frozen 4
    go_wp2_with fail
    have tp := (((((((((hp.set_ 0 (.bool false)).set_ 1 (.int .i64 0)).set_ 2 (.int .i64 0)).set_ 3 (.int .i64 0)).far (p := ⟨w.heap.size + 1, 0, none⟩) (by simp) (.bool false)).far (p := ⟨w.heap.size + 1, 1, none⟩) (by simp) (.int .i64 0)).far (p := ⟨w.heap.size + 1, 2, none⟩) (by simp) (.int .i64 0)).far (p := ⟨w.heap.size + 1, 3, none⟩) (by simp) (.int .i64 0)).far (p := ⟨w.heap.size + 1, 4, none⟩) (by simp) (.int .i64 0))
    have tq := (((((((((hq.far (p := ⟨w.heap.size, 0, none⟩) (by simp) (.bool false)).far (p := ⟨w.heap.size, 1, none⟩) (by simp) (.int .i64 0)).far (p := ⟨w.heap.size, 2, none⟩) (by simp) (.int .i64 0)).far (p := ⟨w.heap.size, 3, none⟩) (by simp) (.int .i64 0)).set_ 0 (.bool false)).set_ 1 (.int .i64 0)).set_ 2 (.int .i64 0)).set_ 3 (.int .i64 0)).set_ 4 (.int .i64 0))
    have tb := (((((((((hb.setCell (p := ⟨w.heap.size, 0, none⟩) (by simp) (.bool false)).setCell (p := ⟨w.heap.size, 1, none⟩) (by simp) (.int .i64 0)).setCell (p := ⟨w.heap.size, 2, none⟩) (by simp) (.int .i64 0)).setCell (p := ⟨w.heap.size, 3, none⟩) (by simp) (.int .i64 0)).setCell (p := ⟨w.heap.size + 1, 0, none⟩) (by simp) (.bool false)).setCell (p := ⟨w.heap.size + 1, 1, none⟩) (by simp) (.int .i64 0)).setCell (p := ⟨w.heap.size + 1, 2, none⟩) (by simp) (.int .i64 0)).setCell (p := ⟨w.heap.size + 1, 3, none⟩) (by simp) (.int .i64 0)).setCell (p := ⟨w.heap.size + 1, 4, none⟩) (by simp) (.int .i64 0))
    refine bodyPost_ret (c_results _ _ w.heap.size (w.heap.size + 1) _ _ _ _ _ _ _ _ _ _ rfl rfl rfl tp tq) rfl ?_
    exact .inl ⟨g, rfl, tb⟩
  · have hbd := (inB_iff n 0 315575999999).1 g
    have hg0 : 0 ≤ n / 8640000 ∧ n / 8640000 ≤ 36524 := by omega
    have hr0 : 0 ≤ n % 8640000 ∧ n % 8640000 ≤ 8639999 := by omega
    have HG := hid g
    have hn0 : 0 ≤ n := hbd.1
    have hE : Hid (∀ e w', (∃ d m y, isDay d m y ∧ rankP d m y = n / 8640000 ∧ e = .returned (.tuple #[.agg #[.bool true, .int .i64 d, .int .i64 m, .int .i64 y], restV (n % 8640000), .bool true]) ∧ Below w.heap.size w w') → Dated n w e w') := hid fun e w' h => .inr ⟨g, h⟩
    have hp := (Blk.new w 60 #[.bool false, .int .i64 0, .int .i64 0, .int .i64 0]).alloc (.cells #[.bool false, .int .i64 0, .int .i64 0, .int .i64 0, .int .i64 0] 62)
    have hq := Blk.new (w.alloc (.cells #[.bool false, .int .i64 0, .int .i64 0, .int .i64 0] 60)) 62 #[.bool false, .int .i64 0, .int .i64 0, .int .i64 0, .int .i64 0]
    simp only [World.size_alloc] at hq
    have hb := ((Below.refl w.heap.size w).alloc (Nat.le_refl _) (.cells #[.bool false, .int .i64 0, .int .i64 0, .int .i64 0] 60)).alloc (by simp) (.cells #[.bool false, .int .i64 0, .int .i64 0, .int .i64 0, .int .i64 0] 62)
    go_enter Try.func40, Try.ntmps40
    go_wp2_with fail
    generalize (w.alloc (.cells #[.bool false, .int .i64 0, .int .i64 0, .int .i64 0] 60)).alloc (.cells #[.bool false, .int .i64 0, .int .i64 0, .int .i64 0, .int .i64 0] 62) = W0 at *
    refine (c_in _ _ _ _).mono ?_
    rintro e w' ⟨rfl, rfl⟩
    rw [g]
    clear g hbd
    generalize hgo : n / 8640000 = gone at *
    generalize hre : n % 8640000 = rest at *
    have HGO := hid hgo
    have HRE := hid hre
    have dq : n.tdiv 8640000 = gone := by rw [Int.tdiv_eq_ediv_of_nonneg hn0]; exact hgo
    have dr : n.tmod 8640000 = rest := by rw [Int.tmod_eq_emod_of_nonneg hn0]; exact hre
    go_wp2_with fail
    clear hgo hre dq dr
    go_loop [7] (fun vy => ∃ t : Int, (0 ≤ t ∧ t ≤ 99) ∧ vy = .int .i64 t ∧ yearsP t ≤ gone) (fun vy => (100 - intOf vy).toNat)
    case atStart => exact ⟨0, by omega, rfl, by show (0 : Int) ≤ gone; omega⟩
    case round =>
      obtain ⟨t, ht, rfl, hyl⟩ := hrel
      have HY1 := hid fun w => c_years (t + 1) w (by omega)
      have hs := years_step t ht.1
      have hlp := leapP_bd (2000 + t)
      have hyt : 0 ≤ yearsP t := by unfold yearsP; omega
      have ut : IntKind.i64.wrap (t + 1) = t + 1 := IntWalk.i64_in _ (by omega)
      have mt : (100 - (t + 1)).toNat < (100 - t).toNat := by omega
      by_cases hc : yearsP (t + 1) ≤ gone
      · have ht98 : t + 1 ≤ 99 := by
          apply Int.not_lt.mp; intro h
          have h5 : yearsP (t + 1) = 36525 := by rw [show t + 1 = 100 by omega]; rfl
          omega
        have dc : decide (yearsP (t + 1) ≤ gone) = true := by simpa using hc
        clear hs
        go_wp2_with fail
        refine (HY1.out _).mono ?_
        rintro e w' ⟨rfl, rfl⟩
        go_wp2_with fail
        go_round
        case rel => exact ⟨t + 1, by omega, rfl, hc⟩
        case measure => simpa [intOf] using mt
      · have dc : decide (yearsP (t + 1) ≤ gone) = false := by simpa using hc
        have HY0 := hid fun w => c_years t w (by omega)
        have HYS : Hid (gone < yearsP (t + 1) ∧ yearsP (2000 + t + 1 - 2000) = yearsP t + aheadP 13 (2000 + t) ∧ yearsP (2000 + t - 2000) = yearsP t) := hid ⟨by omega, by rw [years_step' _ (by omega), show 2000 + t - 2000 = t by omega], by rw [show 2000 + t - 2000 = t by omega]⟩
        have hgb : gone - yearsP t < 365 + leapP (2000 + t) := by omega
        have hgb0 : 0 ≤ gone - yearsP t := by omega
        clear hs hc
        go_wp2_with fail
        refine (HY1.out _).mono ?_
        rintro e w' ⟨rfl, rfl⟩
        have u20 : IntKind.i64.wrap (2000 + t) = 2000 + t := IntWalk.i64_in _ (by omega)
        have hyr : 2000 ≤ 2000 + t ∧ 2000 + t ≤ 2099 := by omega
        have hd8 := Blk.new W0 60 #[.bool true, .int .i64 0, .int .i64 1, .int .i64 (2000 + t)]
        have hs0 := hq.lt
        replace hp := hp.alloc (.cells #[.bool true, .int .i64 0, .int .i64 1, .int .i64 (2000 + t)] 60)
        replace hq := hq.alloc (.cells #[.bool true, .int .i64 0, .int .i64 1, .int .i64 (2000 + t)] 60)
        replace hb := hb.alloc hb.size (.cells #[.bool true, .int .i64 0, .int .i64 1, .int .i64 (2000 + t)] 60)
        go_wp2_with fail
        generalize W0.alloc (.cells #[.bool true, .int .i64 0, .int .i64 1, .int .i64 (2000 + t)] 60) = W8 at *
        generalize W0.heap.size = g8 at *
        refine (HY0.out _).mono ?_
        rintro e w' ⟨rfl, rfl⟩
        have uG : IntKind.i64.wrap (gone - yearsP t) = gone - yearsP t := IntWalk.i64_in _ (by omega)
        generalize yearsP (t + 1) = Y1 at *
        generalize 2000 + t = Y at *
        go_wp2_with fail
        clear uG u20
        generalize hGG : gone - yearsP t = G at *
        have HGG := hid hGG
        clear hGG
        go_loopw [] (fun wr => ∃ k : Int, (1 ≤ k ∧ k ≤ 12) ∧ aheadP k Y ≤ G ∧ Blk wr g8 60 #[.bool true, .int .i64 0, .int .i64 k, .int .i64 Y] ∧ Blk wr w.heap.size 60 #[.bool false, .int .i64 0, .int .i64 0, .int .i64 0] ∧ Blk wr (w.heap.size + 1) 62 #[.bool false, .int .i64 0, .int .i64 0, .int .i64 0, .int .i64 0] ∧ Below w.heap.size w wr) (fun wr => left2 g8 wr)
        case atStart => exact ⟨1, by omega, by rw [ahead_one]; omega, hd8, hp, hq, hb⟩
        case round =>
          clear hp hq hb hd8
          obtain ⟨k, hk, hkG, hd8, hp, hq, hb⟩ := hrel
          have HA1 := hid fun w => c_ahead (k + 1) Y w (by omega) (by omega)
          have HA0 := hid fun w => c_ahead k Y w (by omega) (by omega)
          have hab := aheadP_bd k Y
          have hab1 := aheadP_bd (k + 1) Y
          have uk : IntKind.i64.wrap (k + 1) = k + 1 := IntWalk.i64_in _ (by omega)
          have HL := hid (left2_is hd8)
          have e2 : wr.cell? ⟨g8, 2, none⟩ = some (.int .i64 k) := hd8.cell 2
          have e3 : wr.cell? ⟨g8, 3, none⟩ = some (.int .i64 Y) := hd8.cell 3
          have hdk := days_in k Y hk hyr
          by_cases hc : aheadP (k + 1) Y ≤ G
          · have hk12 : k + 1 ≤ 12 := by
              apply Int.not_lt.mp; intro h
              have h5 : aheadP (k + 1) Y = 365 + leapP Y := by rw [show k + 1 = 13 by omega]; exact ahead_13 Y
              omega
            have dc : decide (aheadP (k + 1) Y ≤ G) = true := by simpa using hc
            have HC := hid hc
            clear hdk
            obtain ⟨A1, hA1⟩ : ∃ A1, aheadP (k + 1) Y = A1 := ⟨_, rfl⟩
            rw [hA1] at HA1 hab1 dc
            clear hA1 hc
            go_wp2_with fail
            refine (HA1.out _).mono ?_
            rintro e V ⟨rfl, b1⟩
            replace hp := hp.below b1 hp.lt
            replace hq := hq.below b1 hq.lt
            replace hd8 := hd8.below b1 hd8.lt
            replace hb := hb.trans (b1.mono hb.size)
            clear e2 e3 b1
            have e2 : V.cell? ⟨g8, 2, none⟩ = some (.int .i64 k) := hd8.cell 2
            have z2 := hd8.frozen 2
            go_wp2_with fail
            have td := hd8.set_ 2 (.int .i64 (k + 1))
            go_roundw
            case rel => exact ⟨k + 1, by omega, HC.out, td, hp.far (by dsimp only; omega) _, hq.far (by dsimp only; omega) _, hb.setCell (by dsimp only; omega) _⟩
            case measure => rw [HL.out, left2_is td]; omega
          · have dc : decide (aheadP (k + 1) Y ≤ G) = false := by simpa using hc
            have hday : isDay (G - aheadP k Y + 1) k Y ∧ rankP (G - aheadP k Y + 1) k Y = gone := by
              have h6 := HYS.out
              have h7 := HGG.out
              refine ⟨⟨hyr, hk, by omega, by rw [hdk]; omega⟩, ?_⟩
              unfold rankP
              rw [h6.2.2]
              omega
            have HDAY := hid hday
            clear hday hdk HYS HGG
            generalize aheadP (k + 1) Y = A1 at *
            generalize aheadP k Y = A0 at *
            have u1 : IntKind.i64.wrap (G - A0) = G - A0 := IntWalk.i64_in _ (by omega)
            have u2 : IntKind.i64.wrap (G - A0 + 1) = G - A0 + 1 := IntWalk.i64_in _ (by omega)
            go_wp2_with fail
            refine (HA1.out _).mono ?_
            rintro e V ⟨rfl, b1⟩
            replace hp := hp.below b1 hp.lt
            replace hq := hq.below b1 hq.lt
            replace hd8 := hd8.below b1 hd8.lt
            replace hb := hb.trans (b1.mono hb.size)
            clear e2 e3 b1
            have e2 : V.cell? ⟨g8, 2, none⟩ = some (.int .i64 k) := hd8.cell 2
            have e3 : V.cell? ⟨g8, 3, none⟩ = some (.int .i64 Y) := hd8.cell 3
            go_wp2_with fail
            refine (HA0.out _).mono ?_
            rintro e V2 ⟨rfl, b2⟩
            replace hp := hp.below b2 hp.lt
            replace hq := hq.below b2 hq.lt
            replace hd8 := hd8.below b2 hd8.lt
            replace hb := hb.trans (b2.mono hb.size)
            clear e2 e3 b2
            have e1 : V2.cell? ⟨g8, 1, none⟩ = some (.int .i64 0) := hd8.cell 1
            have z1 := hd8.frozen 1
            go_upto_region 12 with (fail)
            replace hd8 := hd8.set_ 1 (.int .i64 (G - A0 + 1))
            replace hp := hp.far (p := ⟨g8, 1, none⟩) (by dsimp only; omega) (.int .i64 (G - A0 + 1))
            replace hq := hq.far (p := ⟨g8, 1, none⟩) (by dsimp only; omega) (.int .i64 (G - A0 + 1))
            replace hb := hb.setCell (p := ⟨g8, 1, none⟩) (by dsimp only; omega) (.int .i64 (G - A0 + 1))
            clear e1 z1 u1 u2
            generalize V2.setCell ⟨g8, 1, none⟩ (.int .i64 (G - A0 + 1)) = V3 at *
            generalize G - A0 + 1 = D at *
            have e0 : V3.cell? ⟨g8, 0, none⟩ = some (.bool true) := hd8.cell 0
            have e1 : V3.cell? ⟨g8, 1, none⟩ = some (.int .i64 D) := hd8.cell 1
            have e2 : V3.cell? ⟨g8, 2, none⟩ = some (.int .i64 k) := hd8.cell 2
            have e3 : V3.cell? ⟨g8, 3, none⟩ = some (.int .i64 Y) := hd8.cell 3
            have f0 : (V3).cell? ⟨w.heap.size, 0, none⟩ = some (.bool false) := hp.cell 0
            have f1 : (V3).cell? ⟨w.heap.size, 1, none⟩ = some (.int .i64 0) := hp.cell 1
            have f2 : (V3).cell? ⟨w.heap.size, 2, none⟩ = some (.int .i64 0) := hp.cell 2
            have f3 : (V3).cell? ⟨w.heap.size, 3, none⟩ = some (.int .i64 0) := hp.cell 3
            have zf0 := hp.frozen 0
            have zf1 := hp.frozen 1
            have zf2 := hp.frozen 2
            have zf3 := hp.frozen 3
            have k0 : (V3).cell? ⟨w.heap.size + 1, 0, none⟩ = some (.bool false) := hq.cell 0
            have k1 : (V3).cell? ⟨w.heap.size + 1, 1, none⟩ = some (.int .i64 0) := hq.cell 1
            have k2 : (V3).cell? ⟨w.heap.size + 1, 2, none⟩ = some (.int .i64 0) := hq.cell 2
            have k3 : (V3).cell? ⟨w.heap.size + 1, 3, none⟩ = some (.int .i64 0) := hq.cell 3
            have k4 : (V3).cell? ⟨w.heap.size + 1, 4, none⟩ = some (.int .i64 0) := hq.cell 4
            have zk0 := hq.frozen 0
            have zk1 := hq.frozen 1
            have zk2 := hq.frozen 2
            have zk3 := hq.frozen 3
            have zk4 := hq.frozen 4
            go_wp2_with fail
            have tp := (((((((((hp.set_ 0 (.bool true)).set_ 1 (.int .i64 D)).set_ 2 (.int .i64 k)).set_ 3 (.int .i64 Y)).far (p := ⟨w.heap.size + 1, 0, none⟩) (by simp) (.bool true)).far (p := ⟨w.heap.size + 1, 1, none⟩) (by simp) (.int .i64 (rest / 360000))).far (p := ⟨w.heap.size + 1, 2, none⟩) (by simp) (.int .i64 (rest % 360000 / 6000))).far (p := ⟨w.heap.size + 1, 3, none⟩) (by simp) (.int .i64 (rest % 6000 / 100))).far (p := ⟨w.heap.size + 1, 4, none⟩) (by simp) (.int .i64 (rest % 100)))
            have tq := (((((((((hq.far (p := ⟨w.heap.size, 0, none⟩) (by simp) (.bool true)).far (p := ⟨w.heap.size, 1, none⟩) (by simp) (.int .i64 D)).far (p := ⟨w.heap.size, 2, none⟩) (by simp) (.int .i64 k)).far (p := ⟨w.heap.size, 3, none⟩) (by simp) (.int .i64 Y)).set_ 0 (.bool true)).set_ 1 (.int .i64 (rest / 360000))).set_ 2 (.int .i64 (rest % 360000 / 6000))).set_ 3 (.int .i64 (rest % 6000 / 100))).set_ 4 (.int .i64 (rest % 100)))
            have tb := (((((((((hb.setCell (p := ⟨w.heap.size, 0, none⟩) (by simp) (.bool true)).setCell (p := ⟨w.heap.size, 1, none⟩) (by simp) (.int .i64 D)).setCell (p := ⟨w.heap.size, 2, none⟩) (by simp) (.int .i64 k)).setCell (p := ⟨w.heap.size, 3, none⟩) (by simp) (.int .i64 Y)).setCell (p := ⟨w.heap.size + 1, 0, none⟩) (by simp) (.bool true)).setCell (p := ⟨w.heap.size + 1, 1, none⟩) (by simp) (.int .i64 (rest / 360000))).setCell (p := ⟨w.heap.size + 1, 2, none⟩) (by simp) (.int .i64 (rest % 360000 / 6000))).setCell (p := ⟨w.heap.size + 1, 3, none⟩) (by simp) (.int .i64 (rest % 6000 / 100))).setCell (p := ⟨w.heap.size + 1, 4, none⟩) (by simp) (.int .i64 (rest % 100)))
            refine bodyPost_ret (c_results _ _ w.heap.size (w.heap.size + 1) _ _ _ _ _ _ _ _ _ _ rfl rfl rfl tp tq) rfl ?_
            exact hE.out _ _ ⟨D, k, Y, HDAY.out.1, HDAY.out.2, rfl, tb⟩
end Go.Proofs.Ytbhfidneijogfaa
