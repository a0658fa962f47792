/- Chapter 24: the days of a month; may a time, may a date be. -/
import Derived.Test.YtbhfidneijogfaaClk
namespace Go.Proofs.Ytbhfidneijogfaa
open Go.RowKit
set_option linter.unusedVariables false
set_option linter.unusedSimpArgs false
attribute [local go_sem] Oper.semAt_some

theorem daysP_bd (m y : Int) : 0 ≤ daysP m y ∧ daysP m y ≤ 31 := by
  unfold daysP
  split
  · rename_i h
    have h1 := (inB_iff m 1 12).1 h.1
    have hl := leapP_bd y
    obtain ⟨j, rfl⟩ : ∃ j : Nat, m = (j : Int) + 1 := ⟨(m - 1).toNat, by omega⟩
    have hk : ∀ j : Nat, j < 12 → cumP j + 28 ≤ cumP (j + 1) ∧ cumP (j + 1) ≤ cumP j + 31 ∧ (j = 1 → cumP (j + 1) = cumP j + 28) := by decide +kernel
    have := hk j (by omega)
    unfold aheadP
    rw [show ((j : Int) + 1 + 1 - 1).toNat = j + 1 by omega, show ((j : Int) + 1 - 1).toNat = j by omega]
    split <;> split <;> omega
  · omega
theorem c_Days (m y : Int) (w : World) (hm : I64 m) (hy : I64 y) :
    Calls Try.prog 52 #[.int .i64 m, .int .i64 y] w fun e w' => e = .returned (.int .i64 (daysP m y)) ∧ Below w.heap.size w w' := by
  cases g : inB m 1 12
  · have HD : Hid (daysP m y = 0) := hid (by unfold daysP; rw [if_neg (by simp [g])])
    go_enter Try.func52, Try.ntmps52
    go_wp2_with (go_at_call 69; refine (c_in _ _ _ _).mono ?_; rintro e w' ⟨rfl, rfl⟩)
    go_ret
    exact ⟨by rw [HD.out]; rfl, Below.refl _ _⟩
  · cases g2 : inB y 2000 2099
    · have HD : Hid (daysP m y = 0) := hid (by unfold daysP; rw [if_neg (by simp [g2])])
      go_enter Try.func52, Try.ntmps52
      go_wp2_with (go_at_call 69; refine (c_in _ _ _ _).mono ?_; rintro e w' ⟨rfl, rfl⟩)
      go_ret
      exact ⟨by rw [HD.out]; rfl, Below.refl _ _⟩
    · have HD : Hid (daysP m y = aheadP (m + 1) y - aheadP m y) := hid (by unfold daysP; rw [if_pos ⟨g, g2⟩])
      have b1 := (inB_iff m 1 12).1 g
      have b2 := (inB_iff y 2000 2099).1 g2
      have HA := hid fun w => c_ahead (m + 1) y w (by omega) (by omega)
      have HA2 := hid fun w => c_ahead m y w (by omega) (by omega)
      have a1 := aheadP_bd (m + 1) y
      have a2 := aheadP_bd m y
      have um : IntKind.i64.wrap (m + 1) = m + 1 := IntWalk.i64_in _ (by omega)
      generalize aheadP (m + 1) y = A1 at *
      generalize aheadP m y = A2 at *
      go_enter Try.func52, Try.ntmps52
      go_wp2_with (go_at_call 69; refine (c_in _ _ _ _).mono ?_; rintro e w' ⟨rfl, rfl⟩)
      refine (HA.out _).mono ?_
      rintro e w1 ⟨rfl, k1⟩
      go_wp2_with fail
      refine (HA2.out _).mono ?_
      rintro e w2 ⟨rfl, k2⟩
      go_wp2
      go_ret
      exact ⟨by rw [HD.out]; rfl, k1.trans (k2.mono k1.size)⟩
def mayP (i : Bool) (h m s c : Int) : Bool := if i = true then inB h 0 23 && (inB m 0 59 && (inB s 0 59 && inB c 0 99)) else decide (h = 0 ∧ m = 0 ∧ s = 0 ∧ c = 0)
def mayDP (i : Bool) (d m y : Int) : Bool := if i = true then inB d 1 (daysP m y) else decide (d = 0 ∧ m = 0 ∧ y = 0)
set_option maxHeartbeats 2000000 in
theorem c_may (i : Bool) (h m s c : Int) (w : World) :
    Calls Try.prog 64 #[.agg #[.bool i, .int .i64 h, .int .i64 m, .int .i64 s, .int .i64 c]] w fun e w' => e = .returned (.bool (mayP i h m s c)) ∧ Below w.heap.size w w' := by
  cases i
  · by_cases hz : h = 0 ∧ m = 0 ∧ s = 0 ∧ c = 0
    · obtain ⟨rfl, rfl, rfl, rfl⟩ := hz
      have HM : Hid (mayP false 0 0 0 0 = true) := rfl
      have hp := Blk.new w 62 #[.bool false, .int .i64 0, .int .i64 0, .int .i64 0, .int .i64 0]
      have hb := (Below.refl w.heap.size w).alloc (Nat.le_refl _) (.cells #[.bool false, .int .i64 0, .int .i64 0, .int .i64 0, .int .i64 0] 62)
      have f0 : (w.alloc (.cells #[.bool false, .int .i64 0, .int .i64 0, .int .i64 0, .int .i64 0] 62)).cell? ⟨w.heap.size, 0, none⟩ = some (.bool false) := hp.cell 0
      have f1 : (w.alloc (.cells #[.bool false, .int .i64 0, .int .i64 0, .int .i64 0, .int .i64 0] 62)).cell? ⟨w.heap.size, 1, none⟩ = some (.int .i64 0) := hp.cell 1
      have f2 : (w.alloc (.cells #[.bool false, .int .i64 0, .int .i64 0, .int .i64 0, .int .i64 0] 62)).cell? ⟨w.heap.size, 2, none⟩ = some (.int .i64 0) := hp.cell 2
      have f3 : (w.alloc (.cells #[.bool false, .int .i64 0, .int .i64 0, .int .i64 0, .int .i64 0] 62)).cell? ⟨w.heap.size, 3, none⟩ = some (.int .i64 0) := hp.cell 3
      have f4 : (w.alloc (.cells #[.bool false, .int .i64 0, .int .i64 0, .int .i64 0, .int .i64 0] 62)).cell? ⟨w.heap.size, 4, none⟩ = some (.int .i64 0) := hp.cell 4
      have HB := hid hb
      clear hp hb
      go_enter Try.func64, Try.ntmps64
      go_wp2
      go_ret
      exact ⟨by rw [HM.out]; rfl, HB.out⟩
    · have HM : Hid (mayP false h m s c = false) := hid (by unfold mayP; simpa using hz)
      have hp := Blk.new w 62 #[.bool false, .int .i64 h, .int .i64 m, .int .i64 s, .int .i64 c]
      have hb := (Below.refl w.heap.size w).alloc (Nat.le_refl _) (.cells #[.bool false, .int .i64 h, .int .i64 m, .int .i64 s, .int .i64 c] 62)
      have f0 : (w.alloc (.cells #[.bool false, .int .i64 h, .int .i64 m, .int .i64 s, .int .i64 c] 62)).cell? ⟨w.heap.size, 0, none⟩ = some (.bool false) := hp.cell 0
      have f1 : (w.alloc (.cells #[.bool false, .int .i64 h, .int .i64 m, .int .i64 s, .int .i64 c] 62)).cell? ⟨w.heap.size, 1, none⟩ = some (.int .i64 h) := hp.cell 1
      have f2 : (w.alloc (.cells #[.bool false, .int .i64 h, .int .i64 m, .int .i64 s, .int .i64 c] 62)).cell? ⟨w.heap.size, 2, none⟩ = some (.int .i64 m) := hp.cell 2
      have f3 : (w.alloc (.cells #[.bool false, .int .i64 h, .int .i64 m, .int .i64 s, .int .i64 c] 62)).cell? ⟨w.heap.size, 3, none⟩ = some (.int .i64 s) := hp.cell 3
      have f4 : (w.alloc (.cells #[.bool false, .int .i64 h, .int .i64 m, .int .i64 s, .int .i64 c] 62)).cell? ⟨w.heap.size, 4, none⟩ = some (.int .i64 c) := hp.cell 4
      have HB := hid hb
      have dz : decide (h = 0 ∧ m = 0 ∧ s = 0 ∧ c = 0) = false := by simpa using hz
      clear hp hb
      go_enter Try.func64, Try.ntmps64
      go_wp2
      all_goals (try subst_vars)
      all_goals (try (exfalso; exact hz ⟨rfl, rfl, rfl, rfl⟩))
      all_goals go_ret
      all_goals exact ⟨by rw [HM.out]; rfl, HB.out⟩
  · cases g1 : inB h 0 23
    · have HM : Hid (mayP true h m s c = false) := hid (by unfold mayP; simp [g1])
      have hp := Blk.new w 62 #[.bool true, .int .i64 h, .int .i64 m, .int .i64 s, .int .i64 c]
      have hb := (Below.refl w.heap.size w).alloc (Nat.le_refl _) (.cells #[.bool true, .int .i64 h, .int .i64 m, .int .i64 s, .int .i64 c] 62)
      have f0 : (w.alloc (.cells #[.bool true, .int .i64 h, .int .i64 m, .int .i64 s, .int .i64 c] 62)).cell? ⟨w.heap.size, 0, none⟩ = some (.bool true) := hp.cell 0
      have f1 : (w.alloc (.cells #[.bool true, .int .i64 h, .int .i64 m, .int .i64 s, .int .i64 c] 62)).cell? ⟨w.heap.size, 1, none⟩ = some (.int .i64 h) := hp.cell 1
      have f2 : (w.alloc (.cells #[.bool true, .int .i64 h, .int .i64 m, .int .i64 s, .int .i64 c] 62)).cell? ⟨w.heap.size, 2, none⟩ = some (.int .i64 m) := hp.cell 2
      have f3 : (w.alloc (.cells #[.bool true, .int .i64 h, .int .i64 m, .int .i64 s, .int .i64 c] 62)).cell? ⟨w.heap.size, 3, none⟩ = some (.int .i64 s) := hp.cell 3
      have f4 : (w.alloc (.cells #[.bool true, .int .i64 h, .int .i64 m, .int .i64 s, .int .i64 c] 62)).cell? ⟨w.heap.size, 4, none⟩ = some (.int .i64 c) := hp.cell 4
      have HB := hid hb
      clear hp hb
      go_enter Try.func64, Try.ntmps64
      go_wp2_with (go_at_call 69; refine (c_in _ _ _ _).mono ?_; rintro e w' ⟨rfl, rfl⟩)
      go_ret
      exact ⟨by rw [HM.out]; rfl, HB.out⟩
    · cases g2 : inB m 0 59
      · have HM : Hid (mayP true h m s c = false) := hid (by unfold mayP; simp [g1, g2])
        have hp := Blk.new w 62 #[.bool true, .int .i64 h, .int .i64 m, .int .i64 s, .int .i64 c]
        have hb := (Below.refl w.heap.size w).alloc (Nat.le_refl _) (.cells #[.bool true, .int .i64 h, .int .i64 m, .int .i64 s, .int .i64 c] 62)
        have f0 : (w.alloc (.cells #[.bool true, .int .i64 h, .int .i64 m, .int .i64 s, .int .i64 c] 62)).cell? ⟨w.heap.size, 0, none⟩ = some (.bool true) := hp.cell 0
        have f1 : (w.alloc (.cells #[.bool true, .int .i64 h, .int .i64 m, .int .i64 s, .int .i64 c] 62)).cell? ⟨w.heap.size, 1, none⟩ = some (.int .i64 h) := hp.cell 1
        have f2 : (w.alloc (.cells #[.bool true, .int .i64 h, .int .i64 m, .int .i64 s, .int .i64 c] 62)).cell? ⟨w.heap.size, 2, none⟩ = some (.int .i64 m) := hp.cell 2
        have f3 : (w.alloc (.cells #[.bool true, .int .i64 h, .int .i64 m, .int .i64 s, .int .i64 c] 62)).cell? ⟨w.heap.size, 3, none⟩ = some (.int .i64 s) := hp.cell 3
        have f4 : (w.alloc (.cells #[.bool true, .int .i64 h, .int .i64 m, .int .i64 s, .int .i64 c] 62)).cell? ⟨w.heap.size, 4, none⟩ = some (.int .i64 c) := hp.cell 4
        have HB := hid hb
        clear hp hb
        go_enter Try.func64, Try.ntmps64
        go_wp2_with (go_at_call 69; refine (c_in _ _ _ _).mono ?_; rintro e w' ⟨rfl, rfl⟩)
        go_ret
        exact ⟨by rw [HM.out]; rfl, HB.out⟩
      · cases g3 : inB s 0 59
        · have HM : Hid (mayP true h m s c = false) := hid (by unfold mayP; simp [g1, g2, g3])
          have hp := Blk.new w 62 #[.bool true, .int .i64 h, .int .i64 m, .int .i64 s, .int .i64 c]
          have hb := (Below.refl w.heap.size w).alloc (Nat.le_refl _) (.cells #[.bool true, .int .i64 h, .int .i64 m, .int .i64 s, .int .i64 c] 62)
          have f0 : (w.alloc (.cells #[.bool true, .int .i64 h, .int .i64 m, .int .i64 s, .int .i64 c] 62)).cell? ⟨w.heap.size, 0, none⟩ = some (.bool true) := hp.cell 0
          have f1 : (w.alloc (.cells #[.bool true, .int .i64 h, .int .i64 m, .int .i64 s, .int .i64 c] 62)).cell? ⟨w.heap.size, 1, none⟩ = some (.int .i64 h) := hp.cell 1
          have f2 : (w.alloc (.cells #[.bool true, .int .i64 h, .int .i64 m, .int .i64 s, .int .i64 c] 62)).cell? ⟨w.heap.size, 2, none⟩ = some (.int .i64 m) := hp.cell 2
          have f3 : (w.alloc (.cells #[.bool true, .int .i64 h, .int .i64 m, .int .i64 s, .int .i64 c] 62)).cell? ⟨w.heap.size, 3, none⟩ = some (.int .i64 s) := hp.cell 3
          have f4 : (w.alloc (.cells #[.bool true, .int .i64 h, .int .i64 m, .int .i64 s, .int .i64 c] 62)).cell? ⟨w.heap.size, 4, none⟩ = some (.int .i64 c) := hp.cell 4
          have HB := hid hb
          clear hp hb
          go_enter Try.func64, Try.ntmps64
          go_wp2_with (go_at_call 69; refine (c_in _ _ _ _).mono ?_; rintro e w' ⟨rfl, rfl⟩)
          go_ret
          exact ⟨by rw [HM.out]; rfl, HB.out⟩
        · cases g4 : inB c 0 99
          · have HM : Hid (mayP true h m s c = false) := hid (by unfold mayP; simp [g1, g2, g3, g4])
            have hp := Blk.new w 62 #[.bool true, .int .i64 h, .int .i64 m, .int .i64 s, .int .i64 c]
            have hb := (Below.refl w.heap.size w).alloc (Nat.le_refl _) (.cells #[.bool true, .int .i64 h, .int .i64 m, .int .i64 s, .int .i64 c] 62)
            have f0 : (w.alloc (.cells #[.bool true, .int .i64 h, .int .i64 m, .int .i64 s, .int .i64 c] 62)).cell? ⟨w.heap.size, 0, none⟩ = some (.bool true) := hp.cell 0
            have f1 : (w.alloc (.cells #[.bool true, .int .i64 h, .int .i64 m, .int .i64 s, .int .i64 c] 62)).cell? ⟨w.heap.size, 1, none⟩ = some (.int .i64 h) := hp.cell 1
            have f2 : (w.alloc (.cells #[.bool true, .int .i64 h, .int .i64 m, .int .i64 s, .int .i64 c] 62)).cell? ⟨w.heap.size, 2, none⟩ = some (.int .i64 m) := hp.cell 2
            have f3 : (w.alloc (.cells #[.bool true, .int .i64 h, .int .i64 m, .int .i64 s, .int .i64 c] 62)).cell? ⟨w.heap.size, 3, none⟩ = some (.int .i64 s) := hp.cell 3
            have f4 : (w.alloc (.cells #[.bool true, .int .i64 h, .int .i64 m, .int .i64 s, .int .i64 c] 62)).cell? ⟨w.heap.size, 4, none⟩ = some (.int .i64 c) := hp.cell 4
            have HB := hid hb
            clear hp hb
            go_enter Try.func64, Try.ntmps64
            go_wp2_with (go_at_call 69; refine (c_in _ _ _ _).mono ?_; rintro e w' ⟨rfl, rfl⟩)
            go_ret
            exact ⟨by rw [HM.out]; rfl, HB.out⟩
          · have HM : Hid (mayP true h m s c = true) := hid (by unfold mayP; simp [g1, g2, g3, g4])
            have hp := Blk.new w 62 #[.bool true, .int .i64 h, .int .i64 m, .int .i64 s, .int .i64 c]
            have hb := (Below.refl w.heap.size w).alloc (Nat.le_refl _) (.cells #[.bool true, .int .i64 h, .int .i64 m, .int .i64 s, .int .i64 c] 62)
            have f0 : (w.alloc (.cells #[.bool true, .int .i64 h, .int .i64 m, .int .i64 s, .int .i64 c] 62)).cell? ⟨w.heap.size, 0, none⟩ = some (.bool true) := hp.cell 0
            have f1 : (w.alloc (.cells #[.bool true, .int .i64 h, .int .i64 m, .int .i64 s, .int .i64 c] 62)).cell? ⟨w.heap.size, 1, none⟩ = some (.int .i64 h) := hp.cell 1
            have f2 : (w.alloc (.cells #[.bool true, .int .i64 h, .int .i64 m, .int .i64 s, .int .i64 c] 62)).cell? ⟨w.heap.size, 2, none⟩ = some (.int .i64 m) := hp.cell 2
            have f3 : (w.alloc (.cells #[.bool true, .int .i64 h, .int .i64 m, .int .i64 s, .int .i64 c] 62)).cell? ⟨w.heap.size, 3, none⟩ = some (.int .i64 s) := hp.cell 3
            have f4 : (w.alloc (.cells #[.bool true, .int .i64 h, .int .i64 m, .int .i64 s, .int .i64 c] 62)).cell? ⟨w.heap.size, 4, none⟩ = some (.int .i64 c) := hp.cell 4
            have HB := hid hb
            clear hp hb
            go_enter Try.func64, Try.ntmps64
            go_wp2_with (go_at_call 69; refine (c_in _ _ _ _).mono ?_; rintro e w' ⟨rfl, rfl⟩)
            go_ret
            exact ⟨by rw [HM.out]; rfl, HB.out⟩
set_option maxHeartbeats 2000000 in
theorem r_May (i : Bool) (h m s c : Int) (w : World) :
    Calls Try.prog 68 #[.agg #[.bool i, .int .i64 h, .int .i64 m, .int .i64 s, .int .i64 c]] w fun e w' => e = .returned (.bool (mayP i h m s c)) ∧ Below w.heap.size w w' := by
  cases i
  · by_cases hz : h = 0 ∧ m = 0 ∧ s = 0 ∧ c = 0
    · obtain ⟨rfl, rfl, rfl, rfl⟩ := hz
      have HM : Hid (mayP false 0 0 0 0 = true) := rfl
      have hp := Blk.new w 62 #[.bool false, .int .i64 0, .int .i64 0, .int .i64 0, .int .i64 0]
      have hb := (Below.refl w.heap.size w).alloc (Nat.le_refl _) (.cells #[.bool false, .int .i64 0, .int .i64 0, .int .i64 0, .int .i64 0] 62)
      have f0 : (w.alloc (.cells #[.bool false, .int .i64 0, .int .i64 0, .int .i64 0, .int .i64 0] 62)).cell? ⟨w.heap.size, 0, none⟩ = some (.bool false) := hp.cell 0
      have f1 : (w.alloc (.cells #[.bool false, .int .i64 0, .int .i64 0, .int .i64 0, .int .i64 0] 62)).cell? ⟨w.heap.size, 1, none⟩ = some (.int .i64 0) := hp.cell 1
      have f2 : (w.alloc (.cells #[.bool false, .int .i64 0, .int .i64 0, .int .i64 0, .int .i64 0] 62)).cell? ⟨w.heap.size, 2, none⟩ = some (.int .i64 0) := hp.cell 2
      have f3 : (w.alloc (.cells #[.bool false, .int .i64 0, .int .i64 0, .int .i64 0, .int .i64 0] 62)).cell? ⟨w.heap.size, 3, none⟩ = some (.int .i64 0) := hp.cell 3
      have f4 : (w.alloc (.cells #[.bool false, .int .i64 0, .int .i64 0, .int .i64 0, .int .i64 0] 62)).cell? ⟨w.heap.size, 4, none⟩ = some (.int .i64 0) := hp.cell 4
      have HB := hid hb
      clear hp hb
      go_enter Try.func68, Try.ntmps68
      go_wp2
      go_ret
      exact ⟨by rw [HM.out]; rfl, HB.out⟩
    · have HM : Hid (mayP false h m s c = false) := hid (by unfold mayP; simpa using hz)
      have hp := Blk.new w 62 #[.bool false, .int .i64 h, .int .i64 m, .int .i64 s, .int .i64 c]
      have hb := (Below.refl w.heap.size w).alloc (Nat.le_refl _) (.cells #[.bool false, .int .i64 h, .int .i64 m, .int .i64 s, .int .i64 c] 62)
      have f0 : (w.alloc (.cells #[.bool false, .int .i64 h, .int .i64 m, .int .i64 s, .int .i64 c] 62)).cell? ⟨w.heap.size, 0, none⟩ = some (.bool false) := hp.cell 0
      have f1 : (w.alloc (.cells #[.bool false, .int .i64 h, .int .i64 m, .int .i64 s, .int .i64 c] 62)).cell? ⟨w.heap.size, 1, none⟩ = some (.int .i64 h) := hp.cell 1
      have f2 : (w.alloc (.cells #[.bool false, .int .i64 h, .int .i64 m, .int .i64 s, .int .i64 c] 62)).cell? ⟨w.heap.size, 2, none⟩ = some (.int .i64 m) := hp.cell 2
      have f3 : (w.alloc (.cells #[.bool false, .int .i64 h, .int .i64 m, .int .i64 s, .int .i64 c] 62)).cell? ⟨w.heap.size, 3, none⟩ = some (.int .i64 s) := hp.cell 3
      have f4 : (w.alloc (.cells #[.bool false, .int .i64 h, .int .i64 m, .int .i64 s, .int .i64 c] 62)).cell? ⟨w.heap.size, 4, none⟩ = some (.int .i64 c) := hp.cell 4
      have HB := hid hb
      have dz : decide (h = 0 ∧ m = 0 ∧ s = 0 ∧ c = 0) = false := by simpa using hz
      clear hp hb
      go_enter Try.func68, Try.ntmps68
      go_wp2
      all_goals (try subst_vars)
      all_goals (try (exfalso; exact hz ⟨rfl, rfl, rfl, rfl⟩))
      all_goals go_ret
      all_goals exact ⟨by rw [HM.out]; rfl, HB.out⟩
  · by_cases g0 : 0 ≤ h
    · by_cases g1 : h ≤ 23
      · by_cases g2 : 0 ≤ m
        · by_cases g3 : m ≤ 59
          · by_cases g4 : 0 ≤ s
            · by_cases g5 : s ≤ 59
              · by_cases g6 : 0 ≤ c
                · by_cases g7 : c ≤ 99
                  · have HM : Hid (mayP true h m s c = true) := hid (by unfold mayP inB; simp; omega)
                    have hp := Blk.new w 62 #[.bool true, .int .i64 h, .int .i64 m, .int .i64 s, .int .i64 c]
                    have hb := (Below.refl w.heap.size w).alloc (Nat.le_refl _) (.cells #[.bool true, .int .i64 h, .int .i64 m, .int .i64 s, .int .i64 c] 62)
                    have f0 : (w.alloc (.cells #[.bool true, .int .i64 h, .int .i64 m, .int .i64 s, .int .i64 c] 62)).cell? ⟨w.heap.size, 0, none⟩ = some (.bool true) := hp.cell 0
                    have f1 : (w.alloc (.cells #[.bool true, .int .i64 h, .int .i64 m, .int .i64 s, .int .i64 c] 62)).cell? ⟨w.heap.size, 1, none⟩ = some (.int .i64 h) := hp.cell 1
                    have f2 : (w.alloc (.cells #[.bool true, .int .i64 h, .int .i64 m, .int .i64 s, .int .i64 c] 62)).cell? ⟨w.heap.size, 2, none⟩ = some (.int .i64 m) := hp.cell 2
                    have f3 : (w.alloc (.cells #[.bool true, .int .i64 h, .int .i64 m, .int .i64 s, .int .i64 c] 62)).cell? ⟨w.heap.size, 3, none⟩ = some (.int .i64 s) := hp.cell 3
                    have f4 : (w.alloc (.cells #[.bool true, .int .i64 h, .int .i64 m, .int .i64 s, .int .i64 c] 62)).cell? ⟨w.heap.size, 4, none⟩ = some (.int .i64 c) := hp.cell 4
                    have HB := hid hb
                    clear hp hb
                    go_enter Try.func68, Try.ntmps68
                    go_wp2
                    go_ret
                    exact ⟨by rw [HM.out]; rfl, HB.out⟩
                  · have HM : Hid (mayP true h m s c = false) := hid (by unfold mayP inB; simp; omega)
                    have hp := Blk.new w 62 #[.bool true, .int .i64 h, .int .i64 m, .int .i64 s, .int .i64 c]
                    have hb := (Below.refl w.heap.size w).alloc (Nat.le_refl _) (.cells #[.bool true, .int .i64 h, .int .i64 m, .int .i64 s, .int .i64 c] 62)
                    have f0 : (w.alloc (.cells #[.bool true, .int .i64 h, .int .i64 m, .int .i64 s, .int .i64 c] 62)).cell? ⟨w.heap.size, 0, none⟩ = some (.bool true) := hp.cell 0
                    have f1 : (w.alloc (.cells #[.bool true, .int .i64 h, .int .i64 m, .int .i64 s, .int .i64 c] 62)).cell? ⟨w.heap.size, 1, none⟩ = some (.int .i64 h) := hp.cell 1
                    have f2 : (w.alloc (.cells #[.bool true, .int .i64 h, .int .i64 m, .int .i64 s, .int .i64 c] 62)).cell? ⟨w.heap.size, 2, none⟩ = some (.int .i64 m) := hp.cell 2
                    have f3 : (w.alloc (.cells #[.bool true, .int .i64 h, .int .i64 m, .int .i64 s, .int .i64 c] 62)).cell? ⟨w.heap.size, 3, none⟩ = some (.int .i64 s) := hp.cell 3
                    have f4 : (w.alloc (.cells #[.bool true, .int .i64 h, .int .i64 m, .int .i64 s, .int .i64 c] 62)).cell? ⟨w.heap.size, 4, none⟩ = some (.int .i64 c) := hp.cell 4
                    have HB := hid hb
                    clear hp hb
                    go_enter Try.func68, Try.ntmps68
                    go_wp2
                    go_ret
                    exact ⟨by rw [HM.out]; rfl, HB.out⟩
                · have HM : Hid (mayP true h m s c = false) := hid (by unfold mayP inB; simp; omega)
                  have hp := Blk.new w 62 #[.bool true, .int .i64 h, .int .i64 m, .int .i64 s, .int .i64 c]
                  have hb := (Below.refl w.heap.size w).alloc (Nat.le_refl _) (.cells #[.bool true, .int .i64 h, .int .i64 m, .int .i64 s, .int .i64 c] 62)
                  have f0 : (w.alloc (.cells #[.bool true, .int .i64 h, .int .i64 m, .int .i64 s, .int .i64 c] 62)).cell? ⟨w.heap.size, 0, none⟩ = some (.bool true) := hp.cell 0
                  have f1 : (w.alloc (.cells #[.bool true, .int .i64 h, .int .i64 m, .int .i64 s, .int .i64 c] 62)).cell? ⟨w.heap.size, 1, none⟩ = some (.int .i64 h) := hp.cell 1
                  have f2 : (w.alloc (.cells #[.bool true, .int .i64 h, .int .i64 m, .int .i64 s, .int .i64 c] 62)).cell? ⟨w.heap.size, 2, none⟩ = some (.int .i64 m) := hp.cell 2
                  have f3 : (w.alloc (.cells #[.bool true, .int .i64 h, .int .i64 m, .int .i64 s, .int .i64 c] 62)).cell? ⟨w.heap.size, 3, none⟩ = some (.int .i64 s) := hp.cell 3
                  have f4 : (w.alloc (.cells #[.bool true, .int .i64 h, .int .i64 m, .int .i64 s, .int .i64 c] 62)).cell? ⟨w.heap.size, 4, none⟩ = some (.int .i64 c) := hp.cell 4
                  have HB := hid hb
                  clear hp hb
                  go_enter Try.func68, Try.ntmps68
                  go_wp2
                  go_ret
                  exact ⟨by rw [HM.out]; rfl, HB.out⟩
              · have HM : Hid (mayP true h m s c = false) := hid (by unfold mayP inB; simp; omega)
                have hp := Blk.new w 62 #[.bool true, .int .i64 h, .int .i64 m, .int .i64 s, .int .i64 c]
                have hb := (Below.refl w.heap.size w).alloc (Nat.le_refl _) (.cells #[.bool true, .int .i64 h, .int .i64 m, .int .i64 s, .int .i64 c] 62)
                have f0 : (w.alloc (.cells #[.bool true, .int .i64 h, .int .i64 m, .int .i64 s, .int .i64 c] 62)).cell? ⟨w.heap.size, 0, none⟩ = some (.bool true) := hp.cell 0
                have f1 : (w.alloc (.cells #[.bool true, .int .i64 h, .int .i64 m, .int .i64 s, .int .i64 c] 62)).cell? ⟨w.heap.size, 1, none⟩ = some (.int .i64 h) := hp.cell 1
                have f2 : (w.alloc (.cells #[.bool true, .int .i64 h, .int .i64 m, .int .i64 s, .int .i64 c] 62)).cell? ⟨w.heap.size, 2, none⟩ = some (.int .i64 m) := hp.cell 2
                have f3 : (w.alloc (.cells #[.bool true, .int .i64 h, .int .i64 m, .int .i64 s, .int .i64 c] 62)).cell? ⟨w.heap.size, 3, none⟩ = some (.int .i64 s) := hp.cell 3
                have f4 : (w.alloc (.cells #[.bool true, .int .i64 h, .int .i64 m, .int .i64 s, .int .i64 c] 62)).cell? ⟨w.heap.size, 4, none⟩ = some (.int .i64 c) := hp.cell 4
                have HB := hid hb
                clear hp hb
                go_enter Try.func68, Try.ntmps68
                go_wp2
                go_ret
                exact ⟨by rw [HM.out]; rfl, HB.out⟩
            · have HM : Hid (mayP true h m s c = false) := hid (by unfold mayP inB; simp; omega)
              have hp := Blk.new w 62 #[.bool true, .int .i64 h, .int .i64 m, .int .i64 s, .int .i64 c]
              have hb := (Below.refl w.heap.size w).alloc (Nat.le_refl _) (.cells #[.bool true, .int .i64 h, .int .i64 m, .int .i64 s, .int .i64 c] 62)
              have f0 : (w.alloc (.cells #[.bool true, .int .i64 h, .int .i64 m, .int .i64 s, .int .i64 c] 62)).cell? ⟨w.heap.size, 0, none⟩ = some (.bool true) := hp.cell 0
              have f1 : (w.alloc (.cells #[.bool true, .int .i64 h, .int .i64 m, .int .i64 s, .int .i64 c] 62)).cell? ⟨w.heap.size, 1, none⟩ = some (.int .i64 h) := hp.cell 1
              have f2 : (w.alloc (.cells #[.bool true, .int .i64 h, .int .i64 m, .int .i64 s, .int .i64 c] 62)).cell? ⟨w.heap.size, 2, none⟩ = some (.int .i64 m) := hp.cell 2
              have f3 : (w.alloc (.cells #[.bool true, .int .i64 h, .int .i64 m, .int .i64 s, .int .i64 c] 62)).cell? ⟨w.heap.size, 3, none⟩ = some (.int .i64 s) := hp.cell 3
              have f4 : (w.alloc (.cells #[.bool true, .int .i64 h, .int .i64 m, .int .i64 s, .int .i64 c] 62)).cell? ⟨w.heap.size, 4, none⟩ = some (.int .i64 c) := hp.cell 4
              have HB := hid hb
              clear hp hb
              go_enter Try.func68, Try.ntmps68
              go_wp2
              go_ret
              exact ⟨by rw [HM.out]; rfl, HB.out⟩
          · have HM : Hid (mayP true h m s c = false) := hid (by unfold mayP inB; simp; omega)
            have hp := Blk.new w 62 #[.bool true, .int .i64 h, .int .i64 m, .int .i64 s, .int .i64 c]
            have hb := (Below.refl w.heap.size w).alloc (Nat.le_refl _) (.cells #[.bool true, .int .i64 h, .int .i64 m, .int .i64 s, .int .i64 c] 62)
            have f0 : (w.alloc (.cells #[.bool true, .int .i64 h, .int .i64 m, .int .i64 s, .int .i64 c] 62)).cell? ⟨w.heap.size, 0, none⟩ = some (.bool true) := hp.cell 0
            have f1 : (w.alloc (.cells #[.bool true, .int .i64 h, .int .i64 m, .int .i64 s, .int .i64 c] 62)).cell? ⟨w.heap.size, 1, none⟩ = some (.int .i64 h) := hp.cell 1
            have f2 : (w.alloc (.cells #[.bool true, .int .i64 h, .int .i64 m, .int .i64 s, .int .i64 c] 62)).cell? ⟨w.heap.size, 2, none⟩ = some (.int .i64 m) := hp.cell 2
            have f3 : (w.alloc (.cells #[.bool true, .int .i64 h, .int .i64 m, .int .i64 s, .int .i64 c] 62)).cell? ⟨w.heap.size, 3, none⟩ = some (.int .i64 s) := hp.cell 3
            have f4 : (w.alloc (.cells #[.bool true, .int .i64 h, .int .i64 m, .int .i64 s, .int .i64 c] 62)).cell? ⟨w.heap.size, 4, none⟩ = some (.int .i64 c) := hp.cell 4
            have HB := hid hb
            clear hp hb
            go_enter Try.func68, Try.ntmps68
            go_wp2
            go_ret
            exact ⟨by rw [HM.out]; rfl, HB.out⟩
        · have HM : Hid (mayP true h m s c = false) := hid (by unfold mayP inB; simp; omega)
          have hp := Blk.new w 62 #[.bool true, .int .i64 h, .int .i64 m, .int .i64 s, .int .i64 c]
          have hb := (Below.refl w.heap.size w).alloc (Nat.le_refl _) (.cells #[.bool true, .int .i64 h, .int .i64 m, .int .i64 s, .int .i64 c] 62)
          have f0 : (w.alloc (.cells #[.bool true, .int .i64 h, .int .i64 m, .int .i64 s, .int .i64 c] 62)).cell? ⟨w.heap.size, 0, none⟩ = some (.bool true) := hp.cell 0
          have f1 : (w.alloc (.cells #[.bool true, .int .i64 h, .int .i64 m, .int .i64 s, .int .i64 c] 62)).cell? ⟨w.heap.size, 1, none⟩ = some (.int .i64 h) := hp.cell 1
          have f2 : (w.alloc (.cells #[.bool true, .int .i64 h, .int .i64 m, .int .i64 s, .int .i64 c] 62)).cell? ⟨w.heap.size, 2, none⟩ = some (.int .i64 m) := hp.cell 2
          have f3 : (w.alloc (.cells #[.bool true, .int .i64 h, .int .i64 m, .int .i64 s, .int .i64 c] 62)).cell? ⟨w.heap.size, 3, none⟩ = some (.int .i64 s) := hp.cell 3
          have f4 : (w.alloc (.cells #[.bool true, .int .i64 h, .int .i64 m, .int .i64 s, .int .i64 c] 62)).cell? ⟨w.heap.size, 4, none⟩ = some (.int .i64 c) := hp.cell 4
          have HB := hid hb
          clear hp hb
          go_enter Try.func68, Try.ntmps68
          go_wp2
          go_ret
          exact ⟨by rw [HM.out]; rfl, HB.out⟩
      · have HM : Hid (mayP true h m s c = false) := hid (by unfold mayP inB; simp; omega)
        have hp := Blk.new w 62 #[.bool true, .int .i64 h, .int .i64 m, .int .i64 s, .int .i64 c]
        have hb := (Below.refl w.heap.size w).alloc (Nat.le_refl _) (.cells #[.bool true, .int .i64 h, .int .i64 m, .int .i64 s, .int .i64 c] 62)
        have f0 : (w.alloc (.cells #[.bool true, .int .i64 h, .int .i64 m, .int .i64 s, .int .i64 c] 62)).cell? ⟨w.heap.size, 0, none⟩ = some (.bool true) := hp.cell 0
        have f1 : (w.alloc (.cells #[.bool true, .int .i64 h, .int .i64 m, .int .i64 s, .int .i64 c] 62)).cell? ⟨w.heap.size, 1, none⟩ = some (.int .i64 h) := hp.cell 1
        have f2 : (w.alloc (.cells #[.bool true, .int .i64 h, .int .i64 m, .int .i64 s, .int .i64 c] 62)).cell? ⟨w.heap.size, 2, none⟩ = some (.int .i64 m) := hp.cell 2
        have f3 : (w.alloc (.cells #[.bool true, .int .i64 h, .int .i64 m, .int .i64 s, .int .i64 c] 62)).cell? ⟨w.heap.size, 3, none⟩ = some (.int .i64 s) := hp.cell 3
        have f4 : (w.alloc (.cells #[.bool true, .int .i64 h, .int .i64 m, .int .i64 s, .int .i64 c] 62)).cell? ⟨w.heap.size, 4, none⟩ = some (.int .i64 c) := hp.cell 4
        have HB := hid hb
        clear hp hb
        go_enter Try.func68, Try.ntmps68
        go_wp2
        go_ret
        exact ⟨by rw [HM.out]; rfl, HB.out⟩
    · have HM : Hid (mayP true h m s c = false) := hid (by unfold mayP inB; simp; omega)
      have hp := Blk.new w 62 #[.bool true, .int .i64 h, .int .i64 m, .int .i64 s, .int .i64 c]
      have hb := (Below.refl w.heap.size w).alloc (Nat.le_refl _) (.cells #[.bool true, .int .i64 h, .int .i64 m, .int .i64 s, .int .i64 c] 62)
      have f0 : (w.alloc (.cells #[.bool true, .int .i64 h, .int .i64 m, .int .i64 s, .int .i64 c] 62)).cell? ⟨w.heap.size, 0, none⟩ = some (.bool true) := hp.cell 0
      have f1 : (w.alloc (.cells #[.bool true, .int .i64 h, .int .i64 m, .int .i64 s, .int .i64 c] 62)).cell? ⟨w.heap.size, 1, none⟩ = some (.int .i64 h) := hp.cell 1
      have f2 : (w.alloc (.cells #[.bool true, .int .i64 h, .int .i64 m, .int .i64 s, .int .i64 c] 62)).cell? ⟨w.heap.size, 2, none⟩ = some (.int .i64 m) := hp.cell 2
      have f3 : (w.alloc (.cells #[.bool true, .int .i64 h, .int .i64 m, .int .i64 s, .int .i64 c] 62)).cell? ⟨w.heap.size, 3, none⟩ = some (.int .i64 s) := hp.cell 3
      have f4 : (w.alloc (.cells #[.bool true, .int .i64 h, .int .i64 m, .int .i64 s, .int .i64 c] 62)).cell? ⟨w.heap.size, 4, none⟩ = some (.int .i64 c) := hp.cell 4
      have HB := hid hb
      clear hp hb
      go_enter Try.func68, Try.ntmps68
      go_wp2
      go_ret
      exact ⟨by rw [HM.out]; rfl, HB.out⟩
theorem r_Days (m y : Int) (w : World) (hm : I64 m) (hy : I64 y) :
    Calls Try.prog 53 #[.int .i64 m, .int .i64 y] w fun e w' => e = .returned (.int .i64 (daysP m y)) ∧ w = w' := by
  by_cases g : 1 ≤ m ∧ m ≤ 12 ∧ 2000 ≤ y ∧ y ≤ 2099
  · obtain ⟨g1, g2, g3, g4⟩ := g
    have HD : Hid (daysP m y = aheadP (m + 1) y - aheadP m y) := hid (by unfold daysP; rw [if_pos ⟨(inB_iff _ _ _).2 ⟨g1, g2⟩, (inB_iff _ _ _).2 ⟨g3, g4⟩⟩])
    obtain rfl | rfl | rfl | rfl | rfl | rfl | rfl | rfl | rfl | rfl | rfl | rfl : m = 1 ∨ m = 2 ∨ m = 3 ∨ m = 4 ∨ m = 5 ∨ m = 6 ∨ m = 7 ∨ m = 8 ∨ m = 9 ∨ m = 10 ∨ m = 11 ∨ m = 12 := by omega
    · have HE : Hid (daysP 1 y = 31) := hid (by rw [HD.out]; rfl)
      clear g1 g2 HD
      go_enter Try.func53, Try.ntmps53
      go_wp2
      go_ret
      exact ⟨by rw [HE.out]; rfl, rfl⟩
    · by_cases gl : y % 4 = 0
      · have HE : Hid (daysP 2 y = 29) := hid (by rw [HD.out]; unfold aheadP leapP; rw [if_pos gl]; rfl)
        clear g1 g2 HD
        go_enter Try.func53, Try.ntmps53
        go_wp2
        go_ret
        exact ⟨by rw [HE.out]; rfl, rfl⟩
      · have HE : Hid (daysP 2 y = 28) := hid (by rw [HD.out]; unfold aheadP leapP; rw [if_neg gl]; rfl)
        clear g1 g2 HD
        go_enter Try.func53, Try.ntmps53
        go_wp2
        go_ret
        exact ⟨by rw [HE.out]; rfl, rfl⟩
    · have HE : Hid (daysP 3 y = 31) := hid (by rw [HD.out]; show 90 + leapP y - (59 + leapP y) = 31; omega)
      clear g1 g2 HD
      go_enter Try.func53, Try.ntmps53
      go_wp2
      go_ret
      exact ⟨by rw [HE.out]; rfl, rfl⟩
    · have HE : Hid (daysP 4 y = 30) := hid (by rw [HD.out]; show 120 + leapP y - (90 + leapP y) = 30; omega)
      clear g1 g2 HD
      go_enter Try.func53, Try.ntmps53
      go_wp2
      go_ret
      exact ⟨by rw [HE.out]; rfl, rfl⟩
    · have HE : Hid (daysP 5 y = 31) := hid (by rw [HD.out]; show 151 + leapP y - (120 + leapP y) = 31; omega)
      clear g1 g2 HD
      go_enter Try.func53, Try.ntmps53
      go_wp2
      go_ret
      exact ⟨by rw [HE.out]; rfl, rfl⟩
    · have HE : Hid (daysP 6 y = 30) := hid (by rw [HD.out]; show 181 + leapP y - (151 + leapP y) = 30; omega)
      clear g1 g2 HD
      go_enter Try.func53, Try.ntmps53
      go_wp2
      go_ret
      exact ⟨by rw [HE.out]; rfl, rfl⟩
    · have HE : Hid (daysP 7 y = 31) := hid (by rw [HD.out]; show 212 + leapP y - (181 + leapP y) = 31; omega)
      clear g1 g2 HD
      go_enter Try.func53, Try.ntmps53
      go_wp2
      go_ret
      exact ⟨by rw [HE.out]; rfl, rfl⟩
    · have HE : Hid (daysP 8 y = 31) := hid (by rw [HD.out]; show 243 + leapP y - (212 + leapP y) = 31; omega)
      clear g1 g2 HD
      go_enter Try.func53, Try.ntmps53
      go_wp2
      go_ret
      exact ⟨by rw [HE.out]; rfl, rfl⟩
    · have HE : Hid (daysP 9 y = 30) := hid (by rw [HD.out]; show 273 + leapP y - (243 + leapP y) = 30; omega)
      clear g1 g2 HD
      go_enter Try.func53, Try.ntmps53
      go_wp2
      go_ret
      exact ⟨by rw [HE.out]; rfl, rfl⟩
    · have HE : Hid (daysP 10 y = 31) := hid (by rw [HD.out]; show 304 + leapP y - (273 + leapP y) = 31; omega)
      clear g1 g2 HD
      go_enter Try.func53, Try.ntmps53
      go_wp2
      go_ret
      exact ⟨by rw [HE.out]; rfl, rfl⟩
    · have HE : Hid (daysP 11 y = 30) := hid (by rw [HD.out]; show 334 + leapP y - (304 + leapP y) = 30; omega)
      clear g1 g2 HD
      go_enter Try.func53, Try.ntmps53
      go_wp2
      go_ret
      exact ⟨by rw [HE.out]; rfl, rfl⟩
    · have HE : Hid (daysP 12 y = 31) := hid (by rw [HD.out]; show 365 + leapP y - (334 + leapP y) = 31; omega)
      clear g1 g2 HD
      go_enter Try.func53, Try.ntmps53
      go_wp2
      go_ret
      exact ⟨by rw [HE.out]; rfl, rfl⟩
  · have HD : Hid (daysP m y = 0) := hid (by unfold daysP; rw [if_neg (by rw [inB_iff, inB_iff]; omega)])
    by_cases k1 : m < 1
    · clear g
      go_enter Try.func53, Try.ntmps53
      go_wp2
      go_ret
      exact ⟨by rw [HD.out]; rfl, rfl⟩
    · by_cases k2 : 12 < m
      · clear g
        go_enter Try.func53, Try.ntmps53
        go_wp2
        go_ret
        exact ⟨by rw [HD.out]; rfl, rfl⟩
      · by_cases k3 : y < 2000
        · clear g
          go_enter Try.func53, Try.ntmps53
          go_wp2
          go_ret
          exact ⟨by rw [HD.out]; rfl, rfl⟩
        · have k4 : 2099 < y := by omega
          clear g
          go_enter Try.func53, Try.ntmps53
          go_wp2
          go_ret
          exact ⟨by rw [HD.out]; rfl, rfl⟩
end Go.Proofs.Ytbhfidneijogfaa
