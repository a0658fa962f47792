/- Chapter 24: the calendar; Count. -/
import Derived.Test.YtbhfidneijogfaaClkC
namespace Go.Proofs.Ytbhfidneijogfaa
open Go.RowKit
set_option linter.unusedVariables false
set_option linter.unusedSimpArgs false
attribute [local go_sem] Oper.semAt_some

/-! ### The calendar -/
theorem cum_step (j : Nat) (h : j < 12) : cumP j + 28 ≤ cumP (j + 1) ∧ cumP (j + 1) ≤ cumP j + 31 := by
  have hk : ∀ j : Nat, j < 12 → cumP j + 28 ≤ cumP (j + 1) ∧ cumP (j + 1) ≤ cumP j + 31 := by decide +kernel
  exact hk j h
theorem ahead_step (m y : Int) (h : 1 ≤ m ∧ m ≤ 12) : aheadP m y + 28 ≤ aheadP (m + 1) y := by
  obtain ⟨j, rfl⟩ : ∃ j : Nat, m = (j : Int) + 1 := ⟨(m - 1).toNat, by omega⟩
  have hk := cum_step j (by omega)
  have hl := leapP_bd y
  unfold aheadP
  rw [show ((j : Int) + 1 + 1 - 1).toNat = j + 1 by omega, show ((j : Int) + 1 - 1).toNat = j by omega]
  split <;> split <;> omega
theorem ahead_one (y : Int) : aheadP 1 y = 0 := rfl
theorem ahead_13 (y : Int) : aheadP 13 y = 365 + leapP y := rfl
theorem days_in (m y : Int) (hm : 1 ≤ m ∧ m ≤ 12) (hy : 2000 ≤ y ∧ y ≤ 2099) : daysP m y = aheadP (m + 1) y - aheadP m y := by
  unfold daysP
  rw [if_pos ⟨(inB_iff _ _ _).2 hm, (inB_iff _ _ _).2 hy⟩]
theorem days_pos (m y : Int) (h : 0 < daysP m y) : (1 ≤ m ∧ m ≤ 12) ∧ (2000 ≤ y ∧ y ≤ 2099) := by
  unfold daysP at h
  split at h
  · rename_i g
    exact ⟨(inB_iff _ _ _).1 g.1, (inB_iff _ _ _).1 g.2⟩
  · omega
theorem years_step (n : Int) (h : 0 ≤ n) : yearsP (n + 1) = yearsP n + 365 + leapP (2000 + n) := by
  unfold yearsP leapP
  split <;> omega
theorem years_step' (y : Int) (h : 2000 ≤ y) : yearsP (y + 1 - 2000) = yearsP (y - 2000) + aheadP 13 y := by
  have := years_step (y - 2000) (by omega)
  rw [show y - 2000 + 1 = y + 1 - 2000 by omega, show 2000 + (y - 2000) = y by omega] at this
  rw [ahead_13]
  omega
theorem ahead_le (m k y : Int) (h1 : 1 ≤ m) (h2 : m ≤ k) (h3 : k ≤ 13) : aheadP m y ≤ aheadP k y := by
  obtain ⟨j, hj⟩ : ∃ j : Nat, k = m + (j : Int) := ⟨(k - m).toNat, by omega⟩
  subst hj
  induction j with
  | zero => rw [show m + ((0 : Nat) : Int) = m by omega]; exact Int.le_refl _
  | succ j ih =>
    have h5 := ih (by omega) (by omega)
    have h6 := ahead_step (m + (j : Int)) y (by omega)
    rw [show m + ((j + 1 : Nat) : Int) = m + (j : Int) + 1 by omega]
    omega
theorem years_le (n k : Int) (h0 : 0 ≤ n) (h : n ≤ k) : yearsP n ≤ yearsP k := by unfold yearsP; omega
/-- A day's number: the days since the first one. -/
def rankP (d m y : Int) : Int := yearsP (y - 2000) + aheadP m y + d - 1
def isDay (d m y : Int) : Prop := (2000 ≤ y ∧ y ≤ 2099) ∧ (1 ≤ m ∧ m ≤ 12) ∧ 1 ≤ d ∧ d ≤ daysP m y
theorem isDay_may (d m y : Int) : mayDP true d m y = true ↔ isDay d m y := by
  show inB d 1 (daysP m y) = true ↔ _
  rw [inB_iff]
  unfold isDay
  constructor
  · intro h
    obtain ⟨h1, h2⟩ := days_pos m y (by omega)
    exact ⟨h2, h1, h⟩
  · intro h; exact h.2.2
theorem rank_bd (d m y : Int) (h : isDay d m y) : yearsP (y - 2000) ≤ rankP d m y ∧ rankP d m y < yearsP (y + 1 - 2000) ∧ yearsP (y - 2000) + aheadP m y ≤ rankP d m y ∧ rankP d m y < yearsP (y - 2000) + aheadP (m + 1) y := by
  obtain ⟨hy, hm, hd1, hd2⟩ := h
  rw [days_in m y hm hy] at hd2
  have h1 := aheadP_bd m y
  have h2 := ahead_le (m + 1) 13 y (by omega) (by omega) (by omega)
  have h3 := years_step' y hy.1
  unfold rankP
  omega
theorem rank_all (d m y : Int) (h : isDay d m y) : 0 ≤ rankP d m y ∧ rankP d m y ≤ 36524 := by
  obtain ⟨h1, h2, _⟩ := rank_bd d m y h
  have h3 := years_le 0 (y - 2000) (by omega) (by have := h.1; omega)
  have h4 := years_le (y + 1 - 2000) 100 (by have := h.1; omega) (by have := h.1; omega)
  have e0 : yearsP 0 = 0 := rfl
  have e1 : yearsP 100 = 36525 := rfl
  omega
theorem rank_one (d m y d' m' y' : Int) (h : isDay d m y) (h' : isDay d' m' y') (e : rankP d m y = rankP d' m' y') : d = d' ∧ m = m' ∧ y = y' := by
  obtain ⟨a1, a2, a3, a4⟩ := rank_bd d m y h
  obtain ⟨b1, b2, b3, b4⟩ := rank_bd d' m' y' h'
  have ey : y = y' := by
    rcases Int.lt_trichotomy y y' with g | g | g
    · have := years_le (y + 1 - 2000) (y' - 2000) (by have := h.1; omega) (by omega); omega
    · exact g
    · have := years_le (y' + 1 - 2000) (y - 2000) (by have := h'.1; omega) (by omega); omega
  subst ey
  have em : m = m' := by
    rcases Int.lt_trichotomy m m' with g | g | g
    · have := ahead_le (m + 1) m' y (by have := h.2.1; omega) (by omega) (by have := h'.2.1; omega); omega
    · exact g
    · have := ahead_le (m' + 1) m y (by have := h'.2.1; omega) (by omega) (by have := h.2.1; omega); omega
  subst em
  unfold rankP at e
  exact ⟨by omega, rfl, rfl⟩
def countB (i : Bool) (d m y : Int) (j : Bool) (h mi s c : Int) : Bool := i && (j && (mayDP i d m y && mayP j h mi s c))
def countV (d m y h mi s c : Int) : Int := rankP d m y * 8640000 + h * 360000 + mi * 6000 + s * 100 + c
def countN (i : Bool) (d m y : Int) (j : Bool) (h mi s c : Int) : Int := if countB i d m y j h mi s c = true then countV d m y h mi s c else 0
theorem may_bd (h m s c : Int) (g : mayP true h m s c = true) : (0 ≤ h ∧ h ≤ 23) ∧ (0 ≤ m ∧ m ≤ 59) ∧ (0 ≤ s ∧ s ≤ 59) ∧ (0 ≤ c ∧ c ≤ 99) := by
  unfold mayP at g
  simp [inB_iff] at g
  exact ⟨g.1, g.2.1, g.2.2.1, g.2.2.2⟩
set_option maxHeartbeats 4000000 in
theorem c_Count (i : Bool) (d m y : Int) (j : Bool) (h mi s c : Int) (w : World) (hm : I64 m) (hy : I64 y) :
    Calls Try.prog 38 #[.agg #[.bool i, .int .i64 d, .int .i64 m, .int .i64 y], .agg #[.bool j, .int .i64 h, .int .i64 mi, .int .i64 s, .int .i64 c]] w fun e w' => e = .returned (.tuple #[.int .i64 (countN i d m y j h mi s c), .bool (countB i d m y j h mi s c)]) ∧ Below w.heap.size w w' := by
  cases i
  · have HB : Hid (countB false d m y j h mi s c = false) := hid (by unfold countB; rfl)
    have HN : Hid (countN false d m y j h mi s c = 0) := hid (by unfold countN; rw [HB.out]; rfl)
    have hp := (Blk.new w 60 #[.bool false, .int .i64 d, .int .i64 m, .int .i64 y]).alloc (.cells #[.bool j, .int .i64 h, .int .i64 mi, .int .i64 s, .int .i64 c] 62)
    have hq := Blk.new (w.alloc (.cells #[.bool false, .int .i64 d, .int .i64 m, .int .i64 y] 60)) 62 #[.bool j, .int .i64 h, .int .i64 mi, .int .i64 s, .int .i64 c]
    simp only [World.size_alloc] at hq
    have hb := ((Below.refl w.heap.size w).alloc (Nat.le_refl _) (.cells #[.bool false, .int .i64 d, .int .i64 m, .int .i64 y] 60)).alloc (by simp) (.cells #[.bool j, .int .i64 h, .int .i64 mi, .int .i64 s, .int .i64 c] 62)
    have f0 : ((w.alloc (.cells #[.bool false, .int .i64 d, .int .i64 m, .int .i64 y] 60)).alloc (.cells #[.bool j, .int .i64 h, .int .i64 mi, .int .i64 s, .int .i64 c] 62)).cell? ⟨w.heap.size, 0, none⟩ = some (.bool false) := hp.cell 0
    have f1 : ((w.alloc (.cells #[.bool false, .int .i64 d, .int .i64 m, .int .i64 y] 60)).alloc (.cells #[.bool j, .int .i64 h, .int .i64 mi, .int .i64 s, .int .i64 c] 62)).cell? ⟨w.heap.size, 1, none⟩ = some (.int .i64 d) := hp.cell 1
    have f2 : ((w.alloc (.cells #[.bool false, .int .i64 d, .int .i64 m, .int .i64 y] 60)).alloc (.cells #[.bool j, .int .i64 h, .int .i64 mi, .int .i64 s, .int .i64 c] 62)).cell? ⟨w.heap.size, 2, none⟩ = some (.int .i64 m) := hp.cell 2
    have f3 : ((w.alloc (.cells #[.bool false, .int .i64 d, .int .i64 m, .int .i64 y] 60)).alloc (.cells #[.bool j, .int .i64 h, .int .i64 mi, .int .i64 s, .int .i64 c] 62)).cell? ⟨w.heap.size, 3, none⟩ = some (.int .i64 y) := hp.cell 3
    have k0 : ((w.alloc (.cells #[.bool false, .int .i64 d, .int .i64 m, .int .i64 y] 60)).alloc (.cells #[.bool j, .int .i64 h, .int .i64 mi, .int .i64 s, .int .i64 c] 62)).cell? ⟨w.heap.size + 1, 0, none⟩ = some (.bool j) := hq.cell 0
    have k1 : ((w.alloc (.cells #[.bool false, .int .i64 d, .int .i64 m, .int .i64 y] 60)).alloc (.cells #[.bool j, .int .i64 h, .int .i64 mi, .int .i64 s, .int .i64 c] 62)).cell? ⟨w.heap.size + 1, 1, none⟩ = some (.int .i64 h) := hq.cell 1
    have k2 : ((w.alloc (.cells #[.bool false, .int .i64 d, .int .i64 m, .int .i64 y] 60)).alloc (.cells #[.bool j, .int .i64 h, .int .i64 mi, .int .i64 s, .int .i64 c] 62)).cell? ⟨w.heap.size + 1, 2, none⟩ = some (.int .i64 mi) := hq.cell 2
    have k3 : ((w.alloc (.cells #[.bool false, .int .i64 d, .int .i64 m, .int .i64 y] 60)).alloc (.cells #[.bool j, .int .i64 h, .int .i64 mi, .int .i64 s, .int .i64 c] 62)).cell? ⟨w.heap.size + 1, 3, none⟩ = some (.int .i64 s) := hq.cell 3
    have k4 : ((w.alloc (.cells #[.bool false, .int .i64 d, .int .i64 m, .int .i64 y] 60)).alloc (.cells #[.bool j, .int .i64 h, .int .i64 mi, .int .i64 s, .int .i64 c] 62)).cell? ⟨w.heap.size + 1, 4, none⟩ = some (.int .i64 c) := hq.cell 4
    go_enter Try.func38, Try.ntmps38
    go_wp2
    go_ret2
    exact ⟨by rw [HB.out, HN.out]; rfl, hb⟩
  · cases j
    · have HB : Hid (countB true d m y false h mi s c = false) := hid (by unfold countB; rfl)
      have HN : Hid (countN true d m y false h mi s c = 0) := hid (by unfold countN; rw [HB.out]; rfl)
      have hp := (Blk.new w 60 #[.bool true, .int .i64 d, .int .i64 m, .int .i64 y]).alloc (.cells #[.bool false, .int .i64 h, .int .i64 mi, .int .i64 s, .int .i64 c] 62)
      have hq := Blk.new (w.alloc (.cells #[.bool true, .int .i64 d, .int .i64 m, .int .i64 y] 60)) 62 #[.bool false, .int .i64 h, .int .i64 mi, .int .i64 s, .int .i64 c]
      simp only [World.size_alloc] at hq
      have hb := ((Below.refl w.heap.size w).alloc (Nat.le_refl _) (.cells #[.bool true, .int .i64 d, .int .i64 m, .int .i64 y] 60)).alloc (by simp) (.cells #[.bool false, .int .i64 h, .int .i64 mi, .int .i64 s, .int .i64 c] 62)
      have f0 : ((w.alloc (.cells #[.bool true, .int .i64 d, .int .i64 m, .int .i64 y] 60)).alloc (.cells #[.bool false, .int .i64 h, .int .i64 mi, .int .i64 s, .int .i64 c] 62)).cell? ⟨w.heap.size, 0, none⟩ = some (.bool true) := hp.cell 0
      have f1 : ((w.alloc (.cells #[.bool true, .int .i64 d, .int .i64 m, .int .i64 y] 60)).alloc (.cells #[.bool false, .int .i64 h, .int .i64 mi, .int .i64 s, .int .i64 c] 62)).cell? ⟨w.heap.size, 1, none⟩ = some (.int .i64 d) := hp.cell 1
      have f2 : ((w.alloc (.cells #[.bool true, .int .i64 d, .int .i64 m, .int .i64 y] 60)).alloc (.cells #[.bool false, .int .i64 h, .int .i64 mi, .int .i64 s, .int .i64 c] 62)).cell? ⟨w.heap.size, 2, none⟩ = some (.int .i64 m) := hp.cell 2
      have f3 : ((w.alloc (.cells #[.bool true, .int .i64 d, .int .i64 m, .int .i64 y] 60)).alloc (.cells #[.bool false, .int .i64 h, .int .i64 mi, .int .i64 s, .int .i64 c] 62)).cell? ⟨w.heap.size, 3, none⟩ = some (.int .i64 y) := hp.cell 3
      have k0 : ((w.alloc (.cells #[.bool true, .int .i64 d, .int .i64 m, .int .i64 y] 60)).alloc (.cells #[.bool false, .int .i64 h, .int .i64 mi, .int .i64 s, .int .i64 c] 62)).cell? ⟨w.heap.size + 1, 0, none⟩ = some (.bool false) := hq.cell 0
      have k1 : ((w.alloc (.cells #[.bool true, .int .i64 d, .int .i64 m, .int .i64 y] 60)).alloc (.cells #[.bool false, .int .i64 h, .int .i64 mi, .int .i64 s, .int .i64 c] 62)).cell? ⟨w.heap.size + 1, 1, none⟩ = some (.int .i64 h) := hq.cell 1
      have k2 : ((w.alloc (.cells #[.bool true, .int .i64 d, .int .i64 m, .int .i64 y] 60)).alloc (.cells #[.bool false, .int .i64 h, .int .i64 mi, .int .i64 s, .int .i64 c] 62)).cell? ⟨w.heap.size + 1, 2, none⟩ = some (.int .i64 mi) := hq.cell 2
      have k3 : ((w.alloc (.cells #[.bool true, .int .i64 d, .int .i64 m, .int .i64 y] 60)).alloc (.cells #[.bool false, .int .i64 h, .int .i64 mi, .int .i64 s, .int .i64 c] 62)).cell? ⟨w.heap.size + 1, 3, none⟩ = some (.int .i64 s) := hq.cell 3
      have k4 : ((w.alloc (.cells #[.bool true, .int .i64 d, .int .i64 m, .int .i64 y] 60)).alloc (.cells #[.bool false, .int .i64 h, .int .i64 mi, .int .i64 s, .int .i64 c] 62)).cell? ⟨w.heap.size + 1, 4, none⟩ = some (.int .i64 c) := hq.cell 4
      go_enter Try.func38, Try.ntmps38
      go_wp2
      go_ret2
      exact ⟨by rw [HB.out, HN.out]; rfl, hb⟩
    · have HD := hid fun w => c_mayDate true d m y w hm hy
      have HT := hid fun w => c_may true h mi s c w
      cases g1 : mayDP true d m y
      · rw [g1] at HD
        have HB : Hid (countB true d m y true h mi s c = false) := hid (by unfold countB; rw [g1]; rfl)
        have HN : Hid (countN true d m y true h mi s c = 0) := hid (by unfold countN; rw [HB.out]; rfl)
        have hp := (Blk.new w 60 #[.bool true, .int .i64 d, .int .i64 m, .int .i64 y]).alloc (.cells #[.bool true, .int .i64 h, .int .i64 mi, .int .i64 s, .int .i64 c] 62)
        have hq := Blk.new (w.alloc (.cells #[.bool true, .int .i64 d, .int .i64 m, .int .i64 y] 60)) 62 #[.bool true, .int .i64 h, .int .i64 mi, .int .i64 s, .int .i64 c]
        simp only [World.size_alloc] at hq
        have hb := ((Below.refl w.heap.size w).alloc (Nat.le_refl _) (.cells #[.bool true, .int .i64 d, .int .i64 m, .int .i64 y] 60)).alloc (by simp) (.cells #[.bool true, .int .i64 h, .int .i64 mi, .int .i64 s, .int .i64 c] 62)
        have f0 : ((w.alloc (.cells #[.bool true, .int .i64 d, .int .i64 m, .int .i64 y] 60)).alloc (.cells #[.bool true, .int .i64 h, .int .i64 mi, .int .i64 s, .int .i64 c] 62)).cell? ⟨w.heap.size, 0, none⟩ = some (.bool true) := hp.cell 0
        have f1 : ((w.alloc (.cells #[.bool true, .int .i64 d, .int .i64 m, .int .i64 y] 60)).alloc (.cells #[.bool true, .int .i64 h, .int .i64 mi, .int .i64 s, .int .i64 c] 62)).cell? ⟨w.heap.size, 1, none⟩ = some (.int .i64 d) := hp.cell 1
        have f2 : ((w.alloc (.cells #[.bool true, .int .i64 d, .int .i64 m, .int .i64 y] 60)).alloc (.cells #[.bool true, .int .i64 h, .int .i64 mi, .int .i64 s, .int .i64 c] 62)).cell? ⟨w.heap.size, 2, none⟩ = some (.int .i64 m) := hp.cell 2
        have f3 : ((w.alloc (.cells #[.bool true, .int .i64 d, .int .i64 m, .int .i64 y] 60)).alloc (.cells #[.bool true, .int .i64 h, .int .i64 mi, .int .i64 s, .int .i64 c] 62)).cell? ⟨w.heap.size, 3, none⟩ = some (.int .i64 y) := hp.cell 3
        have k0 : ((w.alloc (.cells #[.bool true, .int .i64 d, .int .i64 m, .int .i64 y] 60)).alloc (.cells #[.bool true, .int .i64 h, .int .i64 mi, .int .i64 s, .int .i64 c] 62)).cell? ⟨w.heap.size + 1, 0, none⟩ = some (.bool true) := hq.cell 0
        have k1 : ((w.alloc (.cells #[.bool true, .int .i64 d, .int .i64 m, .int .i64 y] 60)).alloc (.cells #[.bool true, .int .i64 h, .int .i64 mi, .int .i64 s, .int .i64 c] 62)).cell? ⟨w.heap.size + 1, 1, none⟩ = some (.int .i64 h) := hq.cell 1
        have k2 : ((w.alloc (.cells #[.bool true, .int .i64 d, .int .i64 m, .int .i64 y] 60)).alloc (.cells #[.bool true, .int .i64 h, .int .i64 mi, .int .i64 s, .int .i64 c] 62)).cell? ⟨w.heap.size + 1, 2, none⟩ = some (.int .i64 mi) := hq.cell 2
        have k3 : ((w.alloc (.cells #[.bool true, .int .i64 d, .int .i64 m, .int .i64 y] 60)).alloc (.cells #[.bool true, .int .i64 h, .int .i64 mi, .int .i64 s, .int .i64 c] 62)).cell? ⟨w.heap.size + 1, 3, none⟩ = some (.int .i64 s) := hq.cell 3
        have k4 : ((w.alloc (.cells #[.bool true, .int .i64 d, .int .i64 m, .int .i64 y] 60)).alloc (.cells #[.bool true, .int .i64 h, .int .i64 mi, .int .i64 s, .int .i64 c] 62)).cell? ⟨w.heap.size + 1, 4, none⟩ = some (.int .i64 c) := hq.cell 4
        go_enter Try.func38, Try.ntmps38
        go_wp2_with fail
        clear f0 f1 f2 f3 k0 k1 k2 k3 k4
        generalize (w.alloc (.cells #[.bool true, .int .i64 d, .int .i64 m, .int .i64 y] 60)).alloc (.cells #[.bool true, .int .i64 h, .int .i64 mi, .int .i64 s, .int .i64 c] 62) = W1 at *
        refine (HD.out _).mono ?_
        rintro e w1 ⟨rfl, b1⟩
        replace hb := hb.trans (b1.mono hb.size)
        go_wp2
        go_ret2
        exact ⟨by rw [HB.out, HN.out]; rfl, hb⟩
      · rw [g1] at HD
        cases g2 : mayP true h mi s c
        · rw [g2] at HT
          have HB : Hid (countB true d m y true h mi s c = false) := hid (by unfold countB; rw [g1, g2]; rfl)
          have HN : Hid (countN true d m y true h mi s c = 0) := hid (by unfold countN; rw [HB.out]; rfl)
          have hp := (Blk.new w 60 #[.bool true, .int .i64 d, .int .i64 m, .int .i64 y]).alloc (.cells #[.bool true, .int .i64 h, .int .i64 mi, .int .i64 s, .int .i64 c] 62)
          have hq := Blk.new (w.alloc (.cells #[.bool true, .int .i64 d, .int .i64 m, .int .i64 y] 60)) 62 #[.bool true, .int .i64 h, .int .i64 mi, .int .i64 s, .int .i64 c]
          simp only [World.size_alloc] at hq
          have hb := ((Below.refl w.heap.size w).alloc (Nat.le_refl _) (.cells #[.bool true, .int .i64 d, .int .i64 m, .int .i64 y] 60)).alloc (by simp) (.cells #[.bool true, .int .i64 h, .int .i64 mi, .int .i64 s, .int .i64 c] 62)
          have f0 : ((w.alloc (.cells #[.bool true, .int .i64 d, .int .i64 m, .int .i64 y] 60)).alloc (.cells #[.bool true, .int .i64 h, .int .i64 mi, .int .i64 s, .int .i64 c] 62)).cell? ⟨w.heap.size, 0, none⟩ = some (.bool true) := hp.cell 0
          have f1 : ((w.alloc (.cells #[.bool true, .int .i64 d, .int .i64 m, .int .i64 y] 60)).alloc (.cells #[.bool true, .int .i64 h, .int .i64 mi, .int .i64 s, .int .i64 c] 62)).cell? ⟨w.heap.size, 1, none⟩ = some (.int .i64 d) := hp.cell 1
          have f2 : ((w.alloc (.cells #[.bool true, .int .i64 d, .int .i64 m, .int .i64 y] 60)).alloc (.cells #[.bool true, .int .i64 h, .int .i64 mi, .int .i64 s, .int .i64 c] 62)).cell? ⟨w.heap.size, 2, none⟩ = some (.int .i64 m) := hp.cell 2
          have f3 : ((w.alloc (.cells #[.bool true, .int .i64 d, .int .i64 m, .int .i64 y] 60)).alloc (.cells #[.bool true, .int .i64 h, .int .i64 mi, .int .i64 s, .int .i64 c] 62)).cell? ⟨w.heap.size, 3, none⟩ = some (.int .i64 y) := hp.cell 3
          have k0 : ((w.alloc (.cells #[.bool true, .int .i64 d, .int .i64 m, .int .i64 y] 60)).alloc (.cells #[.bool true, .int .i64 h, .int .i64 mi, .int .i64 s, .int .i64 c] 62)).cell? ⟨w.heap.size + 1, 0, none⟩ = some (.bool true) := hq.cell 0
          have k1 : ((w.alloc (.cells #[.bool true, .int .i64 d, .int .i64 m, .int .i64 y] 60)).alloc (.cells #[.bool true, .int .i64 h, .int .i64 mi, .int .i64 s, .int .i64 c] 62)).cell? ⟨w.heap.size + 1, 1, none⟩ = some (.int .i64 h) := hq.cell 1
          have k2 : ((w.alloc (.cells #[.bool true, .int .i64 d, .int .i64 m, .int .i64 y] 60)).alloc (.cells #[.bool true, .int .i64 h, .int .i64 mi, .int .i64 s, .int .i64 c] 62)).cell? ⟨w.heap.size + 1, 2, none⟩ = some (.int .i64 mi) := hq.cell 2
          have k3 : ((w.alloc (.cells #[.bool true, .int .i64 d, .int .i64 m, .int .i64 y] 60)).alloc (.cells #[.bool true, .int .i64 h, .int .i64 mi, .int .i64 s, .int .i64 c] 62)).cell? ⟨w.heap.size + 1, 3, none⟩ = some (.int .i64 s) := hq.cell 3
          have k4 : ((w.alloc (.cells #[.bool true, .int .i64 d, .int .i64 m, .int .i64 y] 60)).alloc (.cells #[.bool true, .int .i64 h, .int .i64 mi, .int .i64 s, .int .i64 c] 62)).cell? ⟨w.heap.size + 1, 4, none⟩ = some (.int .i64 c) := hq.cell 4
          go_enter Try.func38, Try.ntmps38
          go_wp2_with fail
          clear f0 f1 f2 f3 k0 k1 k2 k3 k4
          generalize (w.alloc (.cells #[.bool true, .int .i64 d, .int .i64 m, .int .i64 y] 60)).alloc (.cells #[.bool true, .int .i64 h, .int .i64 mi, .int .i64 s, .int .i64 c] 62) = W1 at *
          refine (HD.out _).mono ?_
          rintro e w1 ⟨rfl, b1⟩
          replace hp := hp.below b1 hp.lt
          replace hq := hq.below b1 hq.lt
          replace hb := hb.trans (b1.mono hb.size)
          have f0 : (w1).cell? ⟨w.heap.size, 0, none⟩ = some (.bool true) := hp.cell 0
          have f1 : (w1).cell? ⟨w.heap.size, 1, none⟩ = some (.int .i64 d) := hp.cell 1
          have f2 : (w1).cell? ⟨w.heap.size, 2, none⟩ = some (.int .i64 m) := hp.cell 2
          have f3 : (w1).cell? ⟨w.heap.size, 3, none⟩ = some (.int .i64 y) := hp.cell 3
          have k0 : (w1).cell? ⟨w.heap.size + 1, 0, none⟩ = some (.bool true) := hq.cell 0
          have k1 : (w1).cell? ⟨w.heap.size + 1, 1, none⟩ = some (.int .i64 h) := hq.cell 1
          have k2 : (w1).cell? ⟨w.heap.size + 1, 2, none⟩ = some (.int .i64 mi) := hq.cell 2
          have k3 : (w1).cell? ⟨w.heap.size + 1, 3, none⟩ = some (.int .i64 s) := hq.cell 3
          have k4 : (w1).cell? ⟨w.heap.size + 1, 4, none⟩ = some (.int .i64 c) := hq.cell 4
          go_wp2_with fail
          clear f0 f1 f2 f3 k0 k1 k2 k3 k4
          refine (HT.out _).mono ?_
          rintro e w2 ⟨rfl, b2⟩
          replace hb := hb.trans (b2.mono hb.size)
          go_wp2
          go_ret2
          exact ⟨by rw [HB.out, HN.out]; rfl, hb⟩
        · rw [g2] at HT
          have HB : Hid (countB true d m y true h mi s c = true) := hid (by unfold countB; rw [g1, g2]; rfl)
          have HN : Hid (countN true d m y true h mi s c = countV d m y h mi s c) := hid (by unfold countN; rw [if_pos HB.out])
          have hday := (isDay_may d m y).1 g1
          have hbd := may_bd h mi s c g2
          have hrk := rank_all d m y hday
          have hab := aheadP_bd m y
          obtain ⟨⟨y1, y2⟩, ⟨m1, m2⟩, d1, d2⟩ := hday
          have hdb := daysP_bd m y
          obtain ⟨hh, hmi, hs, hc⟩ := hbd
          have hp := (Blk.new w 60 #[.bool true, .int .i64 d, .int .i64 m, .int .i64 y]).alloc (.cells #[.bool true, .int .i64 h, .int .i64 mi, .int .i64 s, .int .i64 c] 62)
          have hq := Blk.new (w.alloc (.cells #[.bool true, .int .i64 d, .int .i64 m, .int .i64 y] 60)) 62 #[.bool true, .int .i64 h, .int .i64 mi, .int .i64 s, .int .i64 c]
          simp only [World.size_alloc] at hq
          have hb := ((Below.refl w.heap.size w).alloc (Nat.le_refl _) (.cells #[.bool true, .int .i64 d, .int .i64 m, .int .i64 y] 60)).alloc (by simp) (.cells #[.bool true, .int .i64 h, .int .i64 mi, .int .i64 s, .int .i64 c] 62)
          have f0 : ((w.alloc (.cells #[.bool true, .int .i64 d, .int .i64 m, .int .i64 y] 60)).alloc (.cells #[.bool true, .int .i64 h, .int .i64 mi, .int .i64 s, .int .i64 c] 62)).cell? ⟨w.heap.size, 0, none⟩ = some (.bool true) := hp.cell 0
          have f1 : ((w.alloc (.cells #[.bool true, .int .i64 d, .int .i64 m, .int .i64 y] 60)).alloc (.cells #[.bool true, .int .i64 h, .int .i64 mi, .int .i64 s, .int .i64 c] 62)).cell? ⟨w.heap.size, 1, none⟩ = some (.int .i64 d) := hp.cell 1
          have f2 : ((w.alloc (.cells #[.bool true, .int .i64 d, .int .i64 m, .int .i64 y] 60)).alloc (.cells #[.bool true, .int .i64 h, .int .i64 mi, .int .i64 s, .int .i64 c] 62)).cell? ⟨w.heap.size, 2, none⟩ = some (.int .i64 m) := hp.cell 2
          have f3 : ((w.alloc (.cells #[.bool true, .int .i64 d, .int .i64 m, .int .i64 y] 60)).alloc (.cells #[.bool true, .int .i64 h, .int .i64 mi, .int .i64 s, .int .i64 c] 62)).cell? ⟨w.heap.size, 3, none⟩ = some (.int .i64 y) := hp.cell 3
          have k0 : ((w.alloc (.cells #[.bool true, .int .i64 d, .int .i64 m, .int .i64 y] 60)).alloc (.cells #[.bool true, .int .i64 h, .int .i64 mi, .int .i64 s, .int .i64 c] 62)).cell? ⟨w.heap.size + 1, 0, none⟩ = some (.bool true) := hq.cell 0
          have k1 : ((w.alloc (.cells #[.bool true, .int .i64 d, .int .i64 m, .int .i64 y] 60)).alloc (.cells #[.bool true, .int .i64 h, .int .i64 mi, .int .i64 s, .int .i64 c] 62)).cell? ⟨w.heap.size + 1, 1, none⟩ = some (.int .i64 h) := hq.cell 1
          have k2 : ((w.alloc (.cells #[.bool true, .int .i64 d, .int .i64 m, .int .i64 y] 60)).alloc (.cells #[.bool true, .int .i64 h, .int .i64 mi, .int .i64 s, .int .i64 c] 62)).cell? ⟨w.heap.size + 1, 2, none⟩ = some (.int .i64 mi) := hq.cell 2
          have k3 : ((w.alloc (.cells #[.bool true, .int .i64 d, .int .i64 m, .int .i64 y] 60)).alloc (.cells #[.bool true, .int .i64 h, .int .i64 mi, .int .i64 s, .int .i64 c] 62)).cell? ⟨w.heap.size + 1, 3, none⟩ = some (.int .i64 s) := hq.cell 3
          have k4 : ((w.alloc (.cells #[.bool true, .int .i64 d, .int .i64 m, .int .i64 y] 60)).alloc (.cells #[.bool true, .int .i64 h, .int .i64 mi, .int .i64 s, .int .i64 c] 62)).cell? ⟨w.heap.size + 1, 4, none⟩ = some (.int .i64 c) := hq.cell 4
          go_enter Try.func38, Try.ntmps38
          go_wp2_with fail
          clear f0 f1 f2 f3 k0 k1 k2 k3 k4
          generalize (w.alloc (.cells #[.bool true, .int .i64 d, .int .i64 m, .int .i64 y] 60)).alloc (.cells #[.bool true, .int .i64 h, .int .i64 mi, .int .i64 s, .int .i64 c] 62) = W1 at *
          refine (HD.out _).mono ?_
          rintro e w1 ⟨rfl, b1⟩
          replace hp := hp.below b1 hp.lt
          replace hq := hq.below b1 hq.lt
          replace hb := hb.trans (b1.mono hb.size)
          clear b1
          have f0 : (w1).cell? ⟨w.heap.size, 0, none⟩ = some (.bool true) := hp.cell 0
          have f1 : (w1).cell? ⟨w.heap.size, 1, none⟩ = some (.int .i64 d) := hp.cell 1
          have f2 : (w1).cell? ⟨w.heap.size, 2, none⟩ = some (.int .i64 m) := hp.cell 2
          have f3 : (w1).cell? ⟨w.heap.size, 3, none⟩ = some (.int .i64 y) := hp.cell 3
          have k0 : (w1).cell? ⟨w.heap.size + 1, 0, none⟩ = some (.bool true) := hq.cell 0
          have k1 : (w1).cell? ⟨w.heap.size + 1, 1, none⟩ = some (.int .i64 h) := hq.cell 1
          have k2 : (w1).cell? ⟨w.heap.size + 1, 2, none⟩ = some (.int .i64 mi) := hq.cell 2
          have k3 : (w1).cell? ⟨w.heap.size + 1, 3, none⟩ = some (.int .i64 s) := hq.cell 3
          have k4 : (w1).cell? ⟨w.heap.size + 1, 4, none⟩ = some (.int .i64 c) := hq.cell 4
          go_wp2_with fail
          clear f0 f1 f2 f3 k0 k1 k2 k3 k4
          refine (HT.out _).mono ?_
          rintro e w2 ⟨rfl, b2⟩
          replace hp := hp.below b2 hp.lt
          replace hq := hq.below b2 hq.lt
          replace hb := hb.trans (b2.mono hb.size)
          clear b2 HD HT g1 g2
          have HY := hid fun w => c_years (y - 2000) w (by omega)
          have HA := hid fun w => c_ahead m y w (by omega) (by omega)
          have hyb : 0 ≤ yearsP (y - 2000) ∧ yearsP (y - 2000) ≤ 40000 := by unfold yearsP; omega
          have HRK : Hid (rankP d m y = yearsP (y - 2000) + aheadP m y + d - 1) := rfl
          rw [HRK.out] at hrk
          have HV : Hid (countV d m y h mi s c = (yearsP (y - 2000) + aheadP m y + d - 1) * 8640000 + h * 360000 + mi * 6000 + s * 100 + c) := rfl
          generalize yearsP (y - 2000) = Y at *
          generalize aheadP m y = A at *
          have uy : IntKind.i64.wrap (y - 2000) = y - 2000 := IntWalk.i64_in _ (by omega)
          have u1 : IntKind.i64.wrap (Y + A) = Y + A := IntWalk.i64_in _ (by omega)
          have u2 : IntKind.i64.wrap (Y + A + d) = Y + A + d := IntWalk.i64_in _ (by omega)
          have u3 : IntKind.i64.wrap (Y + A + d - 1) = Y + A + d - 1 := IntWalk.i64_in _ (by omega)
          have f0 : (w2).cell? ⟨w.heap.size, 0, none⟩ = some (.bool true) := hp.cell 0
          have f1 : (w2).cell? ⟨w.heap.size, 1, none⟩ = some (.int .i64 d) := hp.cell 1
          have f2 : (w2).cell? ⟨w.heap.size, 2, none⟩ = some (.int .i64 m) := hp.cell 2
          have f3 : (w2).cell? ⟨w.heap.size, 3, none⟩ = some (.int .i64 y) := hp.cell 3
          have k0 : (w2).cell? ⟨w.heap.size + 1, 0, none⟩ = some (.bool true) := hq.cell 0
          have k1 : (w2).cell? ⟨w.heap.size + 1, 1, none⟩ = some (.int .i64 h) := hq.cell 1
          have k2 : (w2).cell? ⟨w.heap.size + 1, 2, none⟩ = some (.int .i64 mi) := hq.cell 2
          have k3 : (w2).cell? ⟨w.heap.size + 1, 3, none⟩ = some (.int .i64 s) := hq.cell 3
          have k4 : (w2).cell? ⟨w.heap.size + 1, 4, none⟩ = some (.int .i64 c) := hq.cell 4
          go_wp2_with fail
          clear f0 f1 f2 f3 k0 k1 k2 k3 k4
          refine wp_region_noPanic ?_
          refine wp_region_held_drew (S := (fun w' : World => w'.cell? ⟨w.heap.size, 0, none⟩ = some (.bool true) ∧ w'.cell? ⟨w.heap.size, 1, none⟩ = some (.int .i64 d) ∧ w'.cell? ⟨w.heap.size, 2, none⟩ = some (.int .i64 m) ∧ w'.cell? ⟨w.heap.size, 3, none⟩ = some (.int .i64 y))) (by kernel_rfl) ⟨hp.cell 0, hp.cell 1, hp.cell 2, hp.cell 3⟩ (fun hHeld => ?_)
          refine (show wpAnyH _ _ _ _ _ 15 _ _ _ from ?_)
          try (simp only [Act.put, List.setIfInBounds_toArray, List.set_cons_zero, List.set_cons_succ])
          replace hp := hp.drew
          replace hq := hq.drew
          replace hb := hb.drew
          generalize w2.drew = V at *
          refine tk 0 hHeld ?_
          refine tk 1 hHeld ?_
          refine tk 2 hHeld ?_
          refine tk 4 hHeld ?_
          refine tk 5 hHeld ?_
          refine tk 6 hHeld ?_
          refine tk 7 hHeld ?_
          refine tk 10 hHeld ?_
          refine tk 11 hHeld ?_
          refine rd1 3 (fun K hK => ?_)
          go_simp
          refine (HY.out _).mono ?_
          rintro e w' ⟨rfl, rfl⟩
          go_wp2_with fail
          refine hK.out _ _ hHeld (fun hHeld => ?_)
          clear hK K
          try (simp only [Act.put, List.setIfInBounds_toArray, List.set_cons_zero, List.set_cons_succ])
          refine rd1 8 (fun K hK => ?_)
          go_simp
          refine (HA.out _).mono ?_
          rintro e V1 ⟨rfl, b1⟩
          go_wp2_with fail
          replace hp := hp.below b1 hp.lt
          replace hq := hq.below b1 hq.lt
          replace hb := hb.trans (b1.mono hb.size)
          clear b1
          refine hK.out _ _ ⟨hp.cell 0, hp.cell 1, hp.cell 2, hp.cell 3⟩ (fun hHeld => ?_)
          clear hK K
          try (simp only [Act.put, List.setIfInBounds_toArray, List.set_cons_zero, List.set_cons_succ])
          refine tk 9 hHeld ?_
          refine tk 12 hHeld ?_
          refine tk 13 hHeld ?_
          refine tk 14 hHeld ?_
          refine wpAnyH_done (by kernel_rfl) ?_ _
          refine NoPanic.normal ?_
          have k0 : (V1).cell? ⟨w.heap.size + 1, 0, none⟩ = some (.bool true) := hq.cell 0
          have k1 : (V1).cell? ⟨w.heap.size + 1, 1, none⟩ = some (.int .i64 h) := hq.cell 1
          have k2 : (V1).cell? ⟨w.heap.size + 1, 2, none⟩ = some (.int .i64 mi) := hq.cell 2
          have k3 : (V1).cell? ⟨w.heap.size + 1, 3, none⟩ = some (.int .i64 s) := hq.cell 3
          have k4 : (V1).cell? ⟨w.heap.size + 1, 4, none⟩ = some (.int .i64 c) := hq.cell 4
          have hE : 0 ≤ Y + A + d - 1 := hrk.1
          have hE2 : Y + A + d - 1 ≤ 36524 := hrk.2
          generalize Y + A + d - 1 = R at *
          clear u1 u2 u3
          go_wp2
          go_ret2
          exact ⟨by rw [HB.out, HN.out, HV.out]; rfl, hb⟩
set_option maxHeartbeats 4000000 in
theorem r_Count (i : Bool) (d m y : Int) (j : Bool) (h mi s c : Int) (w : World) (hm : I64 m) (hy : I64 y) :
    Calls Try.prog 39 #[.agg #[.bool i, .int .i64 d, .int .i64 m, .int .i64 y], .agg #[.bool j, .int .i64 h, .int .i64 mi, .int .i64 s, .int .i64 c]] w fun e w' => e = .returned (.tuple #[.int .i64 (countN i d m y j h mi s c), .bool (countB i d m y j h mi s c)]) ∧ Below w.heap.size w w' := by
  cases i
  · have HB : Hid (countB false d m y j h mi s c = false) := hid (by unfold countB; rfl)
    have HN : Hid (countN false d m y j h mi s c = 0) := hid (by unfold countN; rw [HB.out]; rfl)
    have hp := (Blk.new w 60 #[.bool false, .int .i64 d, .int .i64 m, .int .i64 y]).alloc (.cells #[.bool j, .int .i64 h, .int .i64 mi, .int .i64 s, .int .i64 c] 62)
    have hq := Blk.new (w.alloc (.cells #[.bool false, .int .i64 d, .int .i64 m, .int .i64 y] 60)) 62 #[.bool j, .int .i64 h, .int .i64 mi, .int .i64 s, .int .i64 c]
    simp only [World.size_alloc] at hq
    have hb := ((Below.refl w.heap.size w).alloc (Nat.le_refl _) (.cells #[.bool false, .int .i64 d, .int .i64 m, .int .i64 y] 60)).alloc (by simp) (.cells #[.bool j, .int .i64 h, .int .i64 mi, .int .i64 s, .int .i64 c] 62)
    have f0 : ((w.alloc (.cells #[.bool false, .int .i64 d, .int .i64 m, .int .i64 y] 60)).alloc (.cells #[.bool j, .int .i64 h, .int .i64 mi, .int .i64 s, .int .i64 c] 62)).cell? ⟨w.heap.size, 0, none⟩ = some (.bool false) := hp.cell 0
    have f1 : ((w.alloc (.cells #[.bool false, .int .i64 d, .int .i64 m, .int .i64 y] 60)).alloc (.cells #[.bool j, .int .i64 h, .int .i64 mi, .int .i64 s, .int .i64 c] 62)).cell? ⟨w.heap.size, 1, none⟩ = some (.int .i64 d) := hp.cell 1
    have f2 : ((w.alloc (.cells #[.bool false, .int .i64 d, .int .i64 m, .int .i64 y] 60)).alloc (.cells #[.bool j, .int .i64 h, .int .i64 mi, .int .i64 s, .int .i64 c] 62)).cell? ⟨w.heap.size, 2, none⟩ = some (.int .i64 m) := hp.cell 2
    have f3 : ((w.alloc (.cells #[.bool false, .int .i64 d, .int .i64 m, .int .i64 y] 60)).alloc (.cells #[.bool j, .int .i64 h, .int .i64 mi, .int .i64 s, .int .i64 c] 62)).cell? ⟨w.heap.size, 3, none⟩ = some (.int .i64 y) := hp.cell 3
    have k0 : ((w.alloc (.cells #[.bool false, .int .i64 d, .int .i64 m, .int .i64 y] 60)).alloc (.cells #[.bool j, .int .i64 h, .int .i64 mi, .int .i64 s, .int .i64 c] 62)).cell? ⟨w.heap.size + 1, 0, none⟩ = some (.bool j) := hq.cell 0
    have k1 : ((w.alloc (.cells #[.bool false, .int .i64 d, .int .i64 m, .int .i64 y] 60)).alloc (.cells #[.bool j, .int .i64 h, .int .i64 mi, .int .i64 s, .int .i64 c] 62)).cell? ⟨w.heap.size + 1, 1, none⟩ = some (.int .i64 h) := hq.cell 1
    have k2 : ((w.alloc (.cells #[.bool false, .int .i64 d, .int .i64 m, .int .i64 y] 60)).alloc (.cells #[.bool j, .int .i64 h, .int .i64 mi, .int .i64 s, .int .i64 c] 62)).cell? ⟨w.heap.size + 1, 2, none⟩ = some (.int .i64 mi) := hq.cell 2
    have k3 : ((w.alloc (.cells #[.bool false, .int .i64 d, .int .i64 m, .int .i64 y] 60)).alloc (.cells #[.bool j, .int .i64 h, .int .i64 mi, .int .i64 s, .int .i64 c] 62)).cell? ⟨w.heap.size + 1, 3, none⟩ = some (.int .i64 s) := hq.cell 3
    have k4 : ((w.alloc (.cells #[.bool false, .int .i64 d, .int .i64 m, .int .i64 y] 60)).alloc (.cells #[.bool j, .int .i64 h, .int .i64 mi, .int .i64 s, .int .i64 c] 62)).cell? ⟨w.heap.size + 1, 4, none⟩ = some (.int .i64 c) := hq.cell 4
    go_enter Try.func39, Try.ntmps39
    go_wp2
    go_ret2
    exact ⟨by rw [HB.out, HN.out]; rfl, hb⟩
  · cases j
    · have HB : Hid (countB true d m y false h mi s c = false) := hid (by unfold countB; rfl)
      have HN : Hid (countN true d m y false h mi s c = 0) := hid (by unfold countN; rw [HB.out]; rfl)
      have hp := (Blk.new w 60 #[.bool true, .int .i64 d, .int .i64 m, .int .i64 y]).alloc (.cells #[.bool false, .int .i64 h, .int .i64 mi, .int .i64 s, .int .i64 c] 62)
      have hq := Blk.new (w.alloc (.cells #[.bool true, .int .i64 d, .int .i64 m, .int .i64 y] 60)) 62 #[.bool false, .int .i64 h, .int .i64 mi, .int .i64 s, .int .i64 c]
      simp only [World.size_alloc] at hq
      have hb := ((Below.refl w.heap.size w).alloc (Nat.le_refl _) (.cells #[.bool true, .int .i64 d, .int .i64 m, .int .i64 y] 60)).alloc (by simp) (.cells #[.bool false, .int .i64 h, .int .i64 mi, .int .i64 s, .int .i64 c] 62)
      have f0 : ((w.alloc (.cells #[.bool true, .int .i64 d, .int .i64 m, .int .i64 y] 60)).alloc (.cells #[.bool false, .int .i64 h, .int .i64 mi, .int .i64 s, .int .i64 c] 62)).cell? ⟨w.heap.size, 0, none⟩ = some (.bool true) := hp.cell 0
      have f1 : ((w.alloc (.cells #[.bool true, .int .i64 d, .int .i64 m, .int .i64 y] 60)).alloc (.cells #[.bool false, .int .i64 h, .int .i64 mi, .int .i64 s, .int .i64 c] 62)).cell? ⟨w.heap.size, 1, none⟩ = some (.int .i64 d) := hp.cell 1
      have f2 : ((w.alloc (.cells #[.bool true, .int .i64 d, .int .i64 m, .int .i64 y] 60)).alloc (.cells #[.bool false, .int .i64 h, .int .i64 mi, .int .i64 s, .int .i64 c] 62)).cell? ⟨w.heap.size, 2, none⟩ = some (.int .i64 m) := hp.cell 2
      have f3 : ((w.alloc (.cells #[.bool true, .int .i64 d, .int .i64 m, .int .i64 y] 60)).alloc (.cells #[.bool false, .int .i64 h, .int .i64 mi, .int .i64 s, .int .i64 c] 62)).cell? ⟨w.heap.size, 3, none⟩ = some (.int .i64 y) := hp.cell 3
      have k0 : ((w.alloc (.cells #[.bool true, .int .i64 d, .int .i64 m, .int .i64 y] 60)).alloc (.cells #[.bool false, .int .i64 h, .int .i64 mi, .int .i64 s, .int .i64 c] 62)).cell? ⟨w.heap.size + 1, 0, none⟩ = some (.bool false) := hq.cell 0
      have k1 : ((w.alloc (.cells #[.bool true, .int .i64 d, .int .i64 m, .int .i64 y] 60)).alloc (.cells #[.bool false, .int .i64 h, .int .i64 mi, .int .i64 s, .int .i64 c] 62)).cell? ⟨w.heap.size + 1, 1, none⟩ = some (.int .i64 h) := hq.cell 1
      have k2 : ((w.alloc (.cells #[.bool true, .int .i64 d, .int .i64 m, .int .i64 y] 60)).alloc (.cells #[.bool false, .int .i64 h, .int .i64 mi, .int .i64 s, .int .i64 c] 62)).cell? ⟨w.heap.size + 1, 2, none⟩ = some (.int .i64 mi) := hq.cell 2
      have k3 : ((w.alloc (.cells #[.bool true, .int .i64 d, .int .i64 m, .int .i64 y] 60)).alloc (.cells #[.bool false, .int .i64 h, .int .i64 mi, .int .i64 s, .int .i64 c] 62)).cell? ⟨w.heap.size + 1, 3, none⟩ = some (.int .i64 s) := hq.cell 3
      have k4 : ((w.alloc (.cells #[.bool true, .int .i64 d, .int .i64 m, .int .i64 y] 60)).alloc (.cells #[.bool false, .int .i64 h, .int .i64 mi, .int .i64 s, .int .i64 c] 62)).cell? ⟨w.heap.size + 1, 4, none⟩ = some (.int .i64 c) := hq.cell 4
      go_enter Try.func39, Try.ntmps39
      go_wp2
      go_ret2
      exact ⟨by rw [HB.out, HN.out]; rfl, hb⟩
    · have HD := hid fun w => r_MayDate true d m y w hm hy
      have HT := hid fun w => r_May true h mi s c w
      cases g1 : mayDP true d m y
      · rw [g1] at HD
        have HB : Hid (countB true d m y true h mi s c = false) := hid (by unfold countB; rw [g1]; rfl)
        have HN : Hid (countN true d m y true h mi s c = 0) := hid (by unfold countN; rw [HB.out]; rfl)
        have hp := (Blk.new w 60 #[.bool true, .int .i64 d, .int .i64 m, .int .i64 y]).alloc (.cells #[.bool true, .int .i64 h, .int .i64 mi, .int .i64 s, .int .i64 c] 62)
        have hq := Blk.new (w.alloc (.cells #[.bool true, .int .i64 d, .int .i64 m, .int .i64 y] 60)) 62 #[.bool true, .int .i64 h, .int .i64 mi, .int .i64 s, .int .i64 c]
        simp only [World.size_alloc] at hq
        have hb := ((Below.refl w.heap.size w).alloc (Nat.le_refl _) (.cells #[.bool true, .int .i64 d, .int .i64 m, .int .i64 y] 60)).alloc (by simp) (.cells #[.bool true, .int .i64 h, .int .i64 mi, .int .i64 s, .int .i64 c] 62)
        have f0 : ((w.alloc (.cells #[.bool true, .int .i64 d, .int .i64 m, .int .i64 y] 60)).alloc (.cells #[.bool true, .int .i64 h, .int .i64 mi, .int .i64 s, .int .i64 c] 62)).cell? ⟨w.heap.size, 0, none⟩ = some (.bool true) := hp.cell 0
        have f1 : ((w.alloc (.cells #[.bool true, .int .i64 d, .int .i64 m, .int .i64 y] 60)).alloc (.cells #[.bool true, .int .i64 h, .int .i64 mi, .int .i64 s, .int .i64 c] 62)).cell? ⟨w.heap.size, 1, none⟩ = some (.int .i64 d) := hp.cell 1
        have f2 : ((w.alloc (.cells #[.bool true, .int .i64 d, .int .i64 m, .int .i64 y] 60)).alloc (.cells #[.bool true, .int .i64 h, .int .i64 mi, .int .i64 s, .int .i64 c] 62)).cell? ⟨w.heap.size, 2, none⟩ = some (.int .i64 m) := hp.cell 2
        have f3 : ((w.alloc (.cells #[.bool true, .int .i64 d, .int .i64 m, .int .i64 y] 60)).alloc (.cells #[.bool true, .int .i64 h, .int .i64 mi, .int .i64 s, .int .i64 c] 62)).cell? ⟨w.heap.size, 3, none⟩ = some (.int .i64 y) := hp.cell 3
        have k0 : ((w.alloc (.cells #[.bool true, .int .i64 d, .int .i64 m, .int .i64 y] 60)).alloc (.cells #[.bool true, .int .i64 h, .int .i64 mi, .int .i64 s, .int .i64 c] 62)).cell? ⟨w.heap.size + 1, 0, none⟩ = some (.bool true) := hq.cell 0
        have k1 : ((w.alloc (.cells #[.bool true, .int .i64 d, .int .i64 m, .int .i64 y] 60)).alloc (.cells #[.bool true, .int .i64 h, .int .i64 mi, .int .i64 s, .int .i64 c] 62)).cell? ⟨w.heap.size + 1, 1, none⟩ = some (.int .i64 h) := hq.cell 1
        have k2 : ((w.alloc (.cells #[.bool true, .int .i64 d, .int .i64 m, .int .i64 y] 60)).alloc (.cells #[.bool true, .int .i64 h, .int .i64 mi, .int .i64 s, .int .i64 c] 62)).cell? ⟨w.heap.size + 1, 2, none⟩ = some (.int .i64 mi) := hq.cell 2
        have k3 : ((w.alloc (.cells #[.bool true, .int .i64 d, .int .i64 m, .int .i64 y] 60)).alloc (.cells #[.bool true, .int .i64 h, .int .i64 mi, .int .i64 s, .int .i64 c] 62)).cell? ⟨w.heap.size + 1, 3, none⟩ = some (.int .i64 s) := hq.cell 3
        have k4 : ((w.alloc (.cells #[.bool true, .int .i64 d, .int .i64 m, .int .i64 y] 60)).alloc (.cells #[.bool true, .int .i64 h, .int .i64 mi, .int .i64 s, .int .i64 c] 62)).cell? ⟨w.heap.size + 1, 4, none⟩ = some (.int .i64 c) := hq.cell 4
        go_enter Try.func39, Try.ntmps39
        go_wp2_with fail
        clear f0 f1 f2 f3 k0 k1 k2 k3 k4
        generalize (w.alloc (.cells #[.bool true, .int .i64 d, .int .i64 m, .int .i64 y] 60)).alloc (.cells #[.bool true, .int .i64 h, .int .i64 mi, .int .i64 s, .int .i64 c] 62) = W1 at *
        refine (HD.out _).mono ?_
        rintro e w1 ⟨rfl, b1⟩
        replace hb := hb.trans (b1.mono hb.size)
        go_wp2
        go_ret2
        exact ⟨by rw [HB.out, HN.out]; rfl, hb⟩
      · rw [g1] at HD
        cases g2 : mayP true h mi s c
        · rw [g2] at HT
          have HB : Hid (countB true d m y true h mi s c = false) := hid (by unfold countB; rw [g1, g2]; rfl)
          have HN : Hid (countN true d m y true h mi s c = 0) := hid (by unfold countN; rw [HB.out]; rfl)
          have hp := (Blk.new w 60 #[.bool true, .int .i64 d, .int .i64 m, .int .i64 y]).alloc (.cells #[.bool true, .int .i64 h, .int .i64 mi, .int .i64 s, .int .i64 c] 62)
          have hq := Blk.new (w.alloc (.cells #[.bool true, .int .i64 d, .int .i64 m, .int .i64 y] 60)) 62 #[.bool true, .int .i64 h, .int .i64 mi, .int .i64 s, .int .i64 c]
          simp only [World.size_alloc] at hq
          have hb := ((Below.refl w.heap.size w).alloc (Nat.le_refl _) (.cells #[.bool true, .int .i64 d, .int .i64 m, .int .i64 y] 60)).alloc (by simp) (.cells #[.bool true, .int .i64 h, .int .i64 mi, .int .i64 s, .int .i64 c] 62)
          have f0 : ((w.alloc (.cells #[.bool true, .int .i64 d, .int .i64 m, .int .i64 y] 60)).alloc (.cells #[.bool true, .int .i64 h, .int .i64 mi, .int .i64 s, .int .i64 c] 62)).cell? ⟨w.heap.size, 0, none⟩ = some (.bool true) := hp.cell 0
          have f1 : ((w.alloc (.cells #[.bool true, .int .i64 d, .int .i64 m, .int .i64 y] 60)).alloc (.cells #[.bool true, .int .i64 h, .int .i64 mi, .int .i64 s, .int .i64 c] 62)).cell? ⟨w.heap.size, 1, none⟩ = some (.int .i64 d) := hp.cell 1
          have f2 : ((w.alloc (.cells #[.bool true, .int .i64 d, .int .i64 m, .int .i64 y] 60)).alloc (.cells #[.bool true, .int .i64 h, .int .i64 mi, .int .i64 s, .int .i64 c] 62)).cell? ⟨w.heap.size, 2, none⟩ = some (.int .i64 m) := hp.cell 2
          have f3 : ((w.alloc (.cells #[.bool true, .int .i64 d, .int .i64 m, .int .i64 y] 60)).alloc (.cells #[.bool true, .int .i64 h, .int .i64 mi, .int .i64 s, .int .i64 c] 62)).cell? ⟨w.heap.size, 3, none⟩ = some (.int .i64 y) := hp.cell 3
          have k0 : ((w.alloc (.cells #[.bool true, .int .i64 d, .int .i64 m, .int .i64 y] 60)).alloc (.cells #[.bool true, .int .i64 h, .int .i64 mi, .int .i64 s, .int .i64 c] 62)).cell? ⟨w.heap.size + 1, 0, none⟩ = some (.bool true) := hq.cell 0
          have k1 : ((w.alloc (.cells #[.bool true, .int .i64 d, .int .i64 m, .int .i64 y] 60)).alloc (.cells #[.bool true, .int .i64 h, .int .i64 mi, .int .i64 s, .int .i64 c] 62)).cell? ⟨w.heap.size + 1, 1, none⟩ = some (.int .i64 h) := hq.cell 1
          have k2 : ((w.alloc (.cells #[.bool true, .int .i64 d, .int .i64 m, .int .i64 y] 60)).alloc (.cells #[.bool true, .int .i64 h, .int .i64 mi, .int .i64 s, .int .i64 c] 62)).cell? ⟨w.heap.size + 1, 2, none⟩ = some (.int .i64 mi) := hq.cell 2
          have k3 : ((w.alloc (.cells #[.bool true, .int .i64 d, .int .i64 m, .int .i64 y] 60)).alloc (.cells #[.bool true, .int .i64 h, .int .i64 mi, .int .i64 s, .int .i64 c] 62)).cell? ⟨w.heap.size + 1, 3, none⟩ = some (.int .i64 s) := hq.cell 3
          have k4 : ((w.alloc (.cells #[.bool true, .int .i64 d, .int .i64 m, .int .i64 y] 60)).alloc (.cells #[.bool true, .int .i64 h, .int .i64 mi, .int .i64 s, .int .i64 c] 62)).cell? ⟨w.heap.size + 1, 4, none⟩ = some (.int .i64 c) := hq.cell 4
          go_enter Try.func39, Try.ntmps39
          go_wp2_with fail
          clear f0 f1 f2 f3 k0 k1 k2 k3 k4
          generalize (w.alloc (.cells #[.bool true, .int .i64 d, .int .i64 m, .int .i64 y] 60)).alloc (.cells #[.bool true, .int .i64 h, .int .i64 mi, .int .i64 s, .int .i64 c] 62) = W1 at *
          refine (HD.out _).mono ?_
          rintro e w1 ⟨rfl, b1⟩
          replace hp := hp.below b1 hp.lt
          replace hq := hq.below b1 hq.lt
          replace hb := hb.trans (b1.mono hb.size)
          have f0 : (w1).cell? ⟨w.heap.size, 0, none⟩ = some (.bool true) := hp.cell 0
          have f1 : (w1).cell? ⟨w.heap.size, 1, none⟩ = some (.int .i64 d) := hp.cell 1
          have f2 : (w1).cell? ⟨w.heap.size, 2, none⟩ = some (.int .i64 m) := hp.cell 2
          have f3 : (w1).cell? ⟨w.heap.size, 3, none⟩ = some (.int .i64 y) := hp.cell 3
          have k0 : (w1).cell? ⟨w.heap.size + 1, 0, none⟩ = some (.bool true) := hq.cell 0
          have k1 : (w1).cell? ⟨w.heap.size + 1, 1, none⟩ = some (.int .i64 h) := hq.cell 1
          have k2 : (w1).cell? ⟨w.heap.size + 1, 2, none⟩ = some (.int .i64 mi) := hq.cell 2
          have k3 : (w1).cell? ⟨w.heap.size + 1, 3, none⟩ = some (.int .i64 s) := hq.cell 3
          have k4 : (w1).cell? ⟨w.heap.size + 1, 4, none⟩ = some (.int .i64 c) := hq.cell 4
          go_wp2_with fail
          clear f0 f1 f2 f3 k0 k1 k2 k3 k4
          refine (HT.out _).mono ?_
          rintro e w2 ⟨rfl, b2⟩
          replace hb := hb.trans (b2.mono hb.size)
          go_wp2
          go_ret2
          exact ⟨by rw [HB.out, HN.out]; rfl, hb⟩
        · rw [g2] at HT
          have HB : Hid (countB true d m y true h mi s c = true) := hid (by unfold countB; rw [g1, g2]; rfl)
          have HN : Hid (countN true d m y true h mi s c = countV d m y h mi s c) := hid (by unfold countN; rw [if_pos HB.out])
          have hday := (isDay_may d m y).1 g1
          have hbd := may_bd h mi s c g2
          have hrk := rank_all d m y hday
          have hab := aheadP_bd m y
          obtain ⟨⟨y1, y2⟩, ⟨m1, m2⟩, d1, d2⟩ := hday
          have hdb := daysP_bd m y
          obtain ⟨hh, hmi, hs, hc⟩ := hbd
          have hp := (Blk.new w 60 #[.bool true, .int .i64 d, .int .i64 m, .int .i64 y]).alloc (.cells #[.bool true, .int .i64 h, .int .i64 mi, .int .i64 s, .int .i64 c] 62)
          have hq := Blk.new (w.alloc (.cells #[.bool true, .int .i64 d, .int .i64 m, .int .i64 y] 60)) 62 #[.bool true, .int .i64 h, .int .i64 mi, .int .i64 s, .int .i64 c]
          simp only [World.size_alloc] at hq
          have hb := ((Below.refl w.heap.size w).alloc (Nat.le_refl _) (.cells #[.bool true, .int .i64 d, .int .i64 m, .int .i64 y] 60)).alloc (by simp) (.cells #[.bool true, .int .i64 h, .int .i64 mi, .int .i64 s, .int .i64 c] 62)
          have f0 : ((w.alloc (.cells #[.bool true, .int .i64 d, .int .i64 m, .int .i64 y] 60)).alloc (.cells #[.bool true, .int .i64 h, .int .i64 mi, .int .i64 s, .int .i64 c] 62)).cell? ⟨w.heap.size, 0, none⟩ = some (.bool true) := hp.cell 0
          have f1 : ((w.alloc (.cells #[.bool true, .int .i64 d, .int .i64 m, .int .i64 y] 60)).alloc (.cells #[.bool true, .int .i64 h, .int .i64 mi, .int .i64 s, .int .i64 c] 62)).cell? ⟨w.heap.size, 1, none⟩ = some (.int .i64 d) := hp.cell 1
          have f2 : ((w.alloc (.cells #[.bool true, .int .i64 d, .int .i64 m, .int .i64 y] 60)).alloc (.cells #[.bool true, .int .i64 h, .int .i64 mi, .int .i64 s, .int .i64 c] 62)).cell? ⟨w.heap.size, 2, none⟩ = some (.int .i64 m) := hp.cell 2
          have f3 : ((w.alloc (.cells #[.bool true, .int .i64 d, .int .i64 m, .int .i64 y] 60)).alloc (.cells #[.bool true, .int .i64 h, .int .i64 mi, .int .i64 s, .int .i64 c] 62)).cell? ⟨w.heap.size, 3, none⟩ = some (.int .i64 y) := hp.cell 3
          have k0 : ((w.alloc (.cells #[.bool true, .int .i64 d, .int .i64 m, .int .i64 y] 60)).alloc (.cells #[.bool true, .int .i64 h, .int .i64 mi, .int .i64 s, .int .i64 c] 62)).cell? ⟨w.heap.size + 1, 0, none⟩ = some (.bool true) := hq.cell 0
          have k1 : ((w.alloc (.cells #[.bool true, .int .i64 d, .int .i64 m, .int .i64 y] 60)).alloc (.cells #[.bool true, .int .i64 h, .int .i64 mi, .int .i64 s, .int .i64 c] 62)).cell? ⟨w.heap.size + 1, 1, none⟩ = some (.int .i64 h) := hq.cell 1
          have k2 : ((w.alloc (.cells #[.bool true, .int .i64 d, .int .i64 m, .int .i64 y] 60)).alloc (.cells #[.bool true, .int .i64 h, .int .i64 mi, .int .i64 s, .int .i64 c] 62)).cell? ⟨w.heap.size + 1, 2, none⟩ = some (.int .i64 mi) := hq.cell 2
          have k3 : ((w.alloc (.cells #[.bool true, .int .i64 d, .int .i64 m, .int .i64 y] 60)).alloc (.cells #[.bool true, .int .i64 h, .int .i64 mi, .int .i64 s, .int .i64 c] 62)).cell? ⟨w.heap.size + 1, 3, none⟩ = some (.int .i64 s) := hq.cell 3
          have k4 : ((w.alloc (.cells #[.bool true, .int .i64 d, .int .i64 m, .int .i64 y] 60)).alloc (.cells #[.bool true, .int .i64 h, .int .i64 mi, .int .i64 s, .int .i64 c] 62)).cell? ⟨w.heap.size + 1, 4, none⟩ = some (.int .i64 c) := hq.cell 4
          go_enter Try.func39, Try.ntmps39
          go_wp2_with fail
          clear f0 f1 f2 f3 k0 k1 k2 k3 k4
          generalize (w.alloc (.cells #[.bool true, .int .i64 d, .int .i64 m, .int .i64 y] 60)).alloc (.cells #[.bool true, .int .i64 h, .int .i64 mi, .int .i64 s, .int .i64 c] 62) = W1 at *
          refine (HD.out _).mono ?_
          rintro e w1 ⟨rfl, b1⟩
          replace hp := hp.below b1 hp.lt
          replace hq := hq.below b1 hq.lt
          replace hb := hb.trans (b1.mono hb.size)
          clear b1
          have f0 : (w1).cell? ⟨w.heap.size, 0, none⟩ = some (.bool true) := hp.cell 0
          have f1 : (w1).cell? ⟨w.heap.size, 1, none⟩ = some (.int .i64 d) := hp.cell 1
          have f2 : (w1).cell? ⟨w.heap.size, 2, none⟩ = some (.int .i64 m) := hp.cell 2
          have f3 : (w1).cell? ⟨w.heap.size, 3, none⟩ = some (.int .i64 y) := hp.cell 3
          have k0 : (w1).cell? ⟨w.heap.size + 1, 0, none⟩ = some (.bool true) := hq.cell 0
          have k1 : (w1).cell? ⟨w.heap.size + 1, 1, none⟩ = some (.int .i64 h) := hq.cell 1
          have k2 : (w1).cell? ⟨w.heap.size + 1, 2, none⟩ = some (.int .i64 mi) := hq.cell 2
          have k3 : (w1).cell? ⟨w.heap.size + 1, 3, none⟩ = some (.int .i64 s) := hq.cell 3
          have k4 : (w1).cell? ⟨w.heap.size + 1, 4, none⟩ = some (.int .i64 c) := hq.cell 4
          go_wp2_with fail
          clear f0 f1 f2 f3 k0 k1 k2 k3 k4
          refine (HT.out _).mono ?_
          rintro e w2 ⟨rfl, b2⟩
          replace hp := hp.below b2 hp.lt
          replace hq := hq.below b2 hq.lt
          replace hb := hb.trans (b2.mono hb.size)
          clear b2 HD HT g1 g2
          have HRK : Hid (rankP d m y = yearsP (y - 2000) + aheadP m y + d - 1) := rfl
          have hyb : 0 ≤ yearsP (y - 2000) ∧ yearsP (y - 2000) ≤ 40000 := by unfold yearsP; omega
          have HV : Hid (countV d m y h mi s c = rankP d m y * 8640000 + h * 360000 + mi * 6000 + s * 100 + c) := rfl
          have f0 : (w2).cell? ⟨w.heap.size, 0, none⟩ = some (.bool true) := hp.cell 0
          have f1 : (w2).cell? ⟨w.heap.size, 1, none⟩ = some (.int .i64 d) := hp.cell 1
          have f2 : (w2).cell? ⟨w.heap.size, 2, none⟩ = some (.int .i64 m) := hp.cell 2
          have f3 : (w2).cell? ⟨w.heap.size, 3, none⟩ = some (.int .i64 y) := hp.cell 3
          have k0 : (w2).cell? ⟨w.heap.size + 1, 0, none⟩ = some (.bool true) := hq.cell 0
          have k1 : (w2).cell? ⟨w.heap.size + 1, 1, none⟩ = some (.int .i64 h) := hq.cell 1
          have k2 : (w2).cell? ⟨w.heap.size + 1, 2, none⟩ = some (.int .i64 mi) := hq.cell 2
          have k3 : (w2).cell? ⟨w.heap.size + 1, 3, none⟩ = some (.int .i64 s) := hq.cell 3
          have k4 : (w2).cell? ⟨w.heap.size + 1, 4, none⟩ = some (.int .i64 c) := hq.cell 4
          have ud : IntKind.i64.wrap (d - 1) = d - 1 := IntWalk.i64_in _ (by omega)
          go_wp2_with fail
          go_loop [6, 7] (fun va vy => ∃ (a t : Int), (2000 ≤ t ∧ t ≤ y + 1) ∧ vy = .int .i64 t ∧ va = .int .i64 a ∧ (0 ≤ a ∧ a ≤ 40000) ∧ Hid ((t ≤ y → a = d - 1 + yearsP (t - 2000)) ∧ (t = y + 1 → a = rankP d m y))) (fun _ vy => (2200 - intOf vy).toNat)
          case atStart => exact ⟨d - 1, 2000, by omega, rfl, rfl, by omega, hid ⟨fun _ => by rw [show (2000 : Int) - 2000 = 0 from rfl, show yearsP 0 = 0 from rfl]; omega, fun e => by omega⟩⟩
          case round =>
            obtain ⟨a, t, ht, rfl, rfl, ha, hat⟩ := hrel
            by_cases hlt : t ≤ y
            · have hat1 := hat.out.1 hlt
              have hty : 0 ≤ yearsP (t - 2000) ∧ yearsP (t - 2000) ≤ 37000 := by unfold yearsP; omega
              have HAT := hid hat1
              clear hat hat1
              have dt : decide (t ≤ y) = true := by simpa using hlt
              have et : IntKind.i64.wrap (t + 1) = t + 1 := IntWalk.i64_in _ (by omega)
              have hty2 := years_step' t (by omega)
              have HTY := hid hty2
              have hbt : Hid (t < y → (2000 ≤ t + 1 ∧ t + 1 ≤ y + 1)) := hid fun g => by omega
              have h13 : Hid (t < y → a = d - 1 + yearsP (t - 2000)) := hid fun _ => HAT.out
              have mt : (2200 - (t + 1)).toNat < (2200 - t).toNat := by omega
              have mt2 : t ≤ 2099 := by omega
              clear hty2
              obtain ⟨Y, hY⟩ : ∃ Y, yearsP (t - 2000) = Y := ⟨_, rfl⟩
              have HYE : Hid (t = y → Y = yearsP (y - 2000)) := hid fun e => by rw [← hY, e]
              rw [hY] at HAT HTY h13 hty
              clear hY
              go_wp2_with fail
              go_loop [6, 8] (fun va vm => ∃ (b k : Int), (1 ≤ k ∧ k ≤ 13 ∧ (t = y → k ≤ m)) ∧ vm = .int .i64 k ∧ va = .int .i64 b ∧ (0 ≤ b ∧ b ≤ 38000) ∧ Hid (b = d - 1 + Y + aheadP k t)) (fun _ vm => (14 - intOf vm).toNat)
              case atStart => exact ⟨a, 1, by omega, rfl, rfl, by have := HAT.out; omega, hid (by rw [ahead_one, HAT.out]; omega)⟩
              case round =>
                obtain ⟨b, k, hk, rfl, rfl, hbb, hbk⟩ := hrel
                by_cases hgo : k ≤ 12 ∧ (t < y ∨ k < m)
                · obtain ⟨hk12, hgo2⟩ := hgo
                  have HD2 := hid fun w => r_Days k t w (by unfold I64; omega) (by unfold I64; omega)
                  have hdk := days_in k t (by omega) (by omega)
                  have hab1 := aheadP_bd (k + 1) t
                  have hdb1 := daysP_bd k t
                  have HR : Hid (b + daysP k t = d - 1 + Y + aheadP (k + 1) t) := hid (by rw [hdk, hbk.out]; omega)
                  have hR2 : b + daysP k t ≤ 38000 := by have := HR.out; omega
                  have ub : IntKind.i64.wrap (b + daysP k t) = b + daysP k t := IntWalk.i64_in _ (by omega)
                  have uk : IntKind.i64.wrap (k + 1) = k + 1 := IntWalk.i64_in _ (by omega)
                  have dk : decide (k ≤ 12) = true := by simpa using hk12
                  have mk : (14 - (k + 1)).toNat < (14 - k).toNat := by omega
                  have hkm : t = y → k + 1 ≤ m := fun e => by omega
                  clear hdk hbk hab1
                  generalize daysP k t = D at *
                  rcases Int.lt_or_le t y with hy3 | hy3
                  · have dy : decide (t < y) = true := by simpa using hy3
                    clear hgo2
                    go_wp2_with fail
                    refine (HD2.out _).mono ?_
                    rintro e w' ⟨rfl, rfl⟩
                    go_wp2_with fail
                    go_round
                    case rel => exact ⟨b + D, k + 1, by omega, rfl, rfl, by omega, HR⟩
                    case measure => simpa [intOf] using mk
                  · have dy : decide (t < y) = false := by simp; omega
                    have dm : decide (k < m) = true := by simp; omega
                    clear hgo2
                    go_wp2_with fail
                    refine (HD2.out _).mono ?_
                    rintro e w' ⟨rfl, rfl⟩
                    go_wp2_with fail
                    go_round
                    case rel => exact ⟨b + D, k + 1, by omega, rfl, rfl, by omega, HR⟩
                    case measure => simpa [intOf] using mk
                · have hend : Hid ((t + 1 ≤ y → b = d - 1 + yearsP (t + 1 - 2000)) ∧ (t + 1 = y + 1 → b = rankP d m y)) := hid (by
                    refine ⟨fun g => ?_, fun g => ?_⟩
                    · obtain rfl : k = 13 := by omega
                      rw [hbk.out, HTY.out]; omega
                    · obtain rfl : t = y := by omega
                      obtain rfl : k = m := by omega
                      rw [hbk.out, HRK.out, HYE.out rfl]; omega)
                  by_cases hk12 : k ≤ 12
                  · have dk : decide (k ≤ 12) = true := by simpa using hk12
                    have dy : decide (t < y) = false := by simp; omega
                    have dm : decide (k < m) = false := by simp; omega
                    clear hgo hbk
                    go_wp2_with fail
                    go_round
                    case rel => exact ⟨b, t + 1, by omega, rfl, rfl, by omega, hend⟩
                    case measure => simpa [intOf] using mt
                  · have dk : decide (k ≤ 12) = false := by simpa using hk12
                    clear hgo hbk
                    go_wp2_with fail
                    go_round
                    case rel => exact ⟨b, t + 1, by omega, rfl, rfl, by omega, hend⟩
                    case measure => simpa [intOf] using mt
            · have hat2 : a = rankP d m y := hat.out.2 (by omega)
              have dt : decide (t ≤ y) = false := by simp; omega
              clear hat
              rw [← hat2] at HV hrk
              clear hat2
              go_wp2
              go_ret2
              exact ⟨by rw [HB.out, HN.out, HV.out]; first | rfl | exact congrArg (fun z => Ending.returned (Value.tuple #[.int .i64 z, .bool true])) (by omega), hb⟩
end Go.Proofs.Ytbhfidneijogfaa
