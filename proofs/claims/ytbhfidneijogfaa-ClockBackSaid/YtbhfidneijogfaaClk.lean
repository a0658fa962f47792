/- Chapter 24: numbers in bounds, days, may a time or a date be. -/
import Derived.Test.YtbhfidneijogfaaHeld
import Derived.BigQuiet
import Derived.Deep.QuietTactic
import Derived.Handy
import Derived.WalkLawsBesides
import Derived.Laws.StructEq
namespace Go.Proofs.Ytbhfidneijogfaa
open Go.RowKit
set_option linter.unusedVariables false
set_option linter.unusedSimpArgs false

/-! ### The plain words -/
def inB (n lo hi : Int) : Bool := decide (lo ≤ n) && decide (n ≤ hi)
theorem inB_iff (n lo hi : Int) : inB n lo hi = true ↔ lo ≤ n ∧ n ≤ hi := by unfold inB; simp
theorem inB_no (n lo hi : Int) : inB n lo hi = false ↔ n < lo ∨ hi < n := by unfold inB; simp; omega
def leapP (y : Int) : Int := if y % 4 = 0 then 1 else 0
theorem leapP_bd (y : Int) : 0 ≤ leapP y ∧ leapP y ≤ 1 := by unfold leapP; split <;> omega
def cumL : List Int := [0, 31, 59, 90, 120, 151, 181, 212, 243, 273, 304, 334, 365]
def cumP (j : Nat) : Int := cumL[j]?.getD 0
theorem cumP_bd (j : Nat) : 0 ≤ cumP j ∧ cumP j ≤ 365 := by
  rcases Nat.lt_or_ge j 13 with h | h
  · have : ∀ k, k < 13 → 0 ≤ cumP k ∧ cumP k ≤ 365 := by decide +kernel
    exact this j h
  · unfold cumP
    rw [List.getElem?_eq_none (by simpa [cumL] using h)]
    simp
def aheadP (m y : Int) : Int := cumP (m - 1).toNat + if 2 < m then leapP y else 0
theorem aheadP_bd (m y : Int) : 0 ≤ aheadP m y ∧ aheadP m y ≤ 366 := by
  have h1 := cumP_bd (m - 1).toNat
  have h2 := leapP_bd y
  unfold aheadP
  split <;> omega
def daysP (m y : Int) : Int := if inB m 1 12 = true ∧ inB y 2000 2099 = true then aheadP (m + 1) y - aheadP m y else 0
def I64 (n : Int) : Prop := -9223372036854775808 ≤ n ∧ n ≤ 9223372036854775807

theorem c_in (n lo hi : Int) (w : World) :
    Calls Try.prog 69 #[.int .i64 n, .int .i64 lo, .int .i64 hi] w fun e w' => e = .returned (.bool (inB n lo hi)) ∧ w = w' := by
  by_cases g : lo ≤ n
  · by_cases g2 : n ≤ hi
    · have HB : Hid (inB n lo hi = true) := (inB_iff n lo hi).2 ⟨g, g2⟩
      go_enter Try.func69, Try.ntmps69
      go_wp2
      go_ret
      exact ⟨by rw [HB.out]; rfl, rfl⟩
    · have HB : Hid (inB n lo hi = false) := (inB_no n lo hi).2 (.inr (by omega))
      go_enter Try.func69, Try.ntmps69
      go_wp2
      go_ret
      exact ⟨by rw [HB.out]; rfl, rfl⟩
  · have HB : Hid (inB n lo hi = false) := (inB_no n lo hi).2 (.inl (by omega))
    go_enter Try.func69, Try.ntmps69
    go_wp2
    go_ret
    exact ⟨by rw [HB.out]; rfl, rfl⟩
theorem c_leap (y : Int) (w : World) (hy : 0 ≤ y ∧ y ≤ 10000) :
    Calls Try.prog 78 #[.int .i64 y] w fun e w' => e = .returned (.int .i64 (leapP y)) ∧ w = w' := by
  by_cases g : y % 4 = 0
  · have HB : Hid (leapP y = 1) := if_pos g
    go_enter Try.func78, Try.ntmps78
    go_wp2
    go_ret
    exact ⟨by rw [HB.out]; rfl, rfl⟩
  · have HB : Hid (leapP y = 0) := if_neg g
    go_enter Try.func78, Try.ntmps78
    go_wp2
    go_ret
    exact ⟨by rw [HB.out]; rfl, rfl⟩
def yearsP (n : Int) : Int := 365 * n + (n + 3) / 4
theorem c_years (n : Int) (w : World) (hn : 0 ≤ n ∧ n ≤ 10000) :
    Calls Try.prog 65 #[.int .i64 n] w fun e w' => e = .returned (.int .i64 (yearsP n)) ∧ w = w' := by
  have HY : Hid (yearsP n = 365 * n + (n + 3) / 4) := rfl
  go_enter Try.func65, Try.ntmps65
  go_wp2
  go_ret
  exact ⟨by rw [HY.out]; rfl, rfl⟩
set_option maxRecDepth 20000 in
theorem c_ahead (m y : Int) (w : World) (hm : 1 ≤ m ∧ m ≤ 13) (hy : 0 ≤ y ∧ y ≤ 10000) :
    Calls Try.prog 66 #[.int .i64 m, .int .i64 y] w fun e w' => e = .returned (.int .i64 (aheadP m y)) ∧ Below w.heap.size w w' := by
  obtain ⟨j, rfl⟩ : ∃ j : Nat, m = (j : Int) + 1 := ⟨(m - 1).toNat, by omega⟩
  have hj : j < 13 := by omega
  have HL := hid fun w => c_leap y w hy
  have hlb := leapP_bd y
  have hcb := cumP_bd j
  have HA : Hid (aheadP ((j : Int) + 1) y = cumP j + if 2 < (j : Int) + 1 then leapP y else 0) := hid (by unfold aheadP; rw [show ((j : Int) + 1 - 1).toNat = j by omega])
  have hT := Blk.new w 100 #[.int .i64 0, .int .i64 31, .int .i64 59, .int .i64 90, .int .i64 120, .int .i64 151, .int .i64 181, .int .i64 212, .int .i64 243, .int .i64 273, .int .i64 304, .int .i64 334, .int .i64 365]
  have hc : #[Value.int .i64 0, .int .i64 31, .int .i64 59, .int .i64 90, .int .i64 120, .int .i64 151, .int .i64 181, .int .i64 212, .int .i64 243, .int .i64 273, .int .i64 304, .int .i64 334, .int .i64 365][j]? = some (.int .i64 (cumP j)) := by
    match j, hj with
    | 0, _ | 1, _ | 2, _ | 3, _ | 4, _ | 5, _ | 6, _ | 7, _ | 8, _ | 9, _ | 10, _ | 11, _ | 12, _ => rfl
  have cj := (hT.cell j).trans hc
  have hB := (Below.refl w.heap.size w).alloc (Nat.le_refl _) (.cells #[.int .i64 0, .int .i64 31, .int .i64 59, .int .i64 90, .int .i64 120, .int .i64 151, .int .i64 181, .int .i64 212, .int .i64 243, .int .i64 273, .int .i64 304, .int .i64 334, .int .i64 365] 100)
  have uj : IntKind.i64.wrap ((j : Int) + 1 - 1) = (j : Int) := (IntWalk.i64_in _ (by omega)).trans (by omega)
  clear hT hc
  generalize cumP j = c at *
  generalize leapP y = l at *
  have HB := hid hB
  clear hB
  by_cases g : 2 < (j : Int) + 1
  · rw [if_pos g] at HA
    have dg : decide (2 < (j : Int) + 1) = true := by simpa using g
    go_enter Try.func66, Try.ntmps66
    go_wp2_with (go_at_call 78; refine (HL.out _).mono ?_; rintro e w' ⟨rfl, rfl⟩)
    go_ret
    exact ⟨by rw [HA.out]; rfl, HB.out⟩
  · rw [if_neg g] at HA
    have dg : decide (2 < (j : Int) + 1) = false := by simpa using g
    go_enter Try.func66, Try.ntmps66
    go_wp2
    go_ret
    exact ⟨by rw [HA.out, Int.add_zero]; rfl, HB.out⟩
end Go.Proofs.Ytbhfidneijogfaa
