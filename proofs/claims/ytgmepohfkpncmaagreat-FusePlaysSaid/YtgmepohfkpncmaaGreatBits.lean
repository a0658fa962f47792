/- Chapter 08: some bits of a word: the leaves. -/
import Derived.Test.YtgmepohfkpncmaaGreatAid
import Derived.BigQuiet
import Derived.Deep.QuietTactic
import Derived.Laws.BitsLemmas
namespace Go.Proofs.YtgmepohfkpncmaaGreat
open Go.RowKit
set_option linter.unusedVariables false
set_option linter.unusedSimpArgs false

theorem pow_bd (N : Nat) (h : N ≤ 32) : (1 : Int) ≤ 2 ^ N ∧ (2 : Int) ^ N ≤ 4294967296 := by
  have h1 : (0 : Int) < 2 ^ N := Int.pow_pos (by omega)
  have h2 : (2 : Nat) ^ N ≤ 2 ^ 32 := Nat.pow_le_pow_right (by omega) h
  have e : ((2 ^ N : Nat) : Int) = (2 : Int) ^ N := by simp
  omega

def placeB (a n : Int) : Bool := decide (1 ≤ n) && decide (n ≤ 32) && decide (0 ≤ a) && decide (a ≤ 32 - n)
theorem b_place (a n : Int) (w : World) :
    Calls Tryz.prog 111 #[.int .i64 a, .int .i64 n] w fun e w' => e = .returned (.bool (placeB a n)) ∧ w = w' := by
  have HB : Hid (placeB a n = (decide (1 ≤ n) && decide (n ≤ 32) && decide (0 ≤ a) && decide (a ≤ 32 - n))) := rfl
  by_cases g1 : 1 ≤ n
  · have d1 : decide (1 ≤ n) = true := by simpa using g1
    by_cases g2 : n ≤ 32
    · have d2 : decide (n ≤ 32) = true := by simpa using g2
      have u1 : IntKind.i64.wrap (32 - n) = 32 - n := IntWalk.i64_in _ (by omega)
      by_cases g3 : 0 ≤ a
      · have d3 : decide (0 ≤ a) = true := by simpa using g3
        go_enter Tryz.func111, Tryz.ntmps111
        go_wp2
        go_ret
        exact ⟨by rw [HB.out, d1, d2, d3]; simp, rfl⟩
      · have d3 : decide (0 ≤ a) = false := by simpa using g3
        go_enter Tryz.func111, Tryz.ntmps111
        go_wp2
        go_ret
        exact ⟨by rw [HB.out, d1, d2, d3]; simp, rfl⟩
    · have d2 : decide (n ≤ 32) = false := by simpa using g2
      go_enter Tryz.func111, Tryz.ntmps111
      go_wp2
      go_ret
      exact ⟨by rw [HB.out, d1, d2]; simp, rfl⟩
  · have d1 : decide (1 ≤ n) = false := by simpa using g1
    go_enter Tryz.func111, Tryz.ntmps111
    go_wp2
    go_ret
    exact ⟨by rw [HB.out, d1]; simp, rfl⟩

theorem b_mask (N : Nat) (w : World) (hN : N ≤ 32) :
    Calls Tryz.prog 112 #[.int .i64 N] w fun e w' => e = .returned (.int .u32 (2 ^ N - 1)) ∧ w = w' := by
  obtain ⟨p1, p2⟩ := pow_bd N hN
  have e64 : min N 64 = N := by omega
  generalize hP : (2 : Int) ^ N = P at *
  go_enter Tryz.func112, Tryz.ntmps112
  go_wp2
  go_ret
  exact ⟨rfl, rfl⟩
end Go.Proofs.YtgmepohfkpncmaaGreat
