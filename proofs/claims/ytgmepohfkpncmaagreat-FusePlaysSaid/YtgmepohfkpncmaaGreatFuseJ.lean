/- Chapter 42: may it be a state; the walk of FuseRange. -/
import Derived.Test.YtgmepohfkpncmaaGreatFuseH
import Derived.Test.YtgmepohfkpncmaaGreatUnitF
namespace Go.Proofs.YtgmepohfkpncmaaGreat
open Go.RowKit
set_option linter.unusedVariables false
set_option linter.unusedSimpArgs false

theorem f_mayY (q0 q1 q2 q3 b0 b1 b2 n c : Int) (w : World) (g0 : 0 ≤ n) (g1 : n ≤ 1099511627776) (g2 : 0 ≤ c) (g3 : c ≤ 1099511627776) :
    Calls Tryz.prog 5 #[.agg #[.int .i32 q0, .int .i32 q1, .int .i32 q2, .int .i32 q3, .int .i32 b0, .int .i32 b1, .int .i32 b2, .int .i64 n, .int .i64 c]] w fun e w' => e = .returned (.bool true) ∧ Below w.heap.size w w' := by
  have e0 : decide (0 ≤ n) = true := decide_eq_true g0
  have e1 : decide (n ≤ 1099511627776) = true := decide_eq_true g1
  have e2 : decide (0 ≤ c) = true := decide_eq_true g2
  have e3 : decide (c ≤ 1099511627776) = true := decide_eq_true g3
  have hp := Blk.new w 27 #[.int .i32 q0, .int .i32 q1, .int .i32 q2, .int .i32 q3, .int .i32 b0, .int .i32 b1, .int .i32 b2, .int .i64 n, .int .i64 c]
  have hb : Below w.heap.size w (w.alloc (.cells #[.int .i32 q0, .int .i32 q1, .int .i32 q2, .int .i32 q3, .int .i32 b0, .int .i32 b1, .int .i32 b2, .int .i64 n, .int .i64 c] 27)) := (Below.refl _ w).alloc (Nat.le_refl _) _
  have f7 : (w.alloc (.cells #[.int .i32 q0, .int .i32 q1, .int .i32 q2, .int .i32 q3, .int .i32 b0, .int .i32 b1, .int .i32 b2, .int .i64 n, .int .i64 c] 27)).cell? ⟨w.heap.size, 7, none⟩ = some (.int .i64 n) := hp.cell 7
  have f8 : (w.alloc (.cells #[.int .i32 q0, .int .i32 q1, .int .i32 q2, .int .i32 q3, .int .i32 b0, .int .i32 b1, .int .i32 b2, .int .i64 n, .int .i64 c] 27)).cell? ⟨w.heap.size, 8, none⟩ = some (.int .i64 c) := hp.cell 8
  go_enter Tryz.func5, Tryz.ntmps5
  go_wp2
  go_ret
  exact ⟨rfl, hb⟩
theorem f_mayN (q0 q1 q2 q3 b0 b1 b2 n c : Int) (w : World) (g : ¬ (0 ≤ n ∧ n ≤ 1099511627776 ∧ 0 ≤ c ∧ c ≤ 1099511627776)) :
    Calls Tryz.prog 5 #[.agg #[.int .i32 q0, .int .i32 q1, .int .i32 q2, .int .i32 q3, .int .i32 b0, .int .i32 b1, .int .i32 b2, .int .i64 n, .int .i64 c]] w fun e w' => e = .returned (.bool false) ∧ Below w.heap.size w w' := by
  by_cases g0 : 0 ≤ n
  · have e0 : decide (0 ≤ n) = true := decide_eq_true g0
    by_cases g1 : n ≤ 1099511627776
    · have e1 : decide (n ≤ 1099511627776) = true := decide_eq_true g1
      by_cases g2 : 0 ≤ c
      · have e2 : decide (0 ≤ c) = true := decide_eq_true g2
        by_cases g3 : c ≤ 1099511627776
        · have e3 : decide (c ≤ 1099511627776) = true := decide_eq_true g3
          exact absurd ⟨g0, g1, g2, g3⟩ g
        · have e3 : decide (c ≤ 1099511627776) = false := decide_eq_false g3
          clear g
          have hp := Blk.new w 27 #[.int .i32 q0, .int .i32 q1, .int .i32 q2, .int .i32 q3, .int .i32 b0, .int .i32 b1, .int .i32 b2, .int .i64 n, .int .i64 c]
          have hb : Below w.heap.size w (w.alloc (.cells #[.int .i32 q0, .int .i32 q1, .int .i32 q2, .int .i32 q3, .int .i32 b0, .int .i32 b1, .int .i32 b2, .int .i64 n, .int .i64 c] 27)) := (Below.refl _ w).alloc (Nat.le_refl _) _
          have f7 : (w.alloc (.cells #[.int .i32 q0, .int .i32 q1, .int .i32 q2, .int .i32 q3, .int .i32 b0, .int .i32 b1, .int .i32 b2, .int .i64 n, .int .i64 c] 27)).cell? ⟨w.heap.size, 7, none⟩ = some (.int .i64 n) := hp.cell 7
          have f8 : (w.alloc (.cells #[.int .i32 q0, .int .i32 q1, .int .i32 q2, .int .i32 q3, .int .i32 b0, .int .i32 b1, .int .i32 b2, .int .i64 n, .int .i64 c] 27)).cell? ⟨w.heap.size, 8, none⟩ = some (.int .i64 c) := hp.cell 8
          go_enter Tryz.func5, Tryz.ntmps5
          go_wp2
          go_ret
          exact ⟨rfl, hb⟩
      · have e2 : decide (0 ≤ c) = false := decide_eq_false g2
        clear g
        have hp := Blk.new w 27 #[.int .i32 q0, .int .i32 q1, .int .i32 q2, .int .i32 q3, .int .i32 b0, .int .i32 b1, .int .i32 b2, .int .i64 n, .int .i64 c]
        have hb : Below w.heap.size w (w.alloc (.cells #[.int .i32 q0, .int .i32 q1, .int .i32 q2, .int .i32 q3, .int .i32 b0, .int .i32 b1, .int .i32 b2, .int .i64 n, .int .i64 c] 27)) := (Below.refl _ w).alloc (Nat.le_refl _) _
        have f7 : (w.alloc (.cells #[.int .i32 q0, .int .i32 q1, .int .i32 q2, .int .i32 q3, .int .i32 b0, .int .i32 b1, .int .i32 b2, .int .i64 n, .int .i64 c] 27)).cell? ⟨w.heap.size, 7, none⟩ = some (.int .i64 n) := hp.cell 7
        have f8 : (w.alloc (.cells #[.int .i32 q0, .int .i32 q1, .int .i32 q2, .int .i32 q3, .int .i32 b0, .int .i32 b1, .int .i32 b2, .int .i64 n, .int .i64 c] 27)).cell? ⟨w.heap.size, 8, none⟩ = some (.int .i64 c) := hp.cell 8
        go_enter Tryz.func5, Tryz.ntmps5
        go_wp2
        go_ret
        exact ⟨rfl, hb⟩
    · have e1 : decide (n ≤ 1099511627776) = false := decide_eq_false g1
      clear g
      have hp := Blk.new w 27 #[.int .i32 q0, .int .i32 q1, .int .i32 q2, .int .i32 q3, .int .i32 b0, .int .i32 b1, .int .i32 b2, .int .i64 n, .int .i64 c]
      have hb : Below w.heap.size w (w.alloc (.cells #[.int .i32 q0, .int .i32 q1, .int .i32 q2, .int .i32 q3, .int .i32 b0, .int .i32 b1, .int .i32 b2, .int .i64 n, .int .i64 c] 27)) := (Below.refl _ w).alloc (Nat.le_refl _) _
      have f7 : (w.alloc (.cells #[.int .i32 q0, .int .i32 q1, .int .i32 q2, .int .i32 q3, .int .i32 b0, .int .i32 b1, .int .i32 b2, .int .i64 n, .int .i64 c] 27)).cell? ⟨w.heap.size, 7, none⟩ = some (.int .i64 n) := hp.cell 7
      have f8 : (w.alloc (.cells #[.int .i32 q0, .int .i32 q1, .int .i32 q2, .int .i32 q3, .int .i32 b0, .int .i32 b1, .int .i32 b2, .int .i64 n, .int .i64 c] 27)).cell? ⟨w.heap.size, 8, none⟩ = some (.int .i64 c) := hp.cell 8
      go_enter Tryz.func5, Tryz.ntmps5
      go_wp2
      go_ret
      exact ⟨rfl, hb⟩
  · have e0 : decide (0 ≤ n) = false := decide_eq_false g0
    clear g
    have hp := Blk.new w 27 #[.int .i32 q0, .int .i32 q1, .int .i32 q2, .int .i32 q3, .int .i32 b0, .int .i32 b1, .int .i32 b2, .int .i64 n, .int .i64 c]
    have hb : Below w.heap.size w (w.alloc (.cells #[.int .i32 q0, .int .i32 q1, .int .i32 q2, .int .i32 q3, .int .i32 b0, .int .i32 b1, .int .i32 b2, .int .i64 n, .int .i64 c] 27)) := (Below.refl _ w).alloc (Nat.le_refl _) _
    have f7 : (w.alloc (.cells #[.int .i32 q0, .int .i32 q1, .int .i32 q2, .int .i32 q3, .int .i32 b0, .int .i32 b1, .int .i32 b2, .int .i64 n, .int .i64 c] 27)).cell? ⟨w.heap.size, 7, none⟩ = some (.int .i64 n) := hp.cell 7
    have f8 : (w.alloc (.cells #[.int .i32 q0, .int .i32 q1, .int .i32 q2, .int .i32 q3, .int .i32 b0, .int .i32 b1, .int .i32 b2, .int .i64 n, .int .i64 c] 27)).cell? ⟨w.heap.size, 8, none⟩ = some (.int .i64 c) := hp.cell 8
    go_enter Tryz.func5, Tryz.ntmps5
    go_wp2
    go_ret
    exact ⟨rfl, hb⟩
end Go.Proofs.YtgmepohfkpncmaaGreat
