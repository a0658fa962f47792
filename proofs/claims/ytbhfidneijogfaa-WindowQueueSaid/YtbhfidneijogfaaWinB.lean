/- Chapter 39: a new window. -/
import Derived.Test.YtbhfidneijogfaaWin
namespace Go.Proofs.Ytbhfidneijogfaa
open Go.RowKit
set_option linter.unusedVariables false
set_option linter.unusedSimpArgs false

theorem zero_win : Try.zeroCells41 = winC false (List.replicate 1024 0) 0 0 := by kernel_rfl
theorem winC_made (md md' : Bool) (bs : List Int) (p n : Int) : (winC md bs p n).setIfInBounds 0 (.bool md') = winC md' bs p n := by simp [winC]
theorem made_win : (Try.zeroCells41).setIfInBounds 0 (.bool true) = winC true (List.replicate 1024 0) 0 0 := by
  rw [zero_win, winC_made]
theorem w_New (w : World) :
    Calls Try.prog 15 #[] w fun e w' => ∃ g, e = .returned (.pointer (some ⟨g, 0, none⟩)) ∧ w.heap.size ≤ g ∧ Win w' g true (List.replicate 1024 0) 0 0 ∧ Below w.heap.size w w' := by
  go_enter Try.func15, Try.ntmps15
  go_wp2
  rw [made_win]
  go_ret
  exact ⟨w.heap.size, rfl, Nat.le_refl _, ⟨Blk.new w _ _, List.length_replicate⟩, (Below.refl _ w).alloc (Nat.le_refl _) _⟩
end Go.Proofs.Ytbhfidneijogfaa
