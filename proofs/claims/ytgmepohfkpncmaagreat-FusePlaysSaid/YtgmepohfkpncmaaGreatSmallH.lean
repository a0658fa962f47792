/- Chapter 12: the document's Unpack; its Pack of what is no unit. -/
import Derived.Test.YtgmepohfkpncmaaGreatSmallG
import Derived.Test.YtgmepohfkpncmaaGreatSmallP
import Derived.Test.YtgmepohfkpncmaaGreatRootD
import Derived.Test.YtgmepohfkpncmaaGreatBitsM
namespace Go.Proofs.YtgmepohfkpncmaaGreat
open Go.RowKit
set_option linter.unusedVariables false
set_option linter.unusedSimpArgs false
attribute [local go_sem] Oper.semAt_some
theorem r12_PackN (q0 q1 q2 q3 : Int) (w : World) (iq0 : I32 q0) (iq1 : I32 q1) (iq2 : I32 q2) (iq3 : I32 q3) (hu : isP (sqP [q0, q1, q2, q3]) = false) :
    Calls Tryz.prog 36 #[.agg #[.int .i32 q0, .int .i32 q1, .int .i32 q2, .int .i32 q3]] w fun e w' => e = .returned (.tuple #[.int .u32 0, .bool false]) ∧ Below w.heap.size w w' := by
  have HU := hid fun w => r11_Is q0 q1 q2 q3 w iq0 iq1 iq2 iq3
  rw [hu] at HU
  clear hu iq0 iq1 iq2 iq3
  go_enter Tryz.func36, Tryz.ntmps36
  have hq := Blk.new w 23 #[.int .i32 q0, .int .i32 q1, .int .i32 q2, .int .i32 q3]
  have hB := (Below.refl w.heap.size w).alloc (Nat.le_refl _) (.cells #[.int .i32 q0, .int .i32 q1, .int .i32 q2, .int .i32 q3] 23)
  have f0 : (w.alloc (.cells #[.int .i32 q0, .int .i32 q1, .int .i32 q2, .int .i32 q3] 23)).cell? ⟨w.heap.size, 0, none⟩ = some (.int .i32 q0) := hq.cell 0
  have f1 : (w.alloc (.cells #[.int .i32 q0, .int .i32 q1, .int .i32 q2, .int .i32 q3] 23)).cell? ⟨w.heap.size, 1, none⟩ = some (.int .i32 q1) := hq.cell 1
  have f2 : (w.alloc (.cells #[.int .i32 q0, .int .i32 q1, .int .i32 q2, .int .i32 q3] 23)).cell? ⟨w.heap.size, 2, none⟩ = some (.int .i32 q2) := hq.cell 2
  have f3 : (w.alloc (.cells #[.int .i32 q0, .int .i32 q1, .int .i32 q2, .int .i32 q3] 23)).cell? ⟨w.heap.size, 3, none⟩ = some (.int .i32 q3) := hq.cell 3
  go_wp2_with fail
  have hsz := hB.size
  generalize w.alloc (.cells #[.int .i32 q0, .int .i32 q1, .int .i32 q2, .int .i32 q3] 23) = W0 at *
  refine (HU.out _).mono ?_
  rintro e w1 ⟨rfl, b1⟩
  replace hB := hB.trans (b1.mono hsz)
  go_wp2_with fail
  go_ret2
  exact ⟨rfl, hB⟩

end Go.Proofs.YtgmepohfkpncmaaGreat
