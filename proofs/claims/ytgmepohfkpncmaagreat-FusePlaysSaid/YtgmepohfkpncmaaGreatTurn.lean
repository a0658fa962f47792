/- Chapter 13: products, and what is across two. -/
import Derived.Test.YtgmepohfkpncmaaGreatQuatF
import Derived.Test.YtgmepohfkpncmaaGreatQuatE
import Derived.Test.YtgmepohfkpncmaaGreatHeld
import Derived.Laws.EntriesVeiled
namespace Go.Proofs.YtgmepohfkpncmaaGreat
open Go.RowKit
set_option linter.unusedVariables false
set_option linter.unusedSimpArgs false

theorem t_by (a b : Int) (w : World) (ha : I32 a) (hb : I32 b) :
    Calls Tryz.prog 44 #[.int .i32 a, .int .i32 b] w fun e w' => e = .returned (.int .i64 (tmP a b)) ∧ Below w.heap.size w w' := by
  have hm := mul_bd a b ha hb
  have H := hid fun w => fx_Round (a * b) 30 w (by unfold I64; omega) (by unfold I64; omega)
  have HT : Hid (tmP a b = roundP (a * b) 30) := rfl
  obtain ⟨a1, a2⟩ := ha
  obtain ⟨b1, b2⟩ := hb
  generalize roundP (a * b) 30 = r at *
  go_enter Tryz.func44, Tryz.ntmps44
  go_wp2_with fail
  refine (H.out _).mono ?_
  rintro e w' ⟨rfl, hb⟩
  go_wp2
  go_ret
  exact ⟨by rw [HT.out]; rfl, hb⟩
theorem r13_by (a b : Int) (w : World) (ha : I32 a) (hb : I32 b) :
    Calls Tryz.prog 53 #[.int .i32 a, .int .i32 b] w fun e w' => e = .returned (.int .i64 (tmP a b)) ∧ w = w' := by
  have H := hid (r9_Times a b 30 w ha hb (by unfold I64; omega))
  have HT : Hid (tmP a b = roundP (a * b) 30) := rfl
  generalize roundP (a * b) 30 = r at *
  clear ha hb
  go_enter Tryz.func53, Tryz.ntmps53
  go_wp2_with fail
  refine (H.out).mono ?_
  rintro e w' ⟨rfl, rfl⟩
  go_wp2
  go_ret
  exact ⟨by rw [HT.out]; rfl, rfl⟩
end Go.Proofs.YtgmepohfkpncmaaGreat
