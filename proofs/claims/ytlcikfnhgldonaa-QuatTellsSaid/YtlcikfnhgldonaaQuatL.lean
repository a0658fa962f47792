/- Chapter 10: what must come; near. -/
import Derived.Test.YtlcikfnhgldonaaQuatJ
import Derived.Test.YtlcikfnhgldonaaQuatK
import Derived.Test.YtlcikfnhgldonaaQuatH
namespace Go.Proofs.Ytlcikfnhgldonaa
open Go.RowKit

theorem law10_knows (w : World) :
    Calls Try.prog 18 #[] w fun e w' => e = .returned (.bool true) ∧ Below w.heap.size w w' := by
  have h1 := fun w => q_Mul 0 1073741824 0 0 0 0 1073741824 0 w (by unfold I32; omega) (by unfold I32; omega) (by unfold I32; omega) (by unfold I32; omega) (by unfold I32; omega) (by unfold I32; omega) (by unfold I32; omega) (by unfold I32; omega)
  have e0 : mulW 0 1073741824 0 0 0 0 1073741824 0 = 0 := by decide +kernel
  have e1 : mulX 0 1073741824 0 0 0 0 1073741824 0 = 0 := by decide +kernel
  have e2 : mulY 0 1073741824 0 0 0 0 1073741824 0 = 0 := by decide +kernel
  have e3 : mulZ 0 1073741824 0 0 0 0 1073741824 0 = 1073741824 := by decide +kernel
  have f0 : clampP 0 = 0 := by decide +kernel
  have f1 : clampP 1073741824 = 1073741824 := by decide +kernel
  have f2 : cutC 0 + cutC 0 + cutC 0 + cutC 1073741824 = 0 := by decide +kernel
  unfold Muls at h1
  simp only [e0, e1, e2, e3, f0, f1, f2] at h1
  have H1 := hid h1
  have H2 := hid fun w => q_One w
  clear h1 e0 e1 e2 e3 f0 f1 f2
  go_enter Try.func18, Try.ntmps18
  go_wp2_with fail
  refine (H1.out _).mono ?_
  rintro e w1 ⟨rfl, b1⟩
  go_wp2_with fail
  refine (H2.out _).mono ?_
  rintro e w2 ⟨rfl, b2⟩
  go_wp2
  go_ret
  exact ⟨rfl, (b1.alloc b1.size _).on b2⟩
end Go.Proofs.Ytlcikfnhgldonaa
