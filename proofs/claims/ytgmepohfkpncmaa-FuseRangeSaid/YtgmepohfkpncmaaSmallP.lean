/- Chapter 12: the word of four numbers. -/
import Derived.Test.YtgmepohfkpncmaaSmallD
namespace Go.Proofs.Ytgmepohfkpncmaa
open Go.RowKit
set_option linter.unusedVariables false
set_option linter.unusedSimpArgs false

theorem join_wid (b n1 n2 n3 : Int) (hb : 0 ≤ b ∧ b < 4) (h1 : 0 ≤ n1 ∧ n1 ≤ 1023) (h2 : 0 ≤ n2 ∧ n2 ≤ 1023) (h3 : 0 ≤ n3 ∧ n3 ≤ 1023) :
    joinB widL [b, n1, n2, n3] = true ∧ joinV widL [b, n1, n2, n3] = 1073741824 * b + 1048576 * n1 + 1024 * n2 + n3 := by
  have h : okF 32 widL = true := by decide +kernel
  have k0 : putB 30 2 b = true := by unfold putB; simp [placeB]; omega
  have k1 : putB 20 10 n1 = true := by unfold putB; simp [placeB]; omega
  have k2 : putB 10 10 n2 = true := by unfold putB; simp [placeB]; omega
  have k3 : putB 0 10 n3 = true := by unfold putB; simp [placeB]; omega
  have v0 : putV 0 30 2 b = 1073741824 * b := by unfold putV; rw [if_pos k0]; simp; omega
  have v1 : putV (1073741824 * b) 20 10 n1 = 1073741824 * b + 1048576 * n1 := by unfold putV; rw [if_pos k1]; simp; omega
  have v2 : putV (1073741824 * b + 1048576 * n1) 10 10 n2 = 1073741824 * b + 1048576 * n1 + 1024 * n2 := by unfold putV; rw [if_pos k2]; simp; omega
  have v3 : putV (1073741824 * b + 1048576 * n1 + 1024 * n2) 0 10 n3 = 1073741824 * b + 1048576 * n1 + 1024 * n2 + n3 := by unfold putV; rw [if_pos k3]; simp; omega
  have hj : joinF 0 32 widL [b, n1, n2, n3] = (1073741824 * b + 1048576 * n1 + 1024 * n2 + n3, true) := by
    simp only [widL, joinF, show (32 : Int) - 2 = 30 from rfl, show (30 : Int) - 10 = 20 from rfl, show (20 : Int) - 10 = 10 from rfl, show (10 : Int) - 10 = 0 from rfl, k0, k1, k2, k3, if_true, v0, v1, v2, v3]
  have hB : joinB widL [b, n1, n2, n3] = true := by unfold joinB; rw [h, hj]; rfl
  exact ⟨hB, by unfold joinV; rw [if_pos hB, hj]⟩
end Go.Proofs.Ytgmepohfkpncmaa
