/- Chapter 42: plain laws of a step. -/
import Derived.Test.YtgmepohfkpncmaaGreatFuseF
import Derived.Test.YtgmepohfkpncmaaGreatTurnU
import Derived.Test.YtgmepohfkpncmaaGreatQuatLaw
import Derived.Test.YtgmepohfkpncmaaGreatSmallP
namespace Go.Proofs.YtgmepohfkpncmaaGreat
open Go.RowKit
set_option linter.unusedVariables false
set_option linter.unusedSimpArgs false

theorem over_0 (d : Int) : overP 0 d = 0 := by
  unfold overP
  split
  · rfl
  · have h : (2 * absP 0 + absP d) / (2 * absP d) = 0 := by
      have e : absP 0 = 0 := by decide
      have k : 0 < absP d := by unfold absP; split <;> omega
      rw [e]
      exact Int.ediv_eq_zero_of_lt (by omega) (by omega)
    simp only [h]
    split <;> split <;> omega
theorem tv_0 (k : Int) : tvP 0 k = 0 := by unfold tvP roundP; rw [Int.zero_mul]; exact over_0 _
theorem clamp_0 : clampP 0 = 0 := by decide
theorem cut_0 : cutC 0 = 0 := by decide
theorem co_0 (k : Int) : coP 0 k = 0 := by unfold coP; rw [tv_0]; exact clamp_0
theorem make_0 (xs : List Int) : makeP xs 0 = 0 := by
  unfold makeP oneP
  rw [Int.zero_mul, Int.zero_mul, over_0]
  split <;> rfl
theorem one_made : 0 < farP [1073741824, 0, 0, 0] ∧ makeP [1073741824, 0, 0, 0] 1073741824 = 1073741824 ∧ makeP [1073741824, 0, 0, 0] 0 = 0 := by
  have m0 : ¬ farP [1073741824, 0, 0, 0] = 0 := by decide +kernel
  have m1 : upN [1073741824, 0, 0, 0] = 0 := by decide +kernel
  have m2 : sqP (upL [1073741824, 0, 0, 0]) = 1152921504606846976 := by decide +kernel
  have m3 : lenP [1073741824, 0, 0, 0] = 1073741824 := by unfold lenP; rw [m2]; exact root_is _ _ (by omega) (by omega) (by decide +kernel) (by decide +kernel)
  refine ⟨by decide +kernel, ?_, make_0 _⟩
  unfold makeP oneP
  rw [if_neg m0, m3, m1]
  decide +kernel
/-- Who stands upright and is turned by the bias alone, stays so. -/
theorem rest_law (b0 b1 b2 x0 x1 x2 d : Int) (h0 : -16384 ≤ b0 ∧ b0 ≤ 16384) (h1 : -16384 ≤ b1 ∧ b1 ≤ 16384) (h2 : -16384 ≤ b2 ∧ b2 ≤ 16384)
    (h : erOk x0 x1 x2 = true → er0 1073741824 0 0 0 x0 x1 x2 = 0 ∧ er1 1073741824 0 0 0 x0 x1 x2 = 0 ∧ er2 1073741824 0 0 0 x0 x1 x2 = 0) :
    stepQ 0 1073741824 1073741824 0 0 0 b0 b1 b2 b0 b1 b2 x0 x1 x2 d = 1073741824 ∧ stepQ 1 0 1073741824 0 0 0 b0 b1 b2 b0 b1 b2 x0 x1 x2 d = 0 ∧ stepQ 2 0 1073741824 0 0 0 b0 b1 b2 b0 b1 b2 x0 x1 x2 d = 0 ∧ stepQ 3 0 1073741824 0 0 0 b0 b1 b2 b0 b1 b2 x0 x1 x2 d = 0 ∧ stepB 0 1073741824 0 0 0 b0 b1 b2 b0 b1 b2 x0 x1 x2 d = b0 ∧ stepB 1 1073741824 0 0 0 b0 b1 b2 b0 b1 b2 x0 x1 x2 d = b1 ∧ stepB 2 1073741824 0 0 0 b0 b1 b2 b0 b1 b2 x0 x1 x2 d = b2 ∧ stepN 1073741824 0 0 0 b0 b1 b2 b0 b1 b2 x0 x1 x2 d = 0 := by
  have f : ∀ b, frR b b = 0 := fun b => by unfold frR; rw [Int.sub_self]; exact clamp_0
  have c : ∀ b, -16384 ≤ b ∧ b ≤ 16384 → clampP b = b := fun b hb => clampP_in b (by unfold I32; omega)
  have k : ∀ b, -16384 ≤ b ∧ b ≤ 16384 → cutC b = 0 := fun b hb => cutC_zero b (by unfold I32; omega)
  have r0 : coR 0 0 = 0 := by unfold coR; rw [co_0]; exact clamp_0
  have y0 : coY 0 d = 0 := by unfold coY; rw [co_0, tv_0]; exact clamp_0
  have bb : ∀ b, -16384 ≤ b ∧ b ≤ 16384 → coB b 0 d = b := fun b hb => by unfold coB; rw [y0, Int.sub_zero]; exact c b hb
  have kk : fkN b0 b1 b2 b0 b1 b2 = 0 := by unfold fkN; simp only [Int.sub_self, cut_0]; rfl
  have hR : fsR 0 1073741824 0 0 0 b0 b1 b2 b0 b1 b2 x0 x1 x2 d = 0 ∧ fsR 1 1073741824 0 0 0 b0 b1 b2 b0 b1 b2 x0 x1 x2 d = 0 ∧ fsR 2 1073741824 0 0 0 b0 b1 b2 b0 b1 b2 x0 x1 x2 d = 0 := by
    unfold fsR
    split
    · rename_i g
      obtain ⟨e0, e1, e2⟩ := h g
      simp only [e0, e1, e2, f, r0]
      exact ⟨trivial, trivial, trivial⟩
    · simp only [f]
      exact ⟨trivial, trivial, trivial⟩
  have hB : fsB 0 1073741824 0 0 0 b0 b1 b2 b0 b1 b2 x0 x1 x2 d = b0 ∧ fsB 1 1073741824 0 0 0 b0 b1 b2 b0 b1 b2 x0 x1 x2 d = b1 ∧ fsB 2 1073741824 0 0 0 b0 b1 b2 b0 b1 b2 x0 x1 x2 d = b2 := by
    unfold fsB
    split
    · rename_i g
      obtain ⟨e0, e1, e2⟩ := h g
      simp only [e0, e1, e2]
      exact ⟨bb b0 h0, bb b1 h1, bb b2 h2⟩
    · exact ⟨rfl, rfl, rfl⟩
  have hN : fsN 1073741824 0 0 0 b0 b1 b2 b0 b1 b2 x0 x1 x2 d = 0 := by
    unfold fsN
    split
    · rename_i g
      obtain ⟨e0, e1, e2⟩ := h g
      rw [e0, e1, e2, kk]
      unfold coN
      rw [f, f, f, y0, co_0, co_0, tv_0, tv_0, tv_0, Int.sub_zero, Int.sub_zero, Int.sub_zero, k b0 h0, k b1 h1, k b2 h2, Int.add_zero, cut_0]
      rfl
    · exact kk
  obtain ⟨s0, s1, s2, s3, s4⟩ := st_still 1073741824 0 0 0 0 0 0 d (by unfold I32; omega) (by unfold I32; omega) (by unfold I32; omega) (by unfold I32; omega) (.inl ⟨rfl, rfl, rfl⟩)
  have l : ∀ b, -16384 ≤ b ∧ b ≤ 16384 → liP b = b := fun b hb => by unfold liP; omega
  have m : ∀ b, -16384 ≤ b ∧ b ≤ 16384 → liN b = 0 := fun b hb => by unfold liN; rw [if_pos (l b hb)]
  unfold stepQ stepB stepN tuQ tuN
  rw [hR.1, hR.2.1, hR.2.2, hB.1, hB.2.1, hB.2.2, hN, l b0 h0, l b1 h1, l b2 h2, m b0 h0, m b1 h1, m b2 h2, s4]
  unfold stL
  rw [s0, s1, s2, s3]
  obtain ⟨o0, o1, o2⟩ := one_made
  unfold stO
  rw [if_pos o0, if_pos o0, if_pos o0, o1, make_0]
  exact ⟨rfl, rfl, rfl, rfl, rfl, rfl, rfl, rfl⟩
theorem up_law (u : Int) : er0 1073741824 0 0 0 0 0 u = 0 ∧ er1 1073741824 0 0 0 0 0 u = 0 ∧ er2 1073741824 0 0 0 0 0 u = 0 := by
  have a0 : clampP (upX 1073741824 0 0 0) = 0 := by decide +kernel
  have a1 : clampP (upY 1073741824 0 0 0) = 0 := by decide +kernel
  have t : ∀ x, tmP x 0 = 0 := fun x => by unfold tmP roundP; rw [Int.mul_zero]; exact over_0 _
  have t' : ∀ x, tmP 0 x = 0 := fun x => by unfold tmP roundP; rw [Int.zero_mul]; exact over_0 _
  have p : clampP (roundP (0 - 0) 14) = 0 := by decide +kernel
  unfold er0 er1 er2 paP
  simp only [make_0, a0, a1, t, t', p, and_self]
theorem step_32 (j : Nat) (z q0 q1 q2 q3 b0 b1 b2 y0 y1 y2 x0 x1 x2 d : Int) (hz : I32 z) : I32 (stepQ j z q0 q1 q2 q3 b0 b1 b2 y0 y1 y2 x0 x1 x2 d) := (st_unit q0 q1 q2 q3 _ _ _ d).1 j z hz
end Go.Proofs.YtgmepohfkpncmaaGreat
