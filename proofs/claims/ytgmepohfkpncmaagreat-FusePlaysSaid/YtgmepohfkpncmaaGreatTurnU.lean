/- Chapter 13: the walk of TurnUnit. -/
import Derived.Test.YtgmepohfkpncmaaGreatTurnR
import Derived.Test.YtgmepohfkpncmaaGreatQuatLaw
namespace Go.Proofs.YtgmepohfkpncmaaGreat
open Go.RowKit
set_option linter.unusedVariables false
set_option linter.unusedSimpArgs false

theorem makeP_32b (a0 a1 a2 a3 x : Int) (ia0 : I32 a0) (ia1 : I32 a1) (ia2 : I32 a2) (ia3 : I32 a3) (h : x ∈ [a0, a1, a2, a3]) : I32 (makeP [a0, a1, a2, a3] x) := by
  unfold makeP
  rcases far_zero a0 a1 a2 a3 ia0 ia1 ia2 ia3 with hz | hz
  · rw [if_pos hz]; unfold I32; omega
  · rw [if_neg (by omega)]
    have := oneP_bd [a0, a1, a2, a3] (by unfold I32 at *; simp; omega) hz x h
    unfold I32; omega
theorem st_still (q0 q1 q2 q3 r0 r1 r2 dt : Int) (iq0 : I32 q0) (iq1 : I32 q1) (iq2 : I32 q2) (iq3 : I32 q3) (h : (r0 = 0 ∧ r1 = 0 ∧ r2 = 0) ∨ dt = 0) :
    stP 0 q0 q1 q2 q3 r0 r1 r2 dt = q0 ∧ stP 1 q0 q1 q2 q3 r0 r1 r2 dt = q1 ∧ stP 2 q0 q1 q2 q3 r0 r1 r2 dt = q2 ∧ stP 3 q0 q1 q2 q3 r0 r1 r2 dt = q3 ∧ stN q0 q1 q2 q3 r0 r1 r2 dt = 0 := by
  have z : ∀ x, (x = 0 ∨ dt = 0) → stH x dt = 0 := fun x hx => by
    unfold stH
    rcases hx with rfl | rfl
    · rw [Int.zero_mul]; decide +kernel
    · rw [Int.mul_zero]; decide +kernel
  have z0 : stH r0 dt = 0 := z _ (by rcases h with h | h; exact .inl h.1; exact .inr h)
  have z1 : stH r1 dt = 0 := z _ (by rcases h with h | h; exact .inl h.2.1; exact .inr h)
  have z2 : stH r2 dt = 0 := z _ (by rcases h with h | h; exact .inl h.2.2; exact .inr h)
  have c0 : clampP 0 = 0 := by decide
  have k0 : cutC 0 = 0 := by decide
  have m0 : mulW q0 q1 q2 q3 1073741824 0 0 0 = q0 := by unfold mulW; rw [tm_one q0 iq0, tm_zero q1 iq1, tm_zero q2 iq2, tm_zero q3 iq3]; omega
  have m1 : mulX q0 q1 q2 q3 1073741824 0 0 0 = q1 := by unfold mulX; rw [tm_one q1 iq1, tm_zero q0 iq0, tm_zero q2 iq2, tm_zero q3 iq3]; omega
  have m2 : mulY q0 q1 q2 q3 1073741824 0 0 0 = q2 := by unfold mulY; rw [tm_one q2 iq2, tm_zero q0 iq0, tm_zero q3 iq3, tm_zero q1 iq1]; omega
  have m3 : mulZ q0 q1 q2 q3 1073741824 0 0 0 = q3 := by unfold mulZ; rw [tm_one q3 iq3, tm_zero q0 iq0, tm_zero q1 iq1, tm_zero q2 iq2]; omega
  have cc : ∀ x, I32 x → cutC x = 0 := fun x hx => by unfold cutC; rw [clampP_in x hx]; simp
  simp only [stP, stN, z0, z1, z2, c0, k0, m0, m1, m2, m3]
  rw [clampP_in q0 iq0, clampP_in q1 iq1, clampP_in q2 iq2, clampP_in q3 iq3, cc q0 iq0, cc q1 iq1, cc q2 iq2, cc q3 iq3]
  exact ⟨rfl, rfl, rfl, rfl, rfl⟩
theorem st_unit (q0 q1 q2 q3 r0 r1 r2 dt : Int) : (∀ j z, I32 z → I32 (stO (stL q0 q1 q2 q3 r0 r1 r2 dt) (stP j q0 q1 q2 q3 r0 r1 r2 dt) z)) ∧
    offP (sqP [stO (stL q0 q1 q2 q3 r0 r1 r2 dt) (stP 0 q0 q1 q2 q3 r0 r1 r2 dt) 1073741824, stO (stL q0 q1 q2 q3 r0 r1 r2 dt) (stP 1 q0 q1 q2 q3 r0 r1 r2 dt) 0, stO (stL q0 q1 q2 q3 r0 r1 r2 dt) (stP 2 q0 q1 q2 q3 r0 r1 r2 dt) 0, stO (stL q0 q1 q2 q3 r0 r1 r2 dt) (stP 3 q0 q1 q2 q3 r0 r1 r2 dt) 0]) ≤ 8589934592 := by
  have h0 : I32 (stP 0 q0 q1 q2 q3 r0 r1 r2 dt) := clampP_bd _
  have h1 : I32 (stP 1 q0 q1 q2 q3 r0 r1 r2 dt) := clampP_bd _
  have h2 : I32 (stP 2 q0 q1 q2 q3 r0 r1 r2 dt) := clampP_bd _
  have h3 : I32 (stP 3 q0 q1 q2 q3 r0 r1 r2 dt) := clampP_bd _
  have hj : ∀ j, stP j q0 q1 q2 q3 r0 r1 r2 dt ∈ stL q0 q1 q2 q3 r0 r1 r2 dt := fun j => by
    match j with
    | 0 => simp [stL]
    | 1 => simp [stL]
    | 2 => simp [stL]
    | j + 3 => simp only [stL, List.mem_cons]; exact .inr (.inr (.inr (.inl rfl)))
  have hm : ∀ j, I32 (makeP (stL q0 q1 q2 q3 r0 r1 r2 dt) (stP j q0 q1 q2 q3 r0 r1 r2 dt)) := fun j => by
    have := hj j
    unfold stL at this ⊢
    exact makeP_32b _ _ _ _ _ h0 h1 h2 h3 this
  refine ⟨fun j z hz => ?_, ?_⟩
  · unfold stO
    split
    · exact hm j
    · exact hz
  · by_cases hf : 0 < farP (stL q0 q1 q2 q3 r0 r1 r2 dt)
    · simp only [stO, if_pos hf]
      unfold stL at hf ⊢
      have := unit_law _ _ _ _ h0 h1 h2 h3 hf
      unfold offP
      split <;> omega
    · simp only [stO, if_neg hf]
      decide +kernel
end Go.Proofs.YtgmepohfkpncmaaGreat
