/- Chapter 11: what the reference makes of a quaternion. -/
import Derived.Test.YtgmepohfkpncmaaUnitD
namespace Go.Proofs.Ytgmepohfkpncmaa
open Go.RowKit
set_option linter.unusedVariables false
set_option linter.unusedSimpArgs false

def intAt (v : Option Value) : Int := match v with | some (.int _ i) => i | _ => 0
/-- How much four cells may still grow. -/
def left4 (g : Nat) (w : World) : Nat := (8589934592 - (absP (intAt (w.cell? ⟨g, 0, none⟩)) + absP (intAt (w.cell? ⟨g, 1, none⟩)) + absP (intAt (w.cell? ⟨g, 2, none⟩)) + absP (intAt (w.cell? ⟨g, 3, none⟩)))).toNat
theorem left4_is {g : Nat} {w : World} {t : TypeId} {l0 l1 l2 l3 : Int} (h : Blk w g t #[.int .i32 l0, .int .i32 l1, .int .i32 l2, .int .i32 l3]) : left4 g w = (8589934592 - (absP l0 + absP l1 + absP l2 + absP l3)).toNat := by
  have e0 : w.cell? ⟨g, 0, none⟩ = some (.int .i32 l0) := h.cell 0
  have e1 : w.cell? ⟨g, 1, none⟩ = some (.int .i32 l1) := h.cell 1
  have e2 : w.cell? ⟨g, 2, none⟩ = some (.int .i32 l2) := h.cell 2
  have e3 : w.cell? ⟨g, 3, none⟩ = some (.int .i32 l3) := h.cell 3
  unfold left4
  rw [e0, e1, e2, e3]; rfl
theorem farB_iff (x : Int) : farB x = true ↔ (1073741824 ≤ x ∨ x ≤ -1073741824) := by unfold farB; simp
theorem farB_no (x : Int) : farB x = false ↔ (-1073741824 < x ∧ x < 1073741824) := by
  have := farB_iff x
  cases h : farB x <;> simp [h] at this ⊢ <;> omega
/-- As long as none is far they have not all grown. -/
theorem grow_key (a0 a1 a2 a3 : Int) (ia0 : I32 a0) (ia1 : I32 a1) (ia2 : I32 a2) (ia3 : I32 a3) (hz : 0 < farP [a0, a1, a2, a3]) (k : Nat) (hk : k ≤ shN (farP [a0, a1, a2, a3])) :
    ((farB (a0 * 2 ^ k) = false ∧ farB (a1 * 2 ^ k) = false ∧ farB (a2 * 2 ^ k) = false ∧ farB (a3 * 2 ^ k) = false) ∧ k < shN (farP [a0, a1, a2, a3]) ∧ ¬ (a0 * 2 ^ k = 0 ∧ a1 * 2 ^ k = 0 ∧ a2 * 2 ^ k = 0 ∧ a3 * 2 ^ k = 0)) ∨
    (¬ (farB (a0 * 2 ^ k) = false ∧ farB (a1 * 2 ^ k) = false ∧ farB (a2 * 2 ^ k) = false ∧ farB (a3 * 2 ^ k) = false) ∧ k = shN (farP [a0, a1, a2, a3])) := by
  obtain ⟨f0, f1, f2, f3⟩ := farP_facts [a0, a1, a2, a3] (by unfold I32 at *; simp; omega)
  obtain ⟨s1, s2, s3⟩ := shN_facts _ hz
  have hn := far_pos' a0 a1 a2 a3 hz
  simp only [farB_no]
  by_cases g : k < shN (farP [a0, a1, a2, a3])
  · left
    have h := s3 k g
    have q0 := mul_pow_bd a0 _ k (f2 a0 (by simp))
    have q1 := mul_pow_bd a1 _ k (f2 a1 (by simp))
    have q2 := mul_pow_bd a2 _ k (f2 a2 (by simp))
    have q3 := mul_pow_bd a3 _ k (f2 a3 (by simp))
    refine ⟨by omega, g, ?_⟩
    have hp : (2 : Int) ^ k ≠ 0 := Int.ne_of_gt (Int.pow_pos (by omega))
    simp only [Int.mul_eq_zero, hp, or_false]
    exact hn
  · right
    obtain rfl : k = shN (farP [a0, a1, a2, a3]) := by omega
    refine ⟨?_, rfl⟩
    rcases f3 with f3 | ⟨x, hx', f3⟩
    · omega
    · have e : farP [a0, a1, a2, a3] * 2 ^ shN (farP [a0, a1, a2, a3]) = x * 2 ^ shN (farP [a0, a1, a2, a3]) ∨ farP [a0, a1, a2, a3] * 2 ^ shN (farP [a0, a1, a2, a3]) = -(x * 2 ^ shN (farP [a0, a1, a2, a3])) := by
        rcases f3 with h | h
        · left; conv => lhs; lhs; rw [h]
        · right; conv => lhs; lhs; rw [h]
          rw [Int.neg_mul]
      simp only [List.mem_cons, List.not_mem_nil, or_false] at hx'
      generalize farP [a0, a1, a2, a3] * 2 ^ shN (farP [a0, a1, a2, a3]) = M at *
      rcases hx' with rfl | rfl | rfl | rfl <;> omega

end Go.Proofs.Ytgmepohfkpncmaa
