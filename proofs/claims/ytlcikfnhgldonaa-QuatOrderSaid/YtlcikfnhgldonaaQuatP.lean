/- Chapter 10: the walk of QuatOrder. -/
import Derived.Test.YtlcikfnhgldonaaQuatO
namespace Go.Proofs.Ytlcikfnhgldonaa
open Go.RowKit
set_option linter.unusedVariables false
set_option linter.unusedSimpArgs false

theorem cutC_le (x : Int) : cutC x ≤ 1 := by unfold cutC; split <;> omega
theorem order_facts (a0 a1 a2 a3 b0 b1 b2 b3 : Int) (ha0 : I32 a0) (ha1 : I32 a1) (ha2 : I32 a2) (ha3 : I32 a3) (hb0 : I32 b0) (hb1 : I32 b1) (hb2 : I32 b2) (hb3 : I32 b3) :
    (0 ≤ cutC (mulW a0 a1 a2 a3 b0 b1 b2 b3) + cutC (mulX a0 a1 a2 a3 b0 b1 b2 b3) + cutC (mulY a0 a1 a2 a3 b0 b1 b2 b3) + cutC (mulZ a0 a1 a2 a3 b0 b1 b2 b3) ∧ cutC (mulW a0 a1 a2 a3 b0 b1 b2 b3) + cutC (mulX a0 a1 a2 a3 b0 b1 b2 b3) + cutC (mulY a0 a1 a2 a3 b0 b1 b2 b3) + cutC (mulZ a0 a1 a2 a3 b0 b1 b2 b3) ≤ 4) ∧ (0 ≤ cutC (clampP (mulW a0 a1 a2 a3 b0 b1 b2 b3)) + cutC (-clampP (mulX a0 a1 a2 a3 b0 b1 b2 b3)) + cutC (-clampP (mulY a0 a1 a2 a3 b0 b1 b2 b3)) + cutC (-clampP (mulZ a0 a1 a2 a3 b0 b1 b2 b3)) ∧ cutC (clampP (mulW a0 a1 a2 a3 b0 b1 b2 b3)) + cutC (-clampP (mulX a0 a1 a2 a3 b0 b1 b2 b3)) + cutC (-clampP (mulY a0 a1 a2 a3 b0 b1 b2 b3)) + cutC (-clampP (mulZ a0 a1 a2 a3 b0 b1 b2 b3)) ≤ 4) ∧ (0 ≤ cutC a0 + cutC (-a1) + cutC (-a2) + cutC (-a3) ∧ cutC a0 + cutC (-a1) + cutC (-a2) + cutC (-a3) ≤ 4) ∧ (0 ≤ cutC b0 + cutC (-b1) + cutC (-b2) + cutC (-b3) ∧ cutC b0 + cutC (-b1) + cutC (-b2) + cutC (-b3) ≤ 4) ∧ (0 ≤ cutC (mulW (clampP b0) (clampP (-b1)) (clampP (-b2)) (clampP (-b3)) (clampP a0) (clampP (-a1)) (clampP (-a2)) (clampP (-a3))) + cutC (mulX (clampP b0) (clampP (-b1)) (clampP (-b2)) (clampP (-b3)) (clampP a0) (clampP (-a1)) (clampP (-a2)) (clampP (-a3))) + cutC (mulY (clampP b0) (clampP (-b1)) (clampP (-b2)) (clampP (-b3)) (clampP a0) (clampP (-a1)) (clampP (-a2)) (clampP (-a3))) + cutC (mulZ (clampP b0) (clampP (-b1)) (clampP (-b2)) (clampP (-b3)) (clampP a0) (clampP (-a1)) (clampP (-a2)) (clampP (-a3))) ∧ cutC (mulW (clampP b0) (clampP (-b1)) (clampP (-b2)) (clampP (-b3)) (clampP a0) (clampP (-a1)) (clampP (-a2)) (clampP (-a3))) + cutC (mulX (clampP b0) (clampP (-b1)) (clampP (-b2)) (clampP (-b3)) (clampP a0) (clampP (-a1)) (clampP (-a2)) (clampP (-a3))) + cutC (mulY (clampP b0) (clampP (-b1)) (clampP (-b2)) (clampP (-b3)) (clampP a0) (clampP (-a1)) (clampP (-a2)) (clampP (-a3))) + cutC (mulZ (clampP b0) (clampP (-b1)) (clampP (-b2)) (clampP (-b3)) (clampP a0) (clampP (-a1)) (clampP (-a2)) (clampP (-a3))) ≤ 4) ∧
    ((0 < cutC (mulW a0 a1 a2 a3 b0 b1 b2 b3) + cutC (mulX a0 a1 a2 a3 b0 b1 b2 b3) + cutC (mulY a0 a1 a2 a3 b0 b1 b2 b3) + cutC (mulZ a0 a1 a2 a3 b0 b1 b2 b3) + (cutC (clampP (mulW a0 a1 a2 a3 b0 b1 b2 b3)) + cutC (-clampP (mulX a0 a1 a2 a3 b0 b1 b2 b3)) + cutC (-clampP (mulY a0 a1 a2 a3 b0 b1 b2 b3)) + cutC (-clampP (mulZ a0 a1 a2 a3 b0 b1 b2 b3))) + (cutC a0 + cutC (-a1) + cutC (-a2) + cutC (-a3)) + (cutC b0 + cutC (-b1) + cutC (-b2) + cutC (-b3)) + (cutC (mulW (clampP b0) (clampP (-b1)) (clampP (-b2)) (clampP (-b3)) (clampP a0) (clampP (-a1)) (clampP (-a2)) (clampP (-a3))) + cutC (mulX (clampP b0) (clampP (-b1)) (clampP (-b2)) (clampP (-b3)) (clampP a0) (clampP (-a1)) (clampP (-a2)) (clampP (-a3))) + cutC (mulY (clampP b0) (clampP (-b1)) (clampP (-b2)) (clampP (-b3)) (clampP a0) (clampP (-a1)) (clampP (-a2)) (clampP (-a3))) + cutC (mulZ (clampP b0) (clampP (-b1)) (clampP (-b2)) (clampP (-b3)) (clampP a0) (clampP (-a1)) (clampP (-a2)) (clampP (-a3))))) ∨
     (¬ (0 < cutC (mulW a0 a1 a2 a3 b0 b1 b2 b3) + cutC (mulX a0 a1 a2 a3 b0 b1 b2 b3) + cutC (mulY a0 a1 a2 a3 b0 b1 b2 b3) + cutC (mulZ a0 a1 a2 a3 b0 b1 b2 b3) + (cutC (clampP (mulW a0 a1 a2 a3 b0 b1 b2 b3)) + cutC (-clampP (mulX a0 a1 a2 a3 b0 b1 b2 b3)) + cutC (-clampP (mulY a0 a1 a2 a3 b0 b1 b2 b3)) + cutC (-clampP (mulZ a0 a1 a2 a3 b0 b1 b2 b3))) + (cutC a0 + cutC (-a1) + cutC (-a2) + cutC (-a3)) + (cutC b0 + cutC (-b1) + cutC (-b2) + cutC (-b3)) + (cutC (mulW (clampP b0) (clampP (-b1)) (clampP (-b2)) (clampP (-b3)) (clampP a0) (clampP (-a1)) (clampP (-a2)) (clampP (-a3))) + cutC (mulX (clampP b0) (clampP (-b1)) (clampP (-b2)) (clampP (-b3)) (clampP a0) (clampP (-a1)) (clampP (-a2)) (clampP (-a3))) + cutC (mulY (clampP b0) (clampP (-b1)) (clampP (-b2)) (clampP (-b3)) (clampP a0) (clampP (-a1)) (clampP (-a2)) (clampP (-a3))) + cutC (mulZ (clampP b0) (clampP (-b1)) (clampP (-b2)) (clampP (-b3)) (clampP a0) (clampP (-a1)) (clampP (-a2)) (clampP (-a3))))) ∧ clampP (clampP (mulW a0 a1 a2 a3 b0 b1 b2 b3)) = clampP (mulW (clampP b0) (clampP (-b1)) (clampP (-b2)) (clampP (-b3)) (clampP a0) (clampP (-a1)) (clampP (-a2)) (clampP (-a3))) ∧ clampP (-clampP (mulX a0 a1 a2 a3 b0 b1 b2 b3)) = clampP (mulX (clampP b0) (clampP (-b1)) (clampP (-b2)) (clampP (-b3)) (clampP a0) (clampP (-a1)) (clampP (-a2)) (clampP (-a3))) ∧ clampP (-clampP (mulY a0 a1 a2 a3 b0 b1 b2 b3)) = clampP (mulY (clampP b0) (clampP (-b1)) (clampP (-b2)) (clampP (-b3)) (clampP a0) (clampP (-a1)) (clampP (-a2)) (clampP (-a3))) ∧ clampP (-clampP (mulZ a0 a1 a2 a3 b0 b1 b2 b3)) = clampP (mulZ (clampP b0) (clampP (-b1)) (clampP (-b2)) (clampP (-b3)) (clampP a0) (clampP (-a1)) (clampP (-a2)) (clampP (-a3))))) := by
  have nn := cutC_nn
  have le := cutC_le
  have q0 := nn (mulW a0 a1 a2 a3 b0 b1 b2 b3)
  have l0 := le (mulW a0 a1 a2 a3 b0 b1 b2 b3)
  have q1 := nn (mulX a0 a1 a2 a3 b0 b1 b2 b3)
  have l1 := le (mulX a0 a1 a2 a3 b0 b1 b2 b3)
  have q2 := nn (mulY a0 a1 a2 a3 b0 b1 b2 b3)
  have l2 := le (mulY a0 a1 a2 a3 b0 b1 b2 b3)
  have q3 := nn (mulZ a0 a1 a2 a3 b0 b1 b2 b3)
  have l3 := le (mulZ a0 a1 a2 a3 b0 b1 b2 b3)
  have q4 := nn (clampP (mulW a0 a1 a2 a3 b0 b1 b2 b3))
  have l4 := le (clampP (mulW a0 a1 a2 a3 b0 b1 b2 b3))
  have q5 := nn (-clampP (mulX a0 a1 a2 a3 b0 b1 b2 b3))
  have l5 := le (-clampP (mulX a0 a1 a2 a3 b0 b1 b2 b3))
  have q6 := nn (-clampP (mulY a0 a1 a2 a3 b0 b1 b2 b3))
  have l6 := le (-clampP (mulY a0 a1 a2 a3 b0 b1 b2 b3))
  have q7 := nn (-clampP (mulZ a0 a1 a2 a3 b0 b1 b2 b3))
  have l7 := le (-clampP (mulZ a0 a1 a2 a3 b0 b1 b2 b3))
  have q8 := nn (a0)
  have l8 := le (a0)
  have q9 := nn (-a1)
  have l9 := le (-a1)
  have q10 := nn (-a2)
  have l10 := le (-a2)
  have q11 := nn (-a3)
  have l11 := le (-a3)
  have q12 := nn (b0)
  have l12 := le (b0)
  have q13 := nn (-b1)
  have l13 := le (-b1)
  have q14 := nn (-b2)
  have l14 := le (-b2)
  have q15 := nn (-b3)
  have l15 := le (-b3)
  have q16 := nn (mulW (clampP b0) (clampP (-b1)) (clampP (-b2)) (clampP (-b3)) (clampP a0) (clampP (-a1)) (clampP (-a2)) (clampP (-a3)))
  have l16 := le (mulW (clampP b0) (clampP (-b1)) (clampP (-b2)) (clampP (-b3)) (clampP a0) (clampP (-a1)) (clampP (-a2)) (clampP (-a3)))
  have q17 := nn (mulX (clampP b0) (clampP (-b1)) (clampP (-b2)) (clampP (-b3)) (clampP a0) (clampP (-a1)) (clampP (-a2)) (clampP (-a3)))
  have l17 := le (mulX (clampP b0) (clampP (-b1)) (clampP (-b2)) (clampP (-b3)) (clampP a0) (clampP (-a1)) (clampP (-a2)) (clampP (-a3)))
  have q18 := nn (mulY (clampP b0) (clampP (-b1)) (clampP (-b2)) (clampP (-b3)) (clampP a0) (clampP (-a1)) (clampP (-a2)) (clampP (-a3)))
  have l18 := le (mulY (clampP b0) (clampP (-b1)) (clampP (-b2)) (clampP (-b3)) (clampP a0) (clampP (-a1)) (clampP (-a2)) (clampP (-a3)))
  have q19 := nn (mulZ (clampP b0) (clampP (-b1)) (clampP (-b2)) (clampP (-b3)) (clampP a0) (clampP (-a1)) (clampP (-a2)) (clampP (-a3)))
  have l19 := le (mulZ (clampP b0) (clampP (-b1)) (clampP (-b2)) (clampP (-b3)) (clampP a0) (clampP (-a1)) (clampP (-a2)) (clampP (-a3)))
  clear nn le
  refine ⟨by omega, by omega, by omega, by omega, by omega, ?_⟩
  by_cases g : 0 < cutC (mulW a0 a1 a2 a3 b0 b1 b2 b3) + cutC (mulX a0 a1 a2 a3 b0 b1 b2 b3) + cutC (mulY a0 a1 a2 a3 b0 b1 b2 b3) + cutC (mulZ a0 a1 a2 a3 b0 b1 b2 b3) + (cutC (clampP (mulW a0 a1 a2 a3 b0 b1 b2 b3)) + cutC (-clampP (mulX a0 a1 a2 a3 b0 b1 b2 b3)) + cutC (-clampP (mulY a0 a1 a2 a3 b0 b1 b2 b3)) + cutC (-clampP (mulZ a0 a1 a2 a3 b0 b1 b2 b3))) + (cutC a0 + cutC (-a1) + cutC (-a2) + cutC (-a3)) + (cutC b0 + cutC (-b1) + cutC (-b2) + cutC (-b3)) + (cutC (mulW (clampP b0) (clampP (-b1)) (clampP (-b2)) (clampP (-b3)) (clampP a0) (clampP (-a1)) (clampP (-a2)) (clampP (-a3))) + cutC (mulX (clampP b0) (clampP (-b1)) (clampP (-b2)) (clampP (-b3)) (clampP a0) (clampP (-a1)) (clampP (-a2)) (clampP (-a3))) + cutC (mulY (clampP b0) (clampP (-b1)) (clampP (-b2)) (clampP (-b3)) (clampP a0) (clampP (-a1)) (clampP (-a2)) (clampP (-a3))) + cutC (mulZ (clampP b0) (clampP (-b1)) (clampP (-b2)) (clampP (-b3)) (clampP a0) (clampP (-a1)) (clampP (-a2)) (clampP (-a3))))
  · exact .inl g
  · refine .inr ⟨g, ?_⟩
    have r0 : cutC (mulW a0 a1 a2 a3 b0 b1 b2 b3) = 0 := by omega
    have r1 : cutC (mulX a0 a1 a2 a3 b0 b1 b2 b3) = 0 := by omega
    have r2 : cutC (mulY a0 a1 a2 a3 b0 b1 b2 b3) = 0 := by omega
    have r3 : cutC (mulZ a0 a1 a2 a3 b0 b1 b2 b3) = 0 := by omega
    have r4 : cutC (clampP (mulW a0 a1 a2 a3 b0 b1 b2 b3)) = 0 := by omega
    have r5 : cutC (-clampP (mulX a0 a1 a2 a3 b0 b1 b2 b3)) = 0 := by omega
    have r6 : cutC (-clampP (mulY a0 a1 a2 a3 b0 b1 b2 b3)) = 0 := by omega
    have r7 : cutC (-clampP (mulZ a0 a1 a2 a3 b0 b1 b2 b3)) = 0 := by omega
    have r8 : cutC (a0) = 0 := by omega
    have r9 : cutC (-a1) = 0 := by omega
    have r10 : cutC (-a2) = 0 := by omega
    have r11 : cutC (-a3) = 0 := by omega
    have r12 : cutC (b0) = 0 := by omega
    have r13 : cutC (-b1) = 0 := by omega
    have r14 : cutC (-b2) = 0 := by omega
    have r15 : cutC (-b3) = 0 := by omega
    have r16 : cutC (mulW (clampP b0) (clampP (-b1)) (clampP (-b2)) (clampP (-b3)) (clampP a0) (clampP (-a1)) (clampP (-a2)) (clampP (-a3))) = 0 := by omega
    have r17 : cutC (mulX (clampP b0) (clampP (-b1)) (clampP (-b2)) (clampP (-b3)) (clampP a0) (clampP (-a1)) (clampP (-a2)) (clampP (-a3))) = 0 := by omega
    have r18 : cutC (mulY (clampP b0) (clampP (-b1)) (clampP (-b2)) (clampP (-b3)) (clampP a0) (clampP (-a1)) (clampP (-a2)) (clampP (-a3))) = 0 := by omega
    have r19 : cutC (mulZ (clampP b0) (clampP (-b1)) (clampP (-b2)) (clampP (-b3)) (clampP a0) (clampP (-a1)) (clampP (-a2)) (clampP (-a3))) = 0 := by omega
    clear q0 l0 q1 l1 q2 l2 q3 l3 q4 l4 q5 l5 q6 l6 q7 l7 q8 l8 q9 l9 q10 l10 q11 l11 q12 l12 q13 l13 q14 l14 q15 l15 q16 l16 q17 l17 q18 l18 q19 l19 g
    obtain ⟨s0, t0⟩ := cutC_in _ r0
    obtain ⟨s1, t1⟩ := cutC_in _ r1
    obtain ⟨s2, t2⟩ := cutC_in _ r2
    obtain ⟨s3, t3⟩ := cutC_in _ r3
    obtain ⟨s8, t8⟩ := cutC_in _ r8
    obtain ⟨s9, t9⟩ := cutC_in _ r9
    obtain ⟨s10, t10⟩ := cutC_in _ r10
    obtain ⟨s11, t11⟩ := cutC_in _ r11
    obtain ⟨s12, t12⟩ := cutC_in _ r12
    obtain ⟨s13, t13⟩ := cutC_in _ r13
    obtain ⟨s14, t14⟩ := cutC_in _ r14
    obtain ⟨s15, t15⟩ := cutC_in _ r15
    obtain ⟨s16, t16⟩ := cutC_in _ r16
    obtain ⟨s17, t17⟩ := cutC_in _ r17
    obtain ⟨s18, t18⟩ := cutC_in _ r18
    obtain ⟨s19, t19⟩ := cutC_in _ r19
    rw [t0, t1, t2, t3] at *
    rw [t8, t9, t10, t11, t12, t13, t14, t15] at *
    obtain ⟨e0, e1, e2, e3⟩ := mul_conj a0 a1 a2 a3 b0 b1 b2 b3 ha0 ha1 ha2 ha3 hb0 hb1 hb2 hb3 s9 s10 s11 s13 s14 s15
    rw [e0, e1, e2, e3]
    exact ⟨rfl, rfl, rfl, rfl⟩

set_option maxHeartbeats 16000000 in
theorem quatOrder_walk (a0 a1 a2 a3 b0 b1 b2 b3 : Int) (w : World) (va0 : (Lit.int .i32 a0).wf = true) (va1 : (Lit.int .i32 a1).wf = true) (va2 : (Lit.int .i32 a2).wf = true) (va3 : (Lit.int .i32 a3).wf = true) (vb0 : (Lit.int .i32 b0).wf = true) (vb1 : (Lit.int .i32 b1).wf = true) (vb2 : (Lit.int .i32 b2).wf = true) (vb3 : (Lit.int .i32 b3).wf = true) :
    Calls Try.prog 4 #[.agg #[.int .i32 a0, .int .i32 a1, .int .i32 a2, .int .i32 a3], .agg #[.int .i32 b0, .int .i32 b1, .int .i32 b2, .int .i32 b3]] w fun e w' => e = .returned (.bool true) ∧ Below w.heap.size w w' := by
  have ia0 : I32 a0 := bounds_i32 va0
  have ia1 : I32 a1 := bounds_i32 va1
  have ia2 : I32 a2 := bounds_i32 va2
  have ia3 : I32 a3 := bounds_i32 va3
  have ib0 : I32 b0 := bounds_i32 vb0
  have ib1 : I32 b1 := bounds_i32 vb1
  have ib2 : I32 b2 := bounds_i32 vb2
  have ib3 : I32 b3 := bounds_i32 vb3
  clear va0 va1 va2 va3 vb0 vb1 vb2 vb3
  have HK := hid fun w => law10_knows w
  have HO := hid fun w => q_One w
  have k0 : I32 0 := by unfold I32; omega
  have k1 : I32 1073741824 := by unfold I32; omega
  obtain ⟨m1, m2, m3, m4, m5, m6, m7, m8⟩ := mul_one_facts a0 a1 a2 a3 ia0 ia1 ia2 ia3
  have h1 := fun w => q_Mul a0 a1 a2 a3 1073741824 0 0 0 w ia0 ia1 ia2 ia3 k1 k0 k0 k0
  have h2 := fun w => q_Mul 1073741824 0 0 0 a0 a1 a2 a3 w k1 k0 k0 k0 ia0 ia1 ia2 ia3
  unfold Muls at h1 h2
  rw [m1, m2, m3, m4] at h1
  rw [m5, m6, m7, m8] at h2
  rw [cutC_zero _ ia0, cutC_zero _ ia1, cutC_zero _ ia2, cutC_zero _ ia3, clampP_in _ ia0, clampP_in _ ia1, clampP_in _ ia2, clampP_in _ ia3] at h1 h2
  clear m1 m2 m3 m4 m5 m6 m7 m8 k0 k1
  have h3 := fun w => q_Mul a0 a1 a2 a3 b0 b1 b2 b3 w ia0 ia1 ia2 ia3 ib0 ib1 ib2 ib3
  unfold Muls at h3
  have hz : (0 : Int) + 0 + 0 + 0 = 0 := rfl
  rw [hz] at h1 h2
  clear hz
  have h4 := fun w => q_Conj (clampP (mulW a0 a1 a2 a3 b0 b1 b2 b3)) (clampP (mulX a0 a1 a2 a3 b0 b1 b2 b3)) (clampP (mulY a0 a1 a2 a3 b0 b1 b2 b3)) (clampP (mulZ a0 a1 a2 a3 b0 b1 b2 b3)) w (clampP_32 _) (clampP_32 _) (clampP_32 _) (clampP_32 _)
  have h5 := fun w => q_Conj a0 a1 a2 a3 w ia0 ia1 ia2 ia3
  have h6 := fun w => q_Conj b0 b1 b2 b3 w ib0 ib1 ib2 ib3
  have h7 := fun w => q_Mul (clampP b0) (clampP (-b1)) (clampP (-b2)) (clampP (-b3)) (clampP a0) (clampP (-a1)) (clampP (-a2)) (clampP (-a3)) w (clampP_32 _) (clampP_32 _) (clampP_32 _) (clampP_32 _) (clampP_32 _) (clampP_32 _) (clampP_32 _) (clampP_32 _)
  unfold Muls at h7
  have F := order_facts a0 a1 a2 a3 b0 b1 b2 b3 ia0 ia1 ia2 ia3 ib0 ib1 ib2 ib3
  generalize cutC (mulW a0 a1 a2 a3 b0 b1 b2 b3) + cutC (mulX a0 a1 a2 a3 b0 b1 b2 b3) + cutC (mulY a0 a1 a2 a3 b0 b1 b2 b3) + cutC (mulZ a0 a1 a2 a3 b0 b1 b2 b3) = n3 at *
  generalize cutC (clampP (mulW a0 a1 a2 a3 b0 b1 b2 b3)) + cutC (-clampP (mulX a0 a1 a2 a3 b0 b1 b2 b3)) + cutC (-clampP (mulY a0 a1 a2 a3 b0 b1 b2 b3)) + cutC (-clampP (mulZ a0 a1 a2 a3 b0 b1 b2 b3)) = n4 at *
  generalize cutC a0 + cutC (-a1) + cutC (-a2) + cutC (-a3) = n5 at *
  generalize cutC b0 + cutC (-b1) + cutC (-b2) + cutC (-b3) = n6 at *
  generalize cutC (mulW (clampP b0) (clampP (-b1)) (clampP (-b2)) (clampP (-b3)) (clampP a0) (clampP (-a1)) (clampP (-a2)) (clampP (-a3))) + cutC (mulX (clampP b0) (clampP (-b1)) (clampP (-b2)) (clampP (-b3)) (clampP a0) (clampP (-a1)) (clampP (-a2)) (clampP (-a3))) + cutC (mulY (clampP b0) (clampP (-b1)) (clampP (-b2)) (clampP (-b3)) (clampP a0) (clampP (-a1)) (clampP (-a2)) (clampP (-a3))) + cutC (mulZ (clampP b0) (clampP (-b1)) (clampP (-b2)) (clampP (-b3)) (clampP a0) (clampP (-a1)) (clampP (-a2)) (clampP (-a3))) = n7 at *
  generalize clampP (mulW (clampP b0) (clampP (-b1)) (clampP (-b2)) (clampP (-b3)) (clampP a0) (clampP (-a1)) (clampP (-a2)) (clampP (-a3))) = y0 at *
  generalize clampP (mulX (clampP b0) (clampP (-b1)) (clampP (-b2)) (clampP (-b3)) (clampP a0) (clampP (-a1)) (clampP (-a2)) (clampP (-a3))) = y1 at *
  generalize clampP (mulY (clampP b0) (clampP (-b1)) (clampP (-b2)) (clampP (-b3)) (clampP a0) (clampP (-a1)) (clampP (-a2)) (clampP (-a3))) = y2 at *
  generalize clampP (mulZ (clampP b0) (clampP (-b1)) (clampP (-b2)) (clampP (-b3)) (clampP a0) (clampP (-a1)) (clampP (-a2)) (clampP (-a3))) = y3 at *
  generalize clampP (clampP (mulW a0 a1 a2 a3 b0 b1 b2 b3)) = x0 at *
  generalize clampP (-clampP (mulX a0 a1 a2 a3 b0 b1 b2 b3)) = x1 at *
  generalize clampP (-clampP (mulY a0 a1 a2 a3 b0 b1 b2 b3)) = x2 at *
  generalize clampP (-clampP (mulZ a0 a1 a2 a3 b0 b1 b2 b3)) = x3 at *
  generalize clampP (mulW a0 a1 a2 a3 b0 b1 b2 b3) = p0 at *
  generalize clampP (mulX a0 a1 a2 a3 b0 b1 b2 b3) = p1 at *
  generalize clampP (mulY a0 a1 a2 a3 b0 b1 b2 b3) = p2 at *
  generalize clampP (mulZ a0 a1 a2 a3 b0 b1 b2 b3) = p3 at *
  generalize clampP a0 = c0 at *
  generalize clampP (-a1) = c1 at *
  generalize clampP (-a2) = c2 at *
  generalize clampP (-a3) = c3 at *
  generalize clampP b0 = d0 at *
  generalize clampP (-b1) = d1 at *
  generalize clampP (-b2) = d2 at *
  generalize clampP (-b3) = d3 at *
  clear ia0 ia1 ia2 ia3 ib0 ib1 ib2 ib3
  obtain ⟨z3, z4, z5, z6, z7, FE⟩ := F
  have u0 : IntKind.i64.wrap (n3 + n4) = n3 + n4 := IntWalk.i64_in _ (by omega)
  have u1 : IntKind.i64.wrap (n3 + n4 + n5) = n3 + n4 + n5 := IntWalk.i64_in _ (by omega)
  have u2 : IntKind.i64.wrap (n3 + n4 + n5 + n6) = n3 + n4 + n5 + n6 := IntWalk.i64_in _ (by omega)
  have u3 : IntKind.i64.wrap (n3 + n4 + n5 + n6 + n7) = n3 + n4 + n5 + n6 + n7 := IntWalk.i64_in _ (by omega)
  have H1 := hid h1
  have H2 := hid h2
  have H3 := hid h3
  have H4 := hid h4
  have H5 := hid h5
  have H6 := hid h6
  have H7 := hid h7
  clear h1 h2 h3 h4 h5 h6 h7
  rcases FE with FE | ⟨Z, FE⟩
  · have dd : decide (0 < n3 + n4 + n5 + n6 + n7) = true := by simpa using FE
    clear FE
    go_enter Try.func4, Try.ntmps4
    have hp0 : Blk (w.alloc (.cells #[.int .i32 a0, .int .i32 a1, .int .i32 a2, .int .i32 a3] 23)) w.heap.size 23 #[.int .i32 a0, .int .i32 a1, .int .i32 a2, .int .i32 a3] := Blk.new w _ _
    have hb : Below w.heap.size w (w.alloc (.cells #[.int .i32 a0, .int .i32 a1, .int .i32 a2, .int .i32 a3] 23)) := (Below.refl _ w).alloc (Nat.le_refl _) _
    replace hp0 := hp0.alloc (.cells #[.int .i32 b0, .int .i32 b1, .int .i32 b2, .int .i32 b3] 23)
    have hp1 : Blk ((w.alloc (.cells #[.int .i32 a0, .int .i32 a1, .int .i32 a2, .int .i32 a3] 23)).alloc (.cells #[.int .i32 b0, .int .i32 b1, .int .i32 b2, .int .i32 b3] 23)) (w.heap.size + 1) 23 #[.int .i32 b0, .int .i32 b1, .int .i32 b2, .int .i32 b3] := by have := Blk.new (w.alloc (.cells #[.int .i32 a0, .int .i32 a1, .int .i32 a2, .int .i32 a3] 23)) 23 #[.int .i32 b0, .int .i32 b1, .int .i32 b2, .int .i32 b3]; simpa using this
    replace hb := hb.alloc hb.size (.cells #[.int .i32 b0, .int .i32 b1, .int .i32 b2, .int .i32 b3] 23)
    go_upto_region 1 with fail
    generalize (w.alloc (.cells #[.int .i32 a0, .int .i32 a1, .int .i32 a2, .int .i32 a3] 23)).alloc (.cells #[.int .i32 b0, .int .i32 b1, .int .i32 b2, .int .i32 b3] 23) = W0 at *
    go_cut [5, 6] from 19 to 24 (fun x y wx => ∃ g : Nat, x = .pointer (some ⟨g, 0, none⟩) ∧ y = .int .i64 0 ∧ Blk wx g 23 #[.int .i32 a0, .int .i32 a1, .int .i32 a2, .int .i32 a3] ∧ Blk wx (w.heap.size) 23 #[.int .i32 a0, .int .i32 a1, .int .i32 a2, .int .i32 a3] ∧ Blk wx (w.heap.size + 1) 23 #[.int .i32 b0, .int .i32 b1, .int .i32 b2, .int .i32 b3] ∧ Below w.heap.size w wx)
    case first =>
      refine wp_region_noPanic ?_
      refine wp_region_held_drew (S := (fun w' : World => w'.cell? ⟨w.heap.size, 0, none⟩ = some (.int .i32 a0) ∧ w'.cell? ⟨w.heap.size, 1, none⟩ = some (.int .i32 a1) ∧ w'.cell? ⟨w.heap.size, 2, none⟩ = some (.int .i32 a2) ∧ w'.cell? ⟨w.heap.size, 3, none⟩ = some (.int .i32 a3) ∧ w'.cell? ⟨w.heap.size + 1, 0, none⟩ = some (.int .i32 b0) ∧ w'.cell? ⟨w.heap.size + 1, 1, none⟩ = some (.int .i32 b1) ∧ w'.cell? ⟨w.heap.size + 1, 2, none⟩ = some (.int .i32 b2) ∧ w'.cell? ⟨w.heap.size + 1, 3, none⟩ = some (.int .i32 b3))) (by kernel_rfl) ⟨hp0.cell 0, hp0.cell 1, hp0.cell 2, hp0.cell 3, hp1.cell 0, hp1.cell 1, hp1.cell 2, hp1.cell 3⟩ (fun hHeld => ?_)
      refine (show wpAnyH _ _ _ _ _ 9 _ _ _ from ?_)
      try (simp only [Act.put, List.setIfInBounds_toArray, List.set_cons_zero, List.set_cons_succ])
      replace hp0 := hp0.drew
      replace hp1 := hp1.drew
      replace hb := hb.drew
      generalize W0.drew = W1 at *
      refine tk 0 hHeld ?_
      refine rd2 1 6 (fun K hK => ?hc2q1) (fun K hK => ?hc2q6)
      case hc2q1 =>
        go_simp
        refine (HO.out _).mono ?_
        rintro e v3 ⟨rfl, bb⟩
        go_wp2_with fail
        replace hp0 := hp0.below bb hp0.lt
        replace hp1 := hp1.below bb hp1.lt
        replace hb := hb.on bb
        clear bb
        refine hK.out _ _ ⟨hp0.cell 0, hp0.cell 1, hp0.cell 2, hp0.cell 3, hp1.cell 0, hp1.cell 1, hp1.cell 2, hp1.cell 3⟩ (fun hHeld => ?_)
        clear hK K
        try (simp only [Act.put, List.setIfInBounds_toArray, List.set_cons_zero, List.set_cons_succ])
        refine rd2 2 6 (fun K hK => ?hc4q2) (fun K hK => ?hc4q6)
        case hc4q2 =>
          go_simp
          refine (H1.out _).mono ?_
          rintro e v5 ⟨rfl, bb⟩
          go_wp2_with fail
          replace hp0 := hp0.below bb hp0.lt
          replace hp1 := hp1.below bb hp1.lt
          replace hb := hb.on bb
          clear bb
          refine hK.out _ _ ⟨hp0.cell 0, hp0.cell 1, hp0.cell 2, hp0.cell 3, hp1.cell 0, hp1.cell 1, hp1.cell 2, hp1.cell 3⟩ (fun hHeld => ?_)
          clear hK K
          try (simp only [Act.put, List.setIfInBounds_toArray, List.set_cons_zero, List.set_cons_succ])
          refine tk 3 hHeld ?_
          refine tk 4 hHeld ?_
          refine tk 5 hHeld ?_
          refine rd1 6 (fun K hK => ?_)
          go_simp
          try go_wp2_with fail
          have lb7 := hb.size
          have l7hp0 := hp0.lt
          have l7hp1 := hp1.lt
          replace hp0 := hp0.alloc (.cells #[.int .i32 0, .int .i32 0, .int .i32 0, .int .i32 0] 23)
          replace hp1 := hp1.alloc (.cells #[.int .i32 0, .int .i32 0, .int .i32 0, .int .i32 0] 23)
          have n7 := Blk.new v5 23 #[.int .i32 0, .int .i32 0, .int .i32 0, .int .i32 0]
          replace hb := hb.alloc hb.size (.cells #[.int .i32 0, .int .i32 0, .int .i32 0, .int .i32 0] 23)
          generalize v5.alloc (.cells #[.int .i32 0, .int .i32 0, .int .i32 0, .int .i32 0] 23) = v7 at *
          generalize v5.heap.size = g7 at *
          refine hK.out _ _ ⟨hp0.cell 0, hp0.cell 1, hp0.cell 2, hp0.cell 3, hp1.cell 0, hp1.cell 1, hp1.cell 2, hp1.cell 3⟩ (fun hHeld => ?_)
          clear hK K
          try (simp only [Act.put, List.setIfInBounds_toArray, List.set_cons_zero, List.set_cons_succ])
          refine rd1 7 (fun K hK => ?_)
          have c0 : v7.cell? ⟨g7, 0, none⟩ = some (.int .i32 0) := n7.cell 0
          have z0 := n7.frozen 0
          have c1 : v7.cell? ⟨g7, 1, none⟩ = some (.int .i32 0) := n7.cell 1
          have z1 := n7.frozen 1
          have c2 : v7.cell? ⟨g7, 2, none⟩ = some (.int .i32 0) := n7.cell 2
          have z2 := n7.frozen 2
          have c3 : v7.cell? ⟨g7, 3, none⟩ = some (.int .i32 0) := n7.cell 3
          have z3 := n7.frozen 3
          go_simp
          try go_wp2_with fail
          replace hp0 := ((((hp0.far (p := ⟨g7, 0, none⟩) (by dsimp only; omega) (.int .i32 a0)).far (p := ⟨g7, 1, none⟩) (by dsimp only; omega) (.int .i32 a1)).far (p := ⟨g7, 2, none⟩) (by dsimp only; omega) (.int .i32 a2)).far (p := ⟨g7, 3, none⟩) (by dsimp only; omega) (.int .i32 a3))
          replace hp1 := ((((hp1.far (p := ⟨g7, 0, none⟩) (by dsimp only; omega) (.int .i32 a0)).far (p := ⟨g7, 1, none⟩) (by dsimp only; omega) (.int .i32 a1)).far (p := ⟨g7, 2, none⟩) (by dsimp only; omega) (.int .i32 a2)).far (p := ⟨g7, 3, none⟩) (by dsimp only; omega) (.int .i32 a3))
          replace n7 := ((((n7.set_ 0 (.int .i32 a0)).set_ 1 (.int .i32 a1)).set_ 2 (.int .i32 a2)).set_ 3 (.int .i32 a3))
          replace hb := ((((hb.setCell (p := ⟨g7, 0, none⟩) (by dsimp only; omega) (.int .i32 a0)).setCell (p := ⟨g7, 1, none⟩) (by dsimp only; omega) (.int .i32 a1)).setCell (p := ⟨g7, 2, none⟩) (by dsimp only; omega) (.int .i32 a2)).setCell (p := ⟨g7, 3, none⟩) (by dsimp only; omega) (.int .i32 a3))
          clear c0 z0 c1 z1 c2 z2 c3 z3
          generalize ((((v7.setCell ⟨g7, 0, none⟩ (.int .i32 a0)).setCell ⟨g7, 1, none⟩ (.int .i32 a1)).setCell ⟨g7, 2, none⟩ (.int .i32 a2)).setCell ⟨g7, 3, none⟩ (.int .i32 a3)) = v9 at *
          refine hK.out _ _ ⟨hp0.cell 0, hp0.cell 1, hp0.cell 2, hp0.cell 3, hp1.cell 0, hp1.cell 1, hp1.cell 2, hp1.cell 3⟩ (fun hHeld => ?_)
          clear hK K
          try (simp only [Act.put, List.setIfInBounds_toArray, List.set_cons_zero, List.set_cons_succ])
          refine tk 8 hHeld ?_
          refine wpAnyH_done ?hru10 ?hqu10 _
          case hru10 => kernel_rfl
          refine NoPanic.normal ?_
          try go_wp2_with fail
          go_meet
          exact ⟨g7, rfl, rfl, n7, hp0, hp1, hb⟩
        case hc4q6 =>
          go_simp
          try go_wp2_with fail
          have lb11 := hb.size
          have l11hp0 := hp0.lt
          have l11hp1 := hp1.lt
          replace hp0 := hp0.alloc (.cells #[.int .i32 0, .int .i32 0, .int .i32 0, .int .i32 0] 23)
          replace hp1 := hp1.alloc (.cells #[.int .i32 0, .int .i32 0, .int .i32 0, .int .i32 0] 23)
          have n11 := Blk.new v3 23 #[.int .i32 0, .int .i32 0, .int .i32 0, .int .i32 0]
          replace hb := hb.alloc hb.size (.cells #[.int .i32 0, .int .i32 0, .int .i32 0, .int .i32 0] 23)
          generalize v3.alloc (.cells #[.int .i32 0, .int .i32 0, .int .i32 0, .int .i32 0] 23) = v11 at *
          generalize v3.heap.size = g11 at *
          refine hK.out _ _ ⟨hp0.cell 0, hp0.cell 1, hp0.cell 2, hp0.cell 3, hp1.cell 0, hp1.cell 1, hp1.cell 2, hp1.cell 3⟩ (fun hHeld => ?_)
          clear hK K
          try (simp only [Act.put, List.setIfInBounds_toArray, List.set_cons_zero, List.set_cons_succ])
          refine rd1 2 (fun K hK => ?_)
          go_simp
          refine (H1.out _).mono ?_
          rintro e v13 ⟨rfl, bb⟩
          go_wp2_with fail
          replace hp0 := hp0.below bb hp0.lt
          replace hp1 := hp1.below bb hp1.lt
          replace n11 := n11.below bb n11.lt
          replace hb := hb.on bb
          clear bb
          refine hK.out _ _ ⟨hp0.cell 0, hp0.cell 1, hp0.cell 2, hp0.cell 3, hp1.cell 0, hp1.cell 1, hp1.cell 2, hp1.cell 3⟩ (fun hHeld => ?_)
          clear hK K
          try (simp only [Act.put, List.setIfInBounds_toArray, List.set_cons_zero, List.set_cons_succ])
          refine tk 3 hHeld ?_
          refine tk 4 hHeld ?_
          refine tk 5 hHeld ?_
          refine rd1 7 (fun K hK => ?_)
          have c0 : v13.cell? ⟨g11, 0, none⟩ = some (.int .i32 0) := n11.cell 0
          have z0 := n11.frozen 0
          have c1 : v13.cell? ⟨g11, 1, none⟩ = some (.int .i32 0) := n11.cell 1
          have z1 := n11.frozen 1
          have c2 : v13.cell? ⟨g11, 2, none⟩ = some (.int .i32 0) := n11.cell 2
          have z2 := n11.frozen 2
          have c3 : v13.cell? ⟨g11, 3, none⟩ = some (.int .i32 0) := n11.cell 3
          have z3 := n11.frozen 3
          go_simp
          try go_wp2_with fail
          replace hp0 := ((((hp0.far (p := ⟨g11, 0, none⟩) (by dsimp only; omega) (.int .i32 a0)).far (p := ⟨g11, 1, none⟩) (by dsimp only; omega) (.int .i32 a1)).far (p := ⟨g11, 2, none⟩) (by dsimp only; omega) (.int .i32 a2)).far (p := ⟨g11, 3, none⟩) (by dsimp only; omega) (.int .i32 a3))
          replace hp1 := ((((hp1.far (p := ⟨g11, 0, none⟩) (by dsimp only; omega) (.int .i32 a0)).far (p := ⟨g11, 1, none⟩) (by dsimp only; omega) (.int .i32 a1)).far (p := ⟨g11, 2, none⟩) (by dsimp only; omega) (.int .i32 a2)).far (p := ⟨g11, 3, none⟩) (by dsimp only; omega) (.int .i32 a3))
          replace n11 := ((((n11.set_ 0 (.int .i32 a0)).set_ 1 (.int .i32 a1)).set_ 2 (.int .i32 a2)).set_ 3 (.int .i32 a3))
          replace hb := ((((hb.setCell (p := ⟨g11, 0, none⟩) (by dsimp only; omega) (.int .i32 a0)).setCell (p := ⟨g11, 1, none⟩) (by dsimp only; omega) (.int .i32 a1)).setCell (p := ⟨g11, 2, none⟩) (by dsimp only; omega) (.int .i32 a2)).setCell (p := ⟨g11, 3, none⟩) (by dsimp only; omega) (.int .i32 a3))
          clear c0 z0 c1 z1 c2 z2 c3 z3
          generalize ((((v13.setCell ⟨g11, 0, none⟩ (.int .i32 a0)).setCell ⟨g11, 1, none⟩ (.int .i32 a1)).setCell ⟨g11, 2, none⟩ (.int .i32 a2)).setCell ⟨g11, 3, none⟩ (.int .i32 a3)) = v15 at *
          refine hK.out _ _ ⟨hp0.cell 0, hp0.cell 1, hp0.cell 2, hp0.cell 3, hp1.cell 0, hp1.cell 1, hp1.cell 2, hp1.cell 3⟩ (fun hHeld => ?_)
          clear hK K
          try (simp only [Act.put, List.setIfInBounds_toArray, List.set_cons_zero, List.set_cons_succ])
          refine tk 8 hHeld ?_
          refine wpAnyH_done ?hru16 ?hqu16 _
          case hru16 => kernel_rfl
          refine NoPanic.normal ?_
          try go_wp2_with fail
          go_meet
          exact ⟨g11, rfl, rfl, n11, hp0, hp1, hb⟩
      case hc2q6 =>
        go_simp
        try go_wp2_with fail
        have lb17 := hb.size
        have l17hp0 := hp0.lt
        have l17hp1 := hp1.lt
        replace hp0 := hp0.alloc (.cells #[.int .i32 0, .int .i32 0, .int .i32 0, .int .i32 0] 23)
        replace hp1 := hp1.alloc (.cells #[.int .i32 0, .int .i32 0, .int .i32 0, .int .i32 0] 23)
        have n17 := Blk.new W1 23 #[.int .i32 0, .int .i32 0, .int .i32 0, .int .i32 0]
        replace hb := hb.alloc hb.size (.cells #[.int .i32 0, .int .i32 0, .int .i32 0, .int .i32 0] 23)
        generalize W1.alloc (.cells #[.int .i32 0, .int .i32 0, .int .i32 0, .int .i32 0] 23) = v17 at *
        generalize W1.heap.size = g17 at *
        refine hK.out _ _ ⟨hp0.cell 0, hp0.cell 1, hp0.cell 2, hp0.cell 3, hp1.cell 0, hp1.cell 1, hp1.cell 2, hp1.cell 3⟩ (fun hHeld => ?_)
        clear hK K
        try (simp only [Act.put, List.setIfInBounds_toArray, List.set_cons_zero, List.set_cons_succ])
        refine rd1 1 (fun K hK => ?_)
        go_simp
        refine (HO.out _).mono ?_
        rintro e v19 ⟨rfl, bb⟩
        go_wp2_with fail
        replace hp0 := hp0.below bb hp0.lt
        replace hp1 := hp1.below bb hp1.lt
        replace n17 := n17.below bb n17.lt
        replace hb := hb.on bb
        clear bb
        refine hK.out _ _ ⟨hp0.cell 0, hp0.cell 1, hp0.cell 2, hp0.cell 3, hp1.cell 0, hp1.cell 1, hp1.cell 2, hp1.cell 3⟩ (fun hHeld => ?_)
        clear hK K
        try (simp only [Act.put, List.setIfInBounds_toArray, List.set_cons_zero, List.set_cons_succ])
        refine rd1 2 (fun K hK => ?_)
        go_simp
        refine (H1.out _).mono ?_
        rintro e v21 ⟨rfl, bb⟩
        go_wp2_with fail
        replace hp0 := hp0.below bb hp0.lt
        replace hp1 := hp1.below bb hp1.lt
        replace n17 := n17.below bb n17.lt
        replace hb := hb.on bb
        clear bb
        refine hK.out _ _ ⟨hp0.cell 0, hp0.cell 1, hp0.cell 2, hp0.cell 3, hp1.cell 0, hp1.cell 1, hp1.cell 2, hp1.cell 3⟩ (fun hHeld => ?_)
        clear hK K
        try (simp only [Act.put, List.setIfInBounds_toArray, List.set_cons_zero, List.set_cons_succ])
        refine tk 3 hHeld ?_
        refine tk 4 hHeld ?_
        refine tk 5 hHeld ?_
        refine rd1 7 (fun K hK => ?_)
        have c0 : v21.cell? ⟨g17, 0, none⟩ = some (.int .i32 0) := n17.cell 0
        have z0 := n17.frozen 0
        have c1 : v21.cell? ⟨g17, 1, none⟩ = some (.int .i32 0) := n17.cell 1
        have z1 := n17.frozen 1
        have c2 : v21.cell? ⟨g17, 2, none⟩ = some (.int .i32 0) := n17.cell 2
        have z2 := n17.frozen 2
        have c3 : v21.cell? ⟨g17, 3, none⟩ = some (.int .i32 0) := n17.cell 3
        have z3 := n17.frozen 3
        go_simp
        try go_wp2_with fail
        replace hp0 := ((((hp0.far (p := ⟨g17, 0, none⟩) (by dsimp only; omega) (.int .i32 a0)).far (p := ⟨g17, 1, none⟩) (by dsimp only; omega) (.int .i32 a1)).far (p := ⟨g17, 2, none⟩) (by dsimp only; omega) (.int .i32 a2)).far (p := ⟨g17, 3, none⟩) (by dsimp only; omega) (.int .i32 a3))
        replace hp1 := ((((hp1.far (p := ⟨g17, 0, none⟩) (by dsimp only; omega) (.int .i32 a0)).far (p := ⟨g17, 1, none⟩) (by dsimp only; omega) (.int .i32 a1)).far (p := ⟨g17, 2, none⟩) (by dsimp only; omega) (.int .i32 a2)).far (p := ⟨g17, 3, none⟩) (by dsimp only; omega) (.int .i32 a3))
        replace n17 := ((((n17.set_ 0 (.int .i32 a0)).set_ 1 (.int .i32 a1)).set_ 2 (.int .i32 a2)).set_ 3 (.int .i32 a3))
        replace hb := ((((hb.setCell (p := ⟨g17, 0, none⟩) (by dsimp only; omega) (.int .i32 a0)).setCell (p := ⟨g17, 1, none⟩) (by dsimp only; omega) (.int .i32 a1)).setCell (p := ⟨g17, 2, none⟩) (by dsimp only; omega) (.int .i32 a2)).setCell (p := ⟨g17, 3, none⟩) (by dsimp only; omega) (.int .i32 a3))
        clear c0 z0 c1 z1 c2 z2 c3 z3
        generalize ((((v21.setCell ⟨g17, 0, none⟩ (.int .i32 a0)).setCell ⟨g17, 1, none⟩ (.int .i32 a1)).setCell ⟨g17, 2, none⟩ (.int .i32 a2)).setCell ⟨g17, 3, none⟩ (.int .i32 a3)) = v23 at *
        refine hK.out _ _ ⟨hp0.cell 0, hp0.cell 1, hp0.cell 2, hp0.cell 3, hp1.cell 0, hp1.cell 1, hp1.cell 2, hp1.cell 3⟩ (fun hHeld => ?_)
        clear hK K
        try (simp only [Act.put, List.setIfInBounds_toArray, List.set_cons_zero, List.set_cons_succ])
        refine tk 8 hHeld ?_
        refine wpAnyH_done ?hru24 ?hqu24 _
        case hru24 => kernel_rfl
        refine NoPanic.normal ?_
        try go_wp2_with fail
        go_meet
        exact ⟨g17, rfl, rfl, n17, hp0, hp1, hb⟩
    clear hp0 hp1 hb
    obtain ⟨g1, rfl, rfl, hq1, hp0, hp1, hb⟩ := hcut
    generalize wc = U1 at *
    have f0 : (U1).cell? ⟨w.heap.size, 0, none⟩ = some (.int .i32 a0) := hp0.cell 0
    have f1 : (U1).cell? ⟨w.heap.size, 1, none⟩ = some (.int .i32 a1) := hp0.cell 1
    have f2 : (U1).cell? ⟨w.heap.size, 2, none⟩ = some (.int .i32 a2) := hp0.cell 2
    have f3 : (U1).cell? ⟨w.heap.size, 3, none⟩ = some (.int .i32 a3) := hp0.cell 3
    have f4 : (U1).cell? ⟨w.heap.size + 1, 0, none⟩ = some (.int .i32 b0) := hp1.cell 0
    have f5 : (U1).cell? ⟨w.heap.size + 1, 1, none⟩ = some (.int .i32 b1) := hp1.cell 1
    have f6 : (U1).cell? ⟨w.heap.size + 1, 2, none⟩ = some (.int .i32 b2) := hp1.cell 2
    have f7 : (U1).cell? ⟨w.heap.size + 1, 3, none⟩ = some (.int .i32 b3) := hp1.cell 3
    have f8 : (U1).cell? ⟨g1, 0, none⟩ = some (.int .i32 a0) := hq1.cell 0
    have f9 : (U1).cell? ⟨g1, 1, none⟩ = some (.int .i32 a1) := hq1.cell 1
    have f10 : (U1).cell? ⟨g1, 2, none⟩ = some (.int .i32 a2) := hq1.cell 2
    have f11 : (U1).cell? ⟨g1, 3, none⟩ = some (.int .i32 a3) := hq1.cell 3
    go_upto_region 2 with fail
    clear f0 f1 f2 f3 f4 f5 f6 f7 f8 f9 f10 f11
    go_cut [7, 8] from 25 to 30 (fun x y wx => ∃ g : Nat, x = .pointer (some ⟨g, 0, none⟩) ∧ y = .int .i64 0 ∧ Blk wx g 23 #[.int .i32 a0, .int .i32 a1, .int .i32 a2, .int .i32 a3] ∧ Blk wx (w.heap.size) 23 #[.int .i32 a0, .int .i32 a1, .int .i32 a2, .int .i32 a3] ∧ Blk wx (w.heap.size + 1) 23 #[.int .i32 b0, .int .i32 b1, .int .i32 b2, .int .i32 b3] ∧ Blk wx (g1) 23 #[.int .i32 a0, .int .i32 a1, .int .i32 a2, .int .i32 a3] ∧ Below w.heap.size w wx)
    case first =>
      refine wp_region_noPanic ?_
      refine wp_region_held_drew (S := (fun w' : World => w'.cell? ⟨w.heap.size, 0, none⟩ = some (.int .i32 a0) ∧ w'.cell? ⟨w.heap.size, 1, none⟩ = some (.int .i32 a1) ∧ w'.cell? ⟨w.heap.size, 2, none⟩ = some (.int .i32 a2) ∧ w'.cell? ⟨w.heap.size, 3, none⟩ = some (.int .i32 a3) ∧ w'.cell? ⟨w.heap.size + 1, 0, none⟩ = some (.int .i32 b0) ∧ w'.cell? ⟨w.heap.size + 1, 1, none⟩ = some (.int .i32 b1) ∧ w'.cell? ⟨w.heap.size + 1, 2, none⟩ = some (.int .i32 b2) ∧ w'.cell? ⟨w.heap.size + 1, 3, none⟩ = some (.int .i32 b3) ∧ w'.cell? ⟨g1, 0, none⟩ = some (.int .i32 a0) ∧ w'.cell? ⟨g1, 1, none⟩ = some (.int .i32 a1) ∧ w'.cell? ⟨g1, 2, none⟩ = some (.int .i32 a2) ∧ w'.cell? ⟨g1, 3, none⟩ = some (.int .i32 a3))) (by kernel_rfl) ⟨hp0.cell 0, hp0.cell 1, hp0.cell 2, hp0.cell 3, hp1.cell 0, hp1.cell 1, hp1.cell 2, hp1.cell 3, hq1.cell 0, hq1.cell 1, hq1.cell 2, hq1.cell 3⟩ (fun hHeld => ?_)
      refine (show wpAnyH _ _ _ _ _ 9 _ _ _ from ?_)
      try (simp only [Act.put, List.setIfInBounds_toArray, List.set_cons_zero, List.set_cons_succ])
      replace hp0 := hp0.drew
      replace hp1 := hp1.drew
      replace hq1 := hq1.drew
      replace hb := hb.drew
      generalize U1.drew = W25 at *
      refine tk 1 hHeld ?_
      refine rd2 0 6 (fun K hK => ?hc26q0) (fun K hK => ?hc26q6)
      case hc26q0 =>
        go_simp
        refine (HO.out _).mono ?_
        rintro e v27 ⟨rfl, bb⟩
        go_wp2_with fail
        replace hp0 := hp0.below bb hp0.lt
        replace hp1 := hp1.below bb hp1.lt
        replace hq1 := hq1.below bb hq1.lt
        replace hb := hb.on bb
        clear bb
        refine hK.out _ _ ⟨hp0.cell 0, hp0.cell 1, hp0.cell 2, hp0.cell 3, hp1.cell 0, hp1.cell 1, hp1.cell 2, hp1.cell 3, hq1.cell 0, hq1.cell 1, hq1.cell 2, hq1.cell 3⟩ (fun hHeld => ?_)
        clear hK K
        try (simp only [Act.put, List.setIfInBounds_toArray, List.set_cons_zero, List.set_cons_succ])
        refine rd2 2 6 (fun K hK => ?hc28q2) (fun K hK => ?hc28q6)
        case hc28q2 =>
          go_simp
          refine (H2.out _).mono ?_
          rintro e v29 ⟨rfl, bb⟩
          go_wp2_with fail
          replace hp0 := hp0.below bb hp0.lt
          replace hp1 := hp1.below bb hp1.lt
          replace hq1 := hq1.below bb hq1.lt
          replace hb := hb.on bb
          clear bb
          refine hK.out _ _ ⟨hp0.cell 0, hp0.cell 1, hp0.cell 2, hp0.cell 3, hp1.cell 0, hp1.cell 1, hp1.cell 2, hp1.cell 3, hq1.cell 0, hq1.cell 1, hq1.cell 2, hq1.cell 3⟩ (fun hHeld => ?_)
          clear hK K
          try (simp only [Act.put, List.setIfInBounds_toArray, List.set_cons_zero, List.set_cons_succ])
          refine tk 3 hHeld ?_
          refine tk 4 hHeld ?_
          refine tk 5 hHeld ?_
          refine rd1 6 (fun K hK => ?_)
          go_simp
          try go_wp2_with fail
          have lb31 := hb.size
          have l31hp0 := hp0.lt
          have l31hp1 := hp1.lt
          have l31hq1 := hq1.lt
          replace hp0 := hp0.alloc (.cells #[.int .i32 0, .int .i32 0, .int .i32 0, .int .i32 0] 23)
          replace hp1 := hp1.alloc (.cells #[.int .i32 0, .int .i32 0, .int .i32 0, .int .i32 0] 23)
          replace hq1 := hq1.alloc (.cells #[.int .i32 0, .int .i32 0, .int .i32 0, .int .i32 0] 23)
          have n31 := Blk.new v29 23 #[.int .i32 0, .int .i32 0, .int .i32 0, .int .i32 0]
          replace hb := hb.alloc hb.size (.cells #[.int .i32 0, .int .i32 0, .int .i32 0, .int .i32 0] 23)
          generalize v29.alloc (.cells #[.int .i32 0, .int .i32 0, .int .i32 0, .int .i32 0] 23) = v31 at *
          generalize v29.heap.size = g31 at *
          refine hK.out _ _ ⟨hp0.cell 0, hp0.cell 1, hp0.cell 2, hp0.cell 3, hp1.cell 0, hp1.cell 1, hp1.cell 2, hp1.cell 3, hq1.cell 0, hq1.cell 1, hq1.cell 2, hq1.cell 3⟩ (fun hHeld => ?_)
          clear hK K
          try (simp only [Act.put, List.setIfInBounds_toArray, List.set_cons_zero, List.set_cons_succ])
          refine rd1 7 (fun K hK => ?_)
          have c0 : v31.cell? ⟨g31, 0, none⟩ = some (.int .i32 0) := n31.cell 0
          have z0 := n31.frozen 0
          have c1 : v31.cell? ⟨g31, 1, none⟩ = some (.int .i32 0) := n31.cell 1
          have z1 := n31.frozen 1
          have c2 : v31.cell? ⟨g31, 2, none⟩ = some (.int .i32 0) := n31.cell 2
          have z2 := n31.frozen 2
          have c3 : v31.cell? ⟨g31, 3, none⟩ = some (.int .i32 0) := n31.cell 3
          have z3 := n31.frozen 3
          go_simp
          try go_wp2_with fail
          replace hp0 := ((((hp0.far (p := ⟨g31, 0, none⟩) (by dsimp only; omega) (.int .i32 a0)).far (p := ⟨g31, 1, none⟩) (by dsimp only; omega) (.int .i32 a1)).far (p := ⟨g31, 2, none⟩) (by dsimp only; omega) (.int .i32 a2)).far (p := ⟨g31, 3, none⟩) (by dsimp only; omega) (.int .i32 a3))
          replace hp1 := ((((hp1.far (p := ⟨g31, 0, none⟩) (by dsimp only; omega) (.int .i32 a0)).far (p := ⟨g31, 1, none⟩) (by dsimp only; omega) (.int .i32 a1)).far (p := ⟨g31, 2, none⟩) (by dsimp only; omega) (.int .i32 a2)).far (p := ⟨g31, 3, none⟩) (by dsimp only; omega) (.int .i32 a3))
          replace hq1 := ((((hq1.far (p := ⟨g31, 0, none⟩) (by dsimp only; omega) (.int .i32 a0)).far (p := ⟨g31, 1, none⟩) (by dsimp only; omega) (.int .i32 a1)).far (p := ⟨g31, 2, none⟩) (by dsimp only; omega) (.int .i32 a2)).far (p := ⟨g31, 3, none⟩) (by dsimp only; omega) (.int .i32 a3))
          replace n31 := ((((n31.set_ 0 (.int .i32 a0)).set_ 1 (.int .i32 a1)).set_ 2 (.int .i32 a2)).set_ 3 (.int .i32 a3))
          replace hb := ((((hb.setCell (p := ⟨g31, 0, none⟩) (by dsimp only; omega) (.int .i32 a0)).setCell (p := ⟨g31, 1, none⟩) (by dsimp only; omega) (.int .i32 a1)).setCell (p := ⟨g31, 2, none⟩) (by dsimp only; omega) (.int .i32 a2)).setCell (p := ⟨g31, 3, none⟩) (by dsimp only; omega) (.int .i32 a3))
          clear c0 z0 c1 z1 c2 z2 c3 z3
          generalize ((((v31.setCell ⟨g31, 0, none⟩ (.int .i32 a0)).setCell ⟨g31, 1, none⟩ (.int .i32 a1)).setCell ⟨g31, 2, none⟩ (.int .i32 a2)).setCell ⟨g31, 3, none⟩ (.int .i32 a3)) = v33 at *
          refine hK.out _ _ ⟨hp0.cell 0, hp0.cell 1, hp0.cell 2, hp0.cell 3, hp1.cell 0, hp1.cell 1, hp1.cell 2, hp1.cell 3, hq1.cell 0, hq1.cell 1, hq1.cell 2, hq1.cell 3⟩ (fun hHeld => ?_)
          clear hK K
          try (simp only [Act.put, List.setIfInBounds_toArray, List.set_cons_zero, List.set_cons_succ])
          refine tk 8 hHeld ?_
          refine wpAnyH_done ?hru34 ?hqu34 _
          case hru34 => kernel_rfl
          refine NoPanic.normal ?_
          try go_wp2_with fail
          go_meet
          exact ⟨g31, rfl, rfl, n31, hp0, hp1, hq1, hb⟩
        case hc28q6 =>
          go_simp
          try go_wp2_with fail
          have lb35 := hb.size
          have l35hp0 := hp0.lt
          have l35hp1 := hp1.lt
          have l35hq1 := hq1.lt
          replace hp0 := hp0.alloc (.cells #[.int .i32 0, .int .i32 0, .int .i32 0, .int .i32 0] 23)
          replace hp1 := hp1.alloc (.cells #[.int .i32 0, .int .i32 0, .int .i32 0, .int .i32 0] 23)
          replace hq1 := hq1.alloc (.cells #[.int .i32 0, .int .i32 0, .int .i32 0, .int .i32 0] 23)
          have n35 := Blk.new v27 23 #[.int .i32 0, .int .i32 0, .int .i32 0, .int .i32 0]
          replace hb := hb.alloc hb.size (.cells #[.int .i32 0, .int .i32 0, .int .i32 0, .int .i32 0] 23)
          generalize v27.alloc (.cells #[.int .i32 0, .int .i32 0, .int .i32 0, .int .i32 0] 23) = v35 at *
          generalize v27.heap.size = g35 at *
          refine hK.out _ _ ⟨hp0.cell 0, hp0.cell 1, hp0.cell 2, hp0.cell 3, hp1.cell 0, hp1.cell 1, hp1.cell 2, hp1.cell 3, hq1.cell 0, hq1.cell 1, hq1.cell 2, hq1.cell 3⟩ (fun hHeld => ?_)
          clear hK K
          try (simp only [Act.put, List.setIfInBounds_toArray, List.set_cons_zero, List.set_cons_succ])
          refine rd1 2 (fun K hK => ?_)
          go_simp
          refine (H2.out _).mono ?_
          rintro e v37 ⟨rfl, bb⟩
          go_wp2_with fail
          replace hp0 := hp0.below bb hp0.lt
          replace hp1 := hp1.below bb hp1.lt
          replace hq1 := hq1.below bb hq1.lt
          replace n35 := n35.below bb n35.lt
          replace hb := hb.on bb
          clear bb
          refine hK.out _ _ ⟨hp0.cell 0, hp0.cell 1, hp0.cell 2, hp0.cell 3, hp1.cell 0, hp1.cell 1, hp1.cell 2, hp1.cell 3, hq1.cell 0, hq1.cell 1, hq1.cell 2, hq1.cell 3⟩ (fun hHeld => ?_)
          clear hK K
          try (simp only [Act.put, List.setIfInBounds_toArray, List.set_cons_zero, List.set_cons_succ])
          refine tk 3 hHeld ?_
          refine tk 4 hHeld ?_
          refine tk 5 hHeld ?_
          refine rd1 7 (fun K hK => ?_)
          have c0 : v37.cell? ⟨g35, 0, none⟩ = some (.int .i32 0) := n35.cell 0
          have z0 := n35.frozen 0
          have c1 : v37.cell? ⟨g35, 1, none⟩ = some (.int .i32 0) := n35.cell 1
          have z1 := n35.frozen 1
          have c2 : v37.cell? ⟨g35, 2, none⟩ = some (.int .i32 0) := n35.cell 2
          have z2 := n35.frozen 2
          have c3 : v37.cell? ⟨g35, 3, none⟩ = some (.int .i32 0) := n35.cell 3
          have z3 := n35.frozen 3
          go_simp
          try go_wp2_with fail
          replace hp0 := ((((hp0.far (p := ⟨g35, 0, none⟩) (by dsimp only; omega) (.int .i32 a0)).far (p := ⟨g35, 1, none⟩) (by dsimp only; omega) (.int .i32 a1)).far (p := ⟨g35, 2, none⟩) (by dsimp only; omega) (.int .i32 a2)).far (p := ⟨g35, 3, none⟩) (by dsimp only; omega) (.int .i32 a3))
          replace hp1 := ((((hp1.far (p := ⟨g35, 0, none⟩) (by dsimp only; omega) (.int .i32 a0)).far (p := ⟨g35, 1, none⟩) (by dsimp only; omega) (.int .i32 a1)).far (p := ⟨g35, 2, none⟩) (by dsimp only; omega) (.int .i32 a2)).far (p := ⟨g35, 3, none⟩) (by dsimp only; omega) (.int .i32 a3))
          replace hq1 := ((((hq1.far (p := ⟨g35, 0, none⟩) (by dsimp only; omega) (.int .i32 a0)).far (p := ⟨g35, 1, none⟩) (by dsimp only; omega) (.int .i32 a1)).far (p := ⟨g35, 2, none⟩) (by dsimp only; omega) (.int .i32 a2)).far (p := ⟨g35, 3, none⟩) (by dsimp only; omega) (.int .i32 a3))
          replace n35 := ((((n35.set_ 0 (.int .i32 a0)).set_ 1 (.int .i32 a1)).set_ 2 (.int .i32 a2)).set_ 3 (.int .i32 a3))
          replace hb := ((((hb.setCell (p := ⟨g35, 0, none⟩) (by dsimp only; omega) (.int .i32 a0)).setCell (p := ⟨g35, 1, none⟩) (by dsimp only; omega) (.int .i32 a1)).setCell (p := ⟨g35, 2, none⟩) (by dsimp only; omega) (.int .i32 a2)).setCell (p := ⟨g35, 3, none⟩) (by dsimp only; omega) (.int .i32 a3))
          clear c0 z0 c1 z1 c2 z2 c3 z3
          generalize ((((v37.setCell ⟨g35, 0, none⟩ (.int .i32 a0)).setCell ⟨g35, 1, none⟩ (.int .i32 a1)).setCell ⟨g35, 2, none⟩ (.int .i32 a2)).setCell ⟨g35, 3, none⟩ (.int .i32 a3)) = v39 at *
          refine hK.out _ _ ⟨hp0.cell 0, hp0.cell 1, hp0.cell 2, hp0.cell 3, hp1.cell 0, hp1.cell 1, hp1.cell 2, hp1.cell 3, hq1.cell 0, hq1.cell 1, hq1.cell 2, hq1.cell 3⟩ (fun hHeld => ?_)
          clear hK K
          try (simp only [Act.put, List.setIfInBounds_toArray, List.set_cons_zero, List.set_cons_succ])
          refine tk 8 hHeld ?_
          refine wpAnyH_done ?hru40 ?hqu40 _
          case hru40 => kernel_rfl
          refine NoPanic.normal ?_
          try go_wp2_with fail
          go_meet
          exact ⟨g35, rfl, rfl, n35, hp0, hp1, hq1, hb⟩
      case hc26q6 =>
        go_simp
        try go_wp2_with fail
        have lb41 := hb.size
        have l41hp0 := hp0.lt
        have l41hp1 := hp1.lt
        have l41hq1 := hq1.lt
        replace hp0 := hp0.alloc (.cells #[.int .i32 0, .int .i32 0, .int .i32 0, .int .i32 0] 23)
        replace hp1 := hp1.alloc (.cells #[.int .i32 0, .int .i32 0, .int .i32 0, .int .i32 0] 23)
        replace hq1 := hq1.alloc (.cells #[.int .i32 0, .int .i32 0, .int .i32 0, .int .i32 0] 23)
        have n41 := Blk.new W25 23 #[.int .i32 0, .int .i32 0, .int .i32 0, .int .i32 0]
        replace hb := hb.alloc hb.size (.cells #[.int .i32 0, .int .i32 0, .int .i32 0, .int .i32 0] 23)
        generalize W25.alloc (.cells #[.int .i32 0, .int .i32 0, .int .i32 0, .int .i32 0] 23) = v41 at *
        generalize W25.heap.size = g41 at *
        refine hK.out _ _ ⟨hp0.cell 0, hp0.cell 1, hp0.cell 2, hp0.cell 3, hp1.cell 0, hp1.cell 1, hp1.cell 2, hp1.cell 3, hq1.cell 0, hq1.cell 1, hq1.cell 2, hq1.cell 3⟩ (fun hHeld => ?_)
        clear hK K
        try (simp only [Act.put, List.setIfInBounds_toArray, List.set_cons_zero, List.set_cons_succ])
        refine rd1 0 (fun K hK => ?_)
        go_simp
        refine (HO.out _).mono ?_
        rintro e v43 ⟨rfl, bb⟩
        go_wp2_with fail
        replace hp0 := hp0.below bb hp0.lt
        replace hp1 := hp1.below bb hp1.lt
        replace hq1 := hq1.below bb hq1.lt
        replace n41 := n41.below bb n41.lt
        replace hb := hb.on bb
        clear bb
        refine hK.out _ _ ⟨hp0.cell 0, hp0.cell 1, hp0.cell 2, hp0.cell 3, hp1.cell 0, hp1.cell 1, hp1.cell 2, hp1.cell 3, hq1.cell 0, hq1.cell 1, hq1.cell 2, hq1.cell 3⟩ (fun hHeld => ?_)
        clear hK K
        try (simp only [Act.put, List.setIfInBounds_toArray, List.set_cons_zero, List.set_cons_succ])
        refine rd1 2 (fun K hK => ?_)
        go_simp
        refine (H2.out _).mono ?_
        rintro e v45 ⟨rfl, bb⟩
        go_wp2_with fail
        replace hp0 := hp0.below bb hp0.lt
        replace hp1 := hp1.below bb hp1.lt
        replace hq1 := hq1.below bb hq1.lt
        replace n41 := n41.below bb n41.lt
        replace hb := hb.on bb
        clear bb
        refine hK.out _ _ ⟨hp0.cell 0, hp0.cell 1, hp0.cell 2, hp0.cell 3, hp1.cell 0, hp1.cell 1, hp1.cell 2, hp1.cell 3, hq1.cell 0, hq1.cell 1, hq1.cell 2, hq1.cell 3⟩ (fun hHeld => ?_)
        clear hK K
        try (simp only [Act.put, List.setIfInBounds_toArray, List.set_cons_zero, List.set_cons_succ])
        refine tk 3 hHeld ?_
        refine tk 4 hHeld ?_
        refine tk 5 hHeld ?_
        refine rd1 7 (fun K hK => ?_)
        have c0 : v45.cell? ⟨g41, 0, none⟩ = some (.int .i32 0) := n41.cell 0
        have z0 := n41.frozen 0
        have c1 : v45.cell? ⟨g41, 1, none⟩ = some (.int .i32 0) := n41.cell 1
        have z1 := n41.frozen 1
        have c2 : v45.cell? ⟨g41, 2, none⟩ = some (.int .i32 0) := n41.cell 2
        have z2 := n41.frozen 2
        have c3 : v45.cell? ⟨g41, 3, none⟩ = some (.int .i32 0) := n41.cell 3
        have z3 := n41.frozen 3
        go_simp
        try go_wp2_with fail
        replace hp0 := ((((hp0.far (p := ⟨g41, 0, none⟩) (by dsimp only; omega) (.int .i32 a0)).far (p := ⟨g41, 1, none⟩) (by dsimp only; omega) (.int .i32 a1)).far (p := ⟨g41, 2, none⟩) (by dsimp only; omega) (.int .i32 a2)).far (p := ⟨g41, 3, none⟩) (by dsimp only; omega) (.int .i32 a3))
        replace hp1 := ((((hp1.far (p := ⟨g41, 0, none⟩) (by dsimp only; omega) (.int .i32 a0)).far (p := ⟨g41, 1, none⟩) (by dsimp only; omega) (.int .i32 a1)).far (p := ⟨g41, 2, none⟩) (by dsimp only; omega) (.int .i32 a2)).far (p := ⟨g41, 3, none⟩) (by dsimp only; omega) (.int .i32 a3))
        replace hq1 := ((((hq1.far (p := ⟨g41, 0, none⟩) (by dsimp only; omega) (.int .i32 a0)).far (p := ⟨g41, 1, none⟩) (by dsimp only; omega) (.int .i32 a1)).far (p := ⟨g41, 2, none⟩) (by dsimp only; omega) (.int .i32 a2)).far (p := ⟨g41, 3, none⟩) (by dsimp only; omega) (.int .i32 a3))
        replace n41 := ((((n41.set_ 0 (.int .i32 a0)).set_ 1 (.int .i32 a1)).set_ 2 (.int .i32 a2)).set_ 3 (.int .i32 a3))
        replace hb := ((((hb.setCell (p := ⟨g41, 0, none⟩) (by dsimp only; omega) (.int .i32 a0)).setCell (p := ⟨g41, 1, none⟩) (by dsimp only; omega) (.int .i32 a1)).setCell (p := ⟨g41, 2, none⟩) (by dsimp only; omega) (.int .i32 a2)).setCell (p := ⟨g41, 3, none⟩) (by dsimp only; omega) (.int .i32 a3))
        clear c0 z0 c1 z1 c2 z2 c3 z3
        generalize ((((v45.setCell ⟨g41, 0, none⟩ (.int .i32 a0)).setCell ⟨g41, 1, none⟩ (.int .i32 a1)).setCell ⟨g41, 2, none⟩ (.int .i32 a2)).setCell ⟨g41, 3, none⟩ (.int .i32 a3)) = v47 at *
        refine hK.out _ _ ⟨hp0.cell 0, hp0.cell 1, hp0.cell 2, hp0.cell 3, hp1.cell 0, hp1.cell 1, hp1.cell 2, hp1.cell 3, hq1.cell 0, hq1.cell 1, hq1.cell 2, hq1.cell 3⟩ (fun hHeld => ?_)
        clear hK K
        try (simp only [Act.put, List.setIfInBounds_toArray, List.set_cons_zero, List.set_cons_succ])
        refine tk 8 hHeld ?_
        refine wpAnyH_done ?hru48 ?hqu48 _
        case hru48 => kernel_rfl
        refine NoPanic.normal ?_
        try go_wp2_with fail
        go_meet
        exact ⟨g41, rfl, rfl, n41, hp0, hp1, hq1, hb⟩
    clear hp0 hp1 hq1 hb
    obtain ⟨g2, rfl, rfl, hq2, hp0, hp1, hq1, hb⟩ := hcut
    generalize wc = U2 at *
    have f0 : (U2).cell? ⟨w.heap.size, 0, none⟩ = some (.int .i32 a0) := hp0.cell 0
    have f1 : (U2).cell? ⟨w.heap.size, 1, none⟩ = some (.int .i32 a1) := hp0.cell 1
    have f2 : (U2).cell? ⟨w.heap.size, 2, none⟩ = some (.int .i32 a2) := hp0.cell 2
    have f3 : (U2).cell? ⟨w.heap.size, 3, none⟩ = some (.int .i32 a3) := hp0.cell 3
    have f4 : (U2).cell? ⟨w.heap.size + 1, 0, none⟩ = some (.int .i32 b0) := hp1.cell 0
    have f5 : (U2).cell? ⟨w.heap.size + 1, 1, none⟩ = some (.int .i32 b1) := hp1.cell 1
    have f6 : (U2).cell? ⟨w.heap.size + 1, 2, none⟩ = some (.int .i32 b2) := hp1.cell 2
    have f7 : (U2).cell? ⟨w.heap.size + 1, 3, none⟩ = some (.int .i32 b3) := hp1.cell 3
    have f8 : (U2).cell? ⟨g1, 0, none⟩ = some (.int .i32 a0) := hq1.cell 0
    have f9 : (U2).cell? ⟨g1, 1, none⟩ = some (.int .i32 a1) := hq1.cell 1
    have f10 : (U2).cell? ⟨g1, 2, none⟩ = some (.int .i32 a2) := hq1.cell 2
    have f11 : (U2).cell? ⟨g1, 3, none⟩ = some (.int .i32 a3) := hq1.cell 3
    have f12 : (U2).cell? ⟨g2, 0, none⟩ = some (.int .i32 a0) := hq2.cell 0
    have f13 : (U2).cell? ⟨g2, 1, none⟩ = some (.int .i32 a1) := hq2.cell 1
    have f14 : (U2).cell? ⟨g2, 2, none⟩ = some (.int .i32 a2) := hq2.cell 2
    have f15 : (U2).cell? ⟨g2, 3, none⟩ = some (.int .i32 a3) := hq2.cell 3
    go_wp2_with fail
    clear f0 f1 f2 f3 f4 f5 f6 f7 f8 f9 f10 f11 f12 f13 f14 f15
    generalize U2 = W0 at *
    refine (HK.out _).mono ?_
    rintro e w1 ⟨rfl, b1⟩
    replace hp0 := hp0.below b1 hp0.lt
    replace hp1 := hp1.below b1 hp1.lt
    replace hq1 := hq1.below b1 hq1.lt
    replace hq2 := hq2.below b1 hq2.lt
    replace hb := hb.on b1
    clear b1
    have f0 : (w1).cell? ⟨w.heap.size, 0, none⟩ = some (.int .i32 a0) := hp0.cell 0
    have f1 : (w1).cell? ⟨w.heap.size, 1, none⟩ = some (.int .i32 a1) := hp0.cell 1
    have f2 : (w1).cell? ⟨w.heap.size, 2, none⟩ = some (.int .i32 a2) := hp0.cell 2
    have f3 : (w1).cell? ⟨w.heap.size, 3, none⟩ = some (.int .i32 a3) := hp0.cell 3
    have f4 : (w1).cell? ⟨w.heap.size + 1, 0, none⟩ = some (.int .i32 b0) := hp1.cell 0
    have f5 : (w1).cell? ⟨w.heap.size + 1, 1, none⟩ = some (.int .i32 b1) := hp1.cell 1
    have f6 : (w1).cell? ⟨w.heap.size + 1, 2, none⟩ = some (.int .i32 b2) := hp1.cell 2
    have f7 : (w1).cell? ⟨w.heap.size + 1, 3, none⟩ = some (.int .i32 b3) := hp1.cell 3
    have f8 : (w1).cell? ⟨g1, 0, none⟩ = some (.int .i32 a0) := hq1.cell 0
    have f9 : (w1).cell? ⟨g1, 1, none⟩ = some (.int .i32 a1) := hq1.cell 1
    have f10 : (w1).cell? ⟨g1, 2, none⟩ = some (.int .i32 a2) := hq1.cell 2
    have f11 : (w1).cell? ⟨g1, 3, none⟩ = some (.int .i32 a3) := hq1.cell 3
    have f12 : (w1).cell? ⟨g2, 0, none⟩ = some (.int .i32 a0) := hq2.cell 0
    have f13 : (w1).cell? ⟨g2, 1, none⟩ = some (.int .i32 a1) := hq2.cell 1
    have f14 : (w1).cell? ⟨g2, 2, none⟩ = some (.int .i32 a2) := hq2.cell 2
    have f15 : (w1).cell? ⟨g2, 3, none⟩ = some (.int .i32 a3) := hq2.cell 3
    go_wp2_with fail
    clear f0 f1 f2 f3 f4 f5 f6 f7 f8 f9 f10 f11 f12 f13 f14 f15
    generalize w1 = W1 at *
    refine (H3.out _).mono ?_
    rintro e w2 ⟨rfl, b2⟩
    replace hp0 := hp0.below b2 hp0.lt
    replace hp1 := hp1.below b2 hp1.lt
    replace hq1 := hq1.below b2 hq1.lt
    replace hq2 := hq2.below b2 hq2.lt
    replace hb := hb.on b2
    clear b2
    replace hp0 := hp0.alloc (.cells #[.int .i32 p0, .int .i32 p1, .int .i32 p2, .int .i32 p3] 23)
    replace hp1 := hp1.alloc (.cells #[.int .i32 p0, .int .i32 p1, .int .i32 p2, .int .i32 p3] 23)
    replace hq1 := hq1.alloc (.cells #[.int .i32 p0, .int .i32 p1, .int .i32 p2, .int .i32 p3] 23)
    replace hq2 := hq2.alloc (.cells #[.int .i32 p0, .int .i32 p1, .int .i32 p2, .int .i32 p3] 23)
    have hn2 : Blk (w2.alloc (.cells #[.int .i32 p0, .int .i32 p1, .int .i32 p2, .int .i32 p3] 23)) w2.heap.size 23 #[.int .i32 p0, .int .i32 p1, .int .i32 p2, .int .i32 p3] := Blk.new w2 _ _
    replace hb := hb.alloc hb.size (.cells #[.int .i32 p0, .int .i32 p1, .int .i32 p2, .int .i32 p3] 23)
    have f0 : (w2.alloc (.cells #[.int .i32 p0, .int .i32 p1, .int .i32 p2, .int .i32 p3] 23)).cell? ⟨w.heap.size, 0, none⟩ = some (.int .i32 a0) := hp0.cell 0
    have f1 : (w2.alloc (.cells #[.int .i32 p0, .int .i32 p1, .int .i32 p2, .int .i32 p3] 23)).cell? ⟨w.heap.size, 1, none⟩ = some (.int .i32 a1) := hp0.cell 1
    have f2 : (w2.alloc (.cells #[.int .i32 p0, .int .i32 p1, .int .i32 p2, .int .i32 p3] 23)).cell? ⟨w.heap.size, 2, none⟩ = some (.int .i32 a2) := hp0.cell 2
    have f3 : (w2.alloc (.cells #[.int .i32 p0, .int .i32 p1, .int .i32 p2, .int .i32 p3] 23)).cell? ⟨w.heap.size, 3, none⟩ = some (.int .i32 a3) := hp0.cell 3
    have f4 : (w2.alloc (.cells #[.int .i32 p0, .int .i32 p1, .int .i32 p2, .int .i32 p3] 23)).cell? ⟨w.heap.size + 1, 0, none⟩ = some (.int .i32 b0) := hp1.cell 0
    have f5 : (w2.alloc (.cells #[.int .i32 p0, .int .i32 p1, .int .i32 p2, .int .i32 p3] 23)).cell? ⟨w.heap.size + 1, 1, none⟩ = some (.int .i32 b1) := hp1.cell 1
    have f6 : (w2.alloc (.cells #[.int .i32 p0, .int .i32 p1, .int .i32 p2, .int .i32 p3] 23)).cell? ⟨w.heap.size + 1, 2, none⟩ = some (.int .i32 b2) := hp1.cell 2
    have f7 : (w2.alloc (.cells #[.int .i32 p0, .int .i32 p1, .int .i32 p2, .int .i32 p3] 23)).cell? ⟨w.heap.size + 1, 3, none⟩ = some (.int .i32 b3) := hp1.cell 3
    have f8 : (w2.alloc (.cells #[.int .i32 p0, .int .i32 p1, .int .i32 p2, .int .i32 p3] 23)).cell? ⟨g1, 0, none⟩ = some (.int .i32 a0) := hq1.cell 0
    have f9 : (w2.alloc (.cells #[.int .i32 p0, .int .i32 p1, .int .i32 p2, .int .i32 p3] 23)).cell? ⟨g1, 1, none⟩ = some (.int .i32 a1) := hq1.cell 1
    have f10 : (w2.alloc (.cells #[.int .i32 p0, .int .i32 p1, .int .i32 p2, .int .i32 p3] 23)).cell? ⟨g1, 2, none⟩ = some (.int .i32 a2) := hq1.cell 2
    have f11 : (w2.alloc (.cells #[.int .i32 p0, .int .i32 p1, .int .i32 p2, .int .i32 p3] 23)).cell? ⟨g1, 3, none⟩ = some (.int .i32 a3) := hq1.cell 3
    have f12 : (w2.alloc (.cells #[.int .i32 p0, .int .i32 p1, .int .i32 p2, .int .i32 p3] 23)).cell? ⟨g2, 0, none⟩ = some (.int .i32 a0) := hq2.cell 0
    have f13 : (w2.alloc (.cells #[.int .i32 p0, .int .i32 p1, .int .i32 p2, .int .i32 p3] 23)).cell? ⟨g2, 1, none⟩ = some (.int .i32 a1) := hq2.cell 1
    have f14 : (w2.alloc (.cells #[.int .i32 p0, .int .i32 p1, .int .i32 p2, .int .i32 p3] 23)).cell? ⟨g2, 2, none⟩ = some (.int .i32 a2) := hq2.cell 2
    have f15 : (w2.alloc (.cells #[.int .i32 p0, .int .i32 p1, .int .i32 p2, .int .i32 p3] 23)).cell? ⟨g2, 3, none⟩ = some (.int .i32 a3) := hq2.cell 3
    have f16 : (w2.alloc (.cells #[.int .i32 p0, .int .i32 p1, .int .i32 p2, .int .i32 p3] 23)).cell? ⟨w2.heap.size, 0, none⟩ = some (.int .i32 p0) := hn2.cell 0
    have f17 : (w2.alloc (.cells #[.int .i32 p0, .int .i32 p1, .int .i32 p2, .int .i32 p3] 23)).cell? ⟨w2.heap.size, 1, none⟩ = some (.int .i32 p1) := hn2.cell 1
    have f18 : (w2.alloc (.cells #[.int .i32 p0, .int .i32 p1, .int .i32 p2, .int .i32 p3] 23)).cell? ⟨w2.heap.size, 2, none⟩ = some (.int .i32 p2) := hn2.cell 2
    have f19 : (w2.alloc (.cells #[.int .i32 p0, .int .i32 p1, .int .i32 p2, .int .i32 p3] 23)).cell? ⟨w2.heap.size, 3, none⟩ = some (.int .i32 p3) := hn2.cell 3
    go_wp2_with fail
    clear f0 f1 f2 f3 f4 f5 f6 f7 f8 f9 f10 f11 f12 f13 f14 f15 f16 f17 f18 f19
    generalize w2.alloc (.cells #[.int .i32 p0, .int .i32 p1, .int .i32 p2, .int .i32 p3] 23) = W2 at *
    refine (H4.out _).mono ?_
    rintro e w3 ⟨rfl, b3⟩
    replace hp0 := hp0.below b3 hp0.lt
    replace hp1 := hp1.below b3 hp1.lt
    replace hq1 := hq1.below b3 hq1.lt
    replace hq2 := hq2.below b3 hq2.lt
    replace hn2 := hn2.below b3 hn2.lt
    replace hb := hb.on b3
    clear b3
    replace hp0 := hp0.alloc (.cells #[.int .i32 x0, .int .i32 x1, .int .i32 x2, .int .i32 x3] 23)
    replace hp1 := hp1.alloc (.cells #[.int .i32 x0, .int .i32 x1, .int .i32 x2, .int .i32 x3] 23)
    replace hq1 := hq1.alloc (.cells #[.int .i32 x0, .int .i32 x1, .int .i32 x2, .int .i32 x3] 23)
    replace hq2 := hq2.alloc (.cells #[.int .i32 x0, .int .i32 x1, .int .i32 x2, .int .i32 x3] 23)
    replace hn2 := hn2.alloc (.cells #[.int .i32 x0, .int .i32 x1, .int .i32 x2, .int .i32 x3] 23)
    have hn3 : Blk (w3.alloc (.cells #[.int .i32 x0, .int .i32 x1, .int .i32 x2, .int .i32 x3] 23)) w3.heap.size 23 #[.int .i32 x0, .int .i32 x1, .int .i32 x2, .int .i32 x3] := Blk.new w3 _ _
    replace hb := hb.alloc hb.size (.cells #[.int .i32 x0, .int .i32 x1, .int .i32 x2, .int .i32 x3] 23)
    have f0 : (w3.alloc (.cells #[.int .i32 x0, .int .i32 x1, .int .i32 x2, .int .i32 x3] 23)).cell? ⟨w.heap.size, 0, none⟩ = some (.int .i32 a0) := hp0.cell 0
    have f1 : (w3.alloc (.cells #[.int .i32 x0, .int .i32 x1, .int .i32 x2, .int .i32 x3] 23)).cell? ⟨w.heap.size, 1, none⟩ = some (.int .i32 a1) := hp0.cell 1
    have f2 : (w3.alloc (.cells #[.int .i32 x0, .int .i32 x1, .int .i32 x2, .int .i32 x3] 23)).cell? ⟨w.heap.size, 2, none⟩ = some (.int .i32 a2) := hp0.cell 2
    have f3 : (w3.alloc (.cells #[.int .i32 x0, .int .i32 x1, .int .i32 x2, .int .i32 x3] 23)).cell? ⟨w.heap.size, 3, none⟩ = some (.int .i32 a3) := hp0.cell 3
    have f4 : (w3.alloc (.cells #[.int .i32 x0, .int .i32 x1, .int .i32 x2, .int .i32 x3] 23)).cell? ⟨w.heap.size + 1, 0, none⟩ = some (.int .i32 b0) := hp1.cell 0
    have f5 : (w3.alloc (.cells #[.int .i32 x0, .int .i32 x1, .int .i32 x2, .int .i32 x3] 23)).cell? ⟨w.heap.size + 1, 1, none⟩ = some (.int .i32 b1) := hp1.cell 1
    have f6 : (w3.alloc (.cells #[.int .i32 x0, .int .i32 x1, .int .i32 x2, .int .i32 x3] 23)).cell? ⟨w.heap.size + 1, 2, none⟩ = some (.int .i32 b2) := hp1.cell 2
    have f7 : (w3.alloc (.cells #[.int .i32 x0, .int .i32 x1, .int .i32 x2, .int .i32 x3] 23)).cell? ⟨w.heap.size + 1, 3, none⟩ = some (.int .i32 b3) := hp1.cell 3
    have f8 : (w3.alloc (.cells #[.int .i32 x0, .int .i32 x1, .int .i32 x2, .int .i32 x3] 23)).cell? ⟨g1, 0, none⟩ = some (.int .i32 a0) := hq1.cell 0
    have f9 : (w3.alloc (.cells #[.int .i32 x0, .int .i32 x1, .int .i32 x2, .int .i32 x3] 23)).cell? ⟨g1, 1, none⟩ = some (.int .i32 a1) := hq1.cell 1
    have f10 : (w3.alloc (.cells #[.int .i32 x0, .int .i32 x1, .int .i32 x2, .int .i32 x3] 23)).cell? ⟨g1, 2, none⟩ = some (.int .i32 a2) := hq1.cell 2
    have f11 : (w3.alloc (.cells #[.int .i32 x0, .int .i32 x1, .int .i32 x2, .int .i32 x3] 23)).cell? ⟨g1, 3, none⟩ = some (.int .i32 a3) := hq1.cell 3
    have f12 : (w3.alloc (.cells #[.int .i32 x0, .int .i32 x1, .int .i32 x2, .int .i32 x3] 23)).cell? ⟨g2, 0, none⟩ = some (.int .i32 a0) := hq2.cell 0
    have f13 : (w3.alloc (.cells #[.int .i32 x0, .int .i32 x1, .int .i32 x2, .int .i32 x3] 23)).cell? ⟨g2, 1, none⟩ = some (.int .i32 a1) := hq2.cell 1
    have f14 : (w3.alloc (.cells #[.int .i32 x0, .int .i32 x1, .int .i32 x2, .int .i32 x3] 23)).cell? ⟨g2, 2, none⟩ = some (.int .i32 a2) := hq2.cell 2
    have f15 : (w3.alloc (.cells #[.int .i32 x0, .int .i32 x1, .int .i32 x2, .int .i32 x3] 23)).cell? ⟨g2, 3, none⟩ = some (.int .i32 a3) := hq2.cell 3
    have f16 : (w3.alloc (.cells #[.int .i32 x0, .int .i32 x1, .int .i32 x2, .int .i32 x3] 23)).cell? ⟨w2.heap.size, 0, none⟩ = some (.int .i32 p0) := hn2.cell 0
    have f17 : (w3.alloc (.cells #[.int .i32 x0, .int .i32 x1, .int .i32 x2, .int .i32 x3] 23)).cell? ⟨w2.heap.size, 1, none⟩ = some (.int .i32 p1) := hn2.cell 1
    have f18 : (w3.alloc (.cells #[.int .i32 x0, .int .i32 x1, .int .i32 x2, .int .i32 x3] 23)).cell? ⟨w2.heap.size, 2, none⟩ = some (.int .i32 p2) := hn2.cell 2
    have f19 : (w3.alloc (.cells #[.int .i32 x0, .int .i32 x1, .int .i32 x2, .int .i32 x3] 23)).cell? ⟨w2.heap.size, 3, none⟩ = some (.int .i32 p3) := hn2.cell 3
    have f20 : (w3.alloc (.cells #[.int .i32 x0, .int .i32 x1, .int .i32 x2, .int .i32 x3] 23)).cell? ⟨w3.heap.size, 0, none⟩ = some (.int .i32 x0) := hn3.cell 0
    have f21 : (w3.alloc (.cells #[.int .i32 x0, .int .i32 x1, .int .i32 x2, .int .i32 x3] 23)).cell? ⟨w3.heap.size, 1, none⟩ = some (.int .i32 x1) := hn3.cell 1
    have f22 : (w3.alloc (.cells #[.int .i32 x0, .int .i32 x1, .int .i32 x2, .int .i32 x3] 23)).cell? ⟨w3.heap.size, 2, none⟩ = some (.int .i32 x2) := hn3.cell 2
    have f23 : (w3.alloc (.cells #[.int .i32 x0, .int .i32 x1, .int .i32 x2, .int .i32 x3] 23)).cell? ⟨w3.heap.size, 3, none⟩ = some (.int .i32 x3) := hn3.cell 3
    go_wp2_with fail
    clear f0 f1 f2 f3 f4 f5 f6 f7 f8 f9 f10 f11 f12 f13 f14 f15 f16 f17 f18 f19 f20 f21 f22 f23
    generalize w3.alloc (.cells #[.int .i32 x0, .int .i32 x1, .int .i32 x2, .int .i32 x3] 23) = W3 at *
    refine (H5.out _).mono ?_
    rintro e w4 ⟨rfl, b4⟩
    replace hp0 := hp0.below b4 hp0.lt
    replace hp1 := hp1.below b4 hp1.lt
    replace hq1 := hq1.below b4 hq1.lt
    replace hq2 := hq2.below b4 hq2.lt
    replace hn2 := hn2.below b4 hn2.lt
    replace hn3 := hn3.below b4 hn3.lt
    replace hb := hb.on b4
    clear b4
    replace hp0 := hp0.alloc (.cells #[.int .i32 c0, .int .i32 c1, .int .i32 c2, .int .i32 c3] 23)
    replace hp1 := hp1.alloc (.cells #[.int .i32 c0, .int .i32 c1, .int .i32 c2, .int .i32 c3] 23)
    replace hq1 := hq1.alloc (.cells #[.int .i32 c0, .int .i32 c1, .int .i32 c2, .int .i32 c3] 23)
    replace hq2 := hq2.alloc (.cells #[.int .i32 c0, .int .i32 c1, .int .i32 c2, .int .i32 c3] 23)
    replace hn2 := hn2.alloc (.cells #[.int .i32 c0, .int .i32 c1, .int .i32 c2, .int .i32 c3] 23)
    replace hn3 := hn3.alloc (.cells #[.int .i32 c0, .int .i32 c1, .int .i32 c2, .int .i32 c3] 23)
    have hn4 : Blk (w4.alloc (.cells #[.int .i32 c0, .int .i32 c1, .int .i32 c2, .int .i32 c3] 23)) w4.heap.size 23 #[.int .i32 c0, .int .i32 c1, .int .i32 c2, .int .i32 c3] := Blk.new w4 _ _
    replace hb := hb.alloc hb.size (.cells #[.int .i32 c0, .int .i32 c1, .int .i32 c2, .int .i32 c3] 23)
    have f0 : (w4.alloc (.cells #[.int .i32 c0, .int .i32 c1, .int .i32 c2, .int .i32 c3] 23)).cell? ⟨w.heap.size, 0, none⟩ = some (.int .i32 a0) := hp0.cell 0
    have f1 : (w4.alloc (.cells #[.int .i32 c0, .int .i32 c1, .int .i32 c2, .int .i32 c3] 23)).cell? ⟨w.heap.size, 1, none⟩ = some (.int .i32 a1) := hp0.cell 1
    have f2 : (w4.alloc (.cells #[.int .i32 c0, .int .i32 c1, .int .i32 c2, .int .i32 c3] 23)).cell? ⟨w.heap.size, 2, none⟩ = some (.int .i32 a2) := hp0.cell 2
    have f3 : (w4.alloc (.cells #[.int .i32 c0, .int .i32 c1, .int .i32 c2, .int .i32 c3] 23)).cell? ⟨w.heap.size, 3, none⟩ = some (.int .i32 a3) := hp0.cell 3
    have f4 : (w4.alloc (.cells #[.int .i32 c0, .int .i32 c1, .int .i32 c2, .int .i32 c3] 23)).cell? ⟨w.heap.size + 1, 0, none⟩ = some (.int .i32 b0) := hp1.cell 0
    have f5 : (w4.alloc (.cells #[.int .i32 c0, .int .i32 c1, .int .i32 c2, .int .i32 c3] 23)).cell? ⟨w.heap.size + 1, 1, none⟩ = some (.int .i32 b1) := hp1.cell 1
    have f6 : (w4.alloc (.cells #[.int .i32 c0, .int .i32 c1, .int .i32 c2, .int .i32 c3] 23)).cell? ⟨w.heap.size + 1, 2, none⟩ = some (.int .i32 b2) := hp1.cell 2
    have f7 : (w4.alloc (.cells #[.int .i32 c0, .int .i32 c1, .int .i32 c2, .int .i32 c3] 23)).cell? ⟨w.heap.size + 1, 3, none⟩ = some (.int .i32 b3) := hp1.cell 3
    have f8 : (w4.alloc (.cells #[.int .i32 c0, .int .i32 c1, .int .i32 c2, .int .i32 c3] 23)).cell? ⟨g1, 0, none⟩ = some (.int .i32 a0) := hq1.cell 0
    have f9 : (w4.alloc (.cells #[.int .i32 c0, .int .i32 c1, .int .i32 c2, .int .i32 c3] 23)).cell? ⟨g1, 1, none⟩ = some (.int .i32 a1) := hq1.cell 1
    have f10 : (w4.alloc (.cells #[.int .i32 c0, .int .i32 c1, .int .i32 c2, .int .i32 c3] 23)).cell? ⟨g1, 2, none⟩ = some (.int .i32 a2) := hq1.cell 2
    have f11 : (w4.alloc (.cells #[.int .i32 c0, .int .i32 c1, .int .i32 c2, .int .i32 c3] 23)).cell? ⟨g1, 3, none⟩ = some (.int .i32 a3) := hq1.cell 3
    have f12 : (w4.alloc (.cells #[.int .i32 c0, .int .i32 c1, .int .i32 c2, .int .i32 c3] 23)).cell? ⟨g2, 0, none⟩ = some (.int .i32 a0) := hq2.cell 0
    have f13 : (w4.alloc (.cells #[.int .i32 c0, .int .i32 c1, .int .i32 c2, .int .i32 c3] 23)).cell? ⟨g2, 1, none⟩ = some (.int .i32 a1) := hq2.cell 1
    have f14 : (w4.alloc (.cells #[.int .i32 c0, .int .i32 c1, .int .i32 c2, .int .i32 c3] 23)).cell? ⟨g2, 2, none⟩ = some (.int .i32 a2) := hq2.cell 2
    have f15 : (w4.alloc (.cells #[.int .i32 c0, .int .i32 c1, .int .i32 c2, .int .i32 c3] 23)).cell? ⟨g2, 3, none⟩ = some (.int .i32 a3) := hq2.cell 3
    have f16 : (w4.alloc (.cells #[.int .i32 c0, .int .i32 c1, .int .i32 c2, .int .i32 c3] 23)).cell? ⟨w2.heap.size, 0, none⟩ = some (.int .i32 p0) := hn2.cell 0
    have f17 : (w4.alloc (.cells #[.int .i32 c0, .int .i32 c1, .int .i32 c2, .int .i32 c3] 23)).cell? ⟨w2.heap.size, 1, none⟩ = some (.int .i32 p1) := hn2.cell 1
    have f18 : (w4.alloc (.cells #[.int .i32 c0, .int .i32 c1, .int .i32 c2, .int .i32 c3] 23)).cell? ⟨w2.heap.size, 2, none⟩ = some (.int .i32 p2) := hn2.cell 2
    have f19 : (w4.alloc (.cells #[.int .i32 c0, .int .i32 c1, .int .i32 c2, .int .i32 c3] 23)).cell? ⟨w2.heap.size, 3, none⟩ = some (.int .i32 p3) := hn2.cell 3
    have f20 : (w4.alloc (.cells #[.int .i32 c0, .int .i32 c1, .int .i32 c2, .int .i32 c3] 23)).cell? ⟨w3.heap.size, 0, none⟩ = some (.int .i32 x0) := hn3.cell 0
    have f21 : (w4.alloc (.cells #[.int .i32 c0, .int .i32 c1, .int .i32 c2, .int .i32 c3] 23)).cell? ⟨w3.heap.size, 1, none⟩ = some (.int .i32 x1) := hn3.cell 1
    have f22 : (w4.alloc (.cells #[.int .i32 c0, .int .i32 c1, .int .i32 c2, .int .i32 c3] 23)).cell? ⟨w3.heap.size, 2, none⟩ = some (.int .i32 x2) := hn3.cell 2
    have f23 : (w4.alloc (.cells #[.int .i32 c0, .int .i32 c1, .int .i32 c2, .int .i32 c3] 23)).cell? ⟨w3.heap.size, 3, none⟩ = some (.int .i32 x3) := hn3.cell 3
    have f24 : (w4.alloc (.cells #[.int .i32 c0, .int .i32 c1, .int .i32 c2, .int .i32 c3] 23)).cell? ⟨w4.heap.size, 0, none⟩ = some (.int .i32 c0) := hn4.cell 0
    have f25 : (w4.alloc (.cells #[.int .i32 c0, .int .i32 c1, .int .i32 c2, .int .i32 c3] 23)).cell? ⟨w4.heap.size, 1, none⟩ = some (.int .i32 c1) := hn4.cell 1
    have f26 : (w4.alloc (.cells #[.int .i32 c0, .int .i32 c1, .int .i32 c2, .int .i32 c3] 23)).cell? ⟨w4.heap.size, 2, none⟩ = some (.int .i32 c2) := hn4.cell 2
    have f27 : (w4.alloc (.cells #[.int .i32 c0, .int .i32 c1, .int .i32 c2, .int .i32 c3] 23)).cell? ⟨w4.heap.size, 3, none⟩ = some (.int .i32 c3) := hn4.cell 3
    go_wp2_with fail
    clear f0 f1 f2 f3 f4 f5 f6 f7 f8 f9 f10 f11 f12 f13 f14 f15 f16 f17 f18 f19 f20 f21 f22 f23 f24 f25 f26 f27
    generalize w4.alloc (.cells #[.int .i32 c0, .int .i32 c1, .int .i32 c2, .int .i32 c3] 23) = W4 at *
    refine (H6.out _).mono ?_
    rintro e w5 ⟨rfl, b5⟩
    replace hp0 := hp0.below b5 hp0.lt
    replace hp1 := hp1.below b5 hp1.lt
    replace hq1 := hq1.below b5 hq1.lt
    replace hq2 := hq2.below b5 hq2.lt
    replace hn2 := hn2.below b5 hn2.lt
    replace hn3 := hn3.below b5 hn3.lt
    replace hn4 := hn4.below b5 hn4.lt
    replace hb := hb.on b5
    clear b5
    replace hp0 := hp0.alloc (.cells #[.int .i32 d0, .int .i32 d1, .int .i32 d2, .int .i32 d3] 23)
    replace hp1 := hp1.alloc (.cells #[.int .i32 d0, .int .i32 d1, .int .i32 d2, .int .i32 d3] 23)
    replace hq1 := hq1.alloc (.cells #[.int .i32 d0, .int .i32 d1, .int .i32 d2, .int .i32 d3] 23)
    replace hq2 := hq2.alloc (.cells #[.int .i32 d0, .int .i32 d1, .int .i32 d2, .int .i32 d3] 23)
    replace hn2 := hn2.alloc (.cells #[.int .i32 d0, .int .i32 d1, .int .i32 d2, .int .i32 d3] 23)
    replace hn3 := hn3.alloc (.cells #[.int .i32 d0, .int .i32 d1, .int .i32 d2, .int .i32 d3] 23)
    replace hn4 := hn4.alloc (.cells #[.int .i32 d0, .int .i32 d1, .int .i32 d2, .int .i32 d3] 23)
    have hn5 : Blk (w5.alloc (.cells #[.int .i32 d0, .int .i32 d1, .int .i32 d2, .int .i32 d3] 23)) w5.heap.size 23 #[.int .i32 d0, .int .i32 d1, .int .i32 d2, .int .i32 d3] := Blk.new w5 _ _
    replace hb := hb.alloc hb.size (.cells #[.int .i32 d0, .int .i32 d1, .int .i32 d2, .int .i32 d3] 23)
    have f0 : (w5.alloc (.cells #[.int .i32 d0, .int .i32 d1, .int .i32 d2, .int .i32 d3] 23)).cell? ⟨w.heap.size, 0, none⟩ = some (.int .i32 a0) := hp0.cell 0
    have f1 : (w5.alloc (.cells #[.int .i32 d0, .int .i32 d1, .int .i32 d2, .int .i32 d3] 23)).cell? ⟨w.heap.size, 1, none⟩ = some (.int .i32 a1) := hp0.cell 1
    have f2 : (w5.alloc (.cells #[.int .i32 d0, .int .i32 d1, .int .i32 d2, .int .i32 d3] 23)).cell? ⟨w.heap.size, 2, none⟩ = some (.int .i32 a2) := hp0.cell 2
    have f3 : (w5.alloc (.cells #[.int .i32 d0, .int .i32 d1, .int .i32 d2, .int .i32 d3] 23)).cell? ⟨w.heap.size, 3, none⟩ = some (.int .i32 a3) := hp0.cell 3
    have f4 : (w5.alloc (.cells #[.int .i32 d0, .int .i32 d1, .int .i32 d2, .int .i32 d3] 23)).cell? ⟨w.heap.size + 1, 0, none⟩ = some (.int .i32 b0) := hp1.cell 0
    have f5 : (w5.alloc (.cells #[.int .i32 d0, .int .i32 d1, .int .i32 d2, .int .i32 d3] 23)).cell? ⟨w.heap.size + 1, 1, none⟩ = some (.int .i32 b1) := hp1.cell 1
    have f6 : (w5.alloc (.cells #[.int .i32 d0, .int .i32 d1, .int .i32 d2, .int .i32 d3] 23)).cell? ⟨w.heap.size + 1, 2, none⟩ = some (.int .i32 b2) := hp1.cell 2
    have f7 : (w5.alloc (.cells #[.int .i32 d0, .int .i32 d1, .int .i32 d2, .int .i32 d3] 23)).cell? ⟨w.heap.size + 1, 3, none⟩ = some (.int .i32 b3) := hp1.cell 3
    have f8 : (w5.alloc (.cells #[.int .i32 d0, .int .i32 d1, .int .i32 d2, .int .i32 d3] 23)).cell? ⟨g1, 0, none⟩ = some (.int .i32 a0) := hq1.cell 0
    have f9 : (w5.alloc (.cells #[.int .i32 d0, .int .i32 d1, .int .i32 d2, .int .i32 d3] 23)).cell? ⟨g1, 1, none⟩ = some (.int .i32 a1) := hq1.cell 1
    have f10 : (w5.alloc (.cells #[.int .i32 d0, .int .i32 d1, .int .i32 d2, .int .i32 d3] 23)).cell? ⟨g1, 2, none⟩ = some (.int .i32 a2) := hq1.cell 2
    have f11 : (w5.alloc (.cells #[.int .i32 d0, .int .i32 d1, .int .i32 d2, .int .i32 d3] 23)).cell? ⟨g1, 3, none⟩ = some (.int .i32 a3) := hq1.cell 3
    have f12 : (w5.alloc (.cells #[.int .i32 d0, .int .i32 d1, .int .i32 d2, .int .i32 d3] 23)).cell? ⟨g2, 0, none⟩ = some (.int .i32 a0) := hq2.cell 0
    have f13 : (w5.alloc (.cells #[.int .i32 d0, .int .i32 d1, .int .i32 d2, .int .i32 d3] 23)).cell? ⟨g2, 1, none⟩ = some (.int .i32 a1) := hq2.cell 1
    have f14 : (w5.alloc (.cells #[.int .i32 d0, .int .i32 d1, .int .i32 d2, .int .i32 d3] 23)).cell? ⟨g2, 2, none⟩ = some (.int .i32 a2) := hq2.cell 2
    have f15 : (w5.alloc (.cells #[.int .i32 d0, .int .i32 d1, .int .i32 d2, .int .i32 d3] 23)).cell? ⟨g2, 3, none⟩ = some (.int .i32 a3) := hq2.cell 3
    have f16 : (w5.alloc (.cells #[.int .i32 d0, .int .i32 d1, .int .i32 d2, .int .i32 d3] 23)).cell? ⟨w2.heap.size, 0, none⟩ = some (.int .i32 p0) := hn2.cell 0
    have f17 : (w5.alloc (.cells #[.int .i32 d0, .int .i32 d1, .int .i32 d2, .int .i32 d3] 23)).cell? ⟨w2.heap.size, 1, none⟩ = some (.int .i32 p1) := hn2.cell 1
    have f18 : (w5.alloc (.cells #[.int .i32 d0, .int .i32 d1, .int .i32 d2, .int .i32 d3] 23)).cell? ⟨w2.heap.size, 2, none⟩ = some (.int .i32 p2) := hn2.cell 2
    have f19 : (w5.alloc (.cells #[.int .i32 d0, .int .i32 d1, .int .i32 d2, .int .i32 d3] 23)).cell? ⟨w2.heap.size, 3, none⟩ = some (.int .i32 p3) := hn2.cell 3
    have f20 : (w5.alloc (.cells #[.int .i32 d0, .int .i32 d1, .int .i32 d2, .int .i32 d3] 23)).cell? ⟨w3.heap.size, 0, none⟩ = some (.int .i32 x0) := hn3.cell 0
    have f21 : (w5.alloc (.cells #[.int .i32 d0, .int .i32 d1, .int .i32 d2, .int .i32 d3] 23)).cell? ⟨w3.heap.size, 1, none⟩ = some (.int .i32 x1) := hn3.cell 1
    have f22 : (w5.alloc (.cells #[.int .i32 d0, .int .i32 d1, .int .i32 d2, .int .i32 d3] 23)).cell? ⟨w3.heap.size, 2, none⟩ = some (.int .i32 x2) := hn3.cell 2
    have f23 : (w5.alloc (.cells #[.int .i32 d0, .int .i32 d1, .int .i32 d2, .int .i32 d3] 23)).cell? ⟨w3.heap.size, 3, none⟩ = some (.int .i32 x3) := hn3.cell 3
    have f24 : (w5.alloc (.cells #[.int .i32 d0, .int .i32 d1, .int .i32 d2, .int .i32 d3] 23)).cell? ⟨w4.heap.size, 0, none⟩ = some (.int .i32 c0) := hn4.cell 0
    have f25 : (w5.alloc (.cells #[.int .i32 d0, .int .i32 d1, .int .i32 d2, .int .i32 d3] 23)).cell? ⟨w4.heap.size, 1, none⟩ = some (.int .i32 c1) := hn4.cell 1
    have f26 : (w5.alloc (.cells #[.int .i32 d0, .int .i32 d1, .int .i32 d2, .int .i32 d3] 23)).cell? ⟨w4.heap.size, 2, none⟩ = some (.int .i32 c2) := hn4.cell 2
    have f27 : (w5.alloc (.cells #[.int .i32 d0, .int .i32 d1, .int .i32 d2, .int .i32 d3] 23)).cell? ⟨w4.heap.size, 3, none⟩ = some (.int .i32 c3) := hn4.cell 3
    have f28 : (w5.alloc (.cells #[.int .i32 d0, .int .i32 d1, .int .i32 d2, .int .i32 d3] 23)).cell? ⟨w5.heap.size, 0, none⟩ = some (.int .i32 d0) := hn5.cell 0
    have f29 : (w5.alloc (.cells #[.int .i32 d0, .int .i32 d1, .int .i32 d2, .int .i32 d3] 23)).cell? ⟨w5.heap.size, 1, none⟩ = some (.int .i32 d1) := hn5.cell 1
    have f30 : (w5.alloc (.cells #[.int .i32 d0, .int .i32 d1, .int .i32 d2, .int .i32 d3] 23)).cell? ⟨w5.heap.size, 2, none⟩ = some (.int .i32 d2) := hn5.cell 2
    have f31 : (w5.alloc (.cells #[.int .i32 d0, .int .i32 d1, .int .i32 d2, .int .i32 d3] 23)).cell? ⟨w5.heap.size, 3, none⟩ = some (.int .i32 d3) := hn5.cell 3
    go_wp2_with fail
    clear f0 f1 f2 f3 f4 f5 f6 f7 f8 f9 f10 f11 f12 f13 f14 f15 f16 f17 f18 f19 f20 f21 f22 f23 f24 f25 f26 f27 f28 f29 f30 f31
    generalize w5.alloc (.cells #[.int .i32 d0, .int .i32 d1, .int .i32 d2, .int .i32 d3] 23) = W5 at *
    refine (H7.out _).mono ?_
    rintro e w6 ⟨rfl, b6⟩
    replace hp0 := hp0.below b6 hp0.lt
    replace hp1 := hp1.below b6 hp1.lt
    replace hq1 := hq1.below b6 hq1.lt
    replace hq2 := hq2.below b6 hq2.lt
    replace hn2 := hn2.below b6 hn2.lt
    replace hn3 := hn3.below b6 hn3.lt
    replace hn4 := hn4.below b6 hn4.lt
    replace hn5 := hn5.below b6 hn5.lt
    replace hb := hb.on b6
    clear b6
    replace hp0 := hp0.alloc (.cells #[.int .i32 y0, .int .i32 y1, .int .i32 y2, .int .i32 y3] 23)
    replace hp1 := hp1.alloc (.cells #[.int .i32 y0, .int .i32 y1, .int .i32 y2, .int .i32 y3] 23)
    replace hq1 := hq1.alloc (.cells #[.int .i32 y0, .int .i32 y1, .int .i32 y2, .int .i32 y3] 23)
    replace hq2 := hq2.alloc (.cells #[.int .i32 y0, .int .i32 y1, .int .i32 y2, .int .i32 y3] 23)
    replace hn2 := hn2.alloc (.cells #[.int .i32 y0, .int .i32 y1, .int .i32 y2, .int .i32 y3] 23)
    replace hn3 := hn3.alloc (.cells #[.int .i32 y0, .int .i32 y1, .int .i32 y2, .int .i32 y3] 23)
    replace hn4 := hn4.alloc (.cells #[.int .i32 y0, .int .i32 y1, .int .i32 y2, .int .i32 y3] 23)
    replace hn5 := hn5.alloc (.cells #[.int .i32 y0, .int .i32 y1, .int .i32 y2, .int .i32 y3] 23)
    have hn6 : Blk (w6.alloc (.cells #[.int .i32 y0, .int .i32 y1, .int .i32 y2, .int .i32 y3] 23)) w6.heap.size 23 #[.int .i32 y0, .int .i32 y1, .int .i32 y2, .int .i32 y3] := Blk.new w6 _ _
    replace hb := hb.alloc hb.size (.cells #[.int .i32 y0, .int .i32 y1, .int .i32 y2, .int .i32 y3] 23)
    have f0 : (w6.alloc (.cells #[.int .i32 y0, .int .i32 y1, .int .i32 y2, .int .i32 y3] 23)).cell? ⟨w.heap.size, 0, none⟩ = some (.int .i32 a0) := hp0.cell 0
    have f1 : (w6.alloc (.cells #[.int .i32 y0, .int .i32 y1, .int .i32 y2, .int .i32 y3] 23)).cell? ⟨w.heap.size, 1, none⟩ = some (.int .i32 a1) := hp0.cell 1
    have f2 : (w6.alloc (.cells #[.int .i32 y0, .int .i32 y1, .int .i32 y2, .int .i32 y3] 23)).cell? ⟨w.heap.size, 2, none⟩ = some (.int .i32 a2) := hp0.cell 2
    have f3 : (w6.alloc (.cells #[.int .i32 y0, .int .i32 y1, .int .i32 y2, .int .i32 y3] 23)).cell? ⟨w.heap.size, 3, none⟩ = some (.int .i32 a3) := hp0.cell 3
    have f4 : (w6.alloc (.cells #[.int .i32 y0, .int .i32 y1, .int .i32 y2, .int .i32 y3] 23)).cell? ⟨w.heap.size + 1, 0, none⟩ = some (.int .i32 b0) := hp1.cell 0
    have f5 : (w6.alloc (.cells #[.int .i32 y0, .int .i32 y1, .int .i32 y2, .int .i32 y3] 23)).cell? ⟨w.heap.size + 1, 1, none⟩ = some (.int .i32 b1) := hp1.cell 1
    have f6 : (w6.alloc (.cells #[.int .i32 y0, .int .i32 y1, .int .i32 y2, .int .i32 y3] 23)).cell? ⟨w.heap.size + 1, 2, none⟩ = some (.int .i32 b2) := hp1.cell 2
    have f7 : (w6.alloc (.cells #[.int .i32 y0, .int .i32 y1, .int .i32 y2, .int .i32 y3] 23)).cell? ⟨w.heap.size + 1, 3, none⟩ = some (.int .i32 b3) := hp1.cell 3
    have f8 : (w6.alloc (.cells #[.int .i32 y0, .int .i32 y1, .int .i32 y2, .int .i32 y3] 23)).cell? ⟨g1, 0, none⟩ = some (.int .i32 a0) := hq1.cell 0
    have f9 : (w6.alloc (.cells #[.int .i32 y0, .int .i32 y1, .int .i32 y2, .int .i32 y3] 23)).cell? ⟨g1, 1, none⟩ = some (.int .i32 a1) := hq1.cell 1
    have f10 : (w6.alloc (.cells #[.int .i32 y0, .int .i32 y1, .int .i32 y2, .int .i32 y3] 23)).cell? ⟨g1, 2, none⟩ = some (.int .i32 a2) := hq1.cell 2
    have f11 : (w6.alloc (.cells #[.int .i32 y0, .int .i32 y1, .int .i32 y2, .int .i32 y3] 23)).cell? ⟨g1, 3, none⟩ = some (.int .i32 a3) := hq1.cell 3
    have f12 : (w6.alloc (.cells #[.int .i32 y0, .int .i32 y1, .int .i32 y2, .int .i32 y3] 23)).cell? ⟨g2, 0, none⟩ = some (.int .i32 a0) := hq2.cell 0
    have f13 : (w6.alloc (.cells #[.int .i32 y0, .int .i32 y1, .int .i32 y2, .int .i32 y3] 23)).cell? ⟨g2, 1, none⟩ = some (.int .i32 a1) := hq2.cell 1
    have f14 : (w6.alloc (.cells #[.int .i32 y0, .int .i32 y1, .int .i32 y2, .int .i32 y3] 23)).cell? ⟨g2, 2, none⟩ = some (.int .i32 a2) := hq2.cell 2
    have f15 : (w6.alloc (.cells #[.int .i32 y0, .int .i32 y1, .int .i32 y2, .int .i32 y3] 23)).cell? ⟨g2, 3, none⟩ = some (.int .i32 a3) := hq2.cell 3
    have f16 : (w6.alloc (.cells #[.int .i32 y0, .int .i32 y1, .int .i32 y2, .int .i32 y3] 23)).cell? ⟨w2.heap.size, 0, none⟩ = some (.int .i32 p0) := hn2.cell 0
    have f17 : (w6.alloc (.cells #[.int .i32 y0, .int .i32 y1, .int .i32 y2, .int .i32 y3] 23)).cell? ⟨w2.heap.size, 1, none⟩ = some (.int .i32 p1) := hn2.cell 1
    have f18 : (w6.alloc (.cells #[.int .i32 y0, .int .i32 y1, .int .i32 y2, .int .i32 y3] 23)).cell? ⟨w2.heap.size, 2, none⟩ = some (.int .i32 p2) := hn2.cell 2
    have f19 : (w6.alloc (.cells #[.int .i32 y0, .int .i32 y1, .int .i32 y2, .int .i32 y3] 23)).cell? ⟨w2.heap.size, 3, none⟩ = some (.int .i32 p3) := hn2.cell 3
    have f20 : (w6.alloc (.cells #[.int .i32 y0, .int .i32 y1, .int .i32 y2, .int .i32 y3] 23)).cell? ⟨w3.heap.size, 0, none⟩ = some (.int .i32 x0) := hn3.cell 0
    have f21 : (w6.alloc (.cells #[.int .i32 y0, .int .i32 y1, .int .i32 y2, .int .i32 y3] 23)).cell? ⟨w3.heap.size, 1, none⟩ = some (.int .i32 x1) := hn3.cell 1
    have f22 : (w6.alloc (.cells #[.int .i32 y0, .int .i32 y1, .int .i32 y2, .int .i32 y3] 23)).cell? ⟨w3.heap.size, 2, none⟩ = some (.int .i32 x2) := hn3.cell 2
    have f23 : (w6.alloc (.cells #[.int .i32 y0, .int .i32 y1, .int .i32 y2, .int .i32 y3] 23)).cell? ⟨w3.heap.size, 3, none⟩ = some (.int .i32 x3) := hn3.cell 3
    have f24 : (w6.alloc (.cells #[.int .i32 y0, .int .i32 y1, .int .i32 y2, .int .i32 y3] 23)).cell? ⟨w4.heap.size, 0, none⟩ = some (.int .i32 c0) := hn4.cell 0
    have f25 : (w6.alloc (.cells #[.int .i32 y0, .int .i32 y1, .int .i32 y2, .int .i32 y3] 23)).cell? ⟨w4.heap.size, 1, none⟩ = some (.int .i32 c1) := hn4.cell 1
    have f26 : (w6.alloc (.cells #[.int .i32 y0, .int .i32 y1, .int .i32 y2, .int .i32 y3] 23)).cell? ⟨w4.heap.size, 2, none⟩ = some (.int .i32 c2) := hn4.cell 2
    have f27 : (w6.alloc (.cells #[.int .i32 y0, .int .i32 y1, .int .i32 y2, .int .i32 y3] 23)).cell? ⟨w4.heap.size, 3, none⟩ = some (.int .i32 c3) := hn4.cell 3
    have f28 : (w6.alloc (.cells #[.int .i32 y0, .int .i32 y1, .int .i32 y2, .int .i32 y3] 23)).cell? ⟨w5.heap.size, 0, none⟩ = some (.int .i32 d0) := hn5.cell 0
    have f29 : (w6.alloc (.cells #[.int .i32 y0, .int .i32 y1, .int .i32 y2, .int .i32 y3] 23)).cell? ⟨w5.heap.size, 1, none⟩ = some (.int .i32 d1) := hn5.cell 1
    have f30 : (w6.alloc (.cells #[.int .i32 y0, .int .i32 y1, .int .i32 y2, .int .i32 y3] 23)).cell? ⟨w5.heap.size, 2, none⟩ = some (.int .i32 d2) := hn5.cell 2
    have f31 : (w6.alloc (.cells #[.int .i32 y0, .int .i32 y1, .int .i32 y2, .int .i32 y3] 23)).cell? ⟨w5.heap.size, 3, none⟩ = some (.int .i32 d3) := hn5.cell 3
    have f32 : (w6.alloc (.cells #[.int .i32 y0, .int .i32 y1, .int .i32 y2, .int .i32 y3] 23)).cell? ⟨w6.heap.size, 0, none⟩ = some (.int .i32 y0) := hn6.cell 0
    have f33 : (w6.alloc (.cells #[.int .i32 y0, .int .i32 y1, .int .i32 y2, .int .i32 y3] 23)).cell? ⟨w6.heap.size, 1, none⟩ = some (.int .i32 y1) := hn6.cell 1
    have f34 : (w6.alloc (.cells #[.int .i32 y0, .int .i32 y1, .int .i32 y2, .int .i32 y3] 23)).cell? ⟨w6.heap.size, 2, none⟩ = some (.int .i32 y2) := hn6.cell 2
    have f35 : (w6.alloc (.cells #[.int .i32 y0, .int .i32 y1, .int .i32 y2, .int .i32 y3] 23)).cell? ⟨w6.heap.size, 3, none⟩ = some (.int .i32 y3) := hn6.cell 3
    go_wp2
    go_ret
    exact ⟨rfl, hb⟩
  · obtain ⟨rfl, rfl, rfl, rfl⟩ := FE
    have dd : decide (0 < n3 + n4 + n5 + n6 + n7) = false := by simpa using Z
    clear Z
    go_enter Try.func4, Try.ntmps4
    have hp0 : Blk (w.alloc (.cells #[.int .i32 a0, .int .i32 a1, .int .i32 a2, .int .i32 a3] 23)) w.heap.size 23 #[.int .i32 a0, .int .i32 a1, .int .i32 a2, .int .i32 a3] := Blk.new w _ _
    have hb : Below w.heap.size w (w.alloc (.cells #[.int .i32 a0, .int .i32 a1, .int .i32 a2, .int .i32 a3] 23)) := (Below.refl _ w).alloc (Nat.le_refl _) _
    replace hp0 := hp0.alloc (.cells #[.int .i32 b0, .int .i32 b1, .int .i32 b2, .int .i32 b3] 23)
    have hp1 : Blk ((w.alloc (.cells #[.int .i32 a0, .int .i32 a1, .int .i32 a2, .int .i32 a3] 23)).alloc (.cells #[.int .i32 b0, .int .i32 b1, .int .i32 b2, .int .i32 b3] 23)) (w.heap.size + 1) 23 #[.int .i32 b0, .int .i32 b1, .int .i32 b2, .int .i32 b3] := by have := Blk.new (w.alloc (.cells #[.int .i32 a0, .int .i32 a1, .int .i32 a2, .int .i32 a3] 23)) 23 #[.int .i32 b0, .int .i32 b1, .int .i32 b2, .int .i32 b3]; simpa using this
    replace hb := hb.alloc hb.size (.cells #[.int .i32 b0, .int .i32 b1, .int .i32 b2, .int .i32 b3] 23)
    go_upto_region 1 with fail
    generalize (w.alloc (.cells #[.int .i32 a0, .int .i32 a1, .int .i32 a2, .int .i32 a3] 23)).alloc (.cells #[.int .i32 b0, .int .i32 b1, .int .i32 b2, .int .i32 b3] 23) = W0 at *
    go_cut [5, 6] from 19 to 24 (fun x y wx => ∃ g : Nat, x = .pointer (some ⟨g, 0, none⟩) ∧ y = .int .i64 0 ∧ Blk wx g 23 #[.int .i32 a0, .int .i32 a1, .int .i32 a2, .int .i32 a3] ∧ Blk wx (w.heap.size) 23 #[.int .i32 a0, .int .i32 a1, .int .i32 a2, .int .i32 a3] ∧ Blk wx (w.heap.size + 1) 23 #[.int .i32 b0, .int .i32 b1, .int .i32 b2, .int .i32 b3] ∧ Below w.heap.size w wx)
    case first =>
      refine wp_region_noPanic ?_
      refine wp_region_held_drew (S := (fun w' : World => w'.cell? ⟨w.heap.size, 0, none⟩ = some (.int .i32 a0) ∧ w'.cell? ⟨w.heap.size, 1, none⟩ = some (.int .i32 a1) ∧ w'.cell? ⟨w.heap.size, 2, none⟩ = some (.int .i32 a2) ∧ w'.cell? ⟨w.heap.size, 3, none⟩ = some (.int .i32 a3) ∧ w'.cell? ⟨w.heap.size + 1, 0, none⟩ = some (.int .i32 b0) ∧ w'.cell? ⟨w.heap.size + 1, 1, none⟩ = some (.int .i32 b1) ∧ w'.cell? ⟨w.heap.size + 1, 2, none⟩ = some (.int .i32 b2) ∧ w'.cell? ⟨w.heap.size + 1, 3, none⟩ = some (.int .i32 b3))) (by kernel_rfl) ⟨hp0.cell 0, hp0.cell 1, hp0.cell 2, hp0.cell 3, hp1.cell 0, hp1.cell 1, hp1.cell 2, hp1.cell 3⟩ (fun hHeld => ?_)
      refine (show wpAnyH _ _ _ _ _ 9 _ _ _ from ?_)
      try (simp only [Act.put, List.setIfInBounds_toArray, List.set_cons_zero, List.set_cons_succ])
      replace hp0 := hp0.drew
      replace hp1 := hp1.drew
      replace hb := hb.drew
      generalize W0.drew = W49 at *
      refine tk 0 hHeld ?_
      refine rd2 1 6 (fun K hK => ?hc50q1) (fun K hK => ?hc50q6)
      case hc50q1 =>
        go_simp
        refine (HO.out _).mono ?_
        rintro e v51 ⟨rfl, bb⟩
        go_wp2_with fail
        replace hp0 := hp0.below bb hp0.lt
        replace hp1 := hp1.below bb hp1.lt
        replace hb := hb.on bb
        clear bb
        refine hK.out _ _ ⟨hp0.cell 0, hp0.cell 1, hp0.cell 2, hp0.cell 3, hp1.cell 0, hp1.cell 1, hp1.cell 2, hp1.cell 3⟩ (fun hHeld => ?_)
        clear hK K
        try (simp only [Act.put, List.setIfInBounds_toArray, List.set_cons_zero, List.set_cons_succ])
        refine rd2 2 6 (fun K hK => ?hc52q2) (fun K hK => ?hc52q6)
        case hc52q2 =>
          go_simp
          refine (H1.out _).mono ?_
          rintro e v53 ⟨rfl, bb⟩
          go_wp2_with fail
          replace hp0 := hp0.below bb hp0.lt
          replace hp1 := hp1.below bb hp1.lt
          replace hb := hb.on bb
          clear bb
          refine hK.out _ _ ⟨hp0.cell 0, hp0.cell 1, hp0.cell 2, hp0.cell 3, hp1.cell 0, hp1.cell 1, hp1.cell 2, hp1.cell 3⟩ (fun hHeld => ?_)
          clear hK K
          try (simp only [Act.put, List.setIfInBounds_toArray, List.set_cons_zero, List.set_cons_succ])
          refine tk 3 hHeld ?_
          refine tk 4 hHeld ?_
          refine tk 5 hHeld ?_
          refine rd1 6 (fun K hK => ?_)
          go_simp
          try go_wp2_with fail
          have lb55 := hb.size
          have l55hp0 := hp0.lt
          have l55hp1 := hp1.lt
          replace hp0 := hp0.alloc (.cells #[.int .i32 0, .int .i32 0, .int .i32 0, .int .i32 0] 23)
          replace hp1 := hp1.alloc (.cells #[.int .i32 0, .int .i32 0, .int .i32 0, .int .i32 0] 23)
          have n55 := Blk.new v53 23 #[.int .i32 0, .int .i32 0, .int .i32 0, .int .i32 0]
          replace hb := hb.alloc hb.size (.cells #[.int .i32 0, .int .i32 0, .int .i32 0, .int .i32 0] 23)
          generalize v53.alloc (.cells #[.int .i32 0, .int .i32 0, .int .i32 0, .int .i32 0] 23) = v55 at *
          generalize v53.heap.size = g55 at *
          refine hK.out _ _ ⟨hp0.cell 0, hp0.cell 1, hp0.cell 2, hp0.cell 3, hp1.cell 0, hp1.cell 1, hp1.cell 2, hp1.cell 3⟩ (fun hHeld => ?_)
          clear hK K
          try (simp only [Act.put, List.setIfInBounds_toArray, List.set_cons_zero, List.set_cons_succ])
          refine rd1 7 (fun K hK => ?_)
          have c0 : v55.cell? ⟨g55, 0, none⟩ = some (.int .i32 0) := n55.cell 0
          have z0 := n55.frozen 0
          have c1 : v55.cell? ⟨g55, 1, none⟩ = some (.int .i32 0) := n55.cell 1
          have z1 := n55.frozen 1
          have c2 : v55.cell? ⟨g55, 2, none⟩ = some (.int .i32 0) := n55.cell 2
          have z2 := n55.frozen 2
          have c3 : v55.cell? ⟨g55, 3, none⟩ = some (.int .i32 0) := n55.cell 3
          have z3 := n55.frozen 3
          go_simp
          try go_wp2_with fail
          replace hp0 := ((((hp0.far (p := ⟨g55, 0, none⟩) (by dsimp only; omega) (.int .i32 a0)).far (p := ⟨g55, 1, none⟩) (by dsimp only; omega) (.int .i32 a1)).far (p := ⟨g55, 2, none⟩) (by dsimp only; omega) (.int .i32 a2)).far (p := ⟨g55, 3, none⟩) (by dsimp only; omega) (.int .i32 a3))
          replace hp1 := ((((hp1.far (p := ⟨g55, 0, none⟩) (by dsimp only; omega) (.int .i32 a0)).far (p := ⟨g55, 1, none⟩) (by dsimp only; omega) (.int .i32 a1)).far (p := ⟨g55, 2, none⟩) (by dsimp only; omega) (.int .i32 a2)).far (p := ⟨g55, 3, none⟩) (by dsimp only; omega) (.int .i32 a3))
          replace n55 := ((((n55.set_ 0 (.int .i32 a0)).set_ 1 (.int .i32 a1)).set_ 2 (.int .i32 a2)).set_ 3 (.int .i32 a3))
          replace hb := ((((hb.setCell (p := ⟨g55, 0, none⟩) (by dsimp only; omega) (.int .i32 a0)).setCell (p := ⟨g55, 1, none⟩) (by dsimp only; omega) (.int .i32 a1)).setCell (p := ⟨g55, 2, none⟩) (by dsimp only; omega) (.int .i32 a2)).setCell (p := ⟨g55, 3, none⟩) (by dsimp only; omega) (.int .i32 a3))
          clear c0 z0 c1 z1 c2 z2 c3 z3
          generalize ((((v55.setCell ⟨g55, 0, none⟩ (.int .i32 a0)).setCell ⟨g55, 1, none⟩ (.int .i32 a1)).setCell ⟨g55, 2, none⟩ (.int .i32 a2)).setCell ⟨g55, 3, none⟩ (.int .i32 a3)) = v57 at *
          refine hK.out _ _ ⟨hp0.cell 0, hp0.cell 1, hp0.cell 2, hp0.cell 3, hp1.cell 0, hp1.cell 1, hp1.cell 2, hp1.cell 3⟩ (fun hHeld => ?_)
          clear hK K
          try (simp only [Act.put, List.setIfInBounds_toArray, List.set_cons_zero, List.set_cons_succ])
          refine tk 8 hHeld ?_
          refine wpAnyH_done ?hru58 ?hqu58 _
          case hru58 => kernel_rfl
          refine NoPanic.normal ?_
          try go_wp2_with fail
          go_meet
          exact ⟨g55, rfl, rfl, n55, hp0, hp1, hb⟩
        case hc52q6 =>
          go_simp
          try go_wp2_with fail
          have lb59 := hb.size
          have l59hp0 := hp0.lt
          have l59hp1 := hp1.lt
          replace hp0 := hp0.alloc (.cells #[.int .i32 0, .int .i32 0, .int .i32 0, .int .i32 0] 23)
          replace hp1 := hp1.alloc (.cells #[.int .i32 0, .int .i32 0, .int .i32 0, .int .i32 0] 23)
          have n59 := Blk.new v51 23 #[.int .i32 0, .int .i32 0, .int .i32 0, .int .i32 0]
          replace hb := hb.alloc hb.size (.cells #[.int .i32 0, .int .i32 0, .int .i32 0, .int .i32 0] 23)
          generalize v51.alloc (.cells #[.int .i32 0, .int .i32 0, .int .i32 0, .int .i32 0] 23) = v59 at *
          generalize v51.heap.size = g59 at *
          refine hK.out _ _ ⟨hp0.cell 0, hp0.cell 1, hp0.cell 2, hp0.cell 3, hp1.cell 0, hp1.cell 1, hp1.cell 2, hp1.cell 3⟩ (fun hHeld => ?_)
          clear hK K
          try (simp only [Act.put, List.setIfInBounds_toArray, List.set_cons_zero, List.set_cons_succ])
          refine rd1 2 (fun K hK => ?_)
          go_simp
          refine (H1.out _).mono ?_
          rintro e v61 ⟨rfl, bb⟩
          go_wp2_with fail
          replace hp0 := hp0.below bb hp0.lt
          replace hp1 := hp1.below bb hp1.lt
          replace n59 := n59.below bb n59.lt
          replace hb := hb.on bb
          clear bb
          refine hK.out _ _ ⟨hp0.cell 0, hp0.cell 1, hp0.cell 2, hp0.cell 3, hp1.cell 0, hp1.cell 1, hp1.cell 2, hp1.cell 3⟩ (fun hHeld => ?_)
          clear hK K
          try (simp only [Act.put, List.setIfInBounds_toArray, List.set_cons_zero, List.set_cons_succ])
          refine tk 3 hHeld ?_
          refine tk 4 hHeld ?_
          refine tk 5 hHeld ?_
          refine rd1 7 (fun K hK => ?_)
          have c0 : v61.cell? ⟨g59, 0, none⟩ = some (.int .i32 0) := n59.cell 0
          have z0 := n59.frozen 0
          have c1 : v61.cell? ⟨g59, 1, none⟩ = some (.int .i32 0) := n59.cell 1
          have z1 := n59.frozen 1
          have c2 : v61.cell? ⟨g59, 2, none⟩ = some (.int .i32 0) := n59.cell 2
          have z2 := n59.frozen 2
          have c3 : v61.cell? ⟨g59, 3, none⟩ = some (.int .i32 0) := n59.cell 3
          have z3 := n59.frozen 3
          go_simp
          try go_wp2_with fail
          replace hp0 := ((((hp0.far (p := ⟨g59, 0, none⟩) (by dsimp only; omega) (.int .i32 a0)).far (p := ⟨g59, 1, none⟩) (by dsimp only; omega) (.int .i32 a1)).far (p := ⟨g59, 2, none⟩) (by dsimp only; omega) (.int .i32 a2)).far (p := ⟨g59, 3, none⟩) (by dsimp only; omega) (.int .i32 a3))
          replace hp1 := ((((hp1.far (p := ⟨g59, 0, none⟩) (by dsimp only; omega) (.int .i32 a0)).far (p := ⟨g59, 1, none⟩) (by dsimp only; omega) (.int .i32 a1)).far (p := ⟨g59, 2, none⟩) (by dsimp only; omega) (.int .i32 a2)).far (p := ⟨g59, 3, none⟩) (by dsimp only; omega) (.int .i32 a3))
          replace n59 := ((((n59.set_ 0 (.int .i32 a0)).set_ 1 (.int .i32 a1)).set_ 2 (.int .i32 a2)).set_ 3 (.int .i32 a3))
          replace hb := ((((hb.setCell (p := ⟨g59, 0, none⟩) (by dsimp only; omega) (.int .i32 a0)).setCell (p := ⟨g59, 1, none⟩) (by dsimp only; omega) (.int .i32 a1)).setCell (p := ⟨g59, 2, none⟩) (by dsimp only; omega) (.int .i32 a2)).setCell (p := ⟨g59, 3, none⟩) (by dsimp only; omega) (.int .i32 a3))
          clear c0 z0 c1 z1 c2 z2 c3 z3
          generalize ((((v61.setCell ⟨g59, 0, none⟩ (.int .i32 a0)).setCell ⟨g59, 1, none⟩ (.int .i32 a1)).setCell ⟨g59, 2, none⟩ (.int .i32 a2)).setCell ⟨g59, 3, none⟩ (.int .i32 a3)) = v63 at *
          refine hK.out _ _ ⟨hp0.cell 0, hp0.cell 1, hp0.cell 2, hp0.cell 3, hp1.cell 0, hp1.cell 1, hp1.cell 2, hp1.cell 3⟩ (fun hHeld => ?_)
          clear hK K
          try (simp only [Act.put, List.setIfInBounds_toArray, List.set_cons_zero, List.set_cons_succ])
          refine tk 8 hHeld ?_
          refine wpAnyH_done ?hru64 ?hqu64 _
          case hru64 => kernel_rfl
          refine NoPanic.normal ?_
          try go_wp2_with fail
          go_meet
          exact ⟨g59, rfl, rfl, n59, hp0, hp1, hb⟩
      case hc50q6 =>
        go_simp
        try go_wp2_with fail
        have lb65 := hb.size
        have l65hp0 := hp0.lt
        have l65hp1 := hp1.lt
        replace hp0 := hp0.alloc (.cells #[.int .i32 0, .int .i32 0, .int .i32 0, .int .i32 0] 23)
        replace hp1 := hp1.alloc (.cells #[.int .i32 0, .int .i32 0, .int .i32 0, .int .i32 0] 23)
        have n65 := Blk.new W49 23 #[.int .i32 0, .int .i32 0, .int .i32 0, .int .i32 0]
        replace hb := hb.alloc hb.size (.cells #[.int .i32 0, .int .i32 0, .int .i32 0, .int .i32 0] 23)
        generalize W49.alloc (.cells #[.int .i32 0, .int .i32 0, .int .i32 0, .int .i32 0] 23) = v65 at *
        generalize W49.heap.size = g65 at *
        refine hK.out _ _ ⟨hp0.cell 0, hp0.cell 1, hp0.cell 2, hp0.cell 3, hp1.cell 0, hp1.cell 1, hp1.cell 2, hp1.cell 3⟩ (fun hHeld => ?_)
        clear hK K
        try (simp only [Act.put, List.setIfInBounds_toArray, List.set_cons_zero, List.set_cons_succ])
        refine rd1 1 (fun K hK => ?_)
        go_simp
        refine (HO.out _).mono ?_
        rintro e v67 ⟨rfl, bb⟩
        go_wp2_with fail
        replace hp0 := hp0.below bb hp0.lt
        replace hp1 := hp1.below bb hp1.lt
        replace n65 := n65.below bb n65.lt
        replace hb := hb.on bb
        clear bb
        refine hK.out _ _ ⟨hp0.cell 0, hp0.cell 1, hp0.cell 2, hp0.cell 3, hp1.cell 0, hp1.cell 1, hp1.cell 2, hp1.cell 3⟩ (fun hHeld => ?_)
        clear hK K
        try (simp only [Act.put, List.setIfInBounds_toArray, List.set_cons_zero, List.set_cons_succ])
        refine rd1 2 (fun K hK => ?_)
        go_simp
        refine (H1.out _).mono ?_
        rintro e v69 ⟨rfl, bb⟩
        go_wp2_with fail
        replace hp0 := hp0.below bb hp0.lt
        replace hp1 := hp1.below bb hp1.lt
        replace n65 := n65.below bb n65.lt
        replace hb := hb.on bb
        clear bb
        refine hK.out _ _ ⟨hp0.cell 0, hp0.cell 1, hp0.cell 2, hp0.cell 3, hp1.cell 0, hp1.cell 1, hp1.cell 2, hp1.cell 3⟩ (fun hHeld => ?_)
        clear hK K
        try (simp only [Act.put, List.setIfInBounds_toArray, List.set_cons_zero, List.set_cons_succ])
        refine tk 3 hHeld ?_
        refine tk 4 hHeld ?_
        refine tk 5 hHeld ?_
        refine rd1 7 (fun K hK => ?_)
        have c0 : v69.cell? ⟨g65, 0, none⟩ = some (.int .i32 0) := n65.cell 0
        have z0 := n65.frozen 0
        have c1 : v69.cell? ⟨g65, 1, none⟩ = some (.int .i32 0) := n65.cell 1
        have z1 := n65.frozen 1
        have c2 : v69.cell? ⟨g65, 2, none⟩ = some (.int .i32 0) := n65.cell 2
        have z2 := n65.frozen 2
        have c3 : v69.cell? ⟨g65, 3, none⟩ = some (.int .i32 0) := n65.cell 3
        have z3 := n65.frozen 3
        go_simp
        try go_wp2_with fail
        replace hp0 := ((((hp0.far (p := ⟨g65, 0, none⟩) (by dsimp only; omega) (.int .i32 a0)).far (p := ⟨g65, 1, none⟩) (by dsimp only; omega) (.int .i32 a1)).far (p := ⟨g65, 2, none⟩) (by dsimp only; omega) (.int .i32 a2)).far (p := ⟨g65, 3, none⟩) (by dsimp only; omega) (.int .i32 a3))
        replace hp1 := ((((hp1.far (p := ⟨g65, 0, none⟩) (by dsimp only; omega) (.int .i32 a0)).far (p := ⟨g65, 1, none⟩) (by dsimp only; omega) (.int .i32 a1)).far (p := ⟨g65, 2, none⟩) (by dsimp only; omega) (.int .i32 a2)).far (p := ⟨g65, 3, none⟩) (by dsimp only; omega) (.int .i32 a3))
        replace n65 := ((((n65.set_ 0 (.int .i32 a0)).set_ 1 (.int .i32 a1)).set_ 2 (.int .i32 a2)).set_ 3 (.int .i32 a3))
        replace hb := ((((hb.setCell (p := ⟨g65, 0, none⟩) (by dsimp only; omega) (.int .i32 a0)).setCell (p := ⟨g65, 1, none⟩) (by dsimp only; omega) (.int .i32 a1)).setCell (p := ⟨g65, 2, none⟩) (by dsimp only; omega) (.int .i32 a2)).setCell (p := ⟨g65, 3, none⟩) (by dsimp only; omega) (.int .i32 a3))
        clear c0 z0 c1 z1 c2 z2 c3 z3
        generalize ((((v69.setCell ⟨g65, 0, none⟩ (.int .i32 a0)).setCell ⟨g65, 1, none⟩ (.int .i32 a1)).setCell ⟨g65, 2, none⟩ (.int .i32 a2)).setCell ⟨g65, 3, none⟩ (.int .i32 a3)) = v71 at *
        refine hK.out _ _ ⟨hp0.cell 0, hp0.cell 1, hp0.cell 2, hp0.cell 3, hp1.cell 0, hp1.cell 1, hp1.cell 2, hp1.cell 3⟩ (fun hHeld => ?_)
        clear hK K
        try (simp only [Act.put, List.setIfInBounds_toArray, List.set_cons_zero, List.set_cons_succ])
        refine tk 8 hHeld ?_
        refine wpAnyH_done ?hru72 ?hqu72 _
        case hru72 => kernel_rfl
        refine NoPanic.normal ?_
        try go_wp2_with fail
        go_meet
        exact ⟨g65, rfl, rfl, n65, hp0, hp1, hb⟩
    clear hp0 hp1 hb
    obtain ⟨g1, rfl, rfl, hq1, hp0, hp1, hb⟩ := hcut
    generalize wc = U1 at *
    have f0 : (U1).cell? ⟨w.heap.size, 0, none⟩ = some (.int .i32 a0) := hp0.cell 0
    have f1 : (U1).cell? ⟨w.heap.size, 1, none⟩ = some (.int .i32 a1) := hp0.cell 1
    have f2 : (U1).cell? ⟨w.heap.size, 2, none⟩ = some (.int .i32 a2) := hp0.cell 2
    have f3 : (U1).cell? ⟨w.heap.size, 3, none⟩ = some (.int .i32 a3) := hp0.cell 3
    have f4 : (U1).cell? ⟨w.heap.size + 1, 0, none⟩ = some (.int .i32 b0) := hp1.cell 0
    have f5 : (U1).cell? ⟨w.heap.size + 1, 1, none⟩ = some (.int .i32 b1) := hp1.cell 1
    have f6 : (U1).cell? ⟨w.heap.size + 1, 2, none⟩ = some (.int .i32 b2) := hp1.cell 2
    have f7 : (U1).cell? ⟨w.heap.size + 1, 3, none⟩ = some (.int .i32 b3) := hp1.cell 3
    have f8 : (U1).cell? ⟨g1, 0, none⟩ = some (.int .i32 a0) := hq1.cell 0
    have f9 : (U1).cell? ⟨g1, 1, none⟩ = some (.int .i32 a1) := hq1.cell 1
    have f10 : (U1).cell? ⟨g1, 2, none⟩ = some (.int .i32 a2) := hq1.cell 2
    have f11 : (U1).cell? ⟨g1, 3, none⟩ = some (.int .i32 a3) := hq1.cell 3
    go_upto_region 2 with fail
    clear f0 f1 f2 f3 f4 f5 f6 f7 f8 f9 f10 f11
    go_cut [7, 8] from 25 to 30 (fun x y wx => ∃ g : Nat, x = .pointer (some ⟨g, 0, none⟩) ∧ y = .int .i64 0 ∧ Blk wx g 23 #[.int .i32 a0, .int .i32 a1, .int .i32 a2, .int .i32 a3] ∧ Blk wx (w.heap.size) 23 #[.int .i32 a0, .int .i32 a1, .int .i32 a2, .int .i32 a3] ∧ Blk wx (w.heap.size + 1) 23 #[.int .i32 b0, .int .i32 b1, .int .i32 b2, .int .i32 b3] ∧ Blk wx (g1) 23 #[.int .i32 a0, .int .i32 a1, .int .i32 a2, .int .i32 a3] ∧ Below w.heap.size w wx)
    case first =>
      refine wp_region_noPanic ?_
      refine wp_region_held_drew (S := (fun w' : World => w'.cell? ⟨w.heap.size, 0, none⟩ = some (.int .i32 a0) ∧ w'.cell? ⟨w.heap.size, 1, none⟩ = some (.int .i32 a1) ∧ w'.cell? ⟨w.heap.size, 2, none⟩ = some (.int .i32 a2) ∧ w'.cell? ⟨w.heap.size, 3, none⟩ = some (.int .i32 a3) ∧ w'.cell? ⟨w.heap.size + 1, 0, none⟩ = some (.int .i32 b0) ∧ w'.cell? ⟨w.heap.size + 1, 1, none⟩ = some (.int .i32 b1) ∧ w'.cell? ⟨w.heap.size + 1, 2, none⟩ = some (.int .i32 b2) ∧ w'.cell? ⟨w.heap.size + 1, 3, none⟩ = some (.int .i32 b3) ∧ w'.cell? ⟨g1, 0, none⟩ = some (.int .i32 a0) ∧ w'.cell? ⟨g1, 1, none⟩ = some (.int .i32 a1) ∧ w'.cell? ⟨g1, 2, none⟩ = some (.int .i32 a2) ∧ w'.cell? ⟨g1, 3, none⟩ = some (.int .i32 a3))) (by kernel_rfl) ⟨hp0.cell 0, hp0.cell 1, hp0.cell 2, hp0.cell 3, hp1.cell 0, hp1.cell 1, hp1.cell 2, hp1.cell 3, hq1.cell 0, hq1.cell 1, hq1.cell 2, hq1.cell 3⟩ (fun hHeld => ?_)
      refine (show wpAnyH _ _ _ _ _ 9 _ _ _ from ?_)
      try (simp only [Act.put, List.setIfInBounds_toArray, List.set_cons_zero, List.set_cons_succ])
      replace hp0 := hp0.drew
      replace hp1 := hp1.drew
      replace hq1 := hq1.drew
      replace hb := hb.drew
      generalize U1.drew = W73 at *
      refine tk 1 hHeld ?_
      refine rd2 0 6 (fun K hK => ?hc74q0) (fun K hK => ?hc74q6)
      case hc74q0 =>
        go_simp
        refine (HO.out _).mono ?_
        rintro e v75 ⟨rfl, bb⟩
        go_wp2_with fail
        replace hp0 := hp0.below bb hp0.lt
        replace hp1 := hp1.below bb hp1.lt
        replace hq1 := hq1.below bb hq1.lt
        replace hb := hb.on bb
        clear bb
        refine hK.out _ _ ⟨hp0.cell 0, hp0.cell 1, hp0.cell 2, hp0.cell 3, hp1.cell 0, hp1.cell 1, hp1.cell 2, hp1.cell 3, hq1.cell 0, hq1.cell 1, hq1.cell 2, hq1.cell 3⟩ (fun hHeld => ?_)
        clear hK K
        try (simp only [Act.put, List.setIfInBounds_toArray, List.set_cons_zero, List.set_cons_succ])
        refine rd2 2 6 (fun K hK => ?hc76q2) (fun K hK => ?hc76q6)
        case hc76q2 =>
          go_simp
          refine (H2.out _).mono ?_
          rintro e v77 ⟨rfl, bb⟩
          go_wp2_with fail
          replace hp0 := hp0.below bb hp0.lt
          replace hp1 := hp1.below bb hp1.lt
          replace hq1 := hq1.below bb hq1.lt
          replace hb := hb.on bb
          clear bb
          refine hK.out _ _ ⟨hp0.cell 0, hp0.cell 1, hp0.cell 2, hp0.cell 3, hp1.cell 0, hp1.cell 1, hp1.cell 2, hp1.cell 3, hq1.cell 0, hq1.cell 1, hq1.cell 2, hq1.cell 3⟩ (fun hHeld => ?_)
          clear hK K
          try (simp only [Act.put, List.setIfInBounds_toArray, List.set_cons_zero, List.set_cons_succ])
          refine tk 3 hHeld ?_
          refine tk 4 hHeld ?_
          refine tk 5 hHeld ?_
          refine rd1 6 (fun K hK => ?_)
          go_simp
          try go_wp2_with fail
          have lb79 := hb.size
          have l79hp0 := hp0.lt
          have l79hp1 := hp1.lt
          have l79hq1 := hq1.lt
          replace hp0 := hp0.alloc (.cells #[.int .i32 0, .int .i32 0, .int .i32 0, .int .i32 0] 23)
          replace hp1 := hp1.alloc (.cells #[.int .i32 0, .int .i32 0, .int .i32 0, .int .i32 0] 23)
          replace hq1 := hq1.alloc (.cells #[.int .i32 0, .int .i32 0, .int .i32 0, .int .i32 0] 23)
          have n79 := Blk.new v77 23 #[.int .i32 0, .int .i32 0, .int .i32 0, .int .i32 0]
          replace hb := hb.alloc hb.size (.cells #[.int .i32 0, .int .i32 0, .int .i32 0, .int .i32 0] 23)
          generalize v77.alloc (.cells #[.int .i32 0, .int .i32 0, .int .i32 0, .int .i32 0] 23) = v79 at *
          generalize v77.heap.size = g79 at *
          refine hK.out _ _ ⟨hp0.cell 0, hp0.cell 1, hp0.cell 2, hp0.cell 3, hp1.cell 0, hp1.cell 1, hp1.cell 2, hp1.cell 3, hq1.cell 0, hq1.cell 1, hq1.cell 2, hq1.cell 3⟩ (fun hHeld => ?_)
          clear hK K
          try (simp only [Act.put, List.setIfInBounds_toArray, List.set_cons_zero, List.set_cons_succ])
          refine rd1 7 (fun K hK => ?_)
          have c0 : v79.cell? ⟨g79, 0, none⟩ = some (.int .i32 0) := n79.cell 0
          have z0 := n79.frozen 0
          have c1 : v79.cell? ⟨g79, 1, none⟩ = some (.int .i32 0) := n79.cell 1
          have z1 := n79.frozen 1
          have c2 : v79.cell? ⟨g79, 2, none⟩ = some (.int .i32 0) := n79.cell 2
          have z2 := n79.frozen 2
          have c3 : v79.cell? ⟨g79, 3, none⟩ = some (.int .i32 0) := n79.cell 3
          have z3 := n79.frozen 3
          go_simp
          try go_wp2_with fail
          replace hp0 := ((((hp0.far (p := ⟨g79, 0, none⟩) (by dsimp only; omega) (.int .i32 a0)).far (p := ⟨g79, 1, none⟩) (by dsimp only; omega) (.int .i32 a1)).far (p := ⟨g79, 2, none⟩) (by dsimp only; omega) (.int .i32 a2)).far (p := ⟨g79, 3, none⟩) (by dsimp only; omega) (.int .i32 a3))
          replace hp1 := ((((hp1.far (p := ⟨g79, 0, none⟩) (by dsimp only; omega) (.int .i32 a0)).far (p := ⟨g79, 1, none⟩) (by dsimp only; omega) (.int .i32 a1)).far (p := ⟨g79, 2, none⟩) (by dsimp only; omega) (.int .i32 a2)).far (p := ⟨g79, 3, none⟩) (by dsimp only; omega) (.int .i32 a3))
          replace hq1 := ((((hq1.far (p := ⟨g79, 0, none⟩) (by dsimp only; omega) (.int .i32 a0)).far (p := ⟨g79, 1, none⟩) (by dsimp only; omega) (.int .i32 a1)).far (p := ⟨g79, 2, none⟩) (by dsimp only; omega) (.int .i32 a2)).far (p := ⟨g79, 3, none⟩) (by dsimp only; omega) (.int .i32 a3))
          replace n79 := ((((n79.set_ 0 (.int .i32 a0)).set_ 1 (.int .i32 a1)).set_ 2 (.int .i32 a2)).set_ 3 (.int .i32 a3))
          replace hb := ((((hb.setCell (p := ⟨g79, 0, none⟩) (by dsimp only; omega) (.int .i32 a0)).setCell (p := ⟨g79, 1, none⟩) (by dsimp only; omega) (.int .i32 a1)).setCell (p := ⟨g79, 2, none⟩) (by dsimp only; omega) (.int .i32 a2)).setCell (p := ⟨g79, 3, none⟩) (by dsimp only; omega) (.int .i32 a3))
          clear c0 z0 c1 z1 c2 z2 c3 z3
          generalize ((((v79.setCell ⟨g79, 0, none⟩ (.int .i32 a0)).setCell ⟨g79, 1, none⟩ (.int .i32 a1)).setCell ⟨g79, 2, none⟩ (.int .i32 a2)).setCell ⟨g79, 3, none⟩ (.int .i32 a3)) = v81 at *
          refine hK.out _ _ ⟨hp0.cell 0, hp0.cell 1, hp0.cell 2, hp0.cell 3, hp1.cell 0, hp1.cell 1, hp1.cell 2, hp1.cell 3, hq1.cell 0, hq1.cell 1, hq1.cell 2, hq1.cell 3⟩ (fun hHeld => ?_)
          clear hK K
          try (simp only [Act.put, List.setIfInBounds_toArray, List.set_cons_zero, List.set_cons_succ])
          refine tk 8 hHeld ?_
          refine wpAnyH_done ?hru82 ?hqu82 _
          case hru82 => kernel_rfl
          refine NoPanic.normal ?_
          try go_wp2_with fail
          go_meet
          exact ⟨g79, rfl, rfl, n79, hp0, hp1, hq1, hb⟩
        case hc76q6 =>
          go_simp
          try go_wp2_with fail
          have lb83 := hb.size
          have l83hp0 := hp0.lt
          have l83hp1 := hp1.lt
          have l83hq1 := hq1.lt
          replace hp0 := hp0.alloc (.cells #[.int .i32 0, .int .i32 0, .int .i32 0, .int .i32 0] 23)
          replace hp1 := hp1.alloc (.cells #[.int .i32 0, .int .i32 0, .int .i32 0, .int .i32 0] 23)
          replace hq1 := hq1.alloc (.cells #[.int .i32 0, .int .i32 0, .int .i32 0, .int .i32 0] 23)
          have n83 := Blk.new v75 23 #[.int .i32 0, .int .i32 0, .int .i32 0, .int .i32 0]
          replace hb := hb.alloc hb.size (.cells #[.int .i32 0, .int .i32 0, .int .i32 0, .int .i32 0] 23)
          generalize v75.alloc (.cells #[.int .i32 0, .int .i32 0, .int .i32 0, .int .i32 0] 23) = v83 at *
          generalize v75.heap.size = g83 at *
          refine hK.out _ _ ⟨hp0.cell 0, hp0.cell 1, hp0.cell 2, hp0.cell 3, hp1.cell 0, hp1.cell 1, hp1.cell 2, hp1.cell 3, hq1.cell 0, hq1.cell 1, hq1.cell 2, hq1.cell 3⟩ (fun hHeld => ?_)
          clear hK K
          try (simp only [Act.put, List.setIfInBounds_toArray, List.set_cons_zero, List.set_cons_succ])
          refine rd1 2 (fun K hK => ?_)
          go_simp
          refine (H2.out _).mono ?_
          rintro e v85 ⟨rfl, bb⟩
          go_wp2_with fail
          replace hp0 := hp0.below bb hp0.lt
          replace hp1 := hp1.below bb hp1.lt
          replace hq1 := hq1.below bb hq1.lt
          replace n83 := n83.below bb n83.lt
          replace hb := hb.on bb
          clear bb
          refine hK.out _ _ ⟨hp0.cell 0, hp0.cell 1, hp0.cell 2, hp0.cell 3, hp1.cell 0, hp1.cell 1, hp1.cell 2, hp1.cell 3, hq1.cell 0, hq1.cell 1, hq1.cell 2, hq1.cell 3⟩ (fun hHeld => ?_)
          clear hK K
          try (simp only [Act.put, List.setIfInBounds_toArray, List.set_cons_zero, List.set_cons_succ])
          refine tk 3 hHeld ?_
          refine tk 4 hHeld ?_
          refine tk 5 hHeld ?_
          refine rd1 7 (fun K hK => ?_)
          have c0 : v85.cell? ⟨g83, 0, none⟩ = some (.int .i32 0) := n83.cell 0
          have z0 := n83.frozen 0
          have c1 : v85.cell? ⟨g83, 1, none⟩ = some (.int .i32 0) := n83.cell 1
          have z1 := n83.frozen 1
          have c2 : v85.cell? ⟨g83, 2, none⟩ = some (.int .i32 0) := n83.cell 2
          have z2 := n83.frozen 2
          have c3 : v85.cell? ⟨g83, 3, none⟩ = some (.int .i32 0) := n83.cell 3
          have z3 := n83.frozen 3
          go_simp
          try go_wp2_with fail
          replace hp0 := ((((hp0.far (p := ⟨g83, 0, none⟩) (by dsimp only; omega) (.int .i32 a0)).far (p := ⟨g83, 1, none⟩) (by dsimp only; omega) (.int .i32 a1)).far (p := ⟨g83, 2, none⟩) (by dsimp only; omega) (.int .i32 a2)).far (p := ⟨g83, 3, none⟩) (by dsimp only; omega) (.int .i32 a3))
          replace hp1 := ((((hp1.far (p := ⟨g83, 0, none⟩) (by dsimp only; omega) (.int .i32 a0)).far (p := ⟨g83, 1, none⟩) (by dsimp only; omega) (.int .i32 a1)).far (p := ⟨g83, 2, none⟩) (by dsimp only; omega) (.int .i32 a2)).far (p := ⟨g83, 3, none⟩) (by dsimp only; omega) (.int .i32 a3))
          replace hq1 := ((((hq1.far (p := ⟨g83, 0, none⟩) (by dsimp only; omega) (.int .i32 a0)).far (p := ⟨g83, 1, none⟩) (by dsimp only; omega) (.int .i32 a1)).far (p := ⟨g83, 2, none⟩) (by dsimp only; omega) (.int .i32 a2)).far (p := ⟨g83, 3, none⟩) (by dsimp only; omega) (.int .i32 a3))
          replace n83 := ((((n83.set_ 0 (.int .i32 a0)).set_ 1 (.int .i32 a1)).set_ 2 (.int .i32 a2)).set_ 3 (.int .i32 a3))
          replace hb := ((((hb.setCell (p := ⟨g83, 0, none⟩) (by dsimp only; omega) (.int .i32 a0)).setCell (p := ⟨g83, 1, none⟩) (by dsimp only; omega) (.int .i32 a1)).setCell (p := ⟨g83, 2, none⟩) (by dsimp only; omega) (.int .i32 a2)).setCell (p := ⟨g83, 3, none⟩) (by dsimp only; omega) (.int .i32 a3))
          clear c0 z0 c1 z1 c2 z2 c3 z3
          generalize ((((v85.setCell ⟨g83, 0, none⟩ (.int .i32 a0)).setCell ⟨g83, 1, none⟩ (.int .i32 a1)).setCell ⟨g83, 2, none⟩ (.int .i32 a2)).setCell ⟨g83, 3, none⟩ (.int .i32 a3)) = v87 at *
          refine hK.out _ _ ⟨hp0.cell 0, hp0.cell 1, hp0.cell 2, hp0.cell 3, hp1.cell 0, hp1.cell 1, hp1.cell 2, hp1.cell 3, hq1.cell 0, hq1.cell 1, hq1.cell 2, hq1.cell 3⟩ (fun hHeld => ?_)
          clear hK K
          try (simp only [Act.put, List.setIfInBounds_toArray, List.set_cons_zero, List.set_cons_succ])
          refine tk 8 hHeld ?_
          refine wpAnyH_done ?hru88 ?hqu88 _
          case hru88 => kernel_rfl
          refine NoPanic.normal ?_
          try go_wp2_with fail
          go_meet
          exact ⟨g83, rfl, rfl, n83, hp0, hp1, hq1, hb⟩
      case hc74q6 =>
        go_simp
        try go_wp2_with fail
        have lb89 := hb.size
        have l89hp0 := hp0.lt
        have l89hp1 := hp1.lt
        have l89hq1 := hq1.lt
        replace hp0 := hp0.alloc (.cells #[.int .i32 0, .int .i32 0, .int .i32 0, .int .i32 0] 23)
        replace hp1 := hp1.alloc (.cells #[.int .i32 0, .int .i32 0, .int .i32 0, .int .i32 0] 23)
        replace hq1 := hq1.alloc (.cells #[.int .i32 0, .int .i32 0, .int .i32 0, .int .i32 0] 23)
        have n89 := Blk.new W73 23 #[.int .i32 0, .int .i32 0, .int .i32 0, .int .i32 0]
        replace hb := hb.alloc hb.size (.cells #[.int .i32 0, .int .i32 0, .int .i32 0, .int .i32 0] 23)
        generalize W73.alloc (.cells #[.int .i32 0, .int .i32 0, .int .i32 0, .int .i32 0] 23) = v89 at *
        generalize W73.heap.size = g89 at *
        refine hK.out _ _ ⟨hp0.cell 0, hp0.cell 1, hp0.cell 2, hp0.cell 3, hp1.cell 0, hp1.cell 1, hp1.cell 2, hp1.cell 3, hq1.cell 0, hq1.cell 1, hq1.cell 2, hq1.cell 3⟩ (fun hHeld => ?_)
        clear hK K
        try (simp only [Act.put, List.setIfInBounds_toArray, List.set_cons_zero, List.set_cons_succ])
        refine rd1 0 (fun K hK => ?_)
        go_simp
        refine (HO.out _).mono ?_
        rintro e v91 ⟨rfl, bb⟩
        go_wp2_with fail
        replace hp0 := hp0.below bb hp0.lt
        replace hp1 := hp1.below bb hp1.lt
        replace hq1 := hq1.below bb hq1.lt
        replace n89 := n89.below bb n89.lt
        replace hb := hb.on bb
        clear bb
        refine hK.out _ _ ⟨hp0.cell 0, hp0.cell 1, hp0.cell 2, hp0.cell 3, hp1.cell 0, hp1.cell 1, hp1.cell 2, hp1.cell 3, hq1.cell 0, hq1.cell 1, hq1.cell 2, hq1.cell 3⟩ (fun hHeld => ?_)
        clear hK K
        try (simp only [Act.put, List.setIfInBounds_toArray, List.set_cons_zero, List.set_cons_succ])
        refine rd1 2 (fun K hK => ?_)
        go_simp
        refine (H2.out _).mono ?_
        rintro e v93 ⟨rfl, bb⟩
        go_wp2_with fail
        replace hp0 := hp0.below bb hp0.lt
        replace hp1 := hp1.below bb hp1.lt
        replace hq1 := hq1.below bb hq1.lt
        replace n89 := n89.below bb n89.lt
        replace hb := hb.on bb
        clear bb
        refine hK.out _ _ ⟨hp0.cell 0, hp0.cell 1, hp0.cell 2, hp0.cell 3, hp1.cell 0, hp1.cell 1, hp1.cell 2, hp1.cell 3, hq1.cell 0, hq1.cell 1, hq1.cell 2, hq1.cell 3⟩ (fun hHeld => ?_)
        clear hK K
        try (simp only [Act.put, List.setIfInBounds_toArray, List.set_cons_zero, List.set_cons_succ])
        refine tk 3 hHeld ?_
        refine tk 4 hHeld ?_
        refine tk 5 hHeld ?_
        refine rd1 7 (fun K hK => ?_)
        have c0 : v93.cell? ⟨g89, 0, none⟩ = some (.int .i32 0) := n89.cell 0
        have z0 := n89.frozen 0
        have c1 : v93.cell? ⟨g89, 1, none⟩ = some (.int .i32 0) := n89.cell 1
        have z1 := n89.frozen 1
        have c2 : v93.cell? ⟨g89, 2, none⟩ = some (.int .i32 0) := n89.cell 2
        have z2 := n89.frozen 2
        have c3 : v93.cell? ⟨g89, 3, none⟩ = some (.int .i32 0) := n89.cell 3
        have z3 := n89.frozen 3
        go_simp
        try go_wp2_with fail
        replace hp0 := ((((hp0.far (p := ⟨g89, 0, none⟩) (by dsimp only; omega) (.int .i32 a0)).far (p := ⟨g89, 1, none⟩) (by dsimp only; omega) (.int .i32 a1)).far (p := ⟨g89, 2, none⟩) (by dsimp only; omega) (.int .i32 a2)).far (p := ⟨g89, 3, none⟩) (by dsimp only; omega) (.int .i32 a3))
        replace hp1 := ((((hp1.far (p := ⟨g89, 0, none⟩) (by dsimp only; omega) (.int .i32 a0)).far (p := ⟨g89, 1, none⟩) (by dsimp only; omega) (.int .i32 a1)).far (p := ⟨g89, 2, none⟩) (by dsimp only; omega) (.int .i32 a2)).far (p := ⟨g89, 3, none⟩) (by dsimp only; omega) (.int .i32 a3))
        replace hq1 := ((((hq1.far (p := ⟨g89, 0, none⟩) (by dsimp only; omega) (.int .i32 a0)).far (p := ⟨g89, 1, none⟩) (by dsimp only; omega) (.int .i32 a1)).far (p := ⟨g89, 2, none⟩) (by dsimp only; omega) (.int .i32 a2)).far (p := ⟨g89, 3, none⟩) (by dsimp only; omega) (.int .i32 a3))
        replace n89 := ((((n89.set_ 0 (.int .i32 a0)).set_ 1 (.int .i32 a1)).set_ 2 (.int .i32 a2)).set_ 3 (.int .i32 a3))
        replace hb := ((((hb.setCell (p := ⟨g89, 0, none⟩) (by dsimp only; omega) (.int .i32 a0)).setCell (p := ⟨g89, 1, none⟩) (by dsimp only; omega) (.int .i32 a1)).setCell (p := ⟨g89, 2, none⟩) (by dsimp only; omega) (.int .i32 a2)).setCell (p := ⟨g89, 3, none⟩) (by dsimp only; omega) (.int .i32 a3))
        clear c0 z0 c1 z1 c2 z2 c3 z3
        generalize ((((v93.setCell ⟨g89, 0, none⟩ (.int .i32 a0)).setCell ⟨g89, 1, none⟩ (.int .i32 a1)).setCell ⟨g89, 2, none⟩ (.int .i32 a2)).setCell ⟨g89, 3, none⟩ (.int .i32 a3)) = v95 at *
        refine hK.out _ _ ⟨hp0.cell 0, hp0.cell 1, hp0.cell 2, hp0.cell 3, hp1.cell 0, hp1.cell 1, hp1.cell 2, hp1.cell 3, hq1.cell 0, hq1.cell 1, hq1.cell 2, hq1.cell 3⟩ (fun hHeld => ?_)
        clear hK K
        try (simp only [Act.put, List.setIfInBounds_toArray, List.set_cons_zero, List.set_cons_succ])
        refine tk 8 hHeld ?_
        refine wpAnyH_done ?hru96 ?hqu96 _
        case hru96 => kernel_rfl
        refine NoPanic.normal ?_
        try go_wp2_with fail
        go_meet
        exact ⟨g89, rfl, rfl, n89, hp0, hp1, hq1, hb⟩
    clear hp0 hp1 hq1 hb
    obtain ⟨g2, rfl, rfl, hq2, hp0, hp1, hq1, hb⟩ := hcut
    generalize wc = U2 at *
    have f0 : (U2).cell? ⟨w.heap.size, 0, none⟩ = some (.int .i32 a0) := hp0.cell 0
    have f1 : (U2).cell? ⟨w.heap.size, 1, none⟩ = some (.int .i32 a1) := hp0.cell 1
    have f2 : (U2).cell? ⟨w.heap.size, 2, none⟩ = some (.int .i32 a2) := hp0.cell 2
    have f3 : (U2).cell? ⟨w.heap.size, 3, none⟩ = some (.int .i32 a3) := hp0.cell 3
    have f4 : (U2).cell? ⟨w.heap.size + 1, 0, none⟩ = some (.int .i32 b0) := hp1.cell 0
    have f5 : (U2).cell? ⟨w.heap.size + 1, 1, none⟩ = some (.int .i32 b1) := hp1.cell 1
    have f6 : (U2).cell? ⟨w.heap.size + 1, 2, none⟩ = some (.int .i32 b2) := hp1.cell 2
    have f7 : (U2).cell? ⟨w.heap.size + 1, 3, none⟩ = some (.int .i32 b3) := hp1.cell 3
    have f8 : (U2).cell? ⟨g1, 0, none⟩ = some (.int .i32 a0) := hq1.cell 0
    have f9 : (U2).cell? ⟨g1, 1, none⟩ = some (.int .i32 a1) := hq1.cell 1
    have f10 : (U2).cell? ⟨g1, 2, none⟩ = some (.int .i32 a2) := hq1.cell 2
    have f11 : (U2).cell? ⟨g1, 3, none⟩ = some (.int .i32 a3) := hq1.cell 3
    have f12 : (U2).cell? ⟨g2, 0, none⟩ = some (.int .i32 a0) := hq2.cell 0
    have f13 : (U2).cell? ⟨g2, 1, none⟩ = some (.int .i32 a1) := hq2.cell 1
    have f14 : (U2).cell? ⟨g2, 2, none⟩ = some (.int .i32 a2) := hq2.cell 2
    have f15 : (U2).cell? ⟨g2, 3, none⟩ = some (.int .i32 a3) := hq2.cell 3
    go_wp2_with fail
    clear f0 f1 f2 f3 f4 f5 f6 f7 f8 f9 f10 f11 f12 f13 f14 f15
    generalize U2 = W0 at *
    refine (HK.out _).mono ?_
    rintro e w1 ⟨rfl, b1⟩
    replace hp0 := hp0.below b1 hp0.lt
    replace hp1 := hp1.below b1 hp1.lt
    replace hq1 := hq1.below b1 hq1.lt
    replace hq2 := hq2.below b1 hq2.lt
    replace hb := hb.on b1
    clear b1
    have f0 : (w1).cell? ⟨w.heap.size, 0, none⟩ = some (.int .i32 a0) := hp0.cell 0
    have f1 : (w1).cell? ⟨w.heap.size, 1, none⟩ = some (.int .i32 a1) := hp0.cell 1
    have f2 : (w1).cell? ⟨w.heap.size, 2, none⟩ = some (.int .i32 a2) := hp0.cell 2
    have f3 : (w1).cell? ⟨w.heap.size, 3, none⟩ = some (.int .i32 a3) := hp0.cell 3
    have f4 : (w1).cell? ⟨w.heap.size + 1, 0, none⟩ = some (.int .i32 b0) := hp1.cell 0
    have f5 : (w1).cell? ⟨w.heap.size + 1, 1, none⟩ = some (.int .i32 b1) := hp1.cell 1
    have f6 : (w1).cell? ⟨w.heap.size + 1, 2, none⟩ = some (.int .i32 b2) := hp1.cell 2
    have f7 : (w1).cell? ⟨w.heap.size + 1, 3, none⟩ = some (.int .i32 b3) := hp1.cell 3
    have f8 : (w1).cell? ⟨g1, 0, none⟩ = some (.int .i32 a0) := hq1.cell 0
    have f9 : (w1).cell? ⟨g1, 1, none⟩ = some (.int .i32 a1) := hq1.cell 1
    have f10 : (w1).cell? ⟨g1, 2, none⟩ = some (.int .i32 a2) := hq1.cell 2
    have f11 : (w1).cell? ⟨g1, 3, none⟩ = some (.int .i32 a3) := hq1.cell 3
    have f12 : (w1).cell? ⟨g2, 0, none⟩ = some (.int .i32 a0) := hq2.cell 0
    have f13 : (w1).cell? ⟨g2, 1, none⟩ = some (.int .i32 a1) := hq2.cell 1
    have f14 : (w1).cell? ⟨g2, 2, none⟩ = some (.int .i32 a2) := hq2.cell 2
    have f15 : (w1).cell? ⟨g2, 3, none⟩ = some (.int .i32 a3) := hq2.cell 3
    go_wp2_with fail
    clear f0 f1 f2 f3 f4 f5 f6 f7 f8 f9 f10 f11 f12 f13 f14 f15
    generalize w1 = W1 at *
    refine (H3.out _).mono ?_
    rintro e w2 ⟨rfl, b2⟩
    replace hp0 := hp0.below b2 hp0.lt
    replace hp1 := hp1.below b2 hp1.lt
    replace hq1 := hq1.below b2 hq1.lt
    replace hq2 := hq2.below b2 hq2.lt
    replace hb := hb.on b2
    clear b2
    replace hp0 := hp0.alloc (.cells #[.int .i32 p0, .int .i32 p1, .int .i32 p2, .int .i32 p3] 23)
    replace hp1 := hp1.alloc (.cells #[.int .i32 p0, .int .i32 p1, .int .i32 p2, .int .i32 p3] 23)
    replace hq1 := hq1.alloc (.cells #[.int .i32 p0, .int .i32 p1, .int .i32 p2, .int .i32 p3] 23)
    replace hq2 := hq2.alloc (.cells #[.int .i32 p0, .int .i32 p1, .int .i32 p2, .int .i32 p3] 23)
    have hn2 : Blk (w2.alloc (.cells #[.int .i32 p0, .int .i32 p1, .int .i32 p2, .int .i32 p3] 23)) w2.heap.size 23 #[.int .i32 p0, .int .i32 p1, .int .i32 p2, .int .i32 p3] := Blk.new w2 _ _
    replace hb := hb.alloc hb.size (.cells #[.int .i32 p0, .int .i32 p1, .int .i32 p2, .int .i32 p3] 23)
    have f0 : (w2.alloc (.cells #[.int .i32 p0, .int .i32 p1, .int .i32 p2, .int .i32 p3] 23)).cell? ⟨w.heap.size, 0, none⟩ = some (.int .i32 a0) := hp0.cell 0
    have f1 : (w2.alloc (.cells #[.int .i32 p0, .int .i32 p1, .int .i32 p2, .int .i32 p3] 23)).cell? ⟨w.heap.size, 1, none⟩ = some (.int .i32 a1) := hp0.cell 1
    have f2 : (w2.alloc (.cells #[.int .i32 p0, .int .i32 p1, .int .i32 p2, .int .i32 p3] 23)).cell? ⟨w.heap.size, 2, none⟩ = some (.int .i32 a2) := hp0.cell 2
    have f3 : (w2.alloc (.cells #[.int .i32 p0, .int .i32 p1, .int .i32 p2, .int .i32 p3] 23)).cell? ⟨w.heap.size, 3, none⟩ = some (.int .i32 a3) := hp0.cell 3
    have f4 : (w2.alloc (.cells #[.int .i32 p0, .int .i32 p1, .int .i32 p2, .int .i32 p3] 23)).cell? ⟨w.heap.size + 1, 0, none⟩ = some (.int .i32 b0) := hp1.cell 0
    have f5 : (w2.alloc (.cells #[.int .i32 p0, .int .i32 p1, .int .i32 p2, .int .i32 p3] 23)).cell? ⟨w.heap.size + 1, 1, none⟩ = some (.int .i32 b1) := hp1.cell 1
    have f6 : (w2.alloc (.cells #[.int .i32 p0, .int .i32 p1, .int .i32 p2, .int .i32 p3] 23)).cell? ⟨w.heap.size + 1, 2, none⟩ = some (.int .i32 b2) := hp1.cell 2
    have f7 : (w2.alloc (.cells #[.int .i32 p0, .int .i32 p1, .int .i32 p2, .int .i32 p3] 23)).cell? ⟨w.heap.size + 1, 3, none⟩ = some (.int .i32 b3) := hp1.cell 3
    have f8 : (w2.alloc (.cells #[.int .i32 p0, .int .i32 p1, .int .i32 p2, .int .i32 p3] 23)).cell? ⟨g1, 0, none⟩ = some (.int .i32 a0) := hq1.cell 0
    have f9 : (w2.alloc (.cells #[.int .i32 p0, .int .i32 p1, .int .i32 p2, .int .i32 p3] 23)).cell? ⟨g1, 1, none⟩ = some (.int .i32 a1) := hq1.cell 1
    have f10 : (w2.alloc (.cells #[.int .i32 p0, .int .i32 p1, .int .i32 p2, .int .i32 p3] 23)).cell? ⟨g1, 2, none⟩ = some (.int .i32 a2) := hq1.cell 2
    have f11 : (w2.alloc (.cells #[.int .i32 p0, .int .i32 p1, .int .i32 p2, .int .i32 p3] 23)).cell? ⟨g1, 3, none⟩ = some (.int .i32 a3) := hq1.cell 3
    have f12 : (w2.alloc (.cells #[.int .i32 p0, .int .i32 p1, .int .i32 p2, .int .i32 p3] 23)).cell? ⟨g2, 0, none⟩ = some (.int .i32 a0) := hq2.cell 0
    have f13 : (w2.alloc (.cells #[.int .i32 p0, .int .i32 p1, .int .i32 p2, .int .i32 p3] 23)).cell? ⟨g2, 1, none⟩ = some (.int .i32 a1) := hq2.cell 1
    have f14 : (w2.alloc (.cells #[.int .i32 p0, .int .i32 p1, .int .i32 p2, .int .i32 p3] 23)).cell? ⟨g2, 2, none⟩ = some (.int .i32 a2) := hq2.cell 2
    have f15 : (w2.alloc (.cells #[.int .i32 p0, .int .i32 p1, .int .i32 p2, .int .i32 p3] 23)).cell? ⟨g2, 3, none⟩ = some (.int .i32 a3) := hq2.cell 3
    have f16 : (w2.alloc (.cells #[.int .i32 p0, .int .i32 p1, .int .i32 p2, .int .i32 p3] 23)).cell? ⟨w2.heap.size, 0, none⟩ = some (.int .i32 p0) := hn2.cell 0
    have f17 : (w2.alloc (.cells #[.int .i32 p0, .int .i32 p1, .int .i32 p2, .int .i32 p3] 23)).cell? ⟨w2.heap.size, 1, none⟩ = some (.int .i32 p1) := hn2.cell 1
    have f18 : (w2.alloc (.cells #[.int .i32 p0, .int .i32 p1, .int .i32 p2, .int .i32 p3] 23)).cell? ⟨w2.heap.size, 2, none⟩ = some (.int .i32 p2) := hn2.cell 2
    have f19 : (w2.alloc (.cells #[.int .i32 p0, .int .i32 p1, .int .i32 p2, .int .i32 p3] 23)).cell? ⟨w2.heap.size, 3, none⟩ = some (.int .i32 p3) := hn2.cell 3
    go_wp2_with fail
    clear f0 f1 f2 f3 f4 f5 f6 f7 f8 f9 f10 f11 f12 f13 f14 f15 f16 f17 f18 f19
    generalize w2.alloc (.cells #[.int .i32 p0, .int .i32 p1, .int .i32 p2, .int .i32 p3] 23) = W2 at *
    refine (H4.out _).mono ?_
    rintro e w3 ⟨rfl, b3⟩
    replace hp0 := hp0.below b3 hp0.lt
    replace hp1 := hp1.below b3 hp1.lt
    replace hq1 := hq1.below b3 hq1.lt
    replace hq2 := hq2.below b3 hq2.lt
    replace hn2 := hn2.below b3 hn2.lt
    replace hb := hb.on b3
    clear b3
    replace hp0 := hp0.alloc (.cells #[.int .i32 x0, .int .i32 x1, .int .i32 x2, .int .i32 x3] 23)
    replace hp1 := hp1.alloc (.cells #[.int .i32 x0, .int .i32 x1, .int .i32 x2, .int .i32 x3] 23)
    replace hq1 := hq1.alloc (.cells #[.int .i32 x0, .int .i32 x1, .int .i32 x2, .int .i32 x3] 23)
    replace hq2 := hq2.alloc (.cells #[.int .i32 x0, .int .i32 x1, .int .i32 x2, .int .i32 x3] 23)
    replace hn2 := hn2.alloc (.cells #[.int .i32 x0, .int .i32 x1, .int .i32 x2, .int .i32 x3] 23)
    have hn3 : Blk (w3.alloc (.cells #[.int .i32 x0, .int .i32 x1, .int .i32 x2, .int .i32 x3] 23)) w3.heap.size 23 #[.int .i32 x0, .int .i32 x1, .int .i32 x2, .int .i32 x3] := Blk.new w3 _ _
    replace hb := hb.alloc hb.size (.cells #[.int .i32 x0, .int .i32 x1, .int .i32 x2, .int .i32 x3] 23)
    have f0 : (w3.alloc (.cells #[.int .i32 x0, .int .i32 x1, .int .i32 x2, .int .i32 x3] 23)).cell? ⟨w.heap.size, 0, none⟩ = some (.int .i32 a0) := hp0.cell 0
    have f1 : (w3.alloc (.cells #[.int .i32 x0, .int .i32 x1, .int .i32 x2, .int .i32 x3] 23)).cell? ⟨w.heap.size, 1, none⟩ = some (.int .i32 a1) := hp0.cell 1
    have f2 : (w3.alloc (.cells #[.int .i32 x0, .int .i32 x1, .int .i32 x2, .int .i32 x3] 23)).cell? ⟨w.heap.size, 2, none⟩ = some (.int .i32 a2) := hp0.cell 2
    have f3 : (w3.alloc (.cells #[.int .i32 x0, .int .i32 x1, .int .i32 x2, .int .i32 x3] 23)).cell? ⟨w.heap.size, 3, none⟩ = some (.int .i32 a3) := hp0.cell 3
    have f4 : (w3.alloc (.cells #[.int .i32 x0, .int .i32 x1, .int .i32 x2, .int .i32 x3] 23)).cell? ⟨w.heap.size + 1, 0, none⟩ = some (.int .i32 b0) := hp1.cell 0
    have f5 : (w3.alloc (.cells #[.int .i32 x0, .int .i32 x1, .int .i32 x2, .int .i32 x3] 23)).cell? ⟨w.heap.size + 1, 1, none⟩ = some (.int .i32 b1) := hp1.cell 1
    have f6 : (w3.alloc (.cells #[.int .i32 x0, .int .i32 x1, .int .i32 x2, .int .i32 x3] 23)).cell? ⟨w.heap.size + 1, 2, none⟩ = some (.int .i32 b2) := hp1.cell 2
    have f7 : (w3.alloc (.cells #[.int .i32 x0, .int .i32 x1, .int .i32 x2, .int .i32 x3] 23)).cell? ⟨w.heap.size + 1, 3, none⟩ = some (.int .i32 b3) := hp1.cell 3
    have f8 : (w3.alloc (.cells #[.int .i32 x0, .int .i32 x1, .int .i32 x2, .int .i32 x3] 23)).cell? ⟨g1, 0, none⟩ = some (.int .i32 a0) := hq1.cell 0
    have f9 : (w3.alloc (.cells #[.int .i32 x0, .int .i32 x1, .int .i32 x2, .int .i32 x3] 23)).cell? ⟨g1, 1, none⟩ = some (.int .i32 a1) := hq1.cell 1
    have f10 : (w3.alloc (.cells #[.int .i32 x0, .int .i32 x1, .int .i32 x2, .int .i32 x3] 23)).cell? ⟨g1, 2, none⟩ = some (.int .i32 a2) := hq1.cell 2
    have f11 : (w3.alloc (.cells #[.int .i32 x0, .int .i32 x1, .int .i32 x2, .int .i32 x3] 23)).cell? ⟨g1, 3, none⟩ = some (.int .i32 a3) := hq1.cell 3
    have f12 : (w3.alloc (.cells #[.int .i32 x0, .int .i32 x1, .int .i32 x2, .int .i32 x3] 23)).cell? ⟨g2, 0, none⟩ = some (.int .i32 a0) := hq2.cell 0
    have f13 : (w3.alloc (.cells #[.int .i32 x0, .int .i32 x1, .int .i32 x2, .int .i32 x3] 23)).cell? ⟨g2, 1, none⟩ = some (.int .i32 a1) := hq2.cell 1
    have f14 : (w3.alloc (.cells #[.int .i32 x0, .int .i32 x1, .int .i32 x2, .int .i32 x3] 23)).cell? ⟨g2, 2, none⟩ = some (.int .i32 a2) := hq2.cell 2
    have f15 : (w3.alloc (.cells #[.int .i32 x0, .int .i32 x1, .int .i32 x2, .int .i32 x3] 23)).cell? ⟨g2, 3, none⟩ = some (.int .i32 a3) := hq2.cell 3
    have f16 : (w3.alloc (.cells #[.int .i32 x0, .int .i32 x1, .int .i32 x2, .int .i32 x3] 23)).cell? ⟨w2.heap.size, 0, none⟩ = some (.int .i32 p0) := hn2.cell 0
    have f17 : (w3.alloc (.cells #[.int .i32 x0, .int .i32 x1, .int .i32 x2, .int .i32 x3] 23)).cell? ⟨w2.heap.size, 1, none⟩ = some (.int .i32 p1) := hn2.cell 1
    have f18 : (w3.alloc (.cells #[.int .i32 x0, .int .i32 x1, .int .i32 x2, .int .i32 x3] 23)).cell? ⟨w2.heap.size, 2, none⟩ = some (.int .i32 p2) := hn2.cell 2
    have f19 : (w3.alloc (.cells #[.int .i32 x0, .int .i32 x1, .int .i32 x2, .int .i32 x3] 23)).cell? ⟨w2.heap.size, 3, none⟩ = some (.int .i32 p3) := hn2.cell 3
    have f20 : (w3.alloc (.cells #[.int .i32 x0, .int .i32 x1, .int .i32 x2, .int .i32 x3] 23)).cell? ⟨w3.heap.size, 0, none⟩ = some (.int .i32 x0) := hn3.cell 0
    have f21 : (w3.alloc (.cells #[.int .i32 x0, .int .i32 x1, .int .i32 x2, .int .i32 x3] 23)).cell? ⟨w3.heap.size, 1, none⟩ = some (.int .i32 x1) := hn3.cell 1
    have f22 : (w3.alloc (.cells #[.int .i32 x0, .int .i32 x1, .int .i32 x2, .int .i32 x3] 23)).cell? ⟨w3.heap.size, 2, none⟩ = some (.int .i32 x2) := hn3.cell 2
    have f23 : (w3.alloc (.cells #[.int .i32 x0, .int .i32 x1, .int .i32 x2, .int .i32 x3] 23)).cell? ⟨w3.heap.size, 3, none⟩ = some (.int .i32 x3) := hn3.cell 3
    go_wp2_with fail
    clear f0 f1 f2 f3 f4 f5 f6 f7 f8 f9 f10 f11 f12 f13 f14 f15 f16 f17 f18 f19 f20 f21 f22 f23
    generalize w3.alloc (.cells #[.int .i32 x0, .int .i32 x1, .int .i32 x2, .int .i32 x3] 23) = W3 at *
    refine (H5.out _).mono ?_
    rintro e w4 ⟨rfl, b4⟩
    replace hp0 := hp0.below b4 hp0.lt
    replace hp1 := hp1.below b4 hp1.lt
    replace hq1 := hq1.below b4 hq1.lt
    replace hq2 := hq2.below b4 hq2.lt
    replace hn2 := hn2.below b4 hn2.lt
    replace hn3 := hn3.below b4 hn3.lt
    replace hb := hb.on b4
    clear b4
    replace hp0 := hp0.alloc (.cells #[.int .i32 c0, .int .i32 c1, .int .i32 c2, .int .i32 c3] 23)
    replace hp1 := hp1.alloc (.cells #[.int .i32 c0, .int .i32 c1, .int .i32 c2, .int .i32 c3] 23)
    replace hq1 := hq1.alloc (.cells #[.int .i32 c0, .int .i32 c1, .int .i32 c2, .int .i32 c3] 23)
    replace hq2 := hq2.alloc (.cells #[.int .i32 c0, .int .i32 c1, .int .i32 c2, .int .i32 c3] 23)
    replace hn2 := hn2.alloc (.cells #[.int .i32 c0, .int .i32 c1, .int .i32 c2, .int .i32 c3] 23)
    replace hn3 := hn3.alloc (.cells #[.int .i32 c0, .int .i32 c1, .int .i32 c2, .int .i32 c3] 23)
    have hn4 : Blk (w4.alloc (.cells #[.int .i32 c0, .int .i32 c1, .int .i32 c2, .int .i32 c3] 23)) w4.heap.size 23 #[.int .i32 c0, .int .i32 c1, .int .i32 c2, .int .i32 c3] := Blk.new w4 _ _
    replace hb := hb.alloc hb.size (.cells #[.int .i32 c0, .int .i32 c1, .int .i32 c2, .int .i32 c3] 23)
    have f0 : (w4.alloc (.cells #[.int .i32 c0, .int .i32 c1, .int .i32 c2, .int .i32 c3] 23)).cell? ⟨w.heap.size, 0, none⟩ = some (.int .i32 a0) := hp0.cell 0
    have f1 : (w4.alloc (.cells #[.int .i32 c0, .int .i32 c1, .int .i32 c2, .int .i32 c3] 23)).cell? ⟨w.heap.size, 1, none⟩ = some (.int .i32 a1) := hp0.cell 1
    have f2 : (w4.alloc (.cells #[.int .i32 c0, .int .i32 c1, .int .i32 c2, .int .i32 c3] 23)).cell? ⟨w.heap.size, 2, none⟩ = some (.int .i32 a2) := hp0.cell 2
    have f3 : (w4.alloc (.cells #[.int .i32 c0, .int .i32 c1, .int .i32 c2, .int .i32 c3] 23)).cell? ⟨w.heap.size, 3, none⟩ = some (.int .i32 a3) := hp0.cell 3
    have f4 : (w4.alloc (.cells #[.int .i32 c0, .int .i32 c1, .int .i32 c2, .int .i32 c3] 23)).cell? ⟨w.heap.size + 1, 0, none⟩ = some (.int .i32 b0) := hp1.cell 0
    have f5 : (w4.alloc (.cells #[.int .i32 c0, .int .i32 c1, .int .i32 c2, .int .i32 c3] 23)).cell? ⟨w.heap.size + 1, 1, none⟩ = some (.int .i32 b1) := hp1.cell 1
    have f6 : (w4.alloc (.cells #[.int .i32 c0, .int .i32 c1, .int .i32 c2, .int .i32 c3] 23)).cell? ⟨w.heap.size + 1, 2, none⟩ = some (.int .i32 b2) := hp1.cell 2
    have f7 : (w4.alloc (.cells #[.int .i32 c0, .int .i32 c1, .int .i32 c2, .int .i32 c3] 23)).cell? ⟨w.heap.size + 1, 3, none⟩ = some (.int .i32 b3) := hp1.cell 3
    have f8 : (w4.alloc (.cells #[.int .i32 c0, .int .i32 c1, .int .i32 c2, .int .i32 c3] 23)).cell? ⟨g1, 0, none⟩ = some (.int .i32 a0) := hq1.cell 0
    have f9 : (w4.alloc (.cells #[.int .i32 c0, .int .i32 c1, .int .i32 c2, .int .i32 c3] 23)).cell? ⟨g1, 1, none⟩ = some (.int .i32 a1) := hq1.cell 1
    have f10 : (w4.alloc (.cells #[.int .i32 c0, .int .i32 c1, .int .i32 c2, .int .i32 c3] 23)).cell? ⟨g1, 2, none⟩ = some (.int .i32 a2) := hq1.cell 2
    have f11 : (w4.alloc (.cells #[.int .i32 c0, .int .i32 c1, .int .i32 c2, .int .i32 c3] 23)).cell? ⟨g1, 3, none⟩ = some (.int .i32 a3) := hq1.cell 3
    have f12 : (w4.alloc (.cells #[.int .i32 c0, .int .i32 c1, .int .i32 c2, .int .i32 c3] 23)).cell? ⟨g2, 0, none⟩ = some (.int .i32 a0) := hq2.cell 0
    have f13 : (w4.alloc (.cells #[.int .i32 c0, .int .i32 c1, .int .i32 c2, .int .i32 c3] 23)).cell? ⟨g2, 1, none⟩ = some (.int .i32 a1) := hq2.cell 1
    have f14 : (w4.alloc (.cells #[.int .i32 c0, .int .i32 c1, .int .i32 c2, .int .i32 c3] 23)).cell? ⟨g2, 2, none⟩ = some (.int .i32 a2) := hq2.cell 2
    have f15 : (w4.alloc (.cells #[.int .i32 c0, .int .i32 c1, .int .i32 c2, .int .i32 c3] 23)).cell? ⟨g2, 3, none⟩ = some (.int .i32 a3) := hq2.cell 3
    have f16 : (w4.alloc (.cells #[.int .i32 c0, .int .i32 c1, .int .i32 c2, .int .i32 c3] 23)).cell? ⟨w2.heap.size, 0, none⟩ = some (.int .i32 p0) := hn2.cell 0
    have f17 : (w4.alloc (.cells #[.int .i32 c0, .int .i32 c1, .int .i32 c2, .int .i32 c3] 23)).cell? ⟨w2.heap.size, 1, none⟩ = some (.int .i32 p1) := hn2.cell 1
    have f18 : (w4.alloc (.cells #[.int .i32 c0, .int .i32 c1, .int .i32 c2, .int .i32 c3] 23)).cell? ⟨w2.heap.size, 2, none⟩ = some (.int .i32 p2) := hn2.cell 2
    have f19 : (w4.alloc (.cells #[.int .i32 c0, .int .i32 c1, .int .i32 c2, .int .i32 c3] 23)).cell? ⟨w2.heap.size, 3, none⟩ = some (.int .i32 p3) := hn2.cell 3
    have f20 : (w4.alloc (.cells #[.int .i32 c0, .int .i32 c1, .int .i32 c2, .int .i32 c3] 23)).cell? ⟨w3.heap.size, 0, none⟩ = some (.int .i32 x0) := hn3.cell 0
    have f21 : (w4.alloc (.cells #[.int .i32 c0, .int .i32 c1, .int .i32 c2, .int .i32 c3] 23)).cell? ⟨w3.heap.size, 1, none⟩ = some (.int .i32 x1) := hn3.cell 1
    have f22 : (w4.alloc (.cells #[.int .i32 c0, .int .i32 c1, .int .i32 c2, .int .i32 c3] 23)).cell? ⟨w3.heap.size, 2, none⟩ = some (.int .i32 x2) := hn3.cell 2
    have f23 : (w4.alloc (.cells #[.int .i32 c0, .int .i32 c1, .int .i32 c2, .int .i32 c3] 23)).cell? ⟨w3.heap.size, 3, none⟩ = some (.int .i32 x3) := hn3.cell 3
    have f24 : (w4.alloc (.cells #[.int .i32 c0, .int .i32 c1, .int .i32 c2, .int .i32 c3] 23)).cell? ⟨w4.heap.size, 0, none⟩ = some (.int .i32 c0) := hn4.cell 0
    have f25 : (w4.alloc (.cells #[.int .i32 c0, .int .i32 c1, .int .i32 c2, .int .i32 c3] 23)).cell? ⟨w4.heap.size, 1, none⟩ = some (.int .i32 c1) := hn4.cell 1
    have f26 : (w4.alloc (.cells #[.int .i32 c0, .int .i32 c1, .int .i32 c2, .int .i32 c3] 23)).cell? ⟨w4.heap.size, 2, none⟩ = some (.int .i32 c2) := hn4.cell 2
    have f27 : (w4.alloc (.cells #[.int .i32 c0, .int .i32 c1, .int .i32 c2, .int .i32 c3] 23)).cell? ⟨w4.heap.size, 3, none⟩ = some (.int .i32 c3) := hn4.cell 3
    go_wp2_with fail
    clear f0 f1 f2 f3 f4 f5 f6 f7 f8 f9 f10 f11 f12 f13 f14 f15 f16 f17 f18 f19 f20 f21 f22 f23 f24 f25 f26 f27
    generalize w4.alloc (.cells #[.int .i32 c0, .int .i32 c1, .int .i32 c2, .int .i32 c3] 23) = W4 at *
    refine (H6.out _).mono ?_
    rintro e w5 ⟨rfl, b5⟩
    replace hp0 := hp0.below b5 hp0.lt
    replace hp1 := hp1.below b5 hp1.lt
    replace hq1 := hq1.below b5 hq1.lt
    replace hq2 := hq2.below b5 hq2.lt
    replace hn2 := hn2.below b5 hn2.lt
    replace hn3 := hn3.below b5 hn3.lt
    replace hn4 := hn4.below b5 hn4.lt
    replace hb := hb.on b5
    clear b5
    replace hp0 := hp0.alloc (.cells #[.int .i32 d0, .int .i32 d1, .int .i32 d2, .int .i32 d3] 23)
    replace hp1 := hp1.alloc (.cells #[.int .i32 d0, .int .i32 d1, .int .i32 d2, .int .i32 d3] 23)
    replace hq1 := hq1.alloc (.cells #[.int .i32 d0, .int .i32 d1, .int .i32 d2, .int .i32 d3] 23)
    replace hq2 := hq2.alloc (.cells #[.int .i32 d0, .int .i32 d1, .int .i32 d2, .int .i32 d3] 23)
    replace hn2 := hn2.alloc (.cells #[.int .i32 d0, .int .i32 d1, .int .i32 d2, .int .i32 d3] 23)
    replace hn3 := hn3.alloc (.cells #[.int .i32 d0, .int .i32 d1, .int .i32 d2, .int .i32 d3] 23)
    replace hn4 := hn4.alloc (.cells #[.int .i32 d0, .int .i32 d1, .int .i32 d2, .int .i32 d3] 23)
    have hn5 : Blk (w5.alloc (.cells #[.int .i32 d0, .int .i32 d1, .int .i32 d2, .int .i32 d3] 23)) w5.heap.size 23 #[.int .i32 d0, .int .i32 d1, .int .i32 d2, .int .i32 d3] := Blk.new w5 _ _
    replace hb := hb.alloc hb.size (.cells #[.int .i32 d0, .int .i32 d1, .int .i32 d2, .int .i32 d3] 23)
    have f0 : (w5.alloc (.cells #[.int .i32 d0, .int .i32 d1, .int .i32 d2, .int .i32 d3] 23)).cell? ⟨w.heap.size, 0, none⟩ = some (.int .i32 a0) := hp0.cell 0
    have f1 : (w5.alloc (.cells #[.int .i32 d0, .int .i32 d1, .int .i32 d2, .int .i32 d3] 23)).cell? ⟨w.heap.size, 1, none⟩ = some (.int .i32 a1) := hp0.cell 1
    have f2 : (w5.alloc (.cells #[.int .i32 d0, .int .i32 d1, .int .i32 d2, .int .i32 d3] 23)).cell? ⟨w.heap.size, 2, none⟩ = some (.int .i32 a2) := hp0.cell 2
    have f3 : (w5.alloc (.cells #[.int .i32 d0, .int .i32 d1, .int .i32 d2, .int .i32 d3] 23)).cell? ⟨w.heap.size, 3, none⟩ = some (.int .i32 a3) := hp0.cell 3
    have f4 : (w5.alloc (.cells #[.int .i32 d0, .int .i32 d1, .int .i32 d2, .int .i32 d3] 23)).cell? ⟨w.heap.size + 1, 0, none⟩ = some (.int .i32 b0) := hp1.cell 0
    have f5 : (w5.alloc (.cells #[.int .i32 d0, .int .i32 d1, .int .i32 d2, .int .i32 d3] 23)).cell? ⟨w.heap.size + 1, 1, none⟩ = some (.int .i32 b1) := hp1.cell 1
    have f6 : (w5.alloc (.cells #[.int .i32 d0, .int .i32 d1, .int .i32 d2, .int .i32 d3] 23)).cell? ⟨w.heap.size + 1, 2, none⟩ = some (.int .i32 b2) := hp1.cell 2
    have f7 : (w5.alloc (.cells #[.int .i32 d0, .int .i32 d1, .int .i32 d2, .int .i32 d3] 23)).cell? ⟨w.heap.size + 1, 3, none⟩ = some (.int .i32 b3) := hp1.cell 3
    have f8 : (w5.alloc (.cells #[.int .i32 d0, .int .i32 d1, .int .i32 d2, .int .i32 d3] 23)).cell? ⟨g1, 0, none⟩ = some (.int .i32 a0) := hq1.cell 0
    have f9 : (w5.alloc (.cells #[.int .i32 d0, .int .i32 d1, .int .i32 d2, .int .i32 d3] 23)).cell? ⟨g1, 1, none⟩ = some (.int .i32 a1) := hq1.cell 1
    have f10 : (w5.alloc (.cells #[.int .i32 d0, .int .i32 d1, .int .i32 d2, .int .i32 d3] 23)).cell? ⟨g1, 2, none⟩ = some (.int .i32 a2) := hq1.cell 2
    have f11 : (w5.alloc (.cells #[.int .i32 d0, .int .i32 d1, .int .i32 d2, .int .i32 d3] 23)).cell? ⟨g1, 3, none⟩ = some (.int .i32 a3) := hq1.cell 3
    have f12 : (w5.alloc (.cells #[.int .i32 d0, .int .i32 d1, .int .i32 d2, .int .i32 d3] 23)).cell? ⟨g2, 0, none⟩ = some (.int .i32 a0) := hq2.cell 0
    have f13 : (w5.alloc (.cells #[.int .i32 d0, .int .i32 d1, .int .i32 d2, .int .i32 d3] 23)).cell? ⟨g2, 1, none⟩ = some (.int .i32 a1) := hq2.cell 1
    have f14 : (w5.alloc (.cells #[.int .i32 d0, .int .i32 d1, .int .i32 d2, .int .i32 d3] 23)).cell? ⟨g2, 2, none⟩ = some (.int .i32 a2) := hq2.cell 2
    have f15 : (w5.alloc (.cells #[.int .i32 d0, .int .i32 d1, .int .i32 d2, .int .i32 d3] 23)).cell? ⟨g2, 3, none⟩ = some (.int .i32 a3) := hq2.cell 3
    have f16 : (w5.alloc (.cells #[.int .i32 d0, .int .i32 d1, .int .i32 d2, .int .i32 d3] 23)).cell? ⟨w2.heap.size, 0, none⟩ = some (.int .i32 p0) := hn2.cell 0
    have f17 : (w5.alloc (.cells #[.int .i32 d0, .int .i32 d1, .int .i32 d2, .int .i32 d3] 23)).cell? ⟨w2.heap.size, 1, none⟩ = some (.int .i32 p1) := hn2.cell 1
    have f18 : (w5.alloc (.cells #[.int .i32 d0, .int .i32 d1, .int .i32 d2, .int .i32 d3] 23)).cell? ⟨w2.heap.size, 2, none⟩ = some (.int .i32 p2) := hn2.cell 2
    have f19 : (w5.alloc (.cells #[.int .i32 d0, .int .i32 d1, .int .i32 d2, .int .i32 d3] 23)).cell? ⟨w2.heap.size, 3, none⟩ = some (.int .i32 p3) := hn2.cell 3
    have f20 : (w5.alloc (.cells #[.int .i32 d0, .int .i32 d1, .int .i32 d2, .int .i32 d3] 23)).cell? ⟨w3.heap.size, 0, none⟩ = some (.int .i32 x0) := hn3.cell 0
    have f21 : (w5.alloc (.cells #[.int .i32 d0, .int .i32 d1, .int .i32 d2, .int .i32 d3] 23)).cell? ⟨w3.heap.size, 1, none⟩ = some (.int .i32 x1) := hn3.cell 1
    have f22 : (w5.alloc (.cells #[.int .i32 d0, .int .i32 d1, .int .i32 d2, .int .i32 d3] 23)).cell? ⟨w3.heap.size, 2, none⟩ = some (.int .i32 x2) := hn3.cell 2
    have f23 : (w5.alloc (.cells #[.int .i32 d0, .int .i32 d1, .int .i32 d2, .int .i32 d3] 23)).cell? ⟨w3.heap.size, 3, none⟩ = some (.int .i32 x3) := hn3.cell 3
    have f24 : (w5.alloc (.cells #[.int .i32 d0, .int .i32 d1, .int .i32 d2, .int .i32 d3] 23)).cell? ⟨w4.heap.size, 0, none⟩ = some (.int .i32 c0) := hn4.cell 0
    have f25 : (w5.alloc (.cells #[.int .i32 d0, .int .i32 d1, .int .i32 d2, .int .i32 d3] 23)).cell? ⟨w4.heap.size, 1, none⟩ = some (.int .i32 c1) := hn4.cell 1
    have f26 : (w5.alloc (.cells #[.int .i32 d0, .int .i32 d1, .int .i32 d2, .int .i32 d3] 23)).cell? ⟨w4.heap.size, 2, none⟩ = some (.int .i32 c2) := hn4.cell 2
    have f27 : (w5.alloc (.cells #[.int .i32 d0, .int .i32 d1, .int .i32 d2, .int .i32 d3] 23)).cell? ⟨w4.heap.size, 3, none⟩ = some (.int .i32 c3) := hn4.cell 3
    have f28 : (w5.alloc (.cells #[.int .i32 d0, .int .i32 d1, .int .i32 d2, .int .i32 d3] 23)).cell? ⟨w5.heap.size, 0, none⟩ = some (.int .i32 d0) := hn5.cell 0
    have f29 : (w5.alloc (.cells #[.int .i32 d0, .int .i32 d1, .int .i32 d2, .int .i32 d3] 23)).cell? ⟨w5.heap.size, 1, none⟩ = some (.int .i32 d1) := hn5.cell 1
    have f30 : (w5.alloc (.cells #[.int .i32 d0, .int .i32 d1, .int .i32 d2, .int .i32 d3] 23)).cell? ⟨w5.heap.size, 2, none⟩ = some (.int .i32 d2) := hn5.cell 2
    have f31 : (w5.alloc (.cells #[.int .i32 d0, .int .i32 d1, .int .i32 d2, .int .i32 d3] 23)).cell? ⟨w5.heap.size, 3, none⟩ = some (.int .i32 d3) := hn5.cell 3
    go_wp2_with fail
    clear f0 f1 f2 f3 f4 f5 f6 f7 f8 f9 f10 f11 f12 f13 f14 f15 f16 f17 f18 f19 f20 f21 f22 f23 f24 f25 f26 f27 f28 f29 f30 f31
    generalize w5.alloc (.cells #[.int .i32 d0, .int .i32 d1, .int .i32 d2, .int .i32 d3] 23) = W5 at *
    refine (H7.out _).mono ?_
    rintro e w6 ⟨rfl, b6⟩
    replace hp0 := hp0.below b6 hp0.lt
    replace hp1 := hp1.below b6 hp1.lt
    replace hq1 := hq1.below b6 hq1.lt
    replace hq2 := hq2.below b6 hq2.lt
    replace hn2 := hn2.below b6 hn2.lt
    replace hn3 := hn3.below b6 hn3.lt
    replace hn4 := hn4.below b6 hn4.lt
    replace hn5 := hn5.below b6 hn5.lt
    replace hb := hb.on b6
    clear b6
    replace hp0 := hp0.alloc (.cells #[.int .i32 x0, .int .i32 x1, .int .i32 x2, .int .i32 x3] 23)
    replace hp1 := hp1.alloc (.cells #[.int .i32 x0, .int .i32 x1, .int .i32 x2, .int .i32 x3] 23)
    replace hq1 := hq1.alloc (.cells #[.int .i32 x0, .int .i32 x1, .int .i32 x2, .int .i32 x3] 23)
    replace hq2 := hq2.alloc (.cells #[.int .i32 x0, .int .i32 x1, .int .i32 x2, .int .i32 x3] 23)
    replace hn2 := hn2.alloc (.cells #[.int .i32 x0, .int .i32 x1, .int .i32 x2, .int .i32 x3] 23)
    replace hn3 := hn3.alloc (.cells #[.int .i32 x0, .int .i32 x1, .int .i32 x2, .int .i32 x3] 23)
    replace hn4 := hn4.alloc (.cells #[.int .i32 x0, .int .i32 x1, .int .i32 x2, .int .i32 x3] 23)
    replace hn5 := hn5.alloc (.cells #[.int .i32 x0, .int .i32 x1, .int .i32 x2, .int .i32 x3] 23)
    have hn6 : Blk (w6.alloc (.cells #[.int .i32 x0, .int .i32 x1, .int .i32 x2, .int .i32 x3] 23)) w6.heap.size 23 #[.int .i32 x0, .int .i32 x1, .int .i32 x2, .int .i32 x3] := Blk.new w6 _ _
    replace hb := hb.alloc hb.size (.cells #[.int .i32 x0, .int .i32 x1, .int .i32 x2, .int .i32 x3] 23)
    have f0 : (w6.alloc (.cells #[.int .i32 x0, .int .i32 x1, .int .i32 x2, .int .i32 x3] 23)).cell? ⟨w.heap.size, 0, none⟩ = some (.int .i32 a0) := hp0.cell 0
    have f1 : (w6.alloc (.cells #[.int .i32 x0, .int .i32 x1, .int .i32 x2, .int .i32 x3] 23)).cell? ⟨w.heap.size, 1, none⟩ = some (.int .i32 a1) := hp0.cell 1
    have f2 : (w6.alloc (.cells #[.int .i32 x0, .int .i32 x1, .int .i32 x2, .int .i32 x3] 23)).cell? ⟨w.heap.size, 2, none⟩ = some (.int .i32 a2) := hp0.cell 2
    have f3 : (w6.alloc (.cells #[.int .i32 x0, .int .i32 x1, .int .i32 x2, .int .i32 x3] 23)).cell? ⟨w.heap.size, 3, none⟩ = some (.int .i32 a3) := hp0.cell 3
    have f4 : (w6.alloc (.cells #[.int .i32 x0, .int .i32 x1, .int .i32 x2, .int .i32 x3] 23)).cell? ⟨w.heap.size + 1, 0, none⟩ = some (.int .i32 b0) := hp1.cell 0
    have f5 : (w6.alloc (.cells #[.int .i32 x0, .int .i32 x1, .int .i32 x2, .int .i32 x3] 23)).cell? ⟨w.heap.size + 1, 1, none⟩ = some (.int .i32 b1) := hp1.cell 1
    have f6 : (w6.alloc (.cells #[.int .i32 x0, .int .i32 x1, .int .i32 x2, .int .i32 x3] 23)).cell? ⟨w.heap.size + 1, 2, none⟩ = some (.int .i32 b2) := hp1.cell 2
    have f7 : (w6.alloc (.cells #[.int .i32 x0, .int .i32 x1, .int .i32 x2, .int .i32 x3] 23)).cell? ⟨w.heap.size + 1, 3, none⟩ = some (.int .i32 b3) := hp1.cell 3
    have f8 : (w6.alloc (.cells #[.int .i32 x0, .int .i32 x1, .int .i32 x2, .int .i32 x3] 23)).cell? ⟨g1, 0, none⟩ = some (.int .i32 a0) := hq1.cell 0
    have f9 : (w6.alloc (.cells #[.int .i32 x0, .int .i32 x1, .int .i32 x2, .int .i32 x3] 23)).cell? ⟨g1, 1, none⟩ = some (.int .i32 a1) := hq1.cell 1
    have f10 : (w6.alloc (.cells #[.int .i32 x0, .int .i32 x1, .int .i32 x2, .int .i32 x3] 23)).cell? ⟨g1, 2, none⟩ = some (.int .i32 a2) := hq1.cell 2
    have f11 : (w6.alloc (.cells #[.int .i32 x0, .int .i32 x1, .int .i32 x2, .int .i32 x3] 23)).cell? ⟨g1, 3, none⟩ = some (.int .i32 a3) := hq1.cell 3
    have f12 : (w6.alloc (.cells #[.int .i32 x0, .int .i32 x1, .int .i32 x2, .int .i32 x3] 23)).cell? ⟨g2, 0, none⟩ = some (.int .i32 a0) := hq2.cell 0
    have f13 : (w6.alloc (.cells #[.int .i32 x0, .int .i32 x1, .int .i32 x2, .int .i32 x3] 23)).cell? ⟨g2, 1, none⟩ = some (.int .i32 a1) := hq2.cell 1
    have f14 : (w6.alloc (.cells #[.int .i32 x0, .int .i32 x1, .int .i32 x2, .int .i32 x3] 23)).cell? ⟨g2, 2, none⟩ = some (.int .i32 a2) := hq2.cell 2
    have f15 : (w6.alloc (.cells #[.int .i32 x0, .int .i32 x1, .int .i32 x2, .int .i32 x3] 23)).cell? ⟨g2, 3, none⟩ = some (.int .i32 a3) := hq2.cell 3
    have f16 : (w6.alloc (.cells #[.int .i32 x0, .int .i32 x1, .int .i32 x2, .int .i32 x3] 23)).cell? ⟨w2.heap.size, 0, none⟩ = some (.int .i32 p0) := hn2.cell 0
    have f17 : (w6.alloc (.cells #[.int .i32 x0, .int .i32 x1, .int .i32 x2, .int .i32 x3] 23)).cell? ⟨w2.heap.size, 1, none⟩ = some (.int .i32 p1) := hn2.cell 1
    have f18 : (w6.alloc (.cells #[.int .i32 x0, .int .i32 x1, .int .i32 x2, .int .i32 x3] 23)).cell? ⟨w2.heap.size, 2, none⟩ = some (.int .i32 p2) := hn2.cell 2
    have f19 : (w6.alloc (.cells #[.int .i32 x0, .int .i32 x1, .int .i32 x2, .int .i32 x3] 23)).cell? ⟨w2.heap.size, 3, none⟩ = some (.int .i32 p3) := hn2.cell 3
    have f20 : (w6.alloc (.cells #[.int .i32 x0, .int .i32 x1, .int .i32 x2, .int .i32 x3] 23)).cell? ⟨w3.heap.size, 0, none⟩ = some (.int .i32 x0) := hn3.cell 0
    have f21 : (w6.alloc (.cells #[.int .i32 x0, .int .i32 x1, .int .i32 x2, .int .i32 x3] 23)).cell? ⟨w3.heap.size, 1, none⟩ = some (.int .i32 x1) := hn3.cell 1
    have f22 : (w6.alloc (.cells #[.int .i32 x0, .int .i32 x1, .int .i32 x2, .int .i32 x3] 23)).cell? ⟨w3.heap.size, 2, none⟩ = some (.int .i32 x2) := hn3.cell 2
    have f23 : (w6.alloc (.cells #[.int .i32 x0, .int .i32 x1, .int .i32 x2, .int .i32 x3] 23)).cell? ⟨w3.heap.size, 3, none⟩ = some (.int .i32 x3) := hn3.cell 3
    have f24 : (w6.alloc (.cells #[.int .i32 x0, .int .i32 x1, .int .i32 x2, .int .i32 x3] 23)).cell? ⟨w4.heap.size, 0, none⟩ = some (.int .i32 c0) := hn4.cell 0
    have f25 : (w6.alloc (.cells #[.int .i32 x0, .int .i32 x1, .int .i32 x2, .int .i32 x3] 23)).cell? ⟨w4.heap.size, 1, none⟩ = some (.int .i32 c1) := hn4.cell 1
    have f26 : (w6.alloc (.cells #[.int .i32 x0, .int .i32 x1, .int .i32 x2, .int .i32 x3] 23)).cell? ⟨w4.heap.size, 2, none⟩ = some (.int .i32 c2) := hn4.cell 2
    have f27 : (w6.alloc (.cells #[.int .i32 x0, .int .i32 x1, .int .i32 x2, .int .i32 x3] 23)).cell? ⟨w4.heap.size, 3, none⟩ = some (.int .i32 c3) := hn4.cell 3
    have f28 : (w6.alloc (.cells #[.int .i32 x0, .int .i32 x1, .int .i32 x2, .int .i32 x3] 23)).cell? ⟨w5.heap.size, 0, none⟩ = some (.int .i32 d0) := hn5.cell 0
    have f29 : (w6.alloc (.cells #[.int .i32 x0, .int .i32 x1, .int .i32 x2, .int .i32 x3] 23)).cell? ⟨w5.heap.size, 1, none⟩ = some (.int .i32 d1) := hn5.cell 1
    have f30 : (w6.alloc (.cells #[.int .i32 x0, .int .i32 x1, .int .i32 x2, .int .i32 x3] 23)).cell? ⟨w5.heap.size, 2, none⟩ = some (.int .i32 d2) := hn5.cell 2
    have f31 : (w6.alloc (.cells #[.int .i32 x0, .int .i32 x1, .int .i32 x2, .int .i32 x3] 23)).cell? ⟨w5.heap.size, 3, none⟩ = some (.int .i32 d3) := hn5.cell 3
    have f32 : (w6.alloc (.cells #[.int .i32 x0, .int .i32 x1, .int .i32 x2, .int .i32 x3] 23)).cell? ⟨w6.heap.size, 0, none⟩ = some (.int .i32 x0) := hn6.cell 0
    have f33 : (w6.alloc (.cells #[.int .i32 x0, .int .i32 x1, .int .i32 x2, .int .i32 x3] 23)).cell? ⟨w6.heap.size, 1, none⟩ = some (.int .i32 x1) := hn6.cell 1
    have f34 : (w6.alloc (.cells #[.int .i32 x0, .int .i32 x1, .int .i32 x2, .int .i32 x3] 23)).cell? ⟨w6.heap.size, 2, none⟩ = some (.int .i32 x2) := hn6.cell 2
    have f35 : (w6.alloc (.cells #[.int .i32 x0, .int .i32 x1, .int .i32 x2, .int .i32 x3] 23)).cell? ⟨w6.heap.size, 3, none⟩ = some (.int .i32 x3) := hn6.cell 3
    go_wp2
    go_ret
    exact ⟨rfl, hb⟩
end Go.Proofs.Ytlcikfnhgldonaa
