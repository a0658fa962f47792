/- Chapter 10: the walk of QuatNorm. -/
import Derived.Test.YtlcikfnhgldonaaQuatN
import Derived.Test.YtlcikfnhgldonaaQuatLaw
namespace Go.Proofs.Ytlcikfnhgldonaa
open Go.RowKit
set_option linter.unusedVariables false
set_option linter.unusedSimpArgs false

theorem sqP_four (a b c d : Int) : 0 ≤ sqP [a, b, c, d] ∧ sqP [a, b, c, d] ≤ 18446744073709551615 ∧ (sqP [a, b, c, d] < 18446744073709551615 → sqP [a, b, c, d] = a * a + b * b + c * c + d * d) ∧ (a * a + b * b + c * c + d * d ≤ 18446744073709551615 → sqP [a, b, c, d] = a * a + b * b + c * c + d * d) := by
  have h0 := sq_nn a
  have h1 := sq_nn b
  have h2 := sq_nn c
  have h3 := sq_nn d
  simp only [sqP, sqs]
  omega

set_option maxHeartbeats 8000000 in
theorem quatNorm_walk (a0 a1 a2 a3 b0 b1 b2 b3 : Int) (w : World) (va0 : (Lit.int .i32 a0).wf = true) (va1 : (Lit.int .i32 a1).wf = true) (va2 : (Lit.int .i32 a2).wf = true) (va3 : (Lit.int .i32 a3).wf = true) (vb0 : (Lit.int .i32 b0).wf = true) (vb1 : (Lit.int .i32 b1).wf = true) (vb2 : (Lit.int .i32 b2).wf = true) (vb3 : (Lit.int .i32 b3).wf = true) :
    Calls Try.prog 5 #[.agg #[.int .i32 a0, .int .i32 a1, .int .i32 a2, .int .i32 a3], .agg #[.int .i32 b0, .int .i32 b1, .int .i32 b2, .int .i32 b3]] w fun e w' => e = .returned (.bool true) ∧ Below w.heap.size w w' := by
  have ia0 : I32 a0 := bounds_i32 va0
  have ia1 : I32 a1 := bounds_i32 va1
  have ia2 : I32 a2 := bounds_i32 va2
  have ia3 : I32 a3 := bounds_i32 va3
  have ib0 : I32 b0 := bounds_i32 vb0
  have ib1 : I32 b1 := bounds_i32 vb1
  have ib2 : I32 b2 := bounds_i32 vb2
  have ib3 : I32 b3 := bounds_i32 vb3
  clear va0 va1 va2 va3 vb0 vb1 vb2 vb3
  have HK := hid fun w => law10_knows w
  have HA := hid fun w => r10_Norm a0 a1 a2 a3 w ia0 ia1 ia2 ia3
  have HB := hid fun w => r10_Norm b0 b1 b2 b3 w ib0 ib1 ib2 ib3
  have sa := sqP_four a0 a1 a2 a3
  have sb := sqP_four b0 b1 b2 b3
  have na := fun w => law10_near (sqP [a0, a1, a2, a3]) 1099511627776 w ⟨sa.1, sa.2.1⟩ (by omega)
  have nb := fun w => law10_near (sqP [b0, b1, b2, b3]) 1099511627776 w ⟨sb.1, sb.2.1⟩ (by omega)
  have ea : Hid (_ = _) := hid (Eq.refl (decide (sqP [a0, a1, a2, a3] ≤ 1152921504606846976 + 1099511627776) && decide (1152921504606846976 - 1099511627776 ≤ sqP [a0, a1, a2, a3])))
  have eb : Hid (_ = _) := hid (Eq.refl (decide (sqP [b0, b1, b2, b3] ≤ 1152921504606846976 + 1099511627776) && decide (1152921504606846976 - 1099511627776 ≤ sqP [b0, b1, b2, b3])))
  generalize hta : (decide (sqP [a0, a1, a2, a3] ≤ 1152921504606846976 + 1099511627776) && decide (1152921504606846976 - 1099511627776 ≤ sqP [a0, a1, a2, a3])) = ta at na
  generalize htb : (decide (sqP [b0, b1, b2, b3] ≤ 1152921504606846976 + 1099511627776) && decide (1152921504606846976 - 1099511627776 ≤ sqP [b0, b1, b2, b3])) = tb at nb
  clear ea eb
  have NA := hid na
  have NB := hid nb
  clear na nb
  generalize sqP [a0, a1, a2, a3] = na at *
  generalize sqP [b0, b1, b2, b3] = nb at *
  cases ta
  · clear sa sb hta htb ia0 ia1 ia2 ia3 ib0 ib1 ib2 ib3
    go_enter Try.func5, Try.ntmps5
    have hp0 : Blk (w.alloc (.cells #[.int .i32 a0, .int .i32 a1, .int .i32 a2, .int .i32 a3] 23)) w.heap.size 23 #[.int .i32 a0, .int .i32 a1, .int .i32 a2, .int .i32 a3] := Blk.new w _ _
    have hb : Below w.heap.size w (w.alloc (.cells #[.int .i32 a0, .int .i32 a1, .int .i32 a2, .int .i32 a3] 23)) := (Below.refl _ w).alloc (Nat.le_refl _) _
    replace hp0 := hp0.alloc (.cells #[.int .i32 b0, .int .i32 b1, .int .i32 b2, .int .i32 b3] 23)
    have hp1 : Blk ((w.alloc (.cells #[.int .i32 a0, .int .i32 a1, .int .i32 a2, .int .i32 a3] 23)).alloc (.cells #[.int .i32 b0, .int .i32 b1, .int .i32 b2, .int .i32 b3] 23)) (w.heap.size + 1) 23 #[.int .i32 b0, .int .i32 b1, .int .i32 b2, .int .i32 b3] := by have := Blk.new (w.alloc (.cells #[.int .i32 a0, .int .i32 a1, .int .i32 a2, .int .i32 a3] 23)) 23 #[.int .i32 b0, .int .i32 b1, .int .i32 b2, .int .i32 b3]; simpa using this
    replace hb := hb.alloc hb.size (.cells #[.int .i32 b0, .int .i32 b1, .int .i32 b2, .int .i32 b3] 23)
    go_wp2_with fail
    generalize (w.alloc (.cells #[.int .i32 a0, .int .i32 a1, .int .i32 a2, .int .i32 a3] 23)).alloc (.cells #[.int .i32 b0, .int .i32 b1, .int .i32 b2, .int .i32 b3] 23) = W0 at *
    refine (HA.out _).mono ?_
    rintro e w1 ⟨rfl, b1⟩
    replace hp0 := hp0.below b1 hp0.lt
    replace hp1 := hp1.below b1 hp1.lt
    replace hb := hb.on b1
    clear b1
    have f0 : (w1).cell? ⟨w.heap.size, 0, none⟩ = some (.int .i32 a0) := hp0.cell 0
    have f1 : (w1).cell? ⟨w.heap.size, 1, none⟩ = some (.int .i32 a1) := hp0.cell 1
    have f2 : (w1).cell? ⟨w.heap.size, 2, none⟩ = some (.int .i32 a2) := hp0.cell 2
    have f3 : (w1).cell? ⟨w.heap.size, 3, none⟩ = some (.int .i32 a3) := hp0.cell 3
    have f4 : (w1).cell? ⟨w.heap.size + 1, 0, none⟩ = some (.int .i32 b0) := hp1.cell 0
    have f5 : (w1).cell? ⟨w.heap.size + 1, 1, none⟩ = some (.int .i32 b1) := hp1.cell 1
    have f6 : (w1).cell? ⟨w.heap.size + 1, 2, none⟩ = some (.int .i32 b2) := hp1.cell 2
    have f7 : (w1).cell? ⟨w.heap.size + 1, 3, none⟩ = some (.int .i32 b3) := hp1.cell 3
    go_wp2_with fail
    clear f0 f1 f2 f3 f4 f5 f6 f7
    generalize w1 = W1 at *
    refine (NA.out _).mono ?_
    rintro e w' ⟨rfl, rfl⟩
    have f0 : (W1).cell? ⟨w.heap.size, 0, none⟩ = some (.int .i32 a0) := hp0.cell 0
    have f1 : (W1).cell? ⟨w.heap.size, 1, none⟩ = some (.int .i32 a1) := hp0.cell 1
    have f2 : (W1).cell? ⟨w.heap.size, 2, none⟩ = some (.int .i32 a2) := hp0.cell 2
    have f3 : (W1).cell? ⟨w.heap.size, 3, none⟩ = some (.int .i32 a3) := hp0.cell 3
    have f4 : (W1).cell? ⟨w.heap.size + 1, 0, none⟩ = some (.int .i32 b0) := hp1.cell 0
    have f5 : (W1).cell? ⟨w.heap.size + 1, 1, none⟩ = some (.int .i32 b1) := hp1.cell 1
    have f6 : (W1).cell? ⟨w.heap.size + 1, 2, none⟩ = some (.int .i32 b2) := hp1.cell 2
    have f7 : (W1).cell? ⟨w.heap.size + 1, 3, none⟩ = some (.int .i32 b3) := hp1.cell 3
    go_wp2_with fail
    clear f0 f1 f2 f3 f4 f5 f6 f7
    generalize W1 = W2 at *
    refine (HK.out _).mono ?_
    rintro e w3 ⟨rfl, b3⟩
    replace hp0 := hp0.below b3 hp0.lt
    replace hp1 := hp1.below b3 hp1.lt
    replace hb := hb.on b3
    clear b3
    go_wp2
    go_ret
    exact ⟨rfl, hb⟩
  cases tb
  · clear sa sb hta htb ia0 ia1 ia2 ia3 ib0 ib1 ib2 ib3
    go_enter Try.func5, Try.ntmps5
    have hp0 : Blk (w.alloc (.cells #[.int .i32 a0, .int .i32 a1, .int .i32 a2, .int .i32 a3] 23)) w.heap.size 23 #[.int .i32 a0, .int .i32 a1, .int .i32 a2, .int .i32 a3] := Blk.new w _ _
    have hb : Below w.heap.size w (w.alloc (.cells #[.int .i32 a0, .int .i32 a1, .int .i32 a2, .int .i32 a3] 23)) := (Below.refl _ w).alloc (Nat.le_refl _) _
    replace hp0 := hp0.alloc (.cells #[.int .i32 b0, .int .i32 b1, .int .i32 b2, .int .i32 b3] 23)
    have hp1 : Blk ((w.alloc (.cells #[.int .i32 a0, .int .i32 a1, .int .i32 a2, .int .i32 a3] 23)).alloc (.cells #[.int .i32 b0, .int .i32 b1, .int .i32 b2, .int .i32 b3] 23)) (w.heap.size + 1) 23 #[.int .i32 b0, .int .i32 b1, .int .i32 b2, .int .i32 b3] := by have := Blk.new (w.alloc (.cells #[.int .i32 a0, .int .i32 a1, .int .i32 a2, .int .i32 a3] 23)) 23 #[.int .i32 b0, .int .i32 b1, .int .i32 b2, .int .i32 b3]; simpa using this
    replace hb := hb.alloc hb.size (.cells #[.int .i32 b0, .int .i32 b1, .int .i32 b2, .int .i32 b3] 23)
    go_wp2_with fail
    generalize (w.alloc (.cells #[.int .i32 a0, .int .i32 a1, .int .i32 a2, .int .i32 a3] 23)).alloc (.cells #[.int .i32 b0, .int .i32 b1, .int .i32 b2, .int .i32 b3] 23) = W0 at *
    refine (HA.out _).mono ?_
    rintro e w1 ⟨rfl, b1⟩
    replace hp0 := hp0.below b1 hp0.lt
    replace hp1 := hp1.below b1 hp1.lt
    replace hb := hb.on b1
    clear b1
    have f0 : (w1).cell? ⟨w.heap.size, 0, none⟩ = some (.int .i32 a0) := hp0.cell 0
    have f1 : (w1).cell? ⟨w.heap.size, 1, none⟩ = some (.int .i32 a1) := hp0.cell 1
    have f2 : (w1).cell? ⟨w.heap.size, 2, none⟩ = some (.int .i32 a2) := hp0.cell 2
    have f3 : (w1).cell? ⟨w.heap.size, 3, none⟩ = some (.int .i32 a3) := hp0.cell 3
    have f4 : (w1).cell? ⟨w.heap.size + 1, 0, none⟩ = some (.int .i32 b0) := hp1.cell 0
    have f5 : (w1).cell? ⟨w.heap.size + 1, 1, none⟩ = some (.int .i32 b1) := hp1.cell 1
    have f6 : (w1).cell? ⟨w.heap.size + 1, 2, none⟩ = some (.int .i32 b2) := hp1.cell 2
    have f7 : (w1).cell? ⟨w.heap.size + 1, 3, none⟩ = some (.int .i32 b3) := hp1.cell 3
    go_wp2_with fail
    clear f0 f1 f2 f3 f4 f5 f6 f7
    generalize w1 = W1 at *
    refine (NA.out _).mono ?_
    rintro e w' ⟨rfl, rfl⟩
    have f0 : (W1).cell? ⟨w.heap.size, 0, none⟩ = some (.int .i32 a0) := hp0.cell 0
    have f1 : (W1).cell? ⟨w.heap.size, 1, none⟩ = some (.int .i32 a1) := hp0.cell 1
    have f2 : (W1).cell? ⟨w.heap.size, 2, none⟩ = some (.int .i32 a2) := hp0.cell 2
    have f3 : (W1).cell? ⟨w.heap.size, 3, none⟩ = some (.int .i32 a3) := hp0.cell 3
    have f4 : (W1).cell? ⟨w.heap.size + 1, 0, none⟩ = some (.int .i32 b0) := hp1.cell 0
    have f5 : (W1).cell? ⟨w.heap.size + 1, 1, none⟩ = some (.int .i32 b1) := hp1.cell 1
    have f6 : (W1).cell? ⟨w.heap.size + 1, 2, none⟩ = some (.int .i32 b2) := hp1.cell 2
    have f7 : (W1).cell? ⟨w.heap.size + 1, 3, none⟩ = some (.int .i32 b3) := hp1.cell 3
    go_wp2_with fail
    clear f0 f1 f2 f3 f4 f5 f6 f7
    generalize W1 = W2 at *
    refine (HB.out _).mono ?_
    rintro e w3 ⟨rfl, b3⟩
    replace hp0 := hp0.below b3 hp0.lt
    replace hp1 := hp1.below b3 hp1.lt
    replace hb := hb.on b3
    clear b3
    have f0 : (w3).cell? ⟨w.heap.size, 0, none⟩ = some (.int .i32 a0) := hp0.cell 0
    have f1 : (w3).cell? ⟨w.heap.size, 1, none⟩ = some (.int .i32 a1) := hp0.cell 1
    have f2 : (w3).cell? ⟨w.heap.size, 2, none⟩ = some (.int .i32 a2) := hp0.cell 2
    have f3 : (w3).cell? ⟨w.heap.size, 3, none⟩ = some (.int .i32 a3) := hp0.cell 3
    have f4 : (w3).cell? ⟨w.heap.size + 1, 0, none⟩ = some (.int .i32 b0) := hp1.cell 0
    have f5 : (w3).cell? ⟨w.heap.size + 1, 1, none⟩ = some (.int .i32 b1) := hp1.cell 1
    have f6 : (w3).cell? ⟨w.heap.size + 1, 2, none⟩ = some (.int .i32 b2) := hp1.cell 2
    have f7 : (w3).cell? ⟨w.heap.size + 1, 3, none⟩ = some (.int .i32 b3) := hp1.cell 3
    go_wp2_with fail
    clear f0 f1 f2 f3 f4 f5 f6 f7
    generalize w3 = W3 at *
    refine (NB.out _).mono ?_
    rintro e w' ⟨rfl, rfl⟩
    have f0 : (W3).cell? ⟨w.heap.size, 0, none⟩ = some (.int .i32 a0) := hp0.cell 0
    have f1 : (W3).cell? ⟨w.heap.size, 1, none⟩ = some (.int .i32 a1) := hp0.cell 1
    have f2 : (W3).cell? ⟨w.heap.size, 2, none⟩ = some (.int .i32 a2) := hp0.cell 2
    have f3 : (W3).cell? ⟨w.heap.size, 3, none⟩ = some (.int .i32 a3) := hp0.cell 3
    have f4 : (W3).cell? ⟨w.heap.size + 1, 0, none⟩ = some (.int .i32 b0) := hp1.cell 0
    have f5 : (W3).cell? ⟨w.heap.size + 1, 1, none⟩ = some (.int .i32 b1) := hp1.cell 1
    have f6 : (W3).cell? ⟨w.heap.size + 1, 2, none⟩ = some (.int .i32 b2) := hp1.cell 2
    have f7 : (W3).cell? ⟨w.heap.size + 1, 3, none⟩ = some (.int .i32 b3) := hp1.cell 3
    go_wp2_with fail
    clear f0 f1 f2 f3 f4 f5 f6 f7
    generalize W3 = W4 at *
    refine (HK.out _).mono ?_
    rintro e w5 ⟨rfl, b5⟩
    replace hp0 := hp0.below b5 hp0.lt
    replace hp1 := hp1.below b5 hp1.lt
    replace hb := hb.on b5
    clear b5
    go_wp2
    go_ret
    exact ⟨rfl, hb⟩
  simp only [Bool.and_eq_true, decide_eq_true_eq] at hta htb
  obtain ⟨F, G⟩ := norm_law a0 a1 a2 a3 b0 b1 b2 b3 ia0 ia1 ia2 ia3 ib0 ib1 ib2 ib3 (by omega) (by omega)
  clear hta htb sa sb
  have h1 := fun w => q_Mul a0 a1 a2 a3 b0 b1 b2 b3 w ia0 ia1 ia2 ia3 ib0 ib1 ib2 ib3
  clear ia0 ia1 ia2 ia3 ib0 ib1 ib2 ib3
  unfold Muls at h1
  rw [cutC_zero _ F.1, cutC_zero _ F.2.1, cutC_zero _ F.2.2.1, cutC_zero _ F.2.2.2, clampP_in _ F.1, clampP_in _ F.2.1, clampP_in _ F.2.2.1, clampP_in _ F.2.2.2] at h1
  generalize mulW a0 a1 a2 a3 b0 b1 b2 b3 = xW at *
  generalize mulX a0 a1 a2 a3 b0 b1 b2 b3 = xX at *
  generalize mulY a0 a1 a2 a3 b0 b1 b2 b3 = xY at *
  generalize mulZ a0 a1 a2 a3 b0 b1 b2 b3 = xZ at *
  have sc := sqP_four xW xX xY xZ
  have es : sqP [xW, xX, xY, xZ] = xW * xW + xX * xX + xY * xY + xZ * xZ := by omega
  have h2 := fun w => r10_Norm xW xX xY xZ w F.1 F.2.1 F.2.2.1 F.2.2.2
  have h3 := fun w => q_Norm xW xX xY xZ w F.1 F.2.1 F.2.2.1 F.2.2.2
  have h4 := fun w => law10_near (sqP [xW, xX, xY, xZ]) 4398046511104 w ⟨sc.1, sc.2.1⟩ (by omega)
  rw [← es] at G
  have d1 : decide (sqP [xW, xX, xY, xZ] ≤ 1152921504606846976 + 4398046511104) = true := by simp only [decide_eq_true_eq]; omega
  have d2 : decide (1152921504606846976 - 4398046511104 ≤ sqP [xW, xX, xY, xZ]) = true := by simp only [decide_eq_true_eq]; omega
  simp only [d1, d2, Bool.and_self] at h4
  clear d1 d2 es sc G F
  generalize sqP [xW, xX, xY, xZ] = s at *
  have H1 := hid h1
  have H2 := hid h2
  have H3 := hid h3
  have H4 := hid h4
  clear h1 h2 h3 h4
  go_enter Try.func5, Try.ntmps5
  have hp0 : Blk (w.alloc (.cells #[.int .i32 a0, .int .i32 a1, .int .i32 a2, .int .i32 a3] 23)) w.heap.size 23 #[.int .i32 a0, .int .i32 a1, .int .i32 a2, .int .i32 a3] := Blk.new w _ _
  have hb : Below w.heap.size w (w.alloc (.cells #[.int .i32 a0, .int .i32 a1, .int .i32 a2, .int .i32 a3] 23)) := (Below.refl _ w).alloc (Nat.le_refl _) _
  replace hp0 := hp0.alloc (.cells #[.int .i32 b0, .int .i32 b1, .int .i32 b2, .int .i32 b3] 23)
  have hp1 : Blk ((w.alloc (.cells #[.int .i32 a0, .int .i32 a1, .int .i32 a2, .int .i32 a3] 23)).alloc (.cells #[.int .i32 b0, .int .i32 b1, .int .i32 b2, .int .i32 b3] 23)) (w.heap.size + 1) 23 #[.int .i32 b0, .int .i32 b1, .int .i32 b2, .int .i32 b3] := by have := Blk.new (w.alloc (.cells #[.int .i32 a0, .int .i32 a1, .int .i32 a2, .int .i32 a3] 23)) 23 #[.int .i32 b0, .int .i32 b1, .int .i32 b2, .int .i32 b3]; simpa using this
  replace hb := hb.alloc hb.size (.cells #[.int .i32 b0, .int .i32 b1, .int .i32 b2, .int .i32 b3] 23)
  go_wp2_with fail
  generalize (w.alloc (.cells #[.int .i32 a0, .int .i32 a1, .int .i32 a2, .int .i32 a3] 23)).alloc (.cells #[.int .i32 b0, .int .i32 b1, .int .i32 b2, .int .i32 b3] 23) = W0 at *
  refine (HA.out _).mono ?_
  rintro e w1 ⟨rfl, b1⟩
  replace hp0 := hp0.below b1 hp0.lt
  replace hp1 := hp1.below b1 hp1.lt
  replace hb := hb.on b1
  clear b1
  have f0 : (w1).cell? ⟨w.heap.size, 0, none⟩ = some (.int .i32 a0) := hp0.cell 0
  have f1 : (w1).cell? ⟨w.heap.size, 1, none⟩ = some (.int .i32 a1) := hp0.cell 1
  have f2 : (w1).cell? ⟨w.heap.size, 2, none⟩ = some (.int .i32 a2) := hp0.cell 2
  have f3 : (w1).cell? ⟨w.heap.size, 3, none⟩ = some (.int .i32 a3) := hp0.cell 3
  have f4 : (w1).cell? ⟨w.heap.size + 1, 0, none⟩ = some (.int .i32 b0) := hp1.cell 0
  have f5 : (w1).cell? ⟨w.heap.size + 1, 1, none⟩ = some (.int .i32 b1) := hp1.cell 1
  have f6 : (w1).cell? ⟨w.heap.size + 1, 2, none⟩ = some (.int .i32 b2) := hp1.cell 2
  have f7 : (w1).cell? ⟨w.heap.size + 1, 3, none⟩ = some (.int .i32 b3) := hp1.cell 3
  go_wp2_with fail
  clear f0 f1 f2 f3 f4 f5 f6 f7
  generalize w1 = W1 at *
  refine (NA.out _).mono ?_
  rintro e w' ⟨rfl, rfl⟩
  have f0 : (W1).cell? ⟨w.heap.size, 0, none⟩ = some (.int .i32 a0) := hp0.cell 0
  have f1 : (W1).cell? ⟨w.heap.size, 1, none⟩ = some (.int .i32 a1) := hp0.cell 1
  have f2 : (W1).cell? ⟨w.heap.size, 2, none⟩ = some (.int .i32 a2) := hp0.cell 2
  have f3 : (W1).cell? ⟨w.heap.size, 3, none⟩ = some (.int .i32 a3) := hp0.cell 3
  have f4 : (W1).cell? ⟨w.heap.size + 1, 0, none⟩ = some (.int .i32 b0) := hp1.cell 0
  have f5 : (W1).cell? ⟨w.heap.size + 1, 1, none⟩ = some (.int .i32 b1) := hp1.cell 1
  have f6 : (W1).cell? ⟨w.heap.size + 1, 2, none⟩ = some (.int .i32 b2) := hp1.cell 2
  have f7 : (W1).cell? ⟨w.heap.size + 1, 3, none⟩ = some (.int .i32 b3) := hp1.cell 3
  go_wp2_with fail
  clear f0 f1 f2 f3 f4 f5 f6 f7
  generalize W1 = W2 at *
  refine (HB.out _).mono ?_
  rintro e w3 ⟨rfl, b3⟩
  replace hp0 := hp0.below b3 hp0.lt
  replace hp1 := hp1.below b3 hp1.lt
  replace hb := hb.on b3
  clear b3
  have f0 : (w3).cell? ⟨w.heap.size, 0, none⟩ = some (.int .i32 a0) := hp0.cell 0
  have f1 : (w3).cell? ⟨w.heap.size, 1, none⟩ = some (.int .i32 a1) := hp0.cell 1
  have f2 : (w3).cell? ⟨w.heap.size, 2, none⟩ = some (.int .i32 a2) := hp0.cell 2
  have f3 : (w3).cell? ⟨w.heap.size, 3, none⟩ = some (.int .i32 a3) := hp0.cell 3
  have f4 : (w3).cell? ⟨w.heap.size + 1, 0, none⟩ = some (.int .i32 b0) := hp1.cell 0
  have f5 : (w3).cell? ⟨w.heap.size + 1, 1, none⟩ = some (.int .i32 b1) := hp1.cell 1
  have f6 : (w3).cell? ⟨w.heap.size + 1, 2, none⟩ = some (.int .i32 b2) := hp1.cell 2
  have f7 : (w3).cell? ⟨w.heap.size + 1, 3, none⟩ = some (.int .i32 b3) := hp1.cell 3
  go_wp2_with fail
  clear f0 f1 f2 f3 f4 f5 f6 f7
  generalize w3 = W3 at *
  refine (NB.out _).mono ?_
  rintro e w' ⟨rfl, rfl⟩
  have f0 : (W3).cell? ⟨w.heap.size, 0, none⟩ = some (.int .i32 a0) := hp0.cell 0
  have f1 : (W3).cell? ⟨w.heap.size, 1, none⟩ = some (.int .i32 a1) := hp0.cell 1
  have f2 : (W3).cell? ⟨w.heap.size, 2, none⟩ = some (.int .i32 a2) := hp0.cell 2
  have f3 : (W3).cell? ⟨w.heap.size, 3, none⟩ = some (.int .i32 a3) := hp0.cell 3
  have f4 : (W3).cell? ⟨w.heap.size + 1, 0, none⟩ = some (.int .i32 b0) := hp1.cell 0
  have f5 : (W3).cell? ⟨w.heap.size + 1, 1, none⟩ = some (.int .i32 b1) := hp1.cell 1
  have f6 : (W3).cell? ⟨w.heap.size + 1, 2, none⟩ = some (.int .i32 b2) := hp1.cell 2
  have f7 : (W3).cell? ⟨w.heap.size + 1, 3, none⟩ = some (.int .i32 b3) := hp1.cell 3
  go_wp2_with fail
  clear f0 f1 f2 f3 f4 f5 f6 f7
  generalize W3 = W4 at *
  refine (HK.out _).mono ?_
  rintro e w5 ⟨rfl, b5⟩
  replace hp0 := hp0.below b5 hp0.lt
  replace hp1 := hp1.below b5 hp1.lt
  replace hb := hb.on b5
  clear b5
  have f0 : (w5).cell? ⟨w.heap.size, 0, none⟩ = some (.int .i32 a0) := hp0.cell 0
  have f1 : (w5).cell? ⟨w.heap.size, 1, none⟩ = some (.int .i32 a1) := hp0.cell 1
  have f2 : (w5).cell? ⟨w.heap.size, 2, none⟩ = some (.int .i32 a2) := hp0.cell 2
  have f3 : (w5).cell? ⟨w.heap.size, 3, none⟩ = some (.int .i32 a3) := hp0.cell 3
  have f4 : (w5).cell? ⟨w.heap.size + 1, 0, none⟩ = some (.int .i32 b0) := hp1.cell 0
  have f5 : (w5).cell? ⟨w.heap.size + 1, 1, none⟩ = some (.int .i32 b1) := hp1.cell 1
  have f6 : (w5).cell? ⟨w.heap.size + 1, 2, none⟩ = some (.int .i32 b2) := hp1.cell 2
  have f7 : (w5).cell? ⟨w.heap.size + 1, 3, none⟩ = some (.int .i32 b3) := hp1.cell 3
  go_wp2_with fail
  clear f0 f1 f2 f3 f4 f5 f6 f7
  generalize w5 = W5 at *
  refine (H1.out _).mono ?_
  rintro e w6 ⟨rfl, b6⟩
  replace hp0 := hp0.below b6 hp0.lt
  replace hp1 := hp1.below b6 hp1.lt
  replace hb := hb.on b6
  clear b6
  replace hp0 := hp0.alloc (.cells #[.int .i32 xW, .int .i32 xX, .int .i32 xY, .int .i32 xZ] 23)
  replace hp1 := hp1.alloc (.cells #[.int .i32 xW, .int .i32 xX, .int .i32 xY, .int .i32 xZ] 23)
  have hn6 : Blk (w6.alloc (.cells #[.int .i32 xW, .int .i32 xX, .int .i32 xY, .int .i32 xZ] 23)) w6.heap.size 23 #[.int .i32 xW, .int .i32 xX, .int .i32 xY, .int .i32 xZ] := Blk.new w6 _ _
  replace hb := hb.alloc hb.size (.cells #[.int .i32 xW, .int .i32 xX, .int .i32 xY, .int .i32 xZ] 23)
  have f0 : (w6.alloc (.cells #[.int .i32 xW, .int .i32 xX, .int .i32 xY, .int .i32 xZ] 23)).cell? ⟨w.heap.size, 0, none⟩ = some (.int .i32 a0) := hp0.cell 0
  have f1 : (w6.alloc (.cells #[.int .i32 xW, .int .i32 xX, .int .i32 xY, .int .i32 xZ] 23)).cell? ⟨w.heap.size, 1, none⟩ = some (.int .i32 a1) := hp0.cell 1
  have f2 : (w6.alloc (.cells #[.int .i32 xW, .int .i32 xX, .int .i32 xY, .int .i32 xZ] 23)).cell? ⟨w.heap.size, 2, none⟩ = some (.int .i32 a2) := hp0.cell 2
  have f3 : (w6.alloc (.cells #[.int .i32 xW, .int .i32 xX, .int .i32 xY, .int .i32 xZ] 23)).cell? ⟨w.heap.size, 3, none⟩ = some (.int .i32 a3) := hp0.cell 3
  have f4 : (w6.alloc (.cells #[.int .i32 xW, .int .i32 xX, .int .i32 xY, .int .i32 xZ] 23)).cell? ⟨w.heap.size + 1, 0, none⟩ = some (.int .i32 b0) := hp1.cell 0
  have f5 : (w6.alloc (.cells #[.int .i32 xW, .int .i32 xX, .int .i32 xY, .int .i32 xZ] 23)).cell? ⟨w.heap.size + 1, 1, none⟩ = some (.int .i32 b1) := hp1.cell 1
  have f6 : (w6.alloc (.cells #[.int .i32 xW, .int .i32 xX, .int .i32 xY, .int .i32 xZ] 23)).cell? ⟨w.heap.size + 1, 2, none⟩ = some (.int .i32 b2) := hp1.cell 2
  have f7 : (w6.alloc (.cells #[.int .i32 xW, .int .i32 xX, .int .i32 xY, .int .i32 xZ] 23)).cell? ⟨w.heap.size + 1, 3, none⟩ = some (.int .i32 b3) := hp1.cell 3
  have f8 : (w6.alloc (.cells #[.int .i32 xW, .int .i32 xX, .int .i32 xY, .int .i32 xZ] 23)).cell? ⟨w6.heap.size, 0, none⟩ = some (.int .i32 xW) := hn6.cell 0
  have f9 : (w6.alloc (.cells #[.int .i32 xW, .int .i32 xX, .int .i32 xY, .int .i32 xZ] 23)).cell? ⟨w6.heap.size, 1, none⟩ = some (.int .i32 xX) := hn6.cell 1
  have f10 : (w6.alloc (.cells #[.int .i32 xW, .int .i32 xX, .int .i32 xY, .int .i32 xZ] 23)).cell? ⟨w6.heap.size, 2, none⟩ = some (.int .i32 xY) := hn6.cell 2
  have f11 : (w6.alloc (.cells #[.int .i32 xW, .int .i32 xX, .int .i32 xY, .int .i32 xZ] 23)).cell? ⟨w6.heap.size, 3, none⟩ = some (.int .i32 xZ) := hn6.cell 3
  go_upto_region 4 with fail
  clear f0 f1 f2 f3 f4 f5 f6 f7 f8 f9 f10 f11
  generalize w6.alloc (.cells #[.int .i32 xW, .int .i32 xX, .int .i32 xY, .int .i32 xZ] 23) = W6 at *
  refine wp_region_noPanic ?_
  refine wp_region_held_drew (S := (fun w' : World => w'.cell? ⟨w.heap.size, 0, none⟩ = some (.int .i32 a0) ∧ w'.cell? ⟨w.heap.size, 1, none⟩ = some (.int .i32 a1) ∧ w'.cell? ⟨w.heap.size, 2, none⟩ = some (.int .i32 a2) ∧ w'.cell? ⟨w.heap.size, 3, none⟩ = some (.int .i32 a3) ∧ w'.cell? ⟨w.heap.size + 1, 0, none⟩ = some (.int .i32 b0) ∧ w'.cell? ⟨w.heap.size + 1, 1, none⟩ = some (.int .i32 b1) ∧ w'.cell? ⟨w.heap.size + 1, 2, none⟩ = some (.int .i32 b2) ∧ w'.cell? ⟨w.heap.size + 1, 3, none⟩ = some (.int .i32 b3) ∧ w'.cell? ⟨w6.heap.size, 0, none⟩ = some (.int .i32 xW) ∧ w'.cell? ⟨w6.heap.size, 1, none⟩ = some (.int .i32 xX) ∧ w'.cell? ⟨w6.heap.size, 2, none⟩ = some (.int .i32 xY) ∧ w'.cell? ⟨w6.heap.size, 3, none⟩ = some (.int .i32 xZ))) (by kernel_rfl) ⟨hp0.cell 0, hp0.cell 1, hp0.cell 2, hp0.cell 3, hp1.cell 0, hp1.cell 1, hp1.cell 2, hp1.cell 3, hn6.cell 0, hn6.cell 1, hn6.cell 2, hn6.cell 3⟩ (fun hHeld => ?_)
  refine (show wpAnyH _ _ _ _ _ 15 _ _ _ from ?_)
  try (simp only [Act.put, List.setIfInBounds_toArray, List.set_cons_zero, List.set_cons_succ])
  replace hp0 := hp0.drew
  replace hp1 := hp1.drew
  replace hn6 := hn6.drew
  replace hb := hb.drew
  generalize W6.drew = W1 at *
  refine tk 0 hHeld ?_
  refine tk 1 hHeld ?_
  refine tk 2 hHeld ?_
  refine tk 3 hHeld ?_
  refine rd1 4 (fun K hK => ?_)
  go_simp
  refine (H2.out _).mono ?_
  rintro e w2x ⟨rfl, b2x⟩
  go_wp2_with fail
  refine hK.out _ _ ⟨(hp0.below b2x hp0.lt).cell 0, (hp0.below b2x hp0.lt).cell 1, (hp0.below b2x hp0.lt).cell 2, (hp0.below b2x hp0.lt).cell 3, (hp1.below b2x hp1.lt).cell 0, (hp1.below b2x hp1.lt).cell 1, (hp1.below b2x hp1.lt).cell 2, (hp1.below b2x hp1.lt).cell 3, (hn6.below b2x hn6.lt).cell 0, (hn6.below b2x hn6.lt).cell 1, (hn6.below b2x hn6.lt).cell 2, (hn6.below b2x hn6.lt).cell 3⟩ (fun hHeld => ?_)
  clear hK K
  try (simp only [Act.put, List.setIfInBounds_toArray, List.set_cons_zero, List.set_cons_succ])
  refine rd1 5 (fun K hK => ?_)
  go_simp
  refine (H4.out _).mono ?_
  rintro e w' ⟨rfl, rfl⟩
  go_wp2_with fail
  refine hK.out _ _ ⟨(hp0.below b2x hp0.lt).cell 0, (hp0.below b2x hp0.lt).cell 1, (hp0.below b2x hp0.lt).cell 2, (hp0.below b2x hp0.lt).cell 3, (hp1.below b2x hp1.lt).cell 0, (hp1.below b2x hp1.lt).cell 1, (hp1.below b2x hp1.lt).cell 2, (hp1.below b2x hp1.lt).cell 3, (hn6.below b2x hn6.lt).cell 0, (hn6.below b2x hn6.lt).cell 1, (hn6.below b2x hn6.lt).cell 2, (hn6.below b2x hn6.lt).cell 3⟩ (fun hHeld => ?_)
  clear hK K
  try (simp only [Act.put, List.setIfInBounds_toArray, List.set_cons_zero, List.set_cons_succ])
  refine tk 6 hHeld ?_
  refine tk 7 hHeld ?_
  refine tk 8 hHeld ?_
  refine tk 10 hHeld ?_
  refine rd1 9 (fun K hK => ?_)
  go_simp
  refine (H3.out _).mono ?_
  rintro e w4x ⟨rfl, b4x⟩
  go_wp2_with fail
  have B4x := b2x.on b4x
  refine hK.out _ _ ⟨(hp0.below B4x hp0.lt).cell 0, (hp0.below B4x hp0.lt).cell 1, (hp0.below B4x hp0.lt).cell 2, (hp0.below B4x hp0.lt).cell 3, (hp1.below B4x hp1.lt).cell 0, (hp1.below B4x hp1.lt).cell 1, (hp1.below B4x hp1.lt).cell 2, (hp1.below B4x hp1.lt).cell 3, (hn6.below B4x hn6.lt).cell 0, (hn6.below B4x hn6.lt).cell 1, (hn6.below B4x hn6.lt).cell 2, (hn6.below B4x hn6.lt).cell 3⟩ (fun hHeld => ?_)
  clear hK K
  try (simp only [Act.put, List.setIfInBounds_toArray, List.set_cons_zero, List.set_cons_succ])
  refine rd1 11 (fun K hK => ?_)
  go_simp
  refine (H2.out _).mono ?_
  rintro e w5x ⟨rfl, b5x⟩
  go_wp2_with fail
  have B5x := B4x.on b5x
  refine hK.out _ _ ⟨(hp0.below B5x hp0.lt).cell 0, (hp0.below B5x hp0.lt).cell 1, (hp0.below B5x hp0.lt).cell 2, (hp0.below B5x hp0.lt).cell 3, (hp1.below B5x hp1.lt).cell 0, (hp1.below B5x hp1.lt).cell 1, (hp1.below B5x hp1.lt).cell 2, (hp1.below B5x hp1.lt).cell 3, (hn6.below B5x hn6.lt).cell 0, (hn6.below B5x hn6.lt).cell 1, (hn6.below B5x hn6.lt).cell 2, (hn6.below B5x hn6.lt).cell 3⟩ (fun hHeld => ?_)
  clear hK K
  try (simp only [Act.put, List.setIfInBounds_toArray, List.set_cons_zero, List.set_cons_succ])
  refine tk 12 hHeld ?_
  refine tk 13 hHeld ?_
  refine tk 14 hHeld ?_
  refine wpAnyH_done ?hru6 ?hqu6 _
  case hru6 => kernel_rfl
  refine NoPanic.normal ?_
  go_wp2
  go_ret
  exact ⟨rfl, hb.on B5x⟩
end Go.Proofs.Ytlcikfnhgldonaa
