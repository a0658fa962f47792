/- Chapter 09: the walk of VecUnit. -/
import Derived.Test.YtlcikfnhgldonaaVecK
namespace Go.Proofs.Ytlcikfnhgldonaa
open Go.RowKit
set_option linter.unusedVariables false
set_option linter.unusedSimpArgs false

theorem sqP_3 (a b c : Int) : sqP [a, b, c] = min (a * a + b * b + c * c) 18446744073709551615 := by
  simp only [sqP, sqs]
  omega
theorem make3_32 (a0 a1 a2 x : Int) (ia0 : I32 a0) (ia1 : I32 a1) (ia2 : I32 a2) (h : x ∈ [a0, a1, a2]) : I32 (makeP [a0, a1, a2] x) := by
  unfold makeP
  rcases far3_zero a0 a1 a2 ia0 ia1 ia2 with hz | hz
  · rw [if_pos hz]; unfold I32; omega
  · rw [if_neg (by omega)]
    have := oneP_bd [a0, a1, a2] (by unfold I32 at *; simp; omega) hz x h
    unfold I32; omega
theorem unit3_law (a0 a1 a2 : Int) (ia0 : I32 a0) (ia1 : I32 a1) (ia2 : I32 a2) (hz : 0 < farP [a0, a1, a2]) :
    1152921496016912384 ≤ sqP [makeP [a0, a1, a2] a0, makeP [a0, a1, a2] a1, makeP [a0, a1, a2] a2] ∧ sqP [makeP [a0, a1, a2] a0, makeP [a0, a1, a2] a1, makeP [a0, a1, a2] a2] ≤ 1152921513196781568 := by
  obtain ⟨n30, hG, hL1, hL2, hL3⟩ := up_facts [a0, a1, a2] (by unfold I32 at *; simp; omega) hz
  have hm : ∀ x, makeP [a0, a1, a2] x = oneP [a0, a1, a2] x := fun x => by unfold makeP; rw [if_neg (by omega)]
  simp only [hm]
  have hu : upL [a0, a1, a2] = [a0 * 2 ^ upN [a0, a1, a2], a1 * 2 ^ upN [a0, a1, a2], a2 * 2 ^ upN [a0, a1, a2]] := rfl
  simp only [List.mem_cons, List.not_mem_nil, or_false, forall_eq_or_imp, forall_eq] at hG hL3
  obtain ⟨G0, G1, G2⟩ := hG
  obtain ⟨M0, M1, M2⟩ := hL3
  have k0 := sq32 _ G0
  have k1 := sq32 _ G1
  have k2 := sq32 _ G2
  have hf := len_facts [a0, a1, a2] (by rw [hu]; simp only [sqs]; omega)
  rw [hu] at hf
  simp only [sqs] at hf
  have o : ∀ x, I32 (x * 2 ^ upN [a0, a1, a2]) → -(lenP [a0, a1, a2]) ≤ 2 * (lenP [a0, a1, a2] * oneP [a0, a1, a2] x - x * 2 ^ upN [a0, a1, a2] * 1073741824) ∧ 2 * (lenP [a0, a1, a2] * oneP [a0, a1, a2] x - x * 2 ^ upN [a0, a1, a2] * 1073741824) ≤ lenP [a0, a1, a2] :=
    fun x hx => over_near _ _ (by unfold I32 at hx; omega) (by omega)
  have h := unit_norm _ _ _ 0 _ _ _ 0 _ _ rfl (by omega) (by omega) hL1 M0 M1 M2 (by omega) (o a0 G0) (o a1 G1) (o a2 G2) (by omega)
  rw [sqP_3]
  omega

set_option maxHeartbeats 10000000 in
theorem vecUnit_walk (a0 a1 a2 : Int) (w : World) (va0 : (Lit.int .i32 a0).wf = true) (va1 : (Lit.int .i32 a1).wf = true) (va2 : (Lit.int .i32 a2).wf = true) :
    Calls Try.prog 10 #[.agg #[.int .i32 a0, .int .i32 a1, .int .i32 a2]] w fun e w' => e = .returned (.bool true) ∧ Below w.heap.size w w' := by
  have ia0 : I32 a0 := bounds_i32 va0
  have ia1 : I32 a1 := bounds_i32 va1
  have ia2 : I32 a2 := bounds_i32 va2
  clear va0 va1 va2
  have HK := hid fun w => law09_knows w
  have h1 := fun w => v_Unit a0 a1 a2 w ia0 ia1 ia2
  unfold Makes3 at h1
  rcases far3_zero a0 a1 a2 ia0 ia1 ia2 with hz | hz
  · obtain ⟨rfl, rfl, rfl⟩ := far3_zero' a0 a1 a2 ia0 ia1 ia2 hz
    have e1 : ∀ x, makeP [0, 0, 0] x = 0 := fun x => by unfold makeP; rw [if_pos hz]
    have e2 : decide (0 < farP [0, 0, 0]) = false := by rw [hz]; rfl
    simp only [e1, e2] at h1
    have H1 := hid h1
    clear h1 e1 e2 hz ia0 ia1 ia2
    go_enter Try.func10, Try.ntmps10
    have hp0 : Blk (w.alloc (.cells #[.int .i32 0, .int .i32 0, .int .i32 0] 40)) w.heap.size 40 #[.int .i32 0, .int .i32 0, .int .i32 0] := Blk.new w _ _
    have hb : Below w.heap.size w (w.alloc (.cells #[.int .i32 0, .int .i32 0, .int .i32 0] 40)) := (Below.refl _ w).alloc (Nat.le_refl _) _
    go_wp2_with fail
    generalize w.alloc (.cells #[.int .i32 0, .int .i32 0, .int .i32 0] 40) = W0 at *
    refine (H1.out _).mono ?_
    rintro e w1 ⟨rfl, b1⟩
    replace hp0 := hp0.below b1 hp0.lt
    replace hb := hb.on b1
    clear b1
    have o1hp0 := hp0.lt
    replace hp0 := hp0.alloc (.cells #[.int .i32 0, .int .i32 0, .int .i32 0] 40)
    have ob1 := hb.size
    have hn1 : Blk (w1.alloc (.cells #[.int .i32 0, .int .i32 0, .int .i32 0] 40)) w1.heap.size 40 #[.int .i32 0, .int .i32 0, .int .i32 0] := Blk.new w1 _ _
    replace hb := hb.alloc hb.size (.cells #[.int .i32 0, .int .i32 0, .int .i32 0] 40)
    have f0 : (w1.alloc (.cells #[.int .i32 0, .int .i32 0, .int .i32 0] 40)).cell? ⟨w.heap.size, 0, none⟩ = some (.int .i32 0) := hp0.cell 0
    have f1 : (w1.alloc (.cells #[.int .i32 0, .int .i32 0, .int .i32 0] 40)).cell? ⟨w.heap.size, 1, none⟩ = some (.int .i32 0) := hp0.cell 1
    have f2 : (w1.alloc (.cells #[.int .i32 0, .int .i32 0, .int .i32 0] 40)).cell? ⟨w.heap.size, 2, none⟩ = some (.int .i32 0) := hp0.cell 2
    have f3 : (w1.alloc (.cells #[.int .i32 0, .int .i32 0, .int .i32 0] 40)).cell? ⟨w1.heap.size, 0, none⟩ = some (.int .i32 0) := hn1.cell 0
    have f4 : (w1.alloc (.cells #[.int .i32 0, .int .i32 0, .int .i32 0] 40)).cell? ⟨w1.heap.size, 1, none⟩ = some (.int .i32 0) := hn1.cell 1
    have f5 : (w1.alloc (.cells #[.int .i32 0, .int .i32 0, .int .i32 0] 40)).cell? ⟨w1.heap.size, 2, none⟩ = some (.int .i32 0) := hn1.cell 2
    go_wp2_with fail
    clear f0 f1 f2 f3 f4 f5
    generalize w1.alloc (.cells #[.int .i32 0, .int .i32 0, .int .i32 0] 40) = W1 at *
    refine (HK.out _).mono ?_
    rintro e w2 ⟨rfl, b2⟩
    replace hp0 := hp0.below b2 hp0.lt
    replace hn1 := hn1.below b2 hn1.lt
    replace hb := hb.on b2
    clear b2
    go_wp2
    go_ret
    exact ⟨rfl, hb⟩
  · obtain ⟨q1, q2⟩ := unit3_law a0 a1 a2 ia0 ia1 ia2 hz
    have e2 : decide (0 < farP [a0, a1, a2]) = true := decide_eq_true hz
    rw [e2] at h1
    clear e2
    have hA : ∀ x ∈ [a0, a1, a2], -2147483648 ≤ x ∧ x ≤ 2147483647 := by unfold I32 at *; simp; omega
    obtain ⟨k1, k2, k3, _, _⟩ := make_kept [a0, a1, a2] hA a0 a1 (by simp) (by simp)
    have k4 : a0 = a1 → makeP [a0, a1, a2] a0 = makeP [a0, a1, a2] a1 := fun h => congrArg (makeP [a0, a1, a2]) h
    have j0 : I32 (makeP [a0, a1, a2] a0) := make3_32 a0 a1 a2 a0 ia0 ia1 ia2 (by simp)
    have j1 : I32 (makeP [a0, a1, a2] a1) := make3_32 a0 a1 a2 a1 ia0 ia1 ia2 (by simp)
    have j2 : I32 (makeP [a0, a1, a2] a2) := make3_32 a0 a1 a2 a2 ia0 ia1 ia2 (by simp)
    generalize makeP [a0, a1, a2] a0 = u0 at *
    generalize makeP [a0, a1, a2] a1 = u1 at *
    generalize makeP [a0, a1, a2] a2 = u2 at *
    have HS := hid fun (g : Nat) w h => ref_Squares (some ⟨g, 0, none⟩) 3 3 [u0, u1, u2] w h (by unfold I32 at *; simp; omega) (by omega)
    generalize sqP [u0, u1, u2] = N at *
    have d1 : decide (1152921513196781568 < N) = false := by simp; omega
    have d2 : decide (N < 1152921496016912384) = false := by simp; omega
    have H1 := hid h1
    clear h1 q1 q2 hz hA ia0 ia1 ia2 j0 j1 j2
    go_enter Try.func10, Try.ntmps10
    have hp0 : Blk (w.alloc (.cells #[.int .i32 a0, .int .i32 a1, .int .i32 a2] 40)) w.heap.size 40 #[.int .i32 a0, .int .i32 a1, .int .i32 a2] := Blk.new w _ _
    have hb : Below w.heap.size w (w.alloc (.cells #[.int .i32 a0, .int .i32 a1, .int .i32 a2] 40)) := (Below.refl _ w).alloc (Nat.le_refl _) _
    go_wp2_with fail
    generalize w.alloc (.cells #[.int .i32 a0, .int .i32 a1, .int .i32 a2] 40) = W0 at *
    refine (H1.out _).mono ?_
    rintro e w1 ⟨rfl, b1⟩
    replace hp0 := hp0.below b1 hp0.lt
    replace hb := hb.on b1
    clear b1
    have o1hp0 := hp0.lt
    replace hp0 := hp0.alloc (.cells #[.int .i32 u0, .int .i32 u1, .int .i32 u2] 40)
    have ob1 := hb.size
    have hn1 : Blk (w1.alloc (.cells #[.int .i32 u0, .int .i32 u1, .int .i32 u2] 40)) w1.heap.size 40 #[.int .i32 u0, .int .i32 u1, .int .i32 u2] := Blk.new w1 _ _
    replace hb := hb.alloc hb.size (.cells #[.int .i32 u0, .int .i32 u1, .int .i32 u2] 40)
    have f0 : (w1.alloc (.cells #[.int .i32 u0, .int .i32 u1, .int .i32 u2] 40)).cell? ⟨w.heap.size, 0, none⟩ = some (.int .i32 a0) := hp0.cell 0
    have f1 : (w1.alloc (.cells #[.int .i32 u0, .int .i32 u1, .int .i32 u2] 40)).cell? ⟨w.heap.size, 1, none⟩ = some (.int .i32 a1) := hp0.cell 1
    have f2 : (w1.alloc (.cells #[.int .i32 u0, .int .i32 u1, .int .i32 u2] 40)).cell? ⟨w.heap.size, 2, none⟩ = some (.int .i32 a2) := hp0.cell 2
    have f3 : (w1.alloc (.cells #[.int .i32 u0, .int .i32 u1, .int .i32 u2] 40)).cell? ⟨w1.heap.size, 0, none⟩ = some (.int .i32 u0) := hn1.cell 0
    have f4 : (w1.alloc (.cells #[.int .i32 u0, .int .i32 u1, .int .i32 u2] 40)).cell? ⟨w1.heap.size, 1, none⟩ = some (.int .i32 u1) := hn1.cell 1
    have f5 : (w1.alloc (.cells #[.int .i32 u0, .int .i32 u1, .int .i32 u2] 40)).cell? ⟨w1.heap.size, 2, none⟩ = some (.int .i32 u2) := hn1.cell 2
    go_upto_region 4 with fail
    clear f0 f1 f2 f3 f4 f5
    generalize w1.alloc (.cells #[.int .i32 u0, .int .i32 u1, .int .i32 u2] 40) = W1 at *
    have f0 : (W1).cell? ⟨w.heap.size, 0, none⟩ = some (.int .i32 a0) := hp0.cell 0
    have f1 : (W1).cell? ⟨w.heap.size, 1, none⟩ = some (.int .i32 a1) := hp0.cell 1
    have f2 : (W1).cell? ⟨w.heap.size, 2, none⟩ = some (.int .i32 a2) := hp0.cell 2
    have f3 : (W1).cell? ⟨w1.heap.size, 0, none⟩ = some (.int .i32 u0) := hn1.cell 0
    have f4 : (W1).cell? ⟨w1.heap.size, 1, none⟩ = some (.int .i32 u1) := hn1.cell 1
    have f5 : (W1).cell? ⟨w1.heap.size, 2, none⟩ = some (.int .i32 u2) := hn1.cell 2
    go_wp2_with fail
    clear f0 f1 f2 f3 f4 f5
    have hs := Blk.new W1 21 #[.int .i32 u0, .int .i32 u1, .int .i32 u2]
    have hb2 := hb.alloc hb.size (.cells #[.int .i32 u0, .int .i32 u1, .int .i32 u2] 21)
    replace hp0 := hp0.alloc (.cells #[.int .i32 u0, .int .i32 u1, .int .i32 u2] 21)
    replace hn1 := hn1.alloc (.cells #[.int .i32 u0, .int .i32 u1, .int .i32 u2] 21)
    replace hb := hb2
    clear hb2
    refine (HS.out _ _ (Row.blk hs rfl hs.lt)).mono ?_
    rintro e w2 ⟨rfl, b2⟩
    replace hp0 := hp0.below b2 hp0.lt
    replace hn1 := hn1.below b2 hn1.lt
    replace hb := hb.on b2
    clear b2 hs
    have f0 : (w2).cell? ⟨w.heap.size, 0, none⟩ = some (.int .i32 a0) := hp0.cell 0
    have f1 : (w2).cell? ⟨w.heap.size, 1, none⟩ = some (.int .i32 a1) := hp0.cell 1
    have f2 : (w2).cell? ⟨w.heap.size, 2, none⟩ = some (.int .i32 a2) := hp0.cell 2
    have f3 : (w2).cell? ⟨w1.heap.size, 0, none⟩ = some (.int .i32 u0) := hn1.cell 0
    have f4 : (w2).cell? ⟨w1.heap.size, 1, none⟩ = some (.int .i32 u1) := hn1.cell 1
    have f5 : (w2).cell? ⟨w1.heap.size, 2, none⟩ = some (.int .i32 u2) := hn1.cell 2
    by_cases g0 : a0 = 0
    · have gu := k3 g0
      subst gu
      subst g0
      by_cases g1 : 0 = a1
      · have e3 : (0 == a1) = true := by simpa using g1
        have e4 : (0 == u1) = true := by simpa using k4 g1
        clear k1 k2 k3 k4 g1
        go_wp2
        go_ret
        exact ⟨rfl, hb⟩
      · have e3 : (0 == a1) = false := by simpa using g1
        clear k1 k2 k3 k4 g1
        go_wp2
        go_ret
        exact ⟨rfl, hb⟩
    · have e1 : (a0 == 0) = false := by simpa using g0
      by_cases gs : a0 < 0
      · by_cases gu : u0 = 0
        · have s1 : decide (a0 < 0) = true := by simpa using gs
          have s2 : decide (u0 < 0) = false := by simp; omega
          have e2 : (u0 == 0) = true := by simpa using gu
          by_cases g1 : a0 = a1
          · have e3 : (a0 == a1) = true := by simpa using g1
            have e4 : (u0 == u1) = true := by simpa using k4 g1
            clear k1 k2 k3 k4 g1
            go_wp2
            go_ret
            exact ⟨rfl, hb⟩
          · have e3 : (a0 == a1) = false := by simpa using g1
            clear k1 k2 k3 k4 g1
            go_wp2
            go_ret
            exact ⟨rfl, hb⟩
        · have s1 : decide (a0 < 0) = true := by simpa using gs
          have s2 : decide (u0 < 0) = true := by have := k1 gs; simp; omega
          by_cases g1 : a0 = a1
          · have e3 : (a0 == a1) = true := by simpa using g1
            have e4 : (u0 == u1) = true := by simpa using k4 g1
            clear k1 k2 k3 k4 g1
            go_wp2
            go_ret
            exact ⟨rfl, hb⟩
          · have e3 : (a0 == a1) = false := by simpa using g1
            clear k1 k2 k3 k4 g1
            go_wp2
            go_ret
            exact ⟨rfl, hb⟩
      · have s1 : decide (a0 < 0) = false := by simpa using gs
        have s2 : decide (u0 < 0) = false := by have := k2 (by omega); simp; omega
        by_cases g1 : a0 = a1
        · have e3 : (a0 == a1) = true := by simpa using g1
          have e4 : (u0 == u1) = true := by simpa using k4 g1
          clear k1 k2 k3 k4 g1
          go_wp2
          go_ret
          exact ⟨rfl, hb⟩
        · have e3 : (a0 == a1) = false := by simpa using g1
          clear k1 k2 k3 k4 g1
          go_wp2
          go_ret
          exact ⟨rfl, hb⟩
end Go.Proofs.Ytlcikfnhgldonaa
