/- Chapter 13: the walk of TurnUnit. -/
import Derived.Test.YtfogjfmpgfcolaaTurnT
import Derived.Test.YtfogjfmpgfcolaaQuatLaw
namespace Go.Proofs.Ytfogjfmpgfcolaa
open Go.RowKit
set_option linter.unusedVariables false
set_option linter.unusedSimpArgs false

theorem makeP_32b (a0 a1 a2 a3 x : Int) (ia0 : I32 a0) (ia1 : I32 a1) (ia2 : I32 a2) (ia3 : I32 a3) (h : x ∈ [a0, a1, a2, a3]) : I32 (makeP [a0, a1, a2, a3] x) := by
  unfold makeP
  rcases far_zero a0 a1 a2 a3 ia0 ia1 ia2 ia3 with hz | hz
  · rw [if_pos hz]; unfold I32; omega
  · rw [if_neg (by omega)]
    have := oneP_bd [a0, a1, a2, a3] (by unfold I32 at *; simp; omega) hz x h
    unfold I32; omega
theorem st_still (q0 q1 q2 q3 r0 r1 r2 dt : Int) (iq0 : I32 q0) (iq1 : I32 q1) (iq2 : I32 q2) (iq3 : I32 q3) (h : (r0 = 0 ∧ r1 = 0 ∧ r2 = 0) ∨ dt = 0) :
    stP 0 q0 q1 q2 q3 r0 r1 r2 dt = q0 ∧ stP 1 q0 q1 q2 q3 r0 r1 r2 dt = q1 ∧ stP 2 q0 q1 q2 q3 r0 r1 r2 dt = q2 ∧ stP 3 q0 q1 q2 q3 r0 r1 r2 dt = q3 ∧ stN q0 q1 q2 q3 r0 r1 r2 dt = 0 := by
  have z : ∀ x, (x = 0 ∨ dt = 0) → stH x dt = 0 := fun x hx => by
    unfold stH
    rcases hx with rfl | rfl
    · rw [Int.zero_mul]; decide +kernel
    · rw [Int.mul_zero]; decide +kernel
  have z0 : stH r0 dt = 0 := z _ (by rcases h with h | h; exact .inl h.1; exact .inr h)
  have z1 : stH r1 dt = 0 := z _ (by rcases h with h | h; exact .inl h.2.1; exact .inr h)
  have z2 : stH r2 dt = 0 := z _ (by rcases h with h | h; exact .inl h.2.2; exact .inr h)
  have c0 : clampP 0 = 0 := by decide
  have k0 : cutC 0 = 0 := by decide
  have m0 : mulW q0 q1 q2 q3 1073741824 0 0 0 = q0 := by unfold mulW; rw [tm_one q0 iq0, tm_zero q1 iq1, tm_zero q2 iq2, tm_zero q3 iq3]; omega
  have m1 : mulX q0 q1 q2 q3 1073741824 0 0 0 = q1 := by unfold mulX; rw [tm_one q1 iq1, tm_zero q0 iq0, tm_zero q2 iq2, tm_zero q3 iq3]; omega
  have m2 : mulY q0 q1 q2 q3 1073741824 0 0 0 = q2 := by unfold mulY; rw [tm_one q2 iq2, tm_zero q0 iq0, tm_zero q3 iq3, tm_zero q1 iq1]; omega
  have m3 : mulZ q0 q1 q2 q3 1073741824 0 0 0 = q3 := by unfold mulZ; rw [tm_one q3 iq3, tm_zero q0 iq0, tm_zero q1 iq1, tm_zero q2 iq2]; omega
  have cc : ∀ x, I32 x → cutC x = 0 := fun x hx => by unfold cutC; rw [clampP_in x hx]; simp
  simp only [stP, stN, z0, z1, z2, c0, k0, m0, m1, m2, m3]
  rw [clampP_in q0 iq0, clampP_in q1 iq1, clampP_in q2 iq2, clampP_in q3 iq3, cc q0 iq0, cc q1 iq1, cc q2 iq2, cc q3 iq3]
  exact ⟨rfl, rfl, rfl, rfl, rfl⟩
theorem st_unit (q0 q1 q2 q3 r0 r1 r2 dt : Int) : (∀ j z, I32 z → I32 (stO (stL q0 q1 q2 q3 r0 r1 r2 dt) (stP j q0 q1 q2 q3 r0 r1 r2 dt) z)) ∧
    offP (sqP [stO (stL q0 q1 q2 q3 r0 r1 r2 dt) (stP 0 q0 q1 q2 q3 r0 r1 r2 dt) 1073741824, stO (stL q0 q1 q2 q3 r0 r1 r2 dt) (stP 1 q0 q1 q2 q3 r0 r1 r2 dt) 0, stO (stL q0 q1 q2 q3 r0 r1 r2 dt) (stP 2 q0 q1 q2 q3 r0 r1 r2 dt) 0, stO (stL q0 q1 q2 q3 r0 r1 r2 dt) (stP 3 q0 q1 q2 q3 r0 r1 r2 dt) 0]) ≤ 8589934592 := by
  have h0 : I32 (stP 0 q0 q1 q2 q3 r0 r1 r2 dt) := clampP_bd _
  have h1 : I32 (stP 1 q0 q1 q2 q3 r0 r1 r2 dt) := clampP_bd _
  have h2 : I32 (stP 2 q0 q1 q2 q3 r0 r1 r2 dt) := clampP_bd _
  have h3 : I32 (stP 3 q0 q1 q2 q3 r0 r1 r2 dt) := clampP_bd _
  have hj : ∀ j, stP j q0 q1 q2 q3 r0 r1 r2 dt ∈ stL q0 q1 q2 q3 r0 r1 r2 dt := fun j => by
    match j with
    | 0 => simp [stL]
    | 1 => simp [stL]
    | 2 => simp [stL]
    | j + 3 => simp only [stL, List.mem_cons]; exact .inr (.inr (.inr (.inl rfl)))
  have hm : ∀ j, I32 (makeP (stL q0 q1 q2 q3 r0 r1 r2 dt) (stP j q0 q1 q2 q3 r0 r1 r2 dt)) := fun j => by
    have := hj j
    unfold stL at this ⊢
    exact makeP_32b _ _ _ _ _ h0 h1 h2 h3 this
  refine ⟨fun j z hz => ?_, ?_⟩
  · unfold stO
    split
    · exact hm j
    · exact hz
  · by_cases hf : 0 < farP (stL q0 q1 q2 q3 r0 r1 r2 dt)
    · simp only [stO, if_pos hf]
      unfold stL at hf ⊢
      have := unit_law _ _ _ _ h0 h1 h2 h3 hf
      unfold offP
      split <;> omega
    · simp only [stO, if_neg hf]
      decide +kernel
set_option maxRecDepth 20000 in
set_option maxHeartbeats 16000000 in
theorem turnUnit_walk (q0 q1 q2 q3 r0 r1 r2 dt : Int) (w : World) (vq0 : (Lit.int .i32 q0).wf = true) (vq1 : (Lit.int .i32 q1).wf = true) (vq2 : (Lit.int .i32 q2).wf = true) (vq3 : (Lit.int .i32 q3).wf = true) (vr0 : (Lit.int .i32 r0).wf = true) (vr1 : (Lit.int .i32 r1).wf = true) (vr2 : (Lit.int .i32 r2).wf = true) (vdt : (Lit.int .i32 dt).wf = true) :
    Calls Try.prog 12 #[.agg #[.int .i32 q0, .int .i32 q1, .int .i32 q2, .int .i32 q3], .agg #[.int .i32 r0, .int .i32 r1, .int .i32 r2], .int .i32 dt] w fun e w' => e = .returned (.bool true) ∧ Below w.heap.size w w' := by
  have iq0 : I32 q0 := bounds_i32 vq0
  have iq1 : I32 q1 := bounds_i32 vq1
  have iq2 : I32 q2 := bounds_i32 vq2
  have iq3 : I32 q3 := bounds_i32 vq3
  have ir0 : I32 r0 := bounds_i32 vr0
  have ir1 : I32 r1 := bounds_i32 vr1
  have ir2 : I32 r2 := bounds_i32 vr2
  have idt : I32 dt := bounds_i32 vdt
  clear vq0 vq1 vq2 vq3 vr0 vr1 vr2 vdt
  have h1 := fun w => t_Step q0 q1 q2 q3 r0 r1 r2 dt w iq0 iq1 iq2 iq3 ir0 ir1 ir2 idt
  have z : I32 0 := by unfold I32; omega
  have h2 := fun w => t_Step q0 q1 q2 q3 0 0 0 dt w iq0 iq1 iq2 iq3 z z z idt
  have h3 := fun w => t_Step q0 q1 q2 q3 r0 r1 r2 0 w iq0 iq1 iq2 iq3 ir0 ir1 ir2 z
  have h4 := fun w => r11_Make q0 q1 q2 q3 w iq0 iq1 iq2 iq3
  have HK := hid fun w => law13_knows w
  obtain ⟨ux, uo⟩ := st_unit q0 q1 q2 q3 r0 r1 r2 dt
  have k30 : I32 1073741824 := by unfold I32; omega
  have h5 := fun w => r11_Off _ _ _ _ w (ux 0 1073741824 k30) (ux 1 0 z) (ux 2 0 z) (ux 3 0 z)
  obtain ⟨a0, a1, a2, a3, aN⟩ := st_still q0 q1 q2 q3 0 0 0 dt iq0 iq1 iq2 iq3 (.inl ⟨rfl, rfl, rfl⟩)
  obtain ⟨b0, b1, b2, b3, bN⟩ := st_still q0 q1 q2 q3 r0 r1 r2 0 iq0 iq1 iq2 iq3 (.inr rfl)
  have aL : stL q0 q1 q2 q3 0 0 0 dt = [q0, q1, q2, q3] := by unfold stL; rw [a0, a1, a2, a3]
  have bL : stL q0 q1 q2 q3 r0 r1 r2 0 = [q0, q1, q2, q3] := by unfold stL; rw [b0, b1, b2, b3]
  unfold Steps at h1 h2 h3
  unfold Makes at h4
  simp only [aL, a0, a1, a2, a3, aN] at h2
  simp only [bL, b0, b1, b2, b3, bN] at h3
  generalize stO (stL q0 q1 q2 q3 r0 r1 r2 dt) (stP 0 q0 q1 q2 q3 r0 r1 r2 dt) 1073741824 = x0 at *
  generalize stO (stL q0 q1 q2 q3 r0 r1 r2 dt) (stP 1 q0 q1 q2 q3 r0 r1 r2 dt) 0 = x1 at *
  generalize stO (stL q0 q1 q2 q3 r0 r1 r2 dt) (stP 2 q0 q1 q2 q3 r0 r1 r2 dt) 0 = x2 at *
  generalize stO (stL q0 q1 q2 q3 r0 r1 r2 dt) (stP 3 q0 q1 q2 q3 r0 r1 r2 dt) 0 = x3 at *
  generalize stN q0 q1 q2 q3 r0 r1 r2 dt + (if 0 < farP (stL q0 q1 q2 q3 r0 r1 r2 dt) then 0 else 1) = N at *
  generalize offP (sqP [x0, x1, x2, x3]) = U at *
  have e1 : ¬ (8589934592 < U) := by omega
  have H1 := hid h1
  have H5 := hid h5
  clear h1 h5 ux uo k30 z a0 a1 a2 a3 aN aL b0 b1 b2 b3 bN bL iq0 iq1 iq2 iq3 ir0 ir1 ir2 idt
  by_cases hf : 0 < farP [q0, q1, q2, q3]
  · have d1 : decide (0 < farP [q0, q1, q2, q3]) = true := decide_eq_true hf
    simp only [stO, if_pos hf] at h2 h3
    rw [d1] at h4
    generalize makeP [q0, q1, q2, q3] q0 = y0 at *
    generalize makeP [q0, q1, q2, q3] q1 = y1 at *
    generalize makeP [q0, q1, q2, q3] q2 = y2 at *
    generalize makeP [q0, q1, q2, q3] q3 = y3 at *
    have H2 := hid h2
    have H3 := hid h3
    have H4 := hid h4
    clear h2 h3 h4 d1 hf
    go_enter Try.func12, Try.ntmps12
    have hp0 : Blk (w.alloc (.cells #[.int .i32 q0, .int .i32 q1, .int .i32 q2, .int .i32 q3] 23)) w.heap.size 23 #[.int .i32 q0, .int .i32 q1, .int .i32 q2, .int .i32 q3] := Blk.new w _ _
    have hb : Below w.heap.size w (w.alloc (.cells #[.int .i32 q0, .int .i32 q1, .int .i32 q2, .int .i32 q3] 23)) := (Below.refl _ w).alloc (Nat.le_refl _) _
    replace hp0 := hp0.alloc (.cells #[.int .i32 r0, .int .i32 r1, .int .i32 r2] 25)
    have hp1 : Blk ((w.alloc (.cells #[.int .i32 q0, .int .i32 q1, .int .i32 q2, .int .i32 q3] 23)).alloc (.cells #[.int .i32 r0, .int .i32 r1, .int .i32 r2] 25)) (w.heap.size + 1) 25 #[.int .i32 r0, .int .i32 r1, .int .i32 r2] := by have := Blk.new (w.alloc (.cells #[.int .i32 q0, .int .i32 q1, .int .i32 q2, .int .i32 q3] 23)) 25 #[.int .i32 r0, .int .i32 r1, .int .i32 r2]; simpa using this
    replace hb := hb.alloc hb.size (.cells #[.int .i32 r0, .int .i32 r1, .int .i32 r2] 25)
    go_wp2_with fail
    generalize (w.alloc (.cells #[.int .i32 q0, .int .i32 q1, .int .i32 q2, .int .i32 q3] 23)).alloc (.cells #[.int .i32 r0, .int .i32 r1, .int .i32 r2] 25) = W0 at *
    refine (H1.out _).mono ?_
    rintro e w1 ⟨rfl, b1⟩
    replace hp0 := hp0.below b1 hp0.lt
    replace hp1 := hp1.below b1 hp1.lt
    replace hb := below_on hb b1
    clear b1
    have o1hp0 := hp0.lt
    have o1hp1 := hp1.lt
    replace hp0 := hp0.alloc (.cells #[.int .i32 x0, .int .i32 x1, .int .i32 x2, .int .i32 x3] 23)
    replace hp1 := hp1.alloc (.cells #[.int .i32 x0, .int .i32 x1, .int .i32 x2, .int .i32 x3] 23)
    have ob1 := hb.size
    have hn1 : Blk (w1.alloc (.cells #[.int .i32 x0, .int .i32 x1, .int .i32 x2, .int .i32 x3] 23)) w1.heap.size 23 #[.int .i32 x0, .int .i32 x1, .int .i32 x2, .int .i32 x3] := Blk.new w1 _ _
    replace hb := hb.alloc hb.size (.cells #[.int .i32 x0, .int .i32 x1, .int .i32 x2, .int .i32 x3] 23)
    have f0 : (w1.alloc (.cells #[.int .i32 x0, .int .i32 x1, .int .i32 x2, .int .i32 x3] 23)).cell? ⟨w.heap.size, 0, none⟩ = some (.int .i32 q0) := hp0.cell 0
    have f1 : (w1.alloc (.cells #[.int .i32 x0, .int .i32 x1, .int .i32 x2, .int .i32 x3] 23)).cell? ⟨w.heap.size, 1, none⟩ = some (.int .i32 q1) := hp0.cell 1
    have f2 : (w1.alloc (.cells #[.int .i32 x0, .int .i32 x1, .int .i32 x2, .int .i32 x3] 23)).cell? ⟨w.heap.size, 2, none⟩ = some (.int .i32 q2) := hp0.cell 2
    have f3 : (w1.alloc (.cells #[.int .i32 x0, .int .i32 x1, .int .i32 x2, .int .i32 x3] 23)).cell? ⟨w.heap.size, 3, none⟩ = some (.int .i32 q3) := hp0.cell 3
    have f4 : (w1.alloc (.cells #[.int .i32 x0, .int .i32 x1, .int .i32 x2, .int .i32 x3] 23)).cell? ⟨w.heap.size + 1, 0, none⟩ = some (.int .i32 r0) := hp1.cell 0
    have f5 : (w1.alloc (.cells #[.int .i32 x0, .int .i32 x1, .int .i32 x2, .int .i32 x3] 23)).cell? ⟨w.heap.size + 1, 1, none⟩ = some (.int .i32 r1) := hp1.cell 1
    have f6 : (w1.alloc (.cells #[.int .i32 x0, .int .i32 x1, .int .i32 x2, .int .i32 x3] 23)).cell? ⟨w.heap.size + 1, 2, none⟩ = some (.int .i32 r2) := hp1.cell 2
    have f7 : (w1.alloc (.cells #[.int .i32 x0, .int .i32 x1, .int .i32 x2, .int .i32 x3] 23)).cell? ⟨w1.heap.size, 0, none⟩ = some (.int .i32 x0) := hn1.cell 0
    have f8 : (w1.alloc (.cells #[.int .i32 x0, .int .i32 x1, .int .i32 x2, .int .i32 x3] 23)).cell? ⟨w1.heap.size, 1, none⟩ = some (.int .i32 x1) := hn1.cell 1
    have f9 : (w1.alloc (.cells #[.int .i32 x0, .int .i32 x1, .int .i32 x2, .int .i32 x3] 23)).cell? ⟨w1.heap.size, 2, none⟩ = some (.int .i32 x2) := hn1.cell 2
    have f10 : (w1.alloc (.cells #[.int .i32 x0, .int .i32 x1, .int .i32 x2, .int .i32 x3] 23)).cell? ⟨w1.heap.size, 3, none⟩ = some (.int .i32 x3) := hn1.cell 3
    go_wp2_with fail
    clear f0 f1 f2 f3 f4 f5 f6 f7 f8 f9 f10
    generalize w1.alloc (.cells #[.int .i32 x0, .int .i32 x1, .int .i32 x2, .int .i32 x3] 23) = W1 at *
    refine (H5.out _).mono ?_
    rintro e w2 ⟨rfl, b2⟩
    replace hp0 := hp0.below b2 hp0.lt
    replace hp1 := hp1.below b2 hp1.lt
    replace hn1 := hn1.below b2 hn1.lt
    replace hb := below_on hb b2
    clear b2
    go_wp2_with fail
    generalize w2 = W2 at *
    refine (HK.out _).mono ?_
    rintro e w3 ⟨rfl, b3⟩
    replace hp0 := hp0.below b3 hp0.lt
    replace hp1 := hp1.below b3 hp1.lt
    replace hn1 := hn1.below b3 hn1.lt
    replace hb := below_on hb b3
    clear b3
    have f0 : (w3).cell? ⟨w.heap.size, 0, none⟩ = some (.int .i32 q0) := hp0.cell 0
    have f1 : (w3).cell? ⟨w.heap.size, 1, none⟩ = some (.int .i32 q1) := hp0.cell 1
    have f2 : (w3).cell? ⟨w.heap.size, 2, none⟩ = some (.int .i32 q2) := hp0.cell 2
    have f3 : (w3).cell? ⟨w.heap.size, 3, none⟩ = some (.int .i32 q3) := hp0.cell 3
    have f4 : (w3).cell? ⟨w.heap.size + 1, 0, none⟩ = some (.int .i32 r0) := hp1.cell 0
    have f5 : (w3).cell? ⟨w.heap.size + 1, 1, none⟩ = some (.int .i32 r1) := hp1.cell 1
    have f6 : (w3).cell? ⟨w.heap.size + 1, 2, none⟩ = some (.int .i32 r2) := hp1.cell 2
    have f7 : (w3).cell? ⟨w1.heap.size, 0, none⟩ = some (.int .i32 x0) := hn1.cell 0
    have f8 : (w3).cell? ⟨w1.heap.size, 1, none⟩ = some (.int .i32 x1) := hn1.cell 1
    have f9 : (w3).cell? ⟨w1.heap.size, 2, none⟩ = some (.int .i32 x2) := hn1.cell 2
    have f10 : (w3).cell? ⟨w1.heap.size, 3, none⟩ = some (.int .i32 x3) := hn1.cell 3
    go_wp2_with fail
    clear f0 f1 f2 f3 f4 f5 f6 f7 f8 f9 f10
    generalize w3 = W3 at *
    refine (H2.out _).mono ?_
    rintro e w4 ⟨rfl, b4⟩
    replace hp0 := hp0.below b4 hp0.lt
    replace hp1 := hp1.below b4 hp1.lt
    replace hn1 := hn1.below b4 hn1.lt
    replace hb := below_on hb b4
    clear b4
    have o4hp0 := hp0.lt
    have o4hp1 := hp1.lt
    have o4hn1 := hn1.lt
    replace hp0 := hp0.alloc (.cells #[.int .i32 y0, .int .i32 y1, .int .i32 y2, .int .i32 y3] 23)
    replace hp1 := hp1.alloc (.cells #[.int .i32 y0, .int .i32 y1, .int .i32 y2, .int .i32 y3] 23)
    replace hn1 := hn1.alloc (.cells #[.int .i32 y0, .int .i32 y1, .int .i32 y2, .int .i32 y3] 23)
    have ob4 := hb.size
    have hn4 : Blk (w4.alloc (.cells #[.int .i32 y0, .int .i32 y1, .int .i32 y2, .int .i32 y3] 23)) w4.heap.size 23 #[.int .i32 y0, .int .i32 y1, .int .i32 y2, .int .i32 y3] := Blk.new w4 _ _
    replace hb := hb.alloc hb.size (.cells #[.int .i32 y0, .int .i32 y1, .int .i32 y2, .int .i32 y3] 23)
    have f0 : (w4.alloc (.cells #[.int .i32 y0, .int .i32 y1, .int .i32 y2, .int .i32 y3] 23)).cell? ⟨w.heap.size, 0, none⟩ = some (.int .i32 q0) := hp0.cell 0
    have f1 : (w4.alloc (.cells #[.int .i32 y0, .int .i32 y1, .int .i32 y2, .int .i32 y3] 23)).cell? ⟨w.heap.size, 1, none⟩ = some (.int .i32 q1) := hp0.cell 1
    have f2 : (w4.alloc (.cells #[.int .i32 y0, .int .i32 y1, .int .i32 y2, .int .i32 y3] 23)).cell? ⟨w.heap.size, 2, none⟩ = some (.int .i32 q2) := hp0.cell 2
    have f3 : (w4.alloc (.cells #[.int .i32 y0, .int .i32 y1, .int .i32 y2, .int .i32 y3] 23)).cell? ⟨w.heap.size, 3, none⟩ = some (.int .i32 q3) := hp0.cell 3
    have f4 : (w4.alloc (.cells #[.int .i32 y0, .int .i32 y1, .int .i32 y2, .int .i32 y3] 23)).cell? ⟨w.heap.size + 1, 0, none⟩ = some (.int .i32 r0) := hp1.cell 0
    have f5 : (w4.alloc (.cells #[.int .i32 y0, .int .i32 y1, .int .i32 y2, .int .i32 y3] 23)).cell? ⟨w.heap.size + 1, 1, none⟩ = some (.int .i32 r1) := hp1.cell 1
    have f6 : (w4.alloc (.cells #[.int .i32 y0, .int .i32 y1, .int .i32 y2, .int .i32 y3] 23)).cell? ⟨w.heap.size + 1, 2, none⟩ = some (.int .i32 r2) := hp1.cell 2
    have f7 : (w4.alloc (.cells #[.int .i32 y0, .int .i32 y1, .int .i32 y2, .int .i32 y3] 23)).cell? ⟨w1.heap.size, 0, none⟩ = some (.int .i32 x0) := hn1.cell 0
    have f8 : (w4.alloc (.cells #[.int .i32 y0, .int .i32 y1, .int .i32 y2, .int .i32 y3] 23)).cell? ⟨w1.heap.size, 1, none⟩ = some (.int .i32 x1) := hn1.cell 1
    have f9 : (w4.alloc (.cells #[.int .i32 y0, .int .i32 y1, .int .i32 y2, .int .i32 y3] 23)).cell? ⟨w1.heap.size, 2, none⟩ = some (.int .i32 x2) := hn1.cell 2
    have f10 : (w4.alloc (.cells #[.int .i32 y0, .int .i32 y1, .int .i32 y2, .int .i32 y3] 23)).cell? ⟨w1.heap.size, 3, none⟩ = some (.int .i32 x3) := hn1.cell 3
    have f11 : (w4.alloc (.cells #[.int .i32 y0, .int .i32 y1, .int .i32 y2, .int .i32 y3] 23)).cell? ⟨w4.heap.size, 0, none⟩ = some (.int .i32 y0) := hn4.cell 0
    have f12 : (w4.alloc (.cells #[.int .i32 y0, .int .i32 y1, .int .i32 y2, .int .i32 y3] 23)).cell? ⟨w4.heap.size, 1, none⟩ = some (.int .i32 y1) := hn4.cell 1
    have f13 : (w4.alloc (.cells #[.int .i32 y0, .int .i32 y1, .int .i32 y2, .int .i32 y3] 23)).cell? ⟨w4.heap.size, 2, none⟩ = some (.int .i32 y2) := hn4.cell 2
    have f14 : (w4.alloc (.cells #[.int .i32 y0, .int .i32 y1, .int .i32 y2, .int .i32 y3] 23)).cell? ⟨w4.heap.size, 3, none⟩ = some (.int .i32 y3) := hn4.cell 3
    go_wp2_with fail
    clear f0 f1 f2 f3 f4 f5 f6 f7 f8 f9 f10 f11 f12 f13 f14
    generalize w4.alloc (.cells #[.int .i32 y0, .int .i32 y1, .int .i32 y2, .int .i32 y3] 23) = W4 at *
    refine (H3.out _).mono ?_
    rintro e w5 ⟨rfl, b5⟩
    replace hp0 := hp0.below b5 hp0.lt
    replace hp1 := hp1.below b5 hp1.lt
    replace hn1 := hn1.below b5 hn1.lt
    replace hn4 := hn4.below b5 hn4.lt
    replace hb := below_on hb b5
    clear b5
    have o5hp0 := hp0.lt
    have o5hp1 := hp1.lt
    have o5hn1 := hn1.lt
    have o5hn4 := hn4.lt
    replace hp0 := hp0.alloc (.cells #[.int .i32 y0, .int .i32 y1, .int .i32 y2, .int .i32 y3] 23)
    replace hp1 := hp1.alloc (.cells #[.int .i32 y0, .int .i32 y1, .int .i32 y2, .int .i32 y3] 23)
    replace hn1 := hn1.alloc (.cells #[.int .i32 y0, .int .i32 y1, .int .i32 y2, .int .i32 y3] 23)
    replace hn4 := hn4.alloc (.cells #[.int .i32 y0, .int .i32 y1, .int .i32 y2, .int .i32 y3] 23)
    have ob5 := hb.size
    have hn5 : Blk (w5.alloc (.cells #[.int .i32 y0, .int .i32 y1, .int .i32 y2, .int .i32 y3] 23)) w5.heap.size 23 #[.int .i32 y0, .int .i32 y1, .int .i32 y2, .int .i32 y3] := Blk.new w5 _ _
    replace hb := hb.alloc hb.size (.cells #[.int .i32 y0, .int .i32 y1, .int .i32 y2, .int .i32 y3] 23)
    have f0 : (w5.alloc (.cells #[.int .i32 y0, .int .i32 y1, .int .i32 y2, .int .i32 y3] 23)).cell? ⟨w.heap.size, 0, none⟩ = some (.int .i32 q0) := hp0.cell 0
    have f1 : (w5.alloc (.cells #[.int .i32 y0, .int .i32 y1, .int .i32 y2, .int .i32 y3] 23)).cell? ⟨w.heap.size, 1, none⟩ = some (.int .i32 q1) := hp0.cell 1
    have f2 : (w5.alloc (.cells #[.int .i32 y0, .int .i32 y1, .int .i32 y2, .int .i32 y3] 23)).cell? ⟨w.heap.size, 2, none⟩ = some (.int .i32 q2) := hp0.cell 2
    have f3 : (w5.alloc (.cells #[.int .i32 y0, .int .i32 y1, .int .i32 y2, .int .i32 y3] 23)).cell? ⟨w.heap.size, 3, none⟩ = some (.int .i32 q3) := hp0.cell 3
    have f4 : (w5.alloc (.cells #[.int .i32 y0, .int .i32 y1, .int .i32 y2, .int .i32 y3] 23)).cell? ⟨w.heap.size + 1, 0, none⟩ = some (.int .i32 r0) := hp1.cell 0
    have f5 : (w5.alloc (.cells #[.int .i32 y0, .int .i32 y1, .int .i32 y2, .int .i32 y3] 23)).cell? ⟨w.heap.size + 1, 1, none⟩ = some (.int .i32 r1) := hp1.cell 1
    have f6 : (w5.alloc (.cells #[.int .i32 y0, .int .i32 y1, .int .i32 y2, .int .i32 y3] 23)).cell? ⟨w.heap.size + 1, 2, none⟩ = some (.int .i32 r2) := hp1.cell 2
    have f7 : (w5.alloc (.cells #[.int .i32 y0, .int .i32 y1, .int .i32 y2, .int .i32 y3] 23)).cell? ⟨w1.heap.size, 0, none⟩ = some (.int .i32 x0) := hn1.cell 0
    have f8 : (w5.alloc (.cells #[.int .i32 y0, .int .i32 y1, .int .i32 y2, .int .i32 y3] 23)).cell? ⟨w1.heap.size, 1, none⟩ = some (.int .i32 x1) := hn1.cell 1
    have f9 : (w5.alloc (.cells #[.int .i32 y0, .int .i32 y1, .int .i32 y2, .int .i32 y3] 23)).cell? ⟨w1.heap.size, 2, none⟩ = some (.int .i32 x2) := hn1.cell 2
    have f10 : (w5.alloc (.cells #[.int .i32 y0, .int .i32 y1, .int .i32 y2, .int .i32 y3] 23)).cell? ⟨w1.heap.size, 3, none⟩ = some (.int .i32 x3) := hn1.cell 3
    have f11 : (w5.alloc (.cells #[.int .i32 y0, .int .i32 y1, .int .i32 y2, .int .i32 y3] 23)).cell? ⟨w4.heap.size, 0, none⟩ = some (.int .i32 y0) := hn4.cell 0
    have f12 : (w5.alloc (.cells #[.int .i32 y0, .int .i32 y1, .int .i32 y2, .int .i32 y3] 23)).cell? ⟨w4.heap.size, 1, none⟩ = some (.int .i32 y1) := hn4.cell 1
    have f13 : (w5.alloc (.cells #[.int .i32 y0, .int .i32 y1, .int .i32 y2, .int .i32 y3] 23)).cell? ⟨w4.heap.size, 2, none⟩ = some (.int .i32 y2) := hn4.cell 2
    have f14 : (w5.alloc (.cells #[.int .i32 y0, .int .i32 y1, .int .i32 y2, .int .i32 y3] 23)).cell? ⟨w4.heap.size, 3, none⟩ = some (.int .i32 y3) := hn4.cell 3
    have f15 : (w5.alloc (.cells #[.int .i32 y0, .int .i32 y1, .int .i32 y2, .int .i32 y3] 23)).cell? ⟨w5.heap.size, 0, none⟩ = some (.int .i32 y0) := hn5.cell 0
    have f16 : (w5.alloc (.cells #[.int .i32 y0, .int .i32 y1, .int .i32 y2, .int .i32 y3] 23)).cell? ⟨w5.heap.size, 1, none⟩ = some (.int .i32 y1) := hn5.cell 1
    have f17 : (w5.alloc (.cells #[.int .i32 y0, .int .i32 y1, .int .i32 y2, .int .i32 y3] 23)).cell? ⟨w5.heap.size, 2, none⟩ = some (.int .i32 y2) := hn5.cell 2
    have f18 : (w5.alloc (.cells #[.int .i32 y0, .int .i32 y1, .int .i32 y2, .int .i32 y3] 23)).cell? ⟨w5.heap.size, 3, none⟩ = some (.int .i32 y3) := hn5.cell 3
    go_wp2_with fail
    clear f0 f1 f2 f3 f4 f5 f6 f7 f8 f9 f10 f11 f12 f13 f14 f15 f16 f17 f18
    generalize w5.alloc (.cells #[.int .i32 y0, .int .i32 y1, .int .i32 y2, .int .i32 y3] 23) = W5 at *
    refine (H4.out _).mono ?_
    rintro e w6 ⟨rfl, b6⟩
    replace hp0 := hp0.below b6 hp0.lt
    replace hp1 := hp1.below b6 hp1.lt
    replace hn1 := hn1.below b6 hn1.lt
    replace hn4 := hn4.below b6 hn4.lt
    replace hn5 := hn5.below b6 hn5.lt
    replace hb := below_on hb b6
    clear b6
    have o6hp0 := hp0.lt
    have o6hp1 := hp1.lt
    have o6hn1 := hn1.lt
    have o6hn4 := hn4.lt
    have o6hn5 := hn5.lt
    replace hp0 := hp0.alloc (.cells #[.int .i32 y0, .int .i32 y1, .int .i32 y2, .int .i32 y3] 23)
    replace hp1 := hp1.alloc (.cells #[.int .i32 y0, .int .i32 y1, .int .i32 y2, .int .i32 y3] 23)
    replace hn1 := hn1.alloc (.cells #[.int .i32 y0, .int .i32 y1, .int .i32 y2, .int .i32 y3] 23)
    replace hn4 := hn4.alloc (.cells #[.int .i32 y0, .int .i32 y1, .int .i32 y2, .int .i32 y3] 23)
    replace hn5 := hn5.alloc (.cells #[.int .i32 y0, .int .i32 y1, .int .i32 y2, .int .i32 y3] 23)
    have ob6 := hb.size
    have hn6 : Blk (w6.alloc (.cells #[.int .i32 y0, .int .i32 y1, .int .i32 y2, .int .i32 y3] 23)) w6.heap.size 23 #[.int .i32 y0, .int .i32 y1, .int .i32 y2, .int .i32 y3] := Blk.new w6 _ _
    replace hb := hb.alloc hb.size (.cells #[.int .i32 y0, .int .i32 y1, .int .i32 y2, .int .i32 y3] 23)
    have f0 : (w6.alloc (.cells #[.int .i32 y0, .int .i32 y1, .int .i32 y2, .int .i32 y3] 23)).cell? ⟨w.heap.size, 0, none⟩ = some (.int .i32 q0) := hp0.cell 0
    have f1 : (w6.alloc (.cells #[.int .i32 y0, .int .i32 y1, .int .i32 y2, .int .i32 y3] 23)).cell? ⟨w.heap.size, 1, none⟩ = some (.int .i32 q1) := hp0.cell 1
    have f2 : (w6.alloc (.cells #[.int .i32 y0, .int .i32 y1, .int .i32 y2, .int .i32 y3] 23)).cell? ⟨w.heap.size, 2, none⟩ = some (.int .i32 q2) := hp0.cell 2
    have f3 : (w6.alloc (.cells #[.int .i32 y0, .int .i32 y1, .int .i32 y2, .int .i32 y3] 23)).cell? ⟨w.heap.size, 3, none⟩ = some (.int .i32 q3) := hp0.cell 3
    have f4 : (w6.alloc (.cells #[.int .i32 y0, .int .i32 y1, .int .i32 y2, .int .i32 y3] 23)).cell? ⟨w.heap.size + 1, 0, none⟩ = some (.int .i32 r0) := hp1.cell 0
    have f5 : (w6.alloc (.cells #[.int .i32 y0, .int .i32 y1, .int .i32 y2, .int .i32 y3] 23)).cell? ⟨w.heap.size + 1, 1, none⟩ = some (.int .i32 r1) := hp1.cell 1
    have f6 : (w6.alloc (.cells #[.int .i32 y0, .int .i32 y1, .int .i32 y2, .int .i32 y3] 23)).cell? ⟨w.heap.size + 1, 2, none⟩ = some (.int .i32 r2) := hp1.cell 2
    have f7 : (w6.alloc (.cells #[.int .i32 y0, .int .i32 y1, .int .i32 y2, .int .i32 y3] 23)).cell? ⟨w1.heap.size, 0, none⟩ = some (.int .i32 x0) := hn1.cell 0
    have f8 : (w6.alloc (.cells #[.int .i32 y0, .int .i32 y1, .int .i32 y2, .int .i32 y3] 23)).cell? ⟨w1.heap.size, 1, none⟩ = some (.int .i32 x1) := hn1.cell 1
    have f9 : (w6.alloc (.cells #[.int .i32 y0, .int .i32 y1, .int .i32 y2, .int .i32 y3] 23)).cell? ⟨w1.heap.size, 2, none⟩ = some (.int .i32 x2) := hn1.cell 2
    have f10 : (w6.alloc (.cells #[.int .i32 y0, .int .i32 y1, .int .i32 y2, .int .i32 y3] 23)).cell? ⟨w1.heap.size, 3, none⟩ = some (.int .i32 x3) := hn1.cell 3
    have f11 : (w6.alloc (.cells #[.int .i32 y0, .int .i32 y1, .int .i32 y2, .int .i32 y3] 23)).cell? ⟨w4.heap.size, 0, none⟩ = some (.int .i32 y0) := hn4.cell 0
    have f12 : (w6.alloc (.cells #[.int .i32 y0, .int .i32 y1, .int .i32 y2, .int .i32 y3] 23)).cell? ⟨w4.heap.size, 1, none⟩ = some (.int .i32 y1) := hn4.cell 1
    have f13 : (w6.alloc (.cells #[.int .i32 y0, .int .i32 y1, .int .i32 y2, .int .i32 y3] 23)).cell? ⟨w4.heap.size, 2, none⟩ = some (.int .i32 y2) := hn4.cell 2
    have f14 : (w6.alloc (.cells #[.int .i32 y0, .int .i32 y1, .int .i32 y2, .int .i32 y3] 23)).cell? ⟨w4.heap.size, 3, none⟩ = some (.int .i32 y3) := hn4.cell 3
    have f15 : (w6.alloc (.cells #[.int .i32 y0, .int .i32 y1, .int .i32 y2, .int .i32 y3] 23)).cell? ⟨w5.heap.size, 0, none⟩ = some (.int .i32 y0) := hn5.cell 0
    have f16 : (w6.alloc (.cells #[.int .i32 y0, .int .i32 y1, .int .i32 y2, .int .i32 y3] 23)).cell? ⟨w5.heap.size, 1, none⟩ = some (.int .i32 y1) := hn5.cell 1
    have f17 : (w6.alloc (.cells #[.int .i32 y0, .int .i32 y1, .int .i32 y2, .int .i32 y3] 23)).cell? ⟨w5.heap.size, 2, none⟩ = some (.int .i32 y2) := hn5.cell 2
    have f18 : (w6.alloc (.cells #[.int .i32 y0, .int .i32 y1, .int .i32 y2, .int .i32 y3] 23)).cell? ⟨w5.heap.size, 3, none⟩ = some (.int .i32 y3) := hn5.cell 3
    have f19 : (w6.alloc (.cells #[.int .i32 y0, .int .i32 y1, .int .i32 y2, .int .i32 y3] 23)).cell? ⟨w6.heap.size, 0, none⟩ = some (.int .i32 y0) := hn6.cell 0
    have f20 : (w6.alloc (.cells #[.int .i32 y0, .int .i32 y1, .int .i32 y2, .int .i32 y3] 23)).cell? ⟨w6.heap.size, 1, none⟩ = some (.int .i32 y1) := hn6.cell 1
    have f21 : (w6.alloc (.cells #[.int .i32 y0, .int .i32 y1, .int .i32 y2, .int .i32 y3] 23)).cell? ⟨w6.heap.size, 2, none⟩ = some (.int .i32 y2) := hn6.cell 2
    have f22 : (w6.alloc (.cells #[.int .i32 y0, .int .i32 y1, .int .i32 y2, .int .i32 y3] 23)).cell? ⟨w6.heap.size, 3, none⟩ = some (.int .i32 y3) := hn6.cell 3
    go_wp2
    go_ret
    exact ⟨rfl, hb⟩
  · have d1 : decide (0 < farP [q0, q1, q2, q3]) = false := decide_eq_false hf
    simp only [stO, if_neg hf] at h2 h3
    rw [d1] at h4
    generalize makeP [q0, q1, q2, q3] q0 = y0 at *
    generalize makeP [q0, q1, q2, q3] q1 = y1 at *
    generalize makeP [q0, q1, q2, q3] q2 = y2 at *
    generalize makeP [q0, q1, q2, q3] q3 = y3 at *
    have H2 := hid h2
    have H3 := hid h3
    have H4 := hid h4
    clear h2 h3 h4 d1 hf
    go_enter Try.func12, Try.ntmps12
    have hp0 : Blk (w.alloc (.cells #[.int .i32 q0, .int .i32 q1, .int .i32 q2, .int .i32 q3] 23)) w.heap.size 23 #[.int .i32 q0, .int .i32 q1, .int .i32 q2, .int .i32 q3] := Blk.new w _ _
    have hb : Below w.heap.size w (w.alloc (.cells #[.int .i32 q0, .int .i32 q1, .int .i32 q2, .int .i32 q3] 23)) := (Below.refl _ w).alloc (Nat.le_refl _) _
    replace hp0 := hp0.alloc (.cells #[.int .i32 r0, .int .i32 r1, .int .i32 r2] 25)
    have hp1 : Blk ((w.alloc (.cells #[.int .i32 q0, .int .i32 q1, .int .i32 q2, .int .i32 q3] 23)).alloc (.cells #[.int .i32 r0, .int .i32 r1, .int .i32 r2] 25)) (w.heap.size + 1) 25 #[.int .i32 r0, .int .i32 r1, .int .i32 r2] := by have := Blk.new (w.alloc (.cells #[.int .i32 q0, .int .i32 q1, .int .i32 q2, .int .i32 q3] 23)) 25 #[.int .i32 r0, .int .i32 r1, .int .i32 r2]; simpa using this
    replace hb := hb.alloc hb.size (.cells #[.int .i32 r0, .int .i32 r1, .int .i32 r2] 25)
    go_wp2_with fail
    generalize (w.alloc (.cells #[.int .i32 q0, .int .i32 q1, .int .i32 q2, .int .i32 q3] 23)).alloc (.cells #[.int .i32 r0, .int .i32 r1, .int .i32 r2] 25) = W0 at *
    refine (H1.out _).mono ?_
    rintro e w1 ⟨rfl, b1⟩
    replace hp0 := hp0.below b1 hp0.lt
    replace hp1 := hp1.below b1 hp1.lt
    replace hb := below_on hb b1
    clear b1
    have o1hp0 := hp0.lt
    have o1hp1 := hp1.lt
    replace hp0 := hp0.alloc (.cells #[.int .i32 x0, .int .i32 x1, .int .i32 x2, .int .i32 x3] 23)
    replace hp1 := hp1.alloc (.cells #[.int .i32 x0, .int .i32 x1, .int .i32 x2, .int .i32 x3] 23)
    have ob1 := hb.size
    have hn1 : Blk (w1.alloc (.cells #[.int .i32 x0, .int .i32 x1, .int .i32 x2, .int .i32 x3] 23)) w1.heap.size 23 #[.int .i32 x0, .int .i32 x1, .int .i32 x2, .int .i32 x3] := Blk.new w1 _ _
    replace hb := hb.alloc hb.size (.cells #[.int .i32 x0, .int .i32 x1, .int .i32 x2, .int .i32 x3] 23)
    have f0 : (w1.alloc (.cells #[.int .i32 x0, .int .i32 x1, .int .i32 x2, .int .i32 x3] 23)).cell? ⟨w.heap.size, 0, none⟩ = some (.int .i32 q0) := hp0.cell 0
    have f1 : (w1.alloc (.cells #[.int .i32 x0, .int .i32 x1, .int .i32 x2, .int .i32 x3] 23)).cell? ⟨w.heap.size, 1, none⟩ = some (.int .i32 q1) := hp0.cell 1
    have f2 : (w1.alloc (.cells #[.int .i32 x0, .int .i32 x1, .int .i32 x2, .int .i32 x3] 23)).cell? ⟨w.heap.size, 2, none⟩ = some (.int .i32 q2) := hp0.cell 2
    have f3 : (w1.alloc (.cells #[.int .i32 x0, .int .i32 x1, .int .i32 x2, .int .i32 x3] 23)).cell? ⟨w.heap.size, 3, none⟩ = some (.int .i32 q3) := hp0.cell 3
    have f4 : (w1.alloc (.cells #[.int .i32 x0, .int .i32 x1, .int .i32 x2, .int .i32 x3] 23)).cell? ⟨w.heap.size + 1, 0, none⟩ = some (.int .i32 r0) := hp1.cell 0
    have f5 : (w1.alloc (.cells #[.int .i32 x0, .int .i32 x1, .int .i32 x2, .int .i32 x3] 23)).cell? ⟨w.heap.size + 1, 1, none⟩ = some (.int .i32 r1) := hp1.cell 1
    have f6 : (w1.alloc (.cells #[.int .i32 x0, .int .i32 x1, .int .i32 x2, .int .i32 x3] 23)).cell? ⟨w.heap.size + 1, 2, none⟩ = some (.int .i32 r2) := hp1.cell 2
    have f7 : (w1.alloc (.cells #[.int .i32 x0, .int .i32 x1, .int .i32 x2, .int .i32 x3] 23)).cell? ⟨w1.heap.size, 0, none⟩ = some (.int .i32 x0) := hn1.cell 0
    have f8 : (w1.alloc (.cells #[.int .i32 x0, .int .i32 x1, .int .i32 x2, .int .i32 x3] 23)).cell? ⟨w1.heap.size, 1, none⟩ = some (.int .i32 x1) := hn1.cell 1
    have f9 : (w1.alloc (.cells #[.int .i32 x0, .int .i32 x1, .int .i32 x2, .int .i32 x3] 23)).cell? ⟨w1.heap.size, 2, none⟩ = some (.int .i32 x2) := hn1.cell 2
    have f10 : (w1.alloc (.cells #[.int .i32 x0, .int .i32 x1, .int .i32 x2, .int .i32 x3] 23)).cell? ⟨w1.heap.size, 3, none⟩ = some (.int .i32 x3) := hn1.cell 3
    go_wp2_with fail
    clear f0 f1 f2 f3 f4 f5 f6 f7 f8 f9 f10
    generalize w1.alloc (.cells #[.int .i32 x0, .int .i32 x1, .int .i32 x2, .int .i32 x3] 23) = W1 at *
    refine (H5.out _).mono ?_
    rintro e w2 ⟨rfl, b2⟩
    replace hp0 := hp0.below b2 hp0.lt
    replace hp1 := hp1.below b2 hp1.lt
    replace hn1 := hn1.below b2 hn1.lt
    replace hb := below_on hb b2
    clear b2
    go_wp2_with fail
    generalize w2 = W2 at *
    refine (HK.out _).mono ?_
    rintro e w3 ⟨rfl, b3⟩
    replace hp0 := hp0.below b3 hp0.lt
    replace hp1 := hp1.below b3 hp1.lt
    replace hn1 := hn1.below b3 hn1.lt
    replace hb := below_on hb b3
    clear b3
    have f0 : (w3).cell? ⟨w.heap.size, 0, none⟩ = some (.int .i32 q0) := hp0.cell 0
    have f1 : (w3).cell? ⟨w.heap.size, 1, none⟩ = some (.int .i32 q1) := hp0.cell 1
    have f2 : (w3).cell? ⟨w.heap.size, 2, none⟩ = some (.int .i32 q2) := hp0.cell 2
    have f3 : (w3).cell? ⟨w.heap.size, 3, none⟩ = some (.int .i32 q3) := hp0.cell 3
    have f4 : (w3).cell? ⟨w.heap.size + 1, 0, none⟩ = some (.int .i32 r0) := hp1.cell 0
    have f5 : (w3).cell? ⟨w.heap.size + 1, 1, none⟩ = some (.int .i32 r1) := hp1.cell 1
    have f6 : (w3).cell? ⟨w.heap.size + 1, 2, none⟩ = some (.int .i32 r2) := hp1.cell 2
    have f7 : (w3).cell? ⟨w1.heap.size, 0, none⟩ = some (.int .i32 x0) := hn1.cell 0
    have f8 : (w3).cell? ⟨w1.heap.size, 1, none⟩ = some (.int .i32 x1) := hn1.cell 1
    have f9 : (w3).cell? ⟨w1.heap.size, 2, none⟩ = some (.int .i32 x2) := hn1.cell 2
    have f10 : (w3).cell? ⟨w1.heap.size, 3, none⟩ = some (.int .i32 x3) := hn1.cell 3
    go_wp2_with fail
    clear f0 f1 f2 f3 f4 f5 f6 f7 f8 f9 f10
    generalize w3 = W3 at *
    refine (H2.out _).mono ?_
    rintro e w4 ⟨rfl, b4⟩
    replace hp0 := hp0.below b4 hp0.lt
    replace hp1 := hp1.below b4 hp1.lt
    replace hn1 := hn1.below b4 hn1.lt
    replace hb := below_on hb b4
    clear b4
    have o4hp0 := hp0.lt
    have o4hp1 := hp1.lt
    have o4hn1 := hn1.lt
    replace hp0 := hp0.alloc (.cells #[.int .i32 1073741824, .int .i32 0, .int .i32 0, .int .i32 0] 23)
    replace hp1 := hp1.alloc (.cells #[.int .i32 1073741824, .int .i32 0, .int .i32 0, .int .i32 0] 23)
    replace hn1 := hn1.alloc (.cells #[.int .i32 1073741824, .int .i32 0, .int .i32 0, .int .i32 0] 23)
    have ob4 := hb.size
    have hn4 : Blk (w4.alloc (.cells #[.int .i32 1073741824, .int .i32 0, .int .i32 0, .int .i32 0] 23)) w4.heap.size 23 #[.int .i32 1073741824, .int .i32 0, .int .i32 0, .int .i32 0] := Blk.new w4 _ _
    replace hb := hb.alloc hb.size (.cells #[.int .i32 1073741824, .int .i32 0, .int .i32 0, .int .i32 0] 23)
    have f0 : (w4.alloc (.cells #[.int .i32 1073741824, .int .i32 0, .int .i32 0, .int .i32 0] 23)).cell? ⟨w.heap.size, 0, none⟩ = some (.int .i32 q0) := hp0.cell 0
    have f1 : (w4.alloc (.cells #[.int .i32 1073741824, .int .i32 0, .int .i32 0, .int .i32 0] 23)).cell? ⟨w.heap.size, 1, none⟩ = some (.int .i32 q1) := hp0.cell 1
    have f2 : (w4.alloc (.cells #[.int .i32 1073741824, .int .i32 0, .int .i32 0, .int .i32 0] 23)).cell? ⟨w.heap.size, 2, none⟩ = some (.int .i32 q2) := hp0.cell 2
    have f3 : (w4.alloc (.cells #[.int .i32 1073741824, .int .i32 0, .int .i32 0, .int .i32 0] 23)).cell? ⟨w.heap.size, 3, none⟩ = some (.int .i32 q3) := hp0.cell 3
    have f4 : (w4.alloc (.cells #[.int .i32 1073741824, .int .i32 0, .int .i32 0, .int .i32 0] 23)).cell? ⟨w.heap.size + 1, 0, none⟩ = some (.int .i32 r0) := hp1.cell 0
    have f5 : (w4.alloc (.cells #[.int .i32 1073741824, .int .i32 0, .int .i32 0, .int .i32 0] 23)).cell? ⟨w.heap.size + 1, 1, none⟩ = some (.int .i32 r1) := hp1.cell 1
    have f6 : (w4.alloc (.cells #[.int .i32 1073741824, .int .i32 0, .int .i32 0, .int .i32 0] 23)).cell? ⟨w.heap.size + 1, 2, none⟩ = some (.int .i32 r2) := hp1.cell 2
    have f7 : (w4.alloc (.cells #[.int .i32 1073741824, .int .i32 0, .int .i32 0, .int .i32 0] 23)).cell? ⟨w1.heap.size, 0, none⟩ = some (.int .i32 x0) := hn1.cell 0
    have f8 : (w4.alloc (.cells #[.int .i32 1073741824, .int .i32 0, .int .i32 0, .int .i32 0] 23)).cell? ⟨w1.heap.size, 1, none⟩ = some (.int .i32 x1) := hn1.cell 1
    have f9 : (w4.alloc (.cells #[.int .i32 1073741824, .int .i32 0, .int .i32 0, .int .i32 0] 23)).cell? ⟨w1.heap.size, 2, none⟩ = some (.int .i32 x2) := hn1.cell 2
    have f10 : (w4.alloc (.cells #[.int .i32 1073741824, .int .i32 0, .int .i32 0, .int .i32 0] 23)).cell? ⟨w1.heap.size, 3, none⟩ = some (.int .i32 x3) := hn1.cell 3
    have f11 : (w4.alloc (.cells #[.int .i32 1073741824, .int .i32 0, .int .i32 0, .int .i32 0] 23)).cell? ⟨w4.heap.size, 0, none⟩ = some (.int .i32 1073741824) := hn4.cell 0
    have f12 : (w4.alloc (.cells #[.int .i32 1073741824, .int .i32 0, .int .i32 0, .int .i32 0] 23)).cell? ⟨w4.heap.size, 1, none⟩ = some (.int .i32 0) := hn4.cell 1
    have f13 : (w4.alloc (.cells #[.int .i32 1073741824, .int .i32 0, .int .i32 0, .int .i32 0] 23)).cell? ⟨w4.heap.size, 2, none⟩ = some (.int .i32 0) := hn4.cell 2
    have f14 : (w4.alloc (.cells #[.int .i32 1073741824, .int .i32 0, .int .i32 0, .int .i32 0] 23)).cell? ⟨w4.heap.size, 3, none⟩ = some (.int .i32 0) := hn4.cell 3
    go_wp2_with fail
    clear f0 f1 f2 f3 f4 f5 f6 f7 f8 f9 f10 f11 f12 f13 f14
    generalize w4.alloc (.cells #[.int .i32 1073741824, .int .i32 0, .int .i32 0, .int .i32 0] 23) = W4 at *
    refine (H3.out _).mono ?_
    rintro e w5 ⟨rfl, b5⟩
    replace hp0 := hp0.below b5 hp0.lt
    replace hp1 := hp1.below b5 hp1.lt
    replace hn1 := hn1.below b5 hn1.lt
    replace hn4 := hn4.below b5 hn4.lt
    replace hb := below_on hb b5
    clear b5
    have o5hp0 := hp0.lt
    have o5hp1 := hp1.lt
    have o5hn1 := hn1.lt
    have o5hn4 := hn4.lt
    replace hp0 := hp0.alloc (.cells #[.int .i32 1073741824, .int .i32 0, .int .i32 0, .int .i32 0] 23)
    replace hp1 := hp1.alloc (.cells #[.int .i32 1073741824, .int .i32 0, .int .i32 0, .int .i32 0] 23)
    replace hn1 := hn1.alloc (.cells #[.int .i32 1073741824, .int .i32 0, .int .i32 0, .int .i32 0] 23)
    replace hn4 := hn4.alloc (.cells #[.int .i32 1073741824, .int .i32 0, .int .i32 0, .int .i32 0] 23)
    have ob5 := hb.size
    have hn5 : Blk (w5.alloc (.cells #[.int .i32 1073741824, .int .i32 0, .int .i32 0, .int .i32 0] 23)) w5.heap.size 23 #[.int .i32 1073741824, .int .i32 0, .int .i32 0, .int .i32 0] := Blk.new w5 _ _
    replace hb := hb.alloc hb.size (.cells #[.int .i32 1073741824, .int .i32 0, .int .i32 0, .int .i32 0] 23)
    have f0 : (w5.alloc (.cells #[.int .i32 1073741824, .int .i32 0, .int .i32 0, .int .i32 0] 23)).cell? ⟨w.heap.size, 0, none⟩ = some (.int .i32 q0) := hp0.cell 0
    have f1 : (w5.alloc (.cells #[.int .i32 1073741824, .int .i32 0, .int .i32 0, .int .i32 0] 23)).cell? ⟨w.heap.size, 1, none⟩ = some (.int .i32 q1) := hp0.cell 1
    have f2 : (w5.alloc (.cells #[.int .i32 1073741824, .int .i32 0, .int .i32 0, .int .i32 0] 23)).cell? ⟨w.heap.size, 2, none⟩ = some (.int .i32 q2) := hp0.cell 2
    have f3 : (w5.alloc (.cells #[.int .i32 1073741824, .int .i32 0, .int .i32 0, .int .i32 0] 23)).cell? ⟨w.heap.size, 3, none⟩ = some (.int .i32 q3) := hp0.cell 3
    have f4 : (w5.alloc (.cells #[.int .i32 1073741824, .int .i32 0, .int .i32 0, .int .i32 0] 23)).cell? ⟨w.heap.size + 1, 0, none⟩ = some (.int .i32 r0) := hp1.cell 0
    have f5 : (w5.alloc (.cells #[.int .i32 1073741824, .int .i32 0, .int .i32 0, .int .i32 0] 23)).cell? ⟨w.heap.size + 1, 1, none⟩ = some (.int .i32 r1) := hp1.cell 1
    have f6 : (w5.alloc (.cells #[.int .i32 1073741824, .int .i32 0, .int .i32 0, .int .i32 0] 23)).cell? ⟨w.heap.size + 1, 2, none⟩ = some (.int .i32 r2) := hp1.cell 2
    have f7 : (w5.alloc (.cells #[.int .i32 1073741824, .int .i32 0, .int .i32 0, .int .i32 0] 23)).cell? ⟨w1.heap.size, 0, none⟩ = some (.int .i32 x0) := hn1.cell 0
    have f8 : (w5.alloc (.cells #[.int .i32 1073741824, .int .i32 0, .int .i32 0, .int .i32 0] 23)).cell? ⟨w1.heap.size, 1, none⟩ = some (.int .i32 x1) := hn1.cell 1
    have f9 : (w5.alloc (.cells #[.int .i32 1073741824, .int .i32 0, .int .i32 0, .int .i32 0] 23)).cell? ⟨w1.heap.size, 2, none⟩ = some (.int .i32 x2) := hn1.cell 2
    have f10 : (w5.alloc (.cells #[.int .i32 1073741824, .int .i32 0, .int .i32 0, .int .i32 0] 23)).cell? ⟨w1.heap.size, 3, none⟩ = some (.int .i32 x3) := hn1.cell 3
    have f11 : (w5.alloc (.cells #[.int .i32 1073741824, .int .i32 0, .int .i32 0, .int .i32 0] 23)).cell? ⟨w4.heap.size, 0, none⟩ = some (.int .i32 1073741824) := hn4.cell 0
    have f12 : (w5.alloc (.cells #[.int .i32 1073741824, .int .i32 0, .int .i32 0, .int .i32 0] 23)).cell? ⟨w4.heap.size, 1, none⟩ = some (.int .i32 0) := hn4.cell 1
    have f13 : (w5.alloc (.cells #[.int .i32 1073741824, .int .i32 0, .int .i32 0, .int .i32 0] 23)).cell? ⟨w4.heap.size, 2, none⟩ = some (.int .i32 0) := hn4.cell 2
    have f14 : (w5.alloc (.cells #[.int .i32 1073741824, .int .i32 0, .int .i32 0, .int .i32 0] 23)).cell? ⟨w4.heap.size, 3, none⟩ = some (.int .i32 0) := hn4.cell 3
    have f15 : (w5.alloc (.cells #[.int .i32 1073741824, .int .i32 0, .int .i32 0, .int .i32 0] 23)).cell? ⟨w5.heap.size, 0, none⟩ = some (.int .i32 1073741824) := hn5.cell 0
    have f16 : (w5.alloc (.cells #[.int .i32 1073741824, .int .i32 0, .int .i32 0, .int .i32 0] 23)).cell? ⟨w5.heap.size, 1, none⟩ = some (.int .i32 0) := hn5.cell 1
    have f17 : (w5.alloc (.cells #[.int .i32 1073741824, .int .i32 0, .int .i32 0, .int .i32 0] 23)).cell? ⟨w5.heap.size, 2, none⟩ = some (.int .i32 0) := hn5.cell 2
    have f18 : (w5.alloc (.cells #[.int .i32 1073741824, .int .i32 0, .int .i32 0, .int .i32 0] 23)).cell? ⟨w5.heap.size, 3, none⟩ = some (.int .i32 0) := hn5.cell 3
    go_wp2_with fail
    clear f0 f1 f2 f3 f4 f5 f6 f7 f8 f9 f10 f11 f12 f13 f14 f15 f16 f17 f18
    generalize w5.alloc (.cells #[.int .i32 1073741824, .int .i32 0, .int .i32 0, .int .i32 0] 23) = W5 at *
    refine (H4.out _).mono ?_
    rintro e w6 ⟨rfl, b6⟩
    replace hp0 := hp0.below b6 hp0.lt
    replace hp1 := hp1.below b6 hp1.lt
    replace hn1 := hn1.below b6 hn1.lt
    replace hn4 := hn4.below b6 hn4.lt
    replace hn5 := hn5.below b6 hn5.lt
    replace hb := below_on hb b6
    clear b6
    have o6hp0 := hp0.lt
    have o6hp1 := hp1.lt
    have o6hn1 := hn1.lt
    have o6hn4 := hn4.lt
    have o6hn5 := hn5.lt
    replace hp0 := hp0.alloc (.cells #[.int .i32 y0, .int .i32 y1, .int .i32 y2, .int .i32 y3] 23)
    replace hp1 := hp1.alloc (.cells #[.int .i32 y0, .int .i32 y1, .int .i32 y2, .int .i32 y3] 23)
    replace hn1 := hn1.alloc (.cells #[.int .i32 y0, .int .i32 y1, .int .i32 y2, .int .i32 y3] 23)
    replace hn4 := hn4.alloc (.cells #[.int .i32 y0, .int .i32 y1, .int .i32 y2, .int .i32 y3] 23)
    replace hn5 := hn5.alloc (.cells #[.int .i32 y0, .int .i32 y1, .int .i32 y2, .int .i32 y3] 23)
    have ob6 := hb.size
    have hn6 : Blk (w6.alloc (.cells #[.int .i32 y0, .int .i32 y1, .int .i32 y2, .int .i32 y3] 23)) w6.heap.size 23 #[.int .i32 y0, .int .i32 y1, .int .i32 y2, .int .i32 y3] := Blk.new w6 _ _
    replace hb := hb.alloc hb.size (.cells #[.int .i32 y0, .int .i32 y1, .int .i32 y2, .int .i32 y3] 23)
    have f0 : (w6.alloc (.cells #[.int .i32 y0, .int .i32 y1, .int .i32 y2, .int .i32 y3] 23)).cell? ⟨w.heap.size, 0, none⟩ = some (.int .i32 q0) := hp0.cell 0
    have f1 : (w6.alloc (.cells #[.int .i32 y0, .int .i32 y1, .int .i32 y2, .int .i32 y3] 23)).cell? ⟨w.heap.size, 1, none⟩ = some (.int .i32 q1) := hp0.cell 1
    have f2 : (w6.alloc (.cells #[.int .i32 y0, .int .i32 y1, .int .i32 y2, .int .i32 y3] 23)).cell? ⟨w.heap.size, 2, none⟩ = some (.int .i32 q2) := hp0.cell 2
    have f3 : (w6.alloc (.cells #[.int .i32 y0, .int .i32 y1, .int .i32 y2, .int .i32 y3] 23)).cell? ⟨w.heap.size, 3, none⟩ = some (.int .i32 q3) := hp0.cell 3
    have f4 : (w6.alloc (.cells #[.int .i32 y0, .int .i32 y1, .int .i32 y2, .int .i32 y3] 23)).cell? ⟨w.heap.size + 1, 0, none⟩ = some (.int .i32 r0) := hp1.cell 0
    have f5 : (w6.alloc (.cells #[.int .i32 y0, .int .i32 y1, .int .i32 y2, .int .i32 y3] 23)).cell? ⟨w.heap.size + 1, 1, none⟩ = some (.int .i32 r1) := hp1.cell 1
    have f6 : (w6.alloc (.cells #[.int .i32 y0, .int .i32 y1, .int .i32 y2, .int .i32 y3] 23)).cell? ⟨w.heap.size + 1, 2, none⟩ = some (.int .i32 r2) := hp1.cell 2
    have f7 : (w6.alloc (.cells #[.int .i32 y0, .int .i32 y1, .int .i32 y2, .int .i32 y3] 23)).cell? ⟨w1.heap.size, 0, none⟩ = some (.int .i32 x0) := hn1.cell 0
    have f8 : (w6.alloc (.cells #[.int .i32 y0, .int .i32 y1, .int .i32 y2, .int .i32 y3] 23)).cell? ⟨w1.heap.size, 1, none⟩ = some (.int .i32 x1) := hn1.cell 1
    have f9 : (w6.alloc (.cells #[.int .i32 y0, .int .i32 y1, .int .i32 y2, .int .i32 y3] 23)).cell? ⟨w1.heap.size, 2, none⟩ = some (.int .i32 x2) := hn1.cell 2
    have f10 : (w6.alloc (.cells #[.int .i32 y0, .int .i32 y1, .int .i32 y2, .int .i32 y3] 23)).cell? ⟨w1.heap.size, 3, none⟩ = some (.int .i32 x3) := hn1.cell 3
    have f11 : (w6.alloc (.cells #[.int .i32 y0, .int .i32 y1, .int .i32 y2, .int .i32 y3] 23)).cell? ⟨w4.heap.size, 0, none⟩ = some (.int .i32 1073741824) := hn4.cell 0
    have f12 : (w6.alloc (.cells #[.int .i32 y0, .int .i32 y1, .int .i32 y2, .int .i32 y3] 23)).cell? ⟨w4.heap.size, 1, none⟩ = some (.int .i32 0) := hn4.cell 1
    have f13 : (w6.alloc (.cells #[.int .i32 y0, .int .i32 y1, .int .i32 y2, .int .i32 y3] 23)).cell? ⟨w4.heap.size, 2, none⟩ = some (.int .i32 0) := hn4.cell 2
    have f14 : (w6.alloc (.cells #[.int .i32 y0, .int .i32 y1, .int .i32 y2, .int .i32 y3] 23)).cell? ⟨w4.heap.size, 3, none⟩ = some (.int .i32 0) := hn4.cell 3
    have f15 : (w6.alloc (.cells #[.int .i32 y0, .int .i32 y1, .int .i32 y2, .int .i32 y3] 23)).cell? ⟨w5.heap.size, 0, none⟩ = some (.int .i32 1073741824) := hn5.cell 0
    have f16 : (w6.alloc (.cells #[.int .i32 y0, .int .i32 y1, .int .i32 y2, .int .i32 y3] 23)).cell? ⟨w5.heap.size, 1, none⟩ = some (.int .i32 0) := hn5.cell 1
    have f17 : (w6.alloc (.cells #[.int .i32 y0, .int .i32 y1, .int .i32 y2, .int .i32 y3] 23)).cell? ⟨w5.heap.size, 2, none⟩ = some (.int .i32 0) := hn5.cell 2
    have f18 : (w6.alloc (.cells #[.int .i32 y0, .int .i32 y1, .int .i32 y2, .int .i32 y3] 23)).cell? ⟨w5.heap.size, 3, none⟩ = some (.int .i32 0) := hn5.cell 3
    have f19 : (w6.alloc (.cells #[.int .i32 y0, .int .i32 y1, .int .i32 y2, .int .i32 y3] 23)).cell? ⟨w6.heap.size, 0, none⟩ = some (.int .i32 y0) := hn6.cell 0
    have f20 : (w6.alloc (.cells #[.int .i32 y0, .int .i32 y1, .int .i32 y2, .int .i32 y3] 23)).cell? ⟨w6.heap.size, 1, none⟩ = some (.int .i32 y1) := hn6.cell 1
    have f21 : (w6.alloc (.cells #[.int .i32 y0, .int .i32 y1, .int .i32 y2, .int .i32 y3] 23)).cell? ⟨w6.heap.size, 2, none⟩ = some (.int .i32 y2) := hn6.cell 2
    have f22 : (w6.alloc (.cells #[.int .i32 y0, .int .i32 y1, .int .i32 y2, .int .i32 y3] 23)).cell? ⟨w6.heap.size, 3, none⟩ = some (.int .i32 y3) := hn6.cell 3
    go_wp2
    go_ret
    exact ⟨rfl, hb⟩
end Go.Proofs.Ytfogjfmpgfcolaa
