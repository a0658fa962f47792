/- Chapter 13: the walk of TurnCircle. -/
import Derived.Test.YtfogjfmpgfcolaaTurnN
import Derived.Test.YtfogjfmpgfcolaaTurnX
import Derived.Test.YtfogjfmpgfcolaaRootD
namespace Go.Proofs.Ytfogjfmpgfcolaa
open Go.RowKit
set_option linter.unusedVariables false
set_option linter.unusedSimpArgs false

theorem prod13 (x y X Y : Int) (hx : -X ≤ x ∧ x ≤ X) (hy : -Y ≤ y ∧ y ≤ Y) : -(X * Y) ≤ x * y ∧ x * y ≤ X * Y := by
  have h : (x * y).natAbs ≤ X.natAbs * Y.natAbs := by rw [Int.natAbs_mul]; exact Nat.mul_le_mul (by omega) (by omega)
  have e : X * Y = ((X.natAbs * Y.natAbs : Nat) : Int) := by
    rw [Int.natCast_mul, Int.natAbs_of_nonneg (by omega), Int.natAbs_of_nonneg (by omega)]
  rw [e]
  omega
theorem circ_30 (a : Int) : (-1073741824 ≤ (circP a).1 ∧ (circP a).1 ≤ 1073741824) ∧ (-1073741824 ≤ (circP a).2 ∧ (circP a).2 ≤ 1073741824) := by
  have h1 := point_bd (circV a).1
  have h2 := point_bd (circV a).2.1
  unfold circP
  split <;> simp only <;> omega
theorem point_32 (n : Int) : I32 (pointP n) := by have := point_bd n; unfold I32; omega
theorem circ_32 (a : Int) : I32 (circP a).1 ∧ I32 (circP a).2 := by
  have h1 := point_bd (circV a).1
  have h2 := point_bd (circV a).2.1
  unfold circP I32
  split <;> simp only <;> omega
theorem atan_32 (y x : Int) : I32 (atanP y x) := by
  unfold atanP
  split
  · unfold I32; omega
  · split <;> exact i32_bd _
theorem sqP_two (u v : Int) (h : u * u + v * v ≤ 1152921513196781568) : sqP [u, v] = u * u + v * v := by
  simp only [sqP, sqs]
  omega
set_option maxRecDepth 20000 in
set_option maxHeartbeats 8000000 in
theorem turnCircle_walk (a0 a1 a2 : Int) (w : World) (w0 : (Lit.int .i32 a0).wf = true) (w1 : (Lit.int .i32 a1).wf = true) (w2 : (Lit.int .i32 a2).wf = true) :
    Calls Try.prog 5 #[.int .i32 a0, .int .i32 a1, .int .i32 a2] w fun e w' => e = .returned (.bool true) ∧ Below w.heap.size w w' := by
  have i0 := bounds_i32 w0
  have i1 := bounds_i32 w1
  have i2 := bounds_i32 w2
  clear w0 w1 w2
  have b0 : I32 a0 := i0
  have b1 : I32 a1 := i1
  have b2 : I32 a2 := i2
  have H1 := hid fun w => t_Atan a0 a1 w b0 b1
  have H2 := hid fun w => t_Circle (atanP a0 a1) w (atan_32 a0 a1)
  have H4 := hid fun w => t_Circle a2 w b2
  have HK := hid fun w => law13_knows w
  obtain ⟨c1, c2, _, _⟩ := Circ.circP_law (atanP a0 a1) (atan_32 a0 a1)
  obtain ⟨⟨d1, d2⟩, d3⟩ := Circ.atanP_law a0 a1 b0 b1 _ _ c1 c2
  clear c1 c2
  obtain ⟨_, _, e1, e2⟩ := Circ.circP_law a2 b2
  have hq := sqP_two (circP a2).1 (circP a2).2 (by omega)
  have hn := Circ.atanP_neg a0 a1 b0 b1
  obtain ⟨x1, x2⟩ := circ_30 (atanP a0 a1)
  obtain ⟨x3, x4⟩ := circ_32 a2
  have iB : I32 (atanP a0 a1) := atan_32 a0 a1
  have HN : a0 ≠ -2147483648 → Hid (∀ w, Calls Try.prog 20 #[.int .i32 (-a0), .int .i32 a1] w fun e w' => e = .returned (.int .i32 (IntKind.i32.wrap (-atanP a0 a1))) ∧ Below w.heap.size w w') := fun h => hid fun w => by
    have := t_Atan (-a0) a1 w (by unfold I32 at *; omega) b1
    rw [hn] at this
    exact this
  clear hn
  rw [← hq] at e1 e2
  clear hq
  have HS := hid fun (g : Nat) w h => ref_Squares (some ⟨g, 0, none⟩) 2 2 [(circP a2).1, (circP a2).2] w h (by unfold I32 at *; simp; omega) (by omega)
  generalize atanP a0 a1 = B at *
  generalize sqP [(circP a2).1, (circP a2).2] = N at *
  generalize (circP B).1 = c at *
  generalize (circP B).2 = s at *
  generalize (circP a2).1 = u at *
  generalize (circP a2).2 = v at *
  have p1 := prod13 a0 c 2147483648 1073741824 (by omega) (by omega)
  have p2 := prod13 a1 s 2147483648 1073741824 (by omega) (by omega)
  have p3 := prod13 a1 c 2147483648 1073741824 (by omega) (by omega)
  have p4 := prod13 a0 s 2147483648 1073741824 (by omega) (by omega)
  have qc : wrap64 c = c := IntWalk.wrap64_in _ (by omega)
  have qs : wrap64 s = s := IntWalk.wrap64_in _ (by omega)
  have q1 : wrap64 (a0 * c) = a0 * c := IntWalk.wrap64_in _ (by omega)
  have q2 : wrap64 (a1 * s) = a1 * s := IntWalk.wrap64_in _ (by omega)
  have q3 : wrap64 (a1 * c) = a1 * c := IntWalk.wrap64_in _ (by omega)
  have q4 : wrap64 (a0 * s) = a0 * s := IntWalk.wrap64_in _ (by omega)
  have q5 : wrap64 (a0 * c - a1 * s) = a0 * c - a1 * s := IntWalk.wrap64_in _ (by omega)
  have q6 : wrap64 (a1 * c + a0 * s) = a1 * c + a0 * s := IntWalk.wrap64_in _ (by omega)
  have q7 : wrap64 (256 * (max a1 (-a1) + max a0 (-a0))) = 256 * (max a1 (-a1) + max a0 (-a0)) := IntWalk.wrap64_in _ (by omega)
  have q8 : wrap64 (max a1 (-a1) + max a0 (-a0)) = max a1 (-a1) + max a0 (-a0) := IntWalk.wrap64_in _ (by omega)
  have q9 : wrap64 (-(256 * (max a1 (-a1) + max a0 (-a0)))) = -(256 * (max a1 (-a1) + max a0 (-a0))) := IntWalk.wrap64_in _ (by omega)
  have g1 : decide (256 * (max a1 (-a1) + max a0 (-a0)) < a0 * c - a1 * s) = false := by rw [decide_eq_false_iff_not]; omega
  have g2 : decide (a0 * c - a1 * s < -(256 * (max a1 (-a1) + max a0 (-a0)))) = false := by rw [decide_eq_false_iff_not]; omega
  have g3 : decide (a1 * c + a0 * s < 0) = false := by rw [decide_eq_false_iff_not]; omega
  have g4 : decide (N ≤ 1152921513196781568) = true := by rw [decide_eq_true_eq]; omega
  have g5 : decide (1152921496016912384 ≤ N) = true := by rw [decide_eq_true_eq]; omega
  clear p1 p2 p3 p4 x1 x2 d1 d2 d3 e1 e2 b0 b1 b2
  go_enter Try.func5, Try.ntmps5
  go_wp2_with fail
  refine (H1.out _).mono ?_
  rintro e w1 ⟨rfl, hb⟩
  go_wp2_with fail
  refine (H2.out _).mono ?_
  rintro e w2 ⟨rfl, b2⟩
  replace hb := below_on hb b2
  clear b2
  go_wp2_with fail
  refine (HK.out _).mono ?_
  rintro e w3 ⟨rfl, b3⟩
  replace hb := below_on hb b3
  clear b3
  by_cases h0 : a0 = -2147483648
  · have k0 : (a0 == -2147483648) = true := by simpa using h0
    go_wp2_with fail
    generalize w3 = W3 at *
    refine (H4.out _).mono ?_
    rintro e w5 ⟨rfl, b5⟩
    replace hb := below_on hb b5
    clear b5
    go_wp2_with fail
    have hs := Blk.new w5 21 #[.int .i32 u, .int .i32 v]
    have hb2 := hb.alloc hb.size (.cells #[.int .i32 u, .int .i32 v] 21)
    refine (HS.out _ _ (Row.blk hs rfl hs.lt)).mono ?_
    rintro e w6 ⟨rfl, b6⟩
    replace hb := below_on hb2 b6
    clear b6 hb2 hs
    go_wp2
    go_ret
    exact ⟨rfl, hb⟩
  · have k0 : (a0 == -2147483648) = false := by simpa using h0
    have HA := HN h0
    go_wp2_with fail
    refine (HA.out _).mono ?_
    rintro e w4 ⟨rfl, b4⟩
    replace hb := below_on hb b4
    clear b4
    go_wp2_with fail
    refine (H4.out _).mono ?_
    rintro e w5 ⟨rfl, b5⟩
    replace hb := below_on hb b5
    clear b5
    go_wp2_with fail
    have hs := Blk.new w5 21 #[.int .i32 u, .int .i32 v]
    have hb2 := hb.alloc hb.size (.cells #[.int .i32 u, .int .i32 v] 21)
    refine (HS.out _ _ (Row.blk hs rfl hs.lt)).mono ?_
    rintro e w6 ⟨rfl, b6⟩
    replace hb := below_on hb2 b6
    clear b6 hb2 hs
    go_wp2
    go_ret
    exact ⟨rfl, hb⟩
