/- Chapter 13: the document's answer, angles and circles. -/
import Derived.Test.YtfogjfmpgfcolaaTurnL
namespace Go.Proofs.Ytfogjfmpgfcolaa
open Go.RowKit
set_option linter.unusedVariables false
set_option linter.unusedSimpArgs false

theorem r13_far (n : Int) (w : World) (hn : -4611686018427387904 ≤ n ∧ n ≤ 4611686018427387904) :
    Calls Try.prog 59 #[.int .i64 n] w fun e w' => e = .returned (.int .i64 (absP n)) ∧ w = w' := by
  have v0 : IntKind.i64.wrap (-n) = -n := IntWalk.i64_in _ (by omega)
  have v1 : wrap64 (-n) = -n := IntWalk.wrap64_in _ (by omega)
  have HP : Hid (absP n = max n (-n)) := hid (by unfold absP; split <;> omega)
  clear hn
  go_enter Try.func59, Try.ntmps59
  go_wp2
  go_ret
  exact ⟨by rw [HP.out]; rfl, rfl⟩
theorem tmod_round (a : Int) : Int.tmod (Int.tmod a 4294967296 + 4294967296) 4294967296 = a % 4294967296 ∧ -4294967296 < Int.tmod a 4294967296 ∧ Int.tmod a 4294967296 < 4294967296 := by
  have e : Int.tmod a 4294967296 = if 0 ≤ a then a % 4294967296 else -((-a) % 4294967296) := by
    split
    · next h => exact Int.tmod_eq_emod_of_nonneg h
    · next h =>
      have h1 : Int.tmod (-a) 4294967296 = (-a) % 4294967296 := Int.tmod_eq_emod_of_nonneg (by omega)
      rw [← h1, Int.neg_tmod, Int.neg_neg]
  have h2 : 0 ≤ Int.tmod a 4294967296 + 4294967296 := by rw [e]; split <;> omega
  rw [Int.tmod_eq_emod_of_nonneg h2, e]
  split <;> omega
theorem r13_round (a : Int) (w : World) :
    Calls Try.prog 52 #[.int .i64 a] w fun e w' => e = .returned (.int .i32 (IntKind.i32.wrap a)) ∧ w = w' := by
  obtain ⟨h1, h2, h3⟩ := tmod_round a
  have v0 : wrap64 (Int.tmod a 4294967296 + 4294967296) = Int.tmod a 4294967296 + 4294967296 := IntWalk.wrap64_in _ (by omega)
  have v1 : IntKind.i64.wrap (Int.tmod a 4294967296 + 4294967296) = Int.tmod a 4294967296 + 4294967296 := IntWalk.i64_in _ (by omega)
  have HW := hid (i32_wrap a)
  generalize IntKind.i32.wrap a = R at *
  have hm : 0 ≤ a % 4294967296 ∧ a % 4294967296 < 4294967296 := by omega
  have HW2 : Hid (R = if 2147483648 ≤ a % 4294967296 then a % 4294967296 - 4294967296 else a % 4294967296) := hid (by rw [HW.out]; split <;> omega)
  clear HW
  generalize a % 4294967296 = m at *
  by_cases g : 2147483648 ≤ m
  · have HR : Hid (R = m - 4294967296) := hid (by rw [HW2.out, if_pos g])
    have x0 : wrap64 (m - 4294967296) = m - 4294967296 := IntWalk.wrap64_in _ (by omega)
    have x1 : wrap32 (m - 4294967296) = m - 4294967296 := by rw [← wrap32_is, i32_wrap]; omega
    clear HW2
    go_enter Try.func52, Try.ntmps52
    go_wp2
    go_ret
    exact ⟨by rw [HR.out]; rfl, rfl⟩
  · have HR : Hid (R = m) := hid (by rw [HW2.out, if_neg g])
    have x1 : wrap32 m = m := by rw [← wrap32_is, i32_wrap]; omega
    clear HW2
    go_enter Try.func52, Try.ntmps52
    go_wp2
    go_ret
    exact ⟨by rw [HR.out]; rfl, rfl⟩
set_option maxHeartbeats 8000000 in
theorem r13_Atan (y x : Int) (w : World) (hy : I32 y) (hx : I32 x) :
    Calls Try.prog 26 #[.int .i32 y, .int .i32 x] w fun e w' => e = .returned (.int .i32 (atanP y x)) ∧ Below w.heap.size w w' := by
  by_cases hxy : x = 0 ∧ y = 0
  · obtain ⟨rfl, rfl⟩ := hxy
    go_enter Try.func26, Try.ntmps26
    go_wp2
    go_ret
    exact ⟨rfl, Below.refl _ w⟩
  have hN := start_A y x hx hy hxy
  have hgb := grow_bd 31 x y (far_bd x y hxy hx hy).2
  have hV : Hid (atanP y x = if x < 0 then IntKind.i32.wrap (2147483648 - atanV y x) else IntKind.i32.wrap (atanV y x)) := hid (by unfold atanP; rw [if_neg hxy])
  have hA : Hid (atanV y x = (iterP stepA 31 (absP (growF 31 x y).1 * 1048576, (growF 31 x y).2 * 1048576, 0)).2.2) := rfl
  have HNA := hid (near_A _ hN)
  obtain ⟨G, HGG⟩ : ∃ G, Hid (growF 31 x y = G) := ⟨_, rfl⟩
  rw [HGG.out] at hA HNA hgb
  obtain ⟨p, q⟩ := G
  simp only at hA HNA hgb
  have hM := far_bd x y hxy hx hy
  obtain ⟨l1, l2⟩ := far_le p q
  have HFar := hid r13_far
  have HTab := hid r13_table
  have HRnd := hid r13_round
  have u1 : IntKind.i64.wrap x = x := IntWalk.i64_in _ (by unfold I32 at *; omega)
  have u2 : IntKind.i64.wrap y = y := IntWalk.i64_in _ (by unfold I32 at *; omega)
  have fp := far_le p q
  have v5 : wrap64 (1048576 * absP p) = absP p * 1048576 := (IntWalk.wrap64_in _ (by unfold absP; split <;> omega)).trans (Int.mul_comm _ _)
  have v6 : wrap64 (1048576 * q) = q * 1048576 := (IntWalk.wrap64_in _ (by omega)).trans (Int.mul_comm _ _)
  have v5' : IntKind.i64.wrap (1048576 * absP p) = absP p * 1048576 := (IntWalk.i64_in _ (by unfold absP; split <;> omega)).trans (Int.mul_comm _ _)
  have v6' : IntKind.i64.wrap (1048576 * q) = q * 1048576 := (IntWalk.i64_in _ (by omega)).trans (Int.mul_comm _ _)
  have hpb : -4611686018427387904 ≤ p ∧ p ≤ 4611686018427387904 := by omega
  have HF0 := hid fun w => r13_far p w hpb
  clear fp l1 l2 hpb hN hgb
  have key : ∀ (B : Bool), (x == 0) = B → Calls Try.prog 26 #[.int .i32 y, .int .i32 x] w fun e w' => e = .returned (.int .i32 (atanP y x)) ∧ Below w.heap.size w w' := by
    intro B hB
    have hB2 : B = true → (y == 0) = false := by
      intro e
      rw [e] at hB
      have h1 : x = 0 := by simpa using hB
      have h2 : ¬ (y = 0) := fun e => hxy ⟨h1, e⟩
      simpa using h2
    have HM0 := hid hM
    clear hxy hM
    have body : ∀ (K : Act → World → Prop), True := fun _ => trivial
    cases B
    case' true => replace hB2 := hB2 rfl
    case' false => clear hB2
    all_goals
      go_enter Try.func26, Try.ntmps26
      go_wp2_with fail
      go_loop [5, 6] (fun px py => ∃ (X Y : Int) (f : Nat), px = .int .i64 X ∧ py = .int .i64 Y ∧ Hid (1 ≤ farM X Y ∧ farM X Y ≤ 2147483648) ∧ Hid (2147483648 ≤ farM X Y * 2 ^ f) ∧ Hid (growF 31 x y = growF f X Y)) (fun px py => (2147483648 - farM (intOf px) (intOf py)).toNat)
      case atStart =>
        have H3 : Hid (2147483648 ≤ farM x y * 2 ^ 31) := hid (by
          have e : (2:Int) ^ 31 = 2147483648 := by decide +kernel
          have := HM0.out
          rw [e]
          omega)
        exact ⟨x, y, 31, rfl, rfl, HM0, H3, rfl⟩
      case round =>
        obtain ⟨X, Y, f, rfl, rfl, h1, h3, h4⟩ := hrel
        have hl := far_le X Y
        obtain ⟨h11, h12⟩ := h1.out
        have HX := hid fun w => r13_far X w (by omega)
        have HY := hid fun w => r13_far Y w (by omega)
        have hmx : max (absP X) (absP Y) = farM X Y := rfl
        obtain ⟨N, hN⟩ : ∃ N, farM X Y = N := ⟨_, rfl⟩
        rw [hN] at hmx h11 h12 hl
        by_cases g : N < 1073741824
        · have v1 : IntKind.i64.wrap (2 * X) = 2 * X := IntWalk.i64_in _ (by omega)
          have v2 : IntKind.i64.wrap (2 * Y) = 2 * Y := IntWalk.i64_in _ (by omega)
          obtain ⟨f', rfl⟩ : ∃ f', f = f' + 1 := by
            rcases f with _ | f'
            · have := h3.out; rw [hN] at this; simp at this; omega
            · exact ⟨f', rfl⟩
          have HG : Hid (growF 31 x y = growF f' (2 * X) (2 * Y)) := hid (by rw [h4.out, grow_more _ _ _ (by rw [hN]; exact g)])
          have HF : Hid (farM (2 * X) (2 * Y) = 2 * N) := hid (by rw [far_twice, hN])
          have H1 : Hid (1 ≤ farM (2 * X) (2 * Y) ∧ farM (2 * X) (2 * Y) ≤ 2147483648) := hid (by rw [HF.out]; omega)
          have H3 : Hid (2147483648 ≤ farM (2 * X) (2 * Y) * 2 ^ f') := hid (by have := h3.out; rw [hN, Int.pow_succ] at this; rw [HF.out, Int.mul_comm 2 N, Int.mul_assoc, Int.mul_comm 2]; exact this)
          have HN := hid hN
          clear hl h3 h4 h1 hN
          go_wp2_with fail
          refine (HX.out _).mono ?_
          rintro e w' ⟨rfl, rfl⟩
          go_wp2_with fail
          refine (HY.out _).mono ?_
          rintro e w' ⟨rfl, rfl⟩
          go_wp2
          go_round
          case rel => exact ⟨2 * X, 2 * Y, f', rfl, rfl, H1, H3, HG⟩
          case measure => simp only [intOf]; rw [HF.out, HN.out]; omega
        · have HG : Hid ((p, q) = (X, Y)) := hid (by rw [← HGG.out, h4.out, grow_done _ _ _ (by rw [hN]; exact g)])
          have e1 : p = X := congrArg Prod.fst HG.out
          have e2 : q = Y := congrArg Prod.snd HG.out
          subst e1
          subst e2
          clear HG hl h3 h4 h1 hN h11 h12
          go_wp2_with fail
          refine (HX.out _).mono ?_
          rintro e w' ⟨rfl, rfl⟩
          go_wp2_with fail
          refine (HY.out _).mono ?_
          rintro e w' ⟨rfl, rfl⟩
          go_wp2_with fail
          refine (HF0.out _).mono ?_
          rintro e w' ⟨rfl, rfl⟩
          go_wp2_with fail
          go_wp2_with fail
          have HB0 := hid (Below.refl w.heap.size w)
          clear HX HY HF0
          go_loopw [5, 6, 7, 8, 9] (fun vp vq va vb vk wr => ∃ j : Nat, j ≤ 31 ∧ vk = .int .i64 j ∧ vb = .int .i64 (2 ^ j) ∧ vp = .int .i64 (iterP stepA j (absP p * 1048576, q * 1048576, 0)).1 ∧ vq = .int .i64 (iterP stepA j (absP p * 1048576, q * 1048576, 0)).2.1 ∧ va = .int .i64 (iterP stepA j (absP p * 1048576, q * 1048576, 0)).2.2 ∧ Below w.heap.size w wr) (fun _ _ _ _ vk _ => 31 - (intOf vk).toNat)
          case atStart => exact ⟨0, by omega, rfl, rfl, rfl, rfl, rfl, HB0.out⟩
          case round =>
            obtain ⟨j, hj, rfl, rfl, rfl, rfl, rfl, hb⟩ := hrel
            by_cases hlt : j < 31
            · have k2 : (j : Int) < 31 := by omega
              have ej : IntKind.i64.wrap ((j : Int) + 1) = ((j + 1 : Nat) : Int) := (IntWalk.i64_in _ (by omega)).trans (by omega)
              have hbn := bn_bd j (by omega)
              have hN := HNA.out j (by omega)
              obtain ⟨R, HJ⟩ : ∃ R, Hid (iterP stepA (j + 1) (absP p * 1048576, q * 1048576, 0) = R) := ⟨_, rfl⟩
              have HI : Hid (R = stepA j (iterP stepA j (absP p * 1048576, q * 1048576, 0))) := hid HJ.out.symm
              obtain ⟨h1, HH⟩ : ∃ h1, Hid (iterP stepA j (absP p * 1048576, q * 1048576, 0) = h1) := ⟨_, rfl⟩
              rw [HH.out] at hN HI ⊢
              clear HH
              obtain ⟨x1, y1, a1⟩ := h1
              obtain ⟨R0, R1, R2⟩ := R
              simp only
              obtain ⟨D, hD⟩ : ∃ D : Int, (2 : Int) ^ j = D := ⟨_, rfl⟩
              have hD0 : 1 ≤ D ∧ D ≤ 1073741824 := by
                have : ∀ k, k < 31 → (1:Int) ≤ 2 ^ k ∧ (2:Int) ^ k ≤ 1073741824 := by decide
                rw [← hD]; exact this j hlt
              have e2 : ¬ (D = 0) := by omega
              have hD2 : Hid ((2 : Int) ^ (j + 1) = 2 * D) := hid (by rw [Int.pow_succ, hD, Int.mul_comm])
              have hTb := tab_bd j
              obtain ⟨hn1, hn2, hn3⟩ := hN
              simp only at hn1 hn2 hn3
              have q1 := tdiv_le x1 (bnP j) D (by omega) hn1.1 hn1.2
              have q2 := tdiv_le y1 (bnP j) D (by omega) hn2.1 hn2.2
              have q3 : bnP j / D ≤ bnP j := Int.ediv_le_self _ hbn.1
              have q4 : 0 ≤ bnP j / D := Int.ediv_nonneg hbn.1 (by omega)
              have v1 : wrap64 (x1.tdiv D) = x1.tdiv D := IntWalk.wrap64_in _ (by omega)
              have v2 : wrap64 (y1.tdiv D) = y1.tdiv D := IntWalk.wrap64_in _ (by omega)
              rcases (show y1 < 0 ∨ y1 = 0 ∨ 0 < y1 by omega) with hy | hy | hy
              · have hy0 : ¬ (0 < y1) := by omega
                have HE : Hid ((R0, R1, R2) = (x1 - y1.tdiv D, y1 + x1.tdiv D, a1 - tabP j)) := hid (by rw [HI.out]; simp only [stepA, turnP, hD, if_neg (show ¬ (y1 = 0) by omega), show decide (y1 < 0) = true by simpa using hy, if_true])
                have s0 : IntKind.i64.wrap (x1 - y1.tdiv D) = R0 := (IntWalk.i64_in _ (by omega)).trans (congrArg (fun p : Int × Int × Int => p.1) HE.out).symm
                have t0 : wrap64 (x1 - y1.tdiv D) = R0 := (IntWalk.i64_left _).symm.trans s0
                have s1 : IntKind.i64.wrap (y1 + x1.tdiv D) = R1 := (IntWalk.i64_in _ (by omega)).trans (congrArg (fun p : Int × Int × Int => p.2.1) HE.out).symm
                have t1 : wrap64 (y1 + x1.tdiv D) = R1 := (IntWalk.i64_left _).symm.trans s1
                have s2 : IntKind.i64.wrap (a1 - tabP j) = R2 := (IntWalk.i64_in _ (by omega)).trans (congrArg (fun p : Int × Int × Int => p.2.2) HE.out).symm
                have t2 : wrap64 (a1 - tabP j) = R2 := (IntWalk.i64_left _).symm.trans s2
                have w2 : IntKind.i64.wrap (2 * D) = 2 * D := IntWalk.i64_in _ (by omega)
                clear hbn hn1 hn2 hn3 q1 q2 q3 q4 hTb hD0 HI HE
                skip
                have HTj := hid fun w => HTab.out j w hlt
                generalize tabP j = T at *
                go_wp2_with fail
                refine (HTj.out _).mono ?_
                rintro e wt ⟨rfl, bt⟩
                replace hb := hb.trans (bt.mono hb.size)
                go_wp2
                go_roundw
                case rel => exact ⟨j + 1, by omega, rfl, by rw [hD2.out], by rw [HJ.out], by rw [HJ.out], by rw [HJ.out], hb⟩
                case measure => simp [intOf]; omega
              · subst hy
                have HE : Hid ((R0, R1, R2) = (x1, 0, a1)) := HI
                obtain ⟨rfl, e3⟩ : R0 = x1 ∧ (R1, R2) = (0, a1) := by have := HE.out; simp at this; exact ⟨this.1, by simp [this.2]⟩
                obtain ⟨rfl, rfl⟩ : R1 = 0 ∧ R2 = a1 := by simpa using e3
                clear e3 HE
                have w2 : IntKind.i64.wrap (2 * D) = 2 * D := IntWalk.i64_in _ (by omega)
                clear hbn hn1 hn2 hn3 q1 q2 q3 q4 hTb hD0 HI
                go_wp2
                go_roundw
                case rel => exact ⟨j + 1, by omega, rfl, by rw [hD2.out], by rw [HJ.out], by rw [HJ.out], by rw [HJ.out], hb⟩
                case measure => simp [intOf]; omega
              · have HE : Hid ((R0, R1, R2) = (x1 + y1.tdiv D, y1 - x1.tdiv D, a1 + tabP j)) := hid (by rw [HI.out]; simp only [stepA, turnP, hD, if_neg (show ¬ (y1 = 0) by omega), show decide (y1 < 0) = false by simp; omega, Bool.false_eq_true, if_false])
                have s0 : IntKind.i64.wrap (x1 + y1.tdiv D) = R0 := (IntWalk.i64_in _ (by omega)).trans (congrArg (fun p : Int × Int × Int => p.1) HE.out).symm
                have t0 : wrap64 (x1 + y1.tdiv D) = R0 := (IntWalk.i64_left _).symm.trans s0
                have s1 : IntKind.i64.wrap (y1 - x1.tdiv D) = R1 := (IntWalk.i64_in _ (by omega)).trans (congrArg (fun p : Int × Int × Int => p.2.1) HE.out).symm
                have t1 : wrap64 (y1 - x1.tdiv D) = R1 := (IntWalk.i64_left _).symm.trans s1
                have s2 : IntKind.i64.wrap (a1 + tabP j) = R2 := (IntWalk.i64_in _ (by omega)).trans (congrArg (fun p : Int × Int × Int => p.2.2) HE.out).symm
                have t2 : wrap64 (a1 + tabP j) = R2 := (IntWalk.i64_left _).symm.trans s2
                have w2 : IntKind.i64.wrap (2 * D) = 2 * D := IntWalk.i64_in _ (by omega)
                clear hbn hn1 hn2 hn3 q1 q2 q3 q4 hTb hD0 HI HE
                skip
                have HTj := hid fun w => HTab.out j w hlt
                generalize tabP j = T at *
                go_wp2_with fail
                refine (HTj.out _).mono ?_
                rintro e wt ⟨rfl, bt⟩
                replace hb := hb.trans (bt.mono hb.size)
                go_wp2
                go_roundw
                case rel => exact ⟨j + 1, by omega, rfl, by rw [hD2.out], by rw [HJ.out], by rw [HJ.out], by rw [HJ.out], hb⟩
                case measure => simp [intOf]; omega
            · obtain rfl : j = 31 := by omega
              have hN := HNA.out 31 (by omega)
              obtain ⟨h1, HH⟩ : ∃ h1, Hid (iterP stepA 31 (absP p * 1048576, q * 1048576, 0) = h1) := ⟨_, rfl⟩
              rw [HH.out] at hN ⊢
              obtain ⟨X, Y, Z⟩ := h1
              have HZ : Hid (atanV y x = Z) := hid (by rw [hA.out, HH.out])
              clear HH
              have hz := hN.2.2
              simp only at hz ⊢
              have v3 : wrap64 (2147483648 - Z) = 2147483648 - Z := IntWalk.wrap64_in _ (by omega)
              have v4 : IntKind.i64.wrap (2147483648 - Z) = 2147483648 - Z := IntWalk.i64_in _ (by omega)
              clear hz hN
              by_cases hx0 : x < 0
              · have HV2 : Hid (atanP y x = IntKind.i32.wrap (2147483648 - Z)) := hid (by rw [hV.out, if_pos hx0, HZ.out])
                have HQ := hid fun w => HRnd.out (2147483648 - Z) w
                rw [← HV2.out] at HQ
                clear HV2
                go_wp2_with fail
                refine (HQ.out _).mono ?_
                rintro e w' ⟨rfl, rfl⟩
                go_wp2
                go_ret
                exact ⟨rfl, hb⟩
              · have HV2 : Hid (atanP y x = IntKind.i32.wrap Z) := hid (by rw [hV.out, if_neg hx0, HZ.out])
                have HQ := hid fun w => HRnd.out Z w
                rw [← HV2.out] at HQ
                clear HV2
                go_wp2_with fail
                refine (HQ.out _).mono ?_
                rintro e w' ⟨rfl, rfl⟩
                go_wp2
                go_ret
                exact ⟨rfl, hb⟩
  cases hB : (x == 0)
  · exact key false hB
  · exact key true hB
set_option maxHeartbeats 8000000 in
theorem r13_Circle (a : Int) (w : World) (ha : I32 a) :
    Calls Try.prog 23 #[.int .i32 a] w fun e w' => e = .returned (.tuple #[.int .i32 (circP a).1, .int .i32 (circP a).2]) ∧ Below w.heap.size w w' := by
  have hN := start_C a ha
  have HNC := hid (near_C _ hN)
  have HTab := hid r13_table
  have HRnd := hid r13_round
  have HB0 := hid (Below.refl w.heap.size w)
  have HV : Hid (circP a = (if behindP a then -pointP (circV a).1 else pointP (circV a).1, pointP (circV a).2.1)) := rfl
  have HVV : Hid (circV a = iterP stepC 31 (683706022956409, 0, startC a)) := rfl
  have u1 : IntKind.i64.wrap a = a := IntWalk.i64_in _ (by unfold I32 at *; omega)
  have w1 : wrap64 (2147483648 - a) = 2147483648 - a := IntWalk.wrap64_in _ (by unfold I32 at *; omega)
  have w2 : IntKind.i64.wrap (2147483648 - a) = 2147483648 - a := IntWalk.i64_in _ (by unfold I32 at *; omega)
  have cb := i32_bd (2147483648 - a)
  have w3 : IntKind.i64.wrap (IntKind.i32.wrap (2147483648 - a)) = IntKind.i32.wrap (2147483648 - a) := IntWalk.i64_in _ (by unfold I32 at cb; omega)
  have HQ0 := hid fun w => r13_round (2147483648 - a) w
  obtain ⟨V, hVV⟩ : ∃ V, Hid (IntKind.i32.wrap (2147483648 - a) = V) := ⟨_, rfl⟩
  rw [hVV.out] at w3 HQ0
  clear cb hN
  rcases (show 1073741824 < a ∨ (¬ (1073741824 < a) ∧ a < -1073741824) ∨ (¬ (1073741824 < a) ∧ ¬ (a < -1073741824)) by omega) with g | ⟨g, g'⟩ | ⟨g, g'⟩
  · have HBE : Hid (behindP a) := hid (show behindP a from Or.inl g)
    have HS0 : Hid (startC a = V) := hid (by unfold startC; rw [if_pos HBE.out]; exact hVV.out)
    rw [HS0.out] at HNC
    clear ha
    go_enter Try.func23, Try.ntmps23
    go_wp2_with fail
    refine (HQ0.out _).mono ?_
    rintro e w' ⟨rfl, rfl⟩
    go_wp2_with fail
    go_loopw [4, 6, 7, 8, 9] (fun va vp vq vb vk wr => ∃ j : Nat, j ≤ 31 ∧ vk = .int .i64 j ∧ vb = .int .i64 (2 ^ j) ∧ vp = .int .i64 (iterP stepC j (683706022956409, 0, V)).1 ∧ vq = .int .i64 (iterP stepC j (683706022956409, 0, V)).2.1 ∧ va = .int .i64 (iterP stepC j (683706022956409, 0, V)).2.2 ∧ Below w.heap.size w wr) (fun _ _ _ _ vk _ => 31 - (intOf vk).toNat)
    case atStart => exact ⟨0, by omega, rfl, rfl, rfl, rfl, rfl, HB0.out⟩
    case round =>
      obtain ⟨j, hj, rfl, rfl, rfl, rfl, rfl, hb⟩ := hrel
      by_cases hlt : j < 31
      · have k2 : (j : Int) < 31 := by omega
        have ej : IntKind.i64.wrap ((j : Int) + 1) = ((j + 1 : Nat) : Int) := (IntWalk.i64_in _ (by omega)).trans (by omega)
        have hbn := bn_bd j (by omega)
        have hN := HNC.out j (by omega)
        obtain ⟨R, HJ⟩ : ∃ R, Hid (iterP stepC (j + 1) (683706022956409, 0, V) = R) := ⟨_, rfl⟩
        have HI : Hid (R = stepC j (iterP stepC j (683706022956409, 0, V))) := hid HJ.out.symm
        obtain ⟨h1, HH⟩ : ∃ h1, Hid (iterP stepC j (683706022956409, 0, V) = h1) := ⟨_, rfl⟩
        rw [HH.out] at hN HI ⊢
        clear HH
        obtain ⟨x1, y1, a1⟩ := h1
        obtain ⟨R0, R1, R2⟩ := R
        simp only
        obtain ⟨D, hD⟩ : ∃ D : Int, (2 : Int) ^ j = D := ⟨_, rfl⟩
        have hD0 : 1 ≤ D ∧ D ≤ 1073741824 := by
          have : ∀ k, k < 31 → (1:Int) ≤ 2 ^ k ∧ (2:Int) ^ k ≤ 1073741824 := by decide
          rw [← hD]; exact this j hlt
        have e2 : ¬ (D = 0) := by omega
        have hD2 : Hid ((2 : Int) ^ (j + 1) = 2 * D) := hid (by rw [Int.pow_succ, hD, Int.mul_comm])
        have hTb := tab_bd j
        obtain ⟨hn1, hn2, hn3⟩ := hN
        simp only at hn1 hn2 hn3
        have q1 := tdiv_le x1 (bnP j) D (by omega) hn1.1 hn1.2
        have q2 := tdiv_le y1 (bnP j) D (by omega) hn2.1 hn2.2
        have q3 : bnP j / D ≤ bnP j := Int.ediv_le_self _ hbn.1
        have q4 : 0 ≤ bnP j / D := Int.ediv_nonneg hbn.1 (by omega)
        have v1 : wrap64 (x1.tdiv D) = x1.tdiv D := IntWalk.wrap64_in _ (by omega)
        have v2 : wrap64 (y1.tdiv D) = y1.tdiv D := IntWalk.wrap64_in _ (by omega)
        rcases (show 0 ≤ a1 ∨ a1 < 0 by omega) with hy | hy
        · have HE : Hid ((R0, R1, R2) = (x1 - y1.tdiv D, y1 + x1.tdiv D, a1 - tabP j)) := hid (by rw [HI.out]; simp only [stepC, turnP, hD, show decide (0 ≤ a1) = true by simpa using hy, if_true])
          have s0 : IntKind.i64.wrap (x1 - y1.tdiv D) = R0 := (IntWalk.i64_in _ (by omega)).trans (congrArg (fun p : Int × Int × Int => p.1) HE.out).symm
          have t0 : wrap64 (x1 - y1.tdiv D) = R0 := (IntWalk.i64_left _).symm.trans s0
          have s1 : IntKind.i64.wrap (y1 + x1.tdiv D) = R1 := (IntWalk.i64_in _ (by omega)).trans (congrArg (fun p : Int × Int × Int => p.2.1) HE.out).symm
          have t1 : wrap64 (y1 + x1.tdiv D) = R1 := (IntWalk.i64_left _).symm.trans s1
          have s2 : IntKind.i64.wrap (a1 - tabP j) = R2 := (IntWalk.i64_in _ (by omega)).trans (congrArg (fun p : Int × Int × Int => p.2.2) HE.out).symm
          have t2 : wrap64 (a1 - tabP j) = R2 := (IntWalk.i64_left _).symm.trans s2
          have w2 : IntKind.i64.wrap (2 * D) = 2 * D := IntWalk.i64_in _ (by omega)
          clear hbn hn1 hn2 hn3 q1 q2 q3 q4 hTb hD0 HI HE
          skip
          have HTj := hid fun w => HTab.out j w hlt
          generalize tabP j = T at *
          go_wp2_with fail
          refine (HTj.out _).mono ?_
          rintro e wt ⟨rfl, bt⟩
          replace hb := hb.trans (bt.mono hb.size)
          go_wp2
          go_roundw
          case rel => exact ⟨j + 1, by omega, rfl, by rw [hD2.out], by rw [HJ.out], by rw [HJ.out], by rw [HJ.out], hb⟩
          case measure => simp [intOf]; omega
        · have hy0 : ¬ (0 ≤ a1) := by omega
          have HE : Hid ((R0, R1, R2) = (x1 + y1.tdiv D, y1 - x1.tdiv D, a1 + tabP j)) := hid (by rw [HI.out]; simp only [stepC, turnP, hD, show decide (0 ≤ a1) = false by simp; omega, Bool.false_eq_true, if_false])
          have s0 : IntKind.i64.wrap (x1 + y1.tdiv D) = R0 := (IntWalk.i64_in _ (by omega)).trans (congrArg (fun p : Int × Int × Int => p.1) HE.out).symm
          have t0 : wrap64 (x1 + y1.tdiv D) = R0 := (IntWalk.i64_left _).symm.trans s0
          have s1 : IntKind.i64.wrap (y1 - x1.tdiv D) = R1 := (IntWalk.i64_in _ (by omega)).trans (congrArg (fun p : Int × Int × Int => p.2.1) HE.out).symm
          have t1 : wrap64 (y1 - x1.tdiv D) = R1 := (IntWalk.i64_left _).symm.trans s1
          have s2 : IntKind.i64.wrap (a1 + tabP j) = R2 := (IntWalk.i64_in _ (by omega)).trans (congrArg (fun p : Int × Int × Int => p.2.2) HE.out).symm
          have t2 : wrap64 (a1 + tabP j) = R2 := (IntWalk.i64_left _).symm.trans s2
          have w2 : IntKind.i64.wrap (2 * D) = 2 * D := IntWalk.i64_in _ (by omega)
          clear hbn hn1 hn2 hn3 q1 q2 q3 q4 hTb hD0 HI HE
          skip
          have HTj := hid fun w => HTab.out j w hlt
          generalize tabP j = T at *
          go_wp2_with fail
          refine (HTj.out _).mono ?_
          rintro e wt ⟨rfl, bt⟩
          replace hb := hb.trans (bt.mono hb.size)
          go_wp2
          go_roundw
          case rel => exact ⟨j + 1, by omega, rfl, by rw [hD2.out], by rw [HJ.out], by rw [HJ.out], by rw [HJ.out], hb⟩
          case measure => simp [intOf]; omega
      · obtain rfl : j = 31 := by omega
        have hN := HNC.out 31 (by omega)
        obtain ⟨h1, HH⟩ : ∃ h1, Hid (iterP stepC 31 (683706022956409, 0, V) = h1) := ⟨_, rfl⟩
        rw [HH.out] at hN ⊢
        obtain ⟨X, Y, A⟩ := h1
        have HV2 : Hid (circP a = (-pointP X, pointP Y)) := hid (by rw [HV.out, HVV.out, HS0.out, HH.out, if_pos HBE.out])
        clear HH HV HVV
        simp only at hN ⊢
        have hbn := bn_bd 31 (by omega)
        have HPX := hid fun w => r13_part X w (by have := hN.1; simp only at this; unfold I64; omega)
        have HPY := hid fun w => r13_part Y w (by have := hN.2.1; simp only at this; unfold I64; omega)
        have pb := point_bd X
        generalize pointP X = c at *
        generalize pointP Y = s at *
        have w4 : IntKind.i32.wrap (-c) = -c := by rw [i32_wrap]; omega
        have w5 : wrap32 (-c) = -c := by rw [← wrap32_is, i32_wrap]; omega
        clear hN hbn pb
        go_wp2_with fail
        refine (HPX.out _).mono ?_
        rintro e w' ⟨rfl, rfl⟩
        go_wp2_with fail
        refine (HPY.out _).mono ?_
        rintro e w' ⟨rfl, rfl⟩
        go_wp2
        go_ret2
        exact ⟨by rw [HV2.out]; rfl, hb⟩
  · have HBE : Hid (behindP a) := hid (show behindP a from Or.inr g')
    have HS0 : Hid (startC a = V) := hid (by unfold startC; rw [if_pos HBE.out]; exact hVV.out)
    rw [HS0.out] at HNC
    clear ha
    go_enter Try.func23, Try.ntmps23
    go_wp2_with fail
    refine (HQ0.out _).mono ?_
    rintro e w' ⟨rfl, rfl⟩
    go_wp2_with fail
    go_loopw [4, 6, 7, 8, 9] (fun va vp vq vb vk wr => ∃ j : Nat, j ≤ 31 ∧ vk = .int .i64 j ∧ vb = .int .i64 (2 ^ j) ∧ vp = .int .i64 (iterP stepC j (683706022956409, 0, V)).1 ∧ vq = .int .i64 (iterP stepC j (683706022956409, 0, V)).2.1 ∧ va = .int .i64 (iterP stepC j (683706022956409, 0, V)).2.2 ∧ Below w.heap.size w wr) (fun _ _ _ _ vk _ => 31 - (intOf vk).toNat)
    case atStart => exact ⟨0, by omega, rfl, rfl, rfl, rfl, rfl, HB0.out⟩
    case round =>
      obtain ⟨j, hj, rfl, rfl, rfl, rfl, rfl, hb⟩ := hrel
      by_cases hlt : j < 31
      · have k2 : (j : Int) < 31 := by omega
        have ej : IntKind.i64.wrap ((j : Int) + 1) = ((j + 1 : Nat) : Int) := (IntWalk.i64_in _ (by omega)).trans (by omega)
        have hbn := bn_bd j (by omega)
        have hN := HNC.out j (by omega)
        obtain ⟨R, HJ⟩ : ∃ R, Hid (iterP stepC (j + 1) (683706022956409, 0, V) = R) := ⟨_, rfl⟩
        have HI : Hid (R = stepC j (iterP stepC j (683706022956409, 0, V))) := hid HJ.out.symm
        obtain ⟨h1, HH⟩ : ∃ h1, Hid (iterP stepC j (683706022956409, 0, V) = h1) := ⟨_, rfl⟩
        rw [HH.out] at hN HI ⊢
        clear HH
        obtain ⟨x1, y1, a1⟩ := h1
        obtain ⟨R0, R1, R2⟩ := R
        simp only
        obtain ⟨D, hD⟩ : ∃ D : Int, (2 : Int) ^ j = D := ⟨_, rfl⟩
        have hD0 : 1 ≤ D ∧ D ≤ 1073741824 := by
          have : ∀ k, k < 31 → (1:Int) ≤ 2 ^ k ∧ (2:Int) ^ k ≤ 1073741824 := by decide
          rw [← hD]; exact this j hlt
        have e2 : ¬ (D = 0) := by omega
        have hD2 : Hid ((2 : Int) ^ (j + 1) = 2 * D) := hid (by rw [Int.pow_succ, hD, Int.mul_comm])
        have hTb := tab_bd j
        obtain ⟨hn1, hn2, hn3⟩ := hN
        simp only at hn1 hn2 hn3
        have q1 := tdiv_le x1 (bnP j) D (by omega) hn1.1 hn1.2
        have q2 := tdiv_le y1 (bnP j) D (by omega) hn2.1 hn2.2
        have q3 : bnP j / D ≤ bnP j := Int.ediv_le_self _ hbn.1
        have q4 : 0 ≤ bnP j / D := Int.ediv_nonneg hbn.1 (by omega)
        have v1 : wrap64 (x1.tdiv D) = x1.tdiv D := IntWalk.wrap64_in _ (by omega)
        have v2 : wrap64 (y1.tdiv D) = y1.tdiv D := IntWalk.wrap64_in _ (by omega)
        rcases (show 0 ≤ a1 ∨ a1 < 0 by omega) with hy | hy
        · have HE : Hid ((R0, R1, R2) = (x1 - y1.tdiv D, y1 + x1.tdiv D, a1 - tabP j)) := hid (by rw [HI.out]; simp only [stepC, turnP, hD, show decide (0 ≤ a1) = true by simpa using hy, if_true])
          have s0 : IntKind.i64.wrap (x1 - y1.tdiv D) = R0 := (IntWalk.i64_in _ (by omega)).trans (congrArg (fun p : Int × Int × Int => p.1) HE.out).symm
          have t0 : wrap64 (x1 - y1.tdiv D) = R0 := (IntWalk.i64_left _).symm.trans s0
          have s1 : IntKind.i64.wrap (y1 + x1.tdiv D) = R1 := (IntWalk.i64_in _ (by omega)).trans (congrArg (fun p : Int × Int × Int => p.2.1) HE.out).symm
          have t1 : wrap64 (y1 + x1.tdiv D) = R1 := (IntWalk.i64_left _).symm.trans s1
          have s2 : IntKind.i64.wrap (a1 - tabP j) = R2 := (IntWalk.i64_in _ (by omega)).trans (congrArg (fun p : Int × Int × Int => p.2.2) HE.out).symm
          have t2 : wrap64 (a1 - tabP j) = R2 := (IntWalk.i64_left _).symm.trans s2
          have w2 : IntKind.i64.wrap (2 * D) = 2 * D := IntWalk.i64_in _ (by omega)
          clear hbn hn1 hn2 hn3 q1 q2 q3 q4 hTb hD0 HI HE
          skip
          have HTj := hid fun w => HTab.out j w hlt
          generalize tabP j = T at *
          go_wp2_with fail
          refine (HTj.out _).mono ?_
          rintro e wt ⟨rfl, bt⟩
          replace hb := hb.trans (bt.mono hb.size)
          go_wp2
          go_roundw
          case rel => exact ⟨j + 1, by omega, rfl, by rw [hD2.out], by rw [HJ.out], by rw [HJ.out], by rw [HJ.out], hb⟩
          case measure => simp [intOf]; omega
        · have hy0 : ¬ (0 ≤ a1) := by omega
          have HE : Hid ((R0, R1, R2) = (x1 + y1.tdiv D, y1 - x1.tdiv D, a1 + tabP j)) := hid (by rw [HI.out]; simp only [stepC, turnP, hD, show decide (0 ≤ a1) = false by simp; omega, Bool.false_eq_true, if_false])
          have s0 : IntKind.i64.wrap (x1 + y1.tdiv D) = R0 := (IntWalk.i64_in _ (by omega)).trans (congrArg (fun p : Int × Int × Int => p.1) HE.out).symm
          have t0 : wrap64 (x1 + y1.tdiv D) = R0 := (IntWalk.i64_left _).symm.trans s0
          have s1 : IntKind.i64.wrap (y1 - x1.tdiv D) = R1 := (IntWalk.i64_in _ (by omega)).trans (congrArg (fun p : Int × Int × Int => p.2.1) HE.out).symm
          have t1 : wrap64 (y1 - x1.tdiv D) = R1 := (IntWalk.i64_left _).symm.trans s1
          have s2 : IntKind.i64.wrap (a1 + tabP j) = R2 := (IntWalk.i64_in _ (by omega)).trans (congrArg (fun p : Int × Int × Int => p.2.2) HE.out).symm
          have t2 : wrap64 (a1 + tabP j) = R2 := (IntWalk.i64_left _).symm.trans s2
          have w2 : IntKind.i64.wrap (2 * D) = 2 * D := IntWalk.i64_in _ (by omega)
          clear hbn hn1 hn2 hn3 q1 q2 q3 q4 hTb hD0 HI HE
          skip
          have HTj := hid fun w => HTab.out j w hlt
          generalize tabP j = T at *
          go_wp2_with fail
          refine (HTj.out _).mono ?_
          rintro e wt ⟨rfl, bt⟩
          replace hb := hb.trans (bt.mono hb.size)
          go_wp2
          go_roundw
          case rel => exact ⟨j + 1, by omega, rfl, by rw [hD2.out], by rw [HJ.out], by rw [HJ.out], by rw [HJ.out], hb⟩
          case measure => simp [intOf]; omega
      · obtain rfl : j = 31 := by omega
        have hN := HNC.out 31 (by omega)
        obtain ⟨h1, HH⟩ : ∃ h1, Hid (iterP stepC 31 (683706022956409, 0, V) = h1) := ⟨_, rfl⟩
        rw [HH.out] at hN ⊢
        obtain ⟨X, Y, A⟩ := h1
        have HV2 : Hid (circP a = (-pointP X, pointP Y)) := hid (by rw [HV.out, HVV.out, HS0.out, HH.out, if_pos HBE.out])
        clear HH HV HVV
        simp only at hN ⊢
        have hbn := bn_bd 31 (by omega)
        have HPX := hid fun w => r13_part X w (by have := hN.1; simp only at this; unfold I64; omega)
        have HPY := hid fun w => r13_part Y w (by have := hN.2.1; simp only at this; unfold I64; omega)
        have pb := point_bd X
        generalize pointP X = c at *
        generalize pointP Y = s at *
        have w4 : IntKind.i32.wrap (-c) = -c := by rw [i32_wrap]; omega
        have w5 : wrap32 (-c) = -c := by rw [← wrap32_is, i32_wrap]; omega
        clear hN hbn pb
        go_wp2_with fail
        refine (HPX.out _).mono ?_
        rintro e w' ⟨rfl, rfl⟩
        go_wp2_with fail
        refine (HPY.out _).mono ?_
        rintro e w' ⟨rfl, rfl⟩
        go_wp2
        go_ret2
        exact ⟨by rw [HV2.out]; rfl, hb⟩
  · have HBE : Hid (¬ behindP a) := hid (fun h => by rcases h with h | h <;> omega)
    have HS0 : Hid (startC a = a) := hid (by unfold startC; rw [if_neg HBE.out])
    rw [HS0.out] at HNC
    clear ha
    go_enter Try.func23, Try.ntmps23
    go_wp2_with fail
    go_loopw [4, 6, 7, 8, 9] (fun va vp vq vb vk wr => ∃ j : Nat, j ≤ 31 ∧ vk = .int .i64 j ∧ vb = .int .i64 (2 ^ j) ∧ vp = .int .i64 (iterP stepC j (683706022956409, 0, a)).1 ∧ vq = .int .i64 (iterP stepC j (683706022956409, 0, a)).2.1 ∧ va = .int .i64 (iterP stepC j (683706022956409, 0, a)).2.2 ∧ Below w.heap.size w wr) (fun _ _ _ _ vk _ => 31 - (intOf vk).toNat)
    case atStart => exact ⟨0, by omega, rfl, rfl, rfl, rfl, rfl, HB0.out⟩
    case round =>
      obtain ⟨j, hj, rfl, rfl, rfl, rfl, rfl, hb⟩ := hrel
      by_cases hlt : j < 31
      · have k2 : (j : Int) < 31 := by omega
        have ej : IntKind.i64.wrap ((j : Int) + 1) = ((j + 1 : Nat) : Int) := (IntWalk.i64_in _ (by omega)).trans (by omega)
        have hbn := bn_bd j (by omega)
        have hN := HNC.out j (by omega)
        obtain ⟨R, HJ⟩ : ∃ R, Hid (iterP stepC (j + 1) (683706022956409, 0, a) = R) := ⟨_, rfl⟩
        have HI : Hid (R = stepC j (iterP stepC j (683706022956409, 0, a))) := hid HJ.out.symm
        obtain ⟨h1, HH⟩ : ∃ h1, Hid (iterP stepC j (683706022956409, 0, a) = h1) := ⟨_, rfl⟩
        rw [HH.out] at hN HI ⊢
        clear HH
        obtain ⟨x1, y1, a1⟩ := h1
        obtain ⟨R0, R1, R2⟩ := R
        simp only
        obtain ⟨D, hD⟩ : ∃ D : Int, (2 : Int) ^ j = D := ⟨_, rfl⟩
        have hD0 : 1 ≤ D ∧ D ≤ 1073741824 := by
          have : ∀ k, k < 31 → (1:Int) ≤ 2 ^ k ∧ (2:Int) ^ k ≤ 1073741824 := by decide
          rw [← hD]; exact this j hlt
        have e2 : ¬ (D = 0) := by omega
        have hD2 : Hid ((2 : Int) ^ (j + 1) = 2 * D) := hid (by rw [Int.pow_succ, hD, Int.mul_comm])
        have hTb := tab_bd j
        obtain ⟨hn1, hn2, hn3⟩ := hN
        simp only at hn1 hn2 hn3
        have q1 := tdiv_le x1 (bnP j) D (by omega) hn1.1 hn1.2
        have q2 := tdiv_le y1 (bnP j) D (by omega) hn2.1 hn2.2
        have q3 : bnP j / D ≤ bnP j := Int.ediv_le_self _ hbn.1
        have q4 : 0 ≤ bnP j / D := Int.ediv_nonneg hbn.1 (by omega)
        have v1 : wrap64 (x1.tdiv D) = x1.tdiv D := IntWalk.wrap64_in _ (by omega)
        have v2 : wrap64 (y1.tdiv D) = y1.tdiv D := IntWalk.wrap64_in _ (by omega)
        rcases (show 0 ≤ a1 ∨ a1 < 0 by omega) with hy | hy
        · have HE : Hid ((R0, R1, R2) = (x1 - y1.tdiv D, y1 + x1.tdiv D, a1 - tabP j)) := hid (by rw [HI.out]; simp only [stepC, turnP, hD, show decide (0 ≤ a1) = true by simpa using hy, if_true])
          have s0 : IntKind.i64.wrap (x1 - y1.tdiv D) = R0 := (IntWalk.i64_in _ (by omega)).trans (congrArg (fun p : Int × Int × Int => p.1) HE.out).symm
          have t0 : wrap64 (x1 - y1.tdiv D) = R0 := (IntWalk.i64_left _).symm.trans s0
          have s1 : IntKind.i64.wrap (y1 + x1.tdiv D) = R1 := (IntWalk.i64_in _ (by omega)).trans (congrArg (fun p : Int × Int × Int => p.2.1) HE.out).symm
          have t1 : wrap64 (y1 + x1.tdiv D) = R1 := (IntWalk.i64_left _).symm.trans s1
          have s2 : IntKind.i64.wrap (a1 - tabP j) = R2 := (IntWalk.i64_in _ (by omega)).trans (congrArg (fun p : Int × Int × Int => p.2.2) HE.out).symm
          have t2 : wrap64 (a1 - tabP j) = R2 := (IntWalk.i64_left _).symm.trans s2
          have w2 : IntKind.i64.wrap (2 * D) = 2 * D := IntWalk.i64_in _ (by omega)
          clear hbn hn1 hn2 hn3 q1 q2 q3 q4 hTb hD0 HI HE
          skip
          have HTj := hid fun w => HTab.out j w hlt
          generalize tabP j = T at *
          go_wp2_with fail
          refine (HTj.out _).mono ?_
          rintro e wt ⟨rfl, bt⟩
          replace hb := hb.trans (bt.mono hb.size)
          go_wp2
          go_roundw
          case rel => exact ⟨j + 1, by omega, rfl, by rw [hD2.out], by rw [HJ.out], by rw [HJ.out], by rw [HJ.out], hb⟩
          case measure => simp [intOf]; omega
        · have hy0 : ¬ (0 ≤ a1) := by omega
          have HE : Hid ((R0, R1, R2) = (x1 + y1.tdiv D, y1 - x1.tdiv D, a1 + tabP j)) := hid (by rw [HI.out]; simp only [stepC, turnP, hD, show decide (0 ≤ a1) = false by simp; omega, Bool.false_eq_true, if_false])
          have s0 : IntKind.i64.wrap (x1 + y1.tdiv D) = R0 := (IntWalk.i64_in _ (by omega)).trans (congrArg (fun p : Int × Int × Int => p.1) HE.out).symm
          have t0 : wrap64 (x1 + y1.tdiv D) = R0 := (IntWalk.i64_left _).symm.trans s0
          have s1 : IntKind.i64.wrap (y1 - x1.tdiv D) = R1 := (IntWalk.i64_in _ (by omega)).trans (congrArg (fun p : Int × Int × Int => p.2.1) HE.out).symm
          have t1 : wrap64 (y1 - x1.tdiv D) = R1 := (IntWalk.i64_left _).symm.trans s1
          have s2 : IntKind.i64.wrap (a1 + tabP j) = R2 := (IntWalk.i64_in _ (by omega)).trans (congrArg (fun p : Int × Int × Int => p.2.2) HE.out).symm
          have t2 : wrap64 (a1 + tabP j) = R2 := (IntWalk.i64_left _).symm.trans s2
          have w2 : IntKind.i64.wrap (2 * D) = 2 * D := IntWalk.i64_in _ (by omega)
          clear hbn hn1 hn2 hn3 q1 q2 q3 q4 hTb hD0 HI HE
          skip
          have HTj := hid fun w => HTab.out j w hlt
          generalize tabP j = T at *
          go_wp2_with fail
          refine (HTj.out _).mono ?_
          rintro e wt ⟨rfl, bt⟩
          replace hb := hb.trans (bt.mono hb.size)
          go_wp2
          go_roundw
          case rel => exact ⟨j + 1, by omega, rfl, by rw [hD2.out], by rw [HJ.out], by rw [HJ.out], by rw [HJ.out], hb⟩
          case measure => simp [intOf]; omega
      · obtain rfl : j = 31 := by omega
        have hN := HNC.out 31 (by omega)
        obtain ⟨h1, HH⟩ : ∃ h1, Hid (iterP stepC 31 (683706022956409, 0, a) = h1) := ⟨_, rfl⟩
        rw [HH.out] at hN ⊢
        obtain ⟨X, Y, A⟩ := h1
        have HV2 : Hid (circP a = (pointP X, pointP Y)) := hid (by rw [HV.out, HVV.out, HS0.out, HH.out, if_neg HBE.out])
        clear HH HV HVV
        simp only at hN ⊢
        have hbn := bn_bd 31 (by omega)
        have HPX := hid fun w => r13_part X w (by have := hN.1; simp only at this; unfold I64; omega)
        have HPY := hid fun w => r13_part Y w (by have := hN.2.1; simp only at this; unfold I64; omega)
        have pb := point_bd X
        generalize pointP X = c at *
        generalize pointP Y = s at *
        have w4 : IntKind.i32.wrap (-c) = -c := by rw [i32_wrap]; omega
        have w5 : wrap32 (-c) = -c := by rw [← wrap32_is, i32_wrap]; omega
        clear hN hbn pb
        go_wp2_with fail
        refine (HPX.out _).mono ?_
        rintro e w' ⟨rfl, rfl⟩
        go_wp2_with fail
        refine (HPY.out _).mono ?_
        rintro e w' ⟨rfl, rfl⟩
        go_wp2
        go_ret2
        exact ⟨by rw [HV2.out]; rfl, hb⟩
end Go.Proofs.Ytfogjfmpgfcolaa
