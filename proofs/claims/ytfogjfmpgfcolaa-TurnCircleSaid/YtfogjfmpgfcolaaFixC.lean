/- Chapter 01: the reference's functions; both Clamps. -/
import Derived.Test.YtfogjfmpgfcolaaFixB
namespace Go.Proofs.Ytfogjfmpgfcolaa
open Go.RowKit

theorem fxr_far (n : Int) (w : World) (h : I64 n) :
    Calls Try.prog 94 #[.int .i64 n] w fun e w' => e = .returned (.int .u64 (absP n)) ∧ w = w' := by
  obtain ⟨h0, h1⟩ := h
  by_cases g : n < 0
  · have H : Hid (-(n + 1) + 1 = absP n) := by show _ = _; unfold absP; rw [if_pos g]; omega
    go_enter Try.func94, Try.ntmps94
    go_wp2
    go_ret
    exact ⟨by rw [← H.out]; rfl, rfl⟩
  · have H : Hid (n = absP n) := by show _ = _; unfold absP; rw [if_neg g]
    go_enter Try.func94, Try.ntmps94
    go_wp2
    go_ret
    exact ⟨by rw [← H.out]; rfl, rfl⟩

theorem over_ref (n d : Int) (hn : I64 n) (hd : I64 d) (h0 : d ≠ 0) :
    0 ≤ absP n / absP d ∧ absP n / absP d ≤ 9223372036854775808 ∧ 0 ≤ absP n % absP d ∧ absP n % absP d < absP d ∧ 1 ≤ absP d ∧
      (2 * absP n + absP d) / (2 * absP d) = absP n / absP d + (if absP d - absP n % absP d ≤ absP n % absP d then 1 else 0) ∧ (2 * absP n + absP d) / (2 * absP d) ≤ 9223372036854775808 := by
  have ha := absP_bd n hn
  have hb := absP_bd d hd
  have hb1 : 1 ≤ absP d := by unfold absP; split <;> omega
  generalize absP n = a at *
  generalize absP d = b at *
  obtain ⟨a, rfl⟩ := Int.eq_ofNat_of_zero_le ha.1
  obtain ⟨b, rfl⟩ := Int.eq_ofNat_of_zero_le hb.1
  have hb0 : 0 < b := by omega
  have hu := half_upZ a b hb0
  have e1 : (a : Int) / (b : Int) = ((a / b : Nat) : Int) := rfl
  have e2 : (a : Int) % (b : Int) = ((a % b : Nat) : Int) := rfl
  have hm := Nat.mod_lt a hb0
  have hq1 : ((a / b : Nat) : Int) ≤ a := by exact_mod_cast Nat.div_le_self a b
  have hq0 : 0 ≤ ((a / b : Nat) : Int) := Int.natCast_nonneg _
  have hr0 : 0 ≤ ((a % b : Nat) : Int) := Int.natCast_nonneg _
  have hmZ : ((a % b : Nat) : Int) < b := by exact_mod_cast hm
  have hdm : (b : Int) * ((a / b : Nat) : Int) + ((a % b : Nat) : Int) = a := by rw [← Int.natCast_mul, ← Int.natCast_add, Nat.div_add_mod]
  have hq2 : 2 ≤ b → 2 * ((a / b : Nat) : Int) ≤ a := by
    intro h2
    have h3 : 2 * ((a / b : Nat) : Int) ≤ (b : Int) * ((a / b : Nat) : Int) := Int.mul_le_mul_of_nonneg_right (by omega) hq0
    omega
  rw [hu, e1, e2]
  clear e1 e2 hu
  generalize ((a / b : Nat) : Int) = q at *
  generalize ((a % b : Nat) : Int) = r at *
  clear hdm hm
  refine ⟨hq0, by omega, hr0, hmZ, hb1, ?_, ?_⟩
  · congr 1
    by_cases g : (b : Int) ≤ 2 * r
    · rw [if_pos g, if_pos (by omega)]
    · rw [if_neg g, if_neg (by omega)]
  · rcases Nat.lt_or_ge b 2 with h | h
    · have : ¬ (b : Int) ≤ 2 * r := by omega
      rw [if_neg this]; omega
    · have := hq2 h
      split <;> omega

theorem fxr_Over (n d : Int) (w : World) (hn : I64 n) (hd : I64 d) :
    Calls Try.prog 68 #[.int .i64 n, .int .i64 d] w fun e w' => e = .returned (.int .i64 (overP n d)) ∧ w = w' := by
  by_cases h0 : d = 0
  · have H : Hid (0 = overP n d) := by show _ = _; unfold overP; rw [if_pos h0]
    have g : (d == 0) = true := by simpa using h0
    clear h0
    go_enter Try.func68, Try.ntmps68
    go_wp2
    go_ret
    exact ⟨by rw [← H.out]; rfl, rfl⟩
  have g0 : (d == 0) = false := by simpa using h0
  have hf := over_ref n d hn hd h0
  have hov : overP n d = if n < 0 then (if d < 0 then min ((2 * absP n + absP d) / (2 * absP d)) 9223372036854775807 else -((2 * absP n + absP d) / (2 * absP d)))
      else (if d < 0 then -((2 * absP n + absP d) / (2 * absP d)) else min ((2 * absP n + absP d) / (2 * absP d)) 9223372036854775807) := by unfold overP; rw [if_neg h0]
  have ha := absP_bd n hn
  have hb := absP_bd d hd
  have HS1 := hid fun w => fxr_far n w hn
  have HS2 := hid fun w => fxr_far d w hd
  have hq0 : n ≠ 0 ∨ n = 0 := by omega
  generalize hA : absP n = a at *
  generalize hB : absP d = b at *
  have HA := hid hA
  have HB := hid hB
  clear hA hB
  obtain ⟨f1, f2, f3, f4, f5, f6, f7⟩ := hf
  generalize (2 * a + b) / (2 * b) = Q at *
  have hb0 : ¬ b = 0 := by omega
  generalize ho : overP n d = o at *
  clear ho h0 hq0 hn hd
  have fin : ∀ (q : Int), q = Q → Hid (o = if n < 0 then (if d < 0 then min q 9223372036854775807 else -q) else (if d < 0 then -q else min q 9223372036854775807)) := fun q h => by subst h; exact hov
  clear hov
  have HR : Hid (∀ m, m = o → Ending.returned (.int .i64 m) = Ending.returned (.int .i64 o)) := fun m hm => by rw [hm]
  by_cases g1 : b - a % b ≤ a % b
  · rw [if_pos g1] at f6
    have HF := fin (a / b + 1) f6.symm
    rw [f6] at f7
    clear fin f6
    have g1' : decide (b - a % b ≤ a % b) = true := by simp; omega
    by_cases gn : n < 0
    · by_cases gd : d < 0
      · rw [if_pos gn, if_pos gd] at HF
        have gn' : decide (n < 0) = true := by simp; omega
        have gd' : decide (d < 0) = true := by simp; omega
        go_enter Try.func68, Try.ntmps68
        go_wp2_with (first
          | (go_at_call_of 94 (Value.int IntKind.i64 n); refine (HS1.out _).mono ?_; rintro e w' ⟨rfl, rfl⟩)
          | (go_at_call_of 94 (Value.int IntKind.i64 d); refine (HS2.out _).mono ?_; rintro e w' ⟨rfl, rfl⟩))
        all_goals go_ret
        all_goals exact ⟨HR.out _ (by have := HF.out; omega), rfl⟩
      · rw [if_pos gn, if_neg gd] at HF
        have gn' : decide (n < 0) = true := by simp; omega
        have gd' : decide (d < 0) = false := by simp; omega
        by_cases gq : a / b + 1 = 0
        · have gq' : (a / b + 1 == 0) = true := by simpa using gq
          exact absurd gq (by omega)
        · have gq' : (a / b + 1 == 0) = false := by simpa using gq
          have gq2 : 1 ≤ a / b + 1 := by omega
          clear gq
          go_enter Try.func68, Try.ntmps68
          go_wp2_with (first
            | (go_at_call_of 94 (Value.int IntKind.i64 n); refine (HS1.out _).mono ?_; rintro e w' ⟨rfl, rfl⟩)
            | (go_at_call_of 94 (Value.int IntKind.i64 d); refine (HS2.out _).mono ?_; rintro e w' ⟨rfl, rfl⟩))
          all_goals go_ret
          all_goals exact ⟨HR.out _ (by have := HF.out; omega), rfl⟩
    · by_cases gd : d < 0
      · rw [if_neg gn, if_pos gd] at HF
        have gn' : decide (n < 0) = false := by simp; omega
        have gd' : decide (d < 0) = true := by simp; omega
        by_cases gq : a / b + 1 = 0
        · have gq' : (a / b + 1 == 0) = true := by simpa using gq
          exact absurd gq (by omega)
        · have gq' : (a / b + 1 == 0) = false := by simpa using gq
          have gq2 : 1 ≤ a / b + 1 := by omega
          clear gq
          go_enter Try.func68, Try.ntmps68
          go_wp2_with (first
            | (go_at_call_of 94 (Value.int IntKind.i64 n); refine (HS1.out _).mono ?_; rintro e w' ⟨rfl, rfl⟩)
            | (go_at_call_of 94 (Value.int IntKind.i64 d); refine (HS2.out _).mono ?_; rintro e w' ⟨rfl, rfl⟩))
          all_goals go_ret
          all_goals exact ⟨HR.out _ (by have := HF.out; omega), rfl⟩
      · rw [if_neg gn, if_neg gd] at HF
        have gn' : decide (n < 0) = false := by simp; omega
        have gd' : decide (d < 0) = false := by simp; omega
        go_enter Try.func68, Try.ntmps68
        go_wp2_with (first
          | (go_at_call_of 94 (Value.int IntKind.i64 n); refine (HS1.out _).mono ?_; rintro e w' ⟨rfl, rfl⟩)
          | (go_at_call_of 94 (Value.int IntKind.i64 d); refine (HS2.out _).mono ?_; rintro e w' ⟨rfl, rfl⟩))
        all_goals go_ret
        all_goals exact ⟨HR.out _ (by have := HF.out; omega), rfl⟩
  · rw [if_neg g1] at f6
    rw [Int.add_zero] at f6
    have HF := fin (a / b) f6.symm
    rw [f6] at f7
    clear fin f6
    have g1' : decide (b - a % b ≤ a % b) = false := by simp; omega
    by_cases gn : n < 0
    · by_cases gd : d < 0
      · rw [if_pos gn, if_pos gd] at HF
        have gn' : decide (n < 0) = true := by simp; omega
        have gd' : decide (d < 0) = true := by simp; omega
        go_enter Try.func68, Try.ntmps68
        go_wp2_with (first
          | (go_at_call_of 94 (Value.int IntKind.i64 n); refine (HS1.out _).mono ?_; rintro e w' ⟨rfl, rfl⟩)
          | (go_at_call_of 94 (Value.int IntKind.i64 d); refine (HS2.out _).mono ?_; rintro e w' ⟨rfl, rfl⟩))
        all_goals go_ret
        all_goals exact ⟨HR.out _ (by have := HF.out; omega), rfl⟩
      · rw [if_pos gn, if_neg gd] at HF
        have gn' : decide (n < 0) = true := by simp; omega
        have gd' : decide (d < 0) = false := by simp; omega
        by_cases gq : a / b = 0
        · have gq' : (a / b == 0) = true := by simpa using gq
          have gq2 : o = 0 := by have := HF.out; omega
          have HF := hid gq2
          clear gq gq2
          go_enter Try.func68, Try.ntmps68
          go_wp2_with (first
            | (go_at_call_of 94 (Value.int IntKind.i64 n); refine (HS1.out _).mono ?_; rintro e w' ⟨rfl, rfl⟩)
            | (go_at_call_of 94 (Value.int IntKind.i64 d); refine (HS2.out _).mono ?_; rintro e w' ⟨rfl, rfl⟩))
          all_goals go_ret
          all_goals exact ⟨HR.out _ (by have := HF.out; omega), rfl⟩
        · have gq' : (a / b == 0) = false := by simpa using gq
          have gq2 : 1 ≤ a / b := by omega
          clear gq
          go_enter Try.func68, Try.ntmps68
          go_wp2_with (first
            | (go_at_call_of 94 (Value.int IntKind.i64 n); refine (HS1.out _).mono ?_; rintro e w' ⟨rfl, rfl⟩)
            | (go_at_call_of 94 (Value.int IntKind.i64 d); refine (HS2.out _).mono ?_; rintro e w' ⟨rfl, rfl⟩))
          all_goals go_ret
          all_goals exact ⟨HR.out _ (by have := HF.out; omega), rfl⟩
    · by_cases gd : d < 0
      · rw [if_neg gn, if_pos gd] at HF
        have gn' : decide (n < 0) = false := by simp; omega
        have gd' : decide (d < 0) = true := by simp; omega
        by_cases gq : a / b = 0
        · have gq' : (a / b == 0) = true := by simpa using gq
          have gq2 : o = 0 := by have := HF.out; omega
          have HF := hid gq2
          clear gq gq2
          go_enter Try.func68, Try.ntmps68
          go_wp2_with (first
            | (go_at_call_of 94 (Value.int IntKind.i64 n); refine (HS1.out _).mono ?_; rintro e w' ⟨rfl, rfl⟩)
            | (go_at_call_of 94 (Value.int IntKind.i64 d); refine (HS2.out _).mono ?_; rintro e w' ⟨rfl, rfl⟩))
          all_goals go_ret
          all_goals exact ⟨HR.out _ (by have := HF.out; omega), rfl⟩
        · have gq' : (a / b == 0) = false := by simpa using gq
          have gq2 : 1 ≤ a / b := by omega
          clear gq
          go_enter Try.func68, Try.ntmps68
          go_wp2_with (first
            | (go_at_call_of 94 (Value.int IntKind.i64 n); refine (HS1.out _).mono ?_; rintro e w' ⟨rfl, rfl⟩)
            | (go_at_call_of 94 (Value.int IntKind.i64 d); refine (HS2.out _).mono ?_; rintro e w' ⟨rfl, rfl⟩))
          all_goals go_ret
          all_goals exact ⟨HR.out _ (by have := HF.out; omega), rfl⟩
      · rw [if_neg gn, if_neg gd] at HF
        have gn' : decide (n < 0) = false := by simp; omega
        have gd' : decide (d < 0) = false := by simp; omega
        go_enter Try.func68, Try.ntmps68
        go_wp2_with (first
          | (go_at_call_of 94 (Value.int IntKind.i64 n); refine (HS1.out _).mono ?_; rintro e w' ⟨rfl, rfl⟩)
          | (go_at_call_of 94 (Value.int IntKind.i64 d); refine (HS2.out _).mono ?_; rintro e w' ⟨rfl, rfl⟩))
        all_goals go_ret
        all_goals exact ⟨HR.out _ (by have := HF.out; omega), rfl⟩

theorem fxr_Power (n : Int) (w : World) (h : 0 ≤ n ∧ n ≤ 62) :
    Calls Try.prog 107 #[.int .i64 n] w fun e w' => e = .returned (.int .i64 (2 ^ n.toNat)) ∧ w = w' := by
  obtain ⟨m, rfl⟩ := Int.eq_ofNat_of_zero_le h.1
  rw [Int.toNat_natCast]
  have hm : m ≤ 62 := by omega
  clear h
  go_enter Try.func107, Try.ntmps107
  go_wp2
  go_loop [3, 4] (fun b i => ∃ (j : Nat) (B : Int), j ≤ m ∧ i = .int .i64 j ∧ b = .int .i64 B ∧ Hid (B = 2 ^ j)) (fun _ i => m - (intOf i).toNat)
  case atStart => exact ⟨0, 1, by omega, rfl, rfl, rfl⟩
  case round =>
    obtain ⟨j, B, hj, rfl, rfl, hB⟩ := hrel
    have hp := pow_62 j (by omega)
    rw [← hB.out] at hp
    by_cases hlt : j < m
    · have hp2 := pow_61 j (by omega)
      rw [← hB.out] at hp2
      have HN : Hid (2 * B = 2 ^ (j + 1)) := by show _ = _; rw [hB.out, Int.pow_succ, Int.mul_comm]
      go_wp2
      go_round
      case rel => exact ⟨j + 1, _, by omega, by go_num, rfl, HN⟩
      case measure => simp [intOf]; omega
    · obtain rfl : j = m := by omega
      go_wp2
      go_ret
      exact ⟨by rw [hB.out]; rfl, rfl⟩

theorem fxr_Round (n f : Int) (w : World) (hn : I64 n) (hf : I64 f) :
    Calls Try.prog 80 #[.int .i64 n, .int .i64 f] w fun e w' => e = .returned (.int .i64 (roundP n f)) ∧ w = w' := by
  obtain ⟨h1, h2⟩ := hf
  have key : ∀ x : Int, 0 ≤ x → x ≤ 62 → x = max 0 (min f 62) → ∀ w : World, Calls Try.prog 107 #[.int .i64 x] w fun e w' => e = .returned (.int .i64 (2 ^ fracP f 62)) ∧ w = w' := fun x h3 h4 h5 w => by
    have := fxr_Power x w ⟨h3, h4⟩
    unfold fracP
    rw [← h5]
    exact this
  have HK := hid key
  have HO := hid fun w => fxr_Over n (2 ^ fracP f 62) w hn (by have := pow_62 (fracP f 62) (by unfold fracP; omega); unfold I64; omega)
  have HR : Hid (overP n (2 ^ fracP f 62) = roundP n f) := rfl
  generalize (2 : Int) ^ fracP f 62 = P at *
  clear hn
  by_cases g1 : f < 0
  · go_enter Try.func80, Try.ntmps80
    go_wp2_with (first
      | (go_at_call 107; refine (HK.out _ (by omega) (by omega) (by omega) _).mono ?_; rintro e w' ⟨rfl, rfl⟩)
      | (go_at_call 68; refine (HO.out _).mono ?_; rintro e w' ⟨rfl, rfl⟩))
    all_goals go_ret
    all_goals exact ⟨by rw [HR.out]; rfl, rfl⟩
  · by_cases g2 : 62 < f
    all_goals
      go_enter Try.func80, Try.ntmps80
      go_wp2_with (first
        | (go_at_call 107; refine (HK.out _ (by omega) (by omega) (by omega) _).mono ?_; rintro e w' ⟨rfl, rfl⟩)
        | (go_at_call 68; refine (HO.out _).mono ?_; rintro e w' ⟨rfl, rfl⟩))
      all_goals go_ret
      all_goals exact ⟨by rw [HR.out]; rfl, rfl⟩
theorem fxr_Clamp (n : Int) (w : World) (h : I64 n) :
    Calls Try.prog 84 #[.int .i64 n] w fun e w' => e = .returned (.tuple #[.int .i32 (clampP n), .bool (clampP n != n)]) ∧ w = w' := by
  obtain ⟨h1, h2⟩ := h
  by_cases g1 : 2147483647 < n
  · have H : Hid (Ending.returned (.tuple #[.int .i32 2147483647, .bool true]) = Ending.returned (.tuple #[.int .i32 (clampP n), .bool (clampP n != n)])) := by
      have e : clampP n = 2147483647 := by unfold clampP; omega
      have e2 : ((2147483647 : Int) != n) = true := by simp; omega
      show _ = _; rw [e, e2]
    go_enter Try.func84, Try.ntmps84
    go_wp2
    go_ret2
    exact ⟨H.out, rfl⟩
  · by_cases g2 : n < -2147483648
    · have H : Hid (Ending.returned (.tuple #[.int .i32 (-2147483648), .bool true]) = Ending.returned (.tuple #[.int .i32 (clampP n), .bool (clampP n != n)])) := by
        have e : clampP n = -2147483648 := by unfold clampP; omega
        have e2 : ((-2147483648 : Int) != n) = true := by simp; omega
        show _ = _; rw [e, e2]
      go_enter Try.func84, Try.ntmps84
      go_wp2
      go_ret2
      exact ⟨H.out, rfl⟩
    · have H : Hid (Ending.returned (.tuple #[.int .i32 n, .bool false]) = Ending.returned (.tuple #[.int .i32 (clampP n), .bool (clampP n != n)])) := by
        have e : clampP n = n := by unfold clampP; omega
        show _ = _; rw [e]; simp
      go_enter Try.func84, Try.ntmps84
      go_wp2
      go_ret2
      exact ⟨H.out, rfl⟩
end Go.Proofs.Ytfogjfmpgfcolaa
