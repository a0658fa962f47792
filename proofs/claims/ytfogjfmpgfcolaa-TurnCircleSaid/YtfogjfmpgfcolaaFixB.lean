/- Chapter 01: what the program's and the reference's functions of whole numbers compute. -/
import Derived.Test.YtfogjfmpgfcolaaFix
import Derived.Deep.RegionWith
namespace Go.Proofs.Ytfogjfmpgfcolaa
open Go.RowKit

def I64 (n : Int) : Prop := -9223372036854775808 ≤ n ∧ n ≤ 9223372036854775807
def I32 (n : Int) : Prop := -2147483648 ≤ n ∧ n ≤ 2147483647

theorem fx_size (n : Int) (w : World) (h : I64 n) :
    Calls Try.prog 113 #[.int .i64 n] w fun e w' => e = .returned (.int .u64 (absP n)) ∧ w = w' := by
  obtain ⟨h0, h1⟩ := h
  by_cases g : n < 0
  · have H : Hid (IntKind.u64.wrap (-IntKind.u64.wrap n) = absP n) := by show _ = _; unfold absP; rw [if_pos g, IntKind.wrap_u64, IntKind.wrap_u64]; omega
    go_enter Try.func113, Try.ntmps113
    go_wp2
    go_ret
    exact ⟨by rw [← H.out]; rfl, rfl⟩
  · have H : Hid (n = absP n) := by show _ = _; unfold absP; rw [if_neg g]
    go_enter Try.func113, Try.ntmps113
    go_wp2
    go_ret
    exact ⟨by rw [← H.out]; rfl, rfl⟩
theorem fx_sign (n : Int) (w : World) :
    Calls Try.prog 114 #[.int .i64 n] w fun e w' => e = .returned (.int .i64 (sgnP n)) ∧ w = w' := by
  by_cases g : n < 0
  · have H : Hid (-1 = sgnP n) := by show _ = _; unfold sgnP; rw [if_pos g]
    go_enter Try.func114, Try.ntmps114
    go_wp2
    go_ret
    exact ⟨by rw [← H.out]; rfl, rfl⟩
  · have H : Hid (1 = sgnP n) := by show _ = _; unfold sgnP; rw [if_neg g]
    go_enter Try.func114, Try.ntmps114
    go_wp2
    go_ret
    exact ⟨by rw [← H.out]; rfl, rfl⟩
theorem sgn_mul (n d : Int) : -1 ≤ sgnP n * sgnP d ∧ sgnP n * sgnP d ≤ 1 := by
  unfold sgnP; split <;> split <;> omega

theorem fx_Over (n d : Int) (w : World) (hn : I64 n) (hd : I64 d) :
    Calls Try.prog 90 #[.int .i64 n, .int .i64 d] w fun e w' => e = .returned (.int .i64 (overP n d)) ∧ Below w.heap.size w w' := by
  by_cases h0 : d = 0
  · have H : Hid (0 = overP n d) := by show _ = _; unfold overP; rw [if_pos h0]
    have g : (d == 0) = true := by simpa using h0
    clear h0
    go_enter Try.func90, Try.ntmps90
    go_wp2
    go_ret
    exact ⟨by rw [← H.out]; rfl, Below.refl _ _⟩
  have g0 : (d == 0) = false := by simpa using h0
  by_cases h1 : d = -1 ∧ n = -9223372036854775808
  · have H : Hid (9223372036854775807 = overP n d) := by
      show _ = _
      unfold overP absP
      rw [if_neg h0, h1.1, h1.2]; decide
    have g1 : (d == -1) = true := by simpa using h1.1
    have g2 : (n == -9223372036854775808) = true := by simpa using h1.2
    clear h0 h1
    go_enter Try.func90, Try.ntmps90
    go_wp2
    go_ret
    exact ⟨by rw [← H.out]; rfl, Below.refl _ _⟩
  have hf := over_facts n d hn hd h0 h1
  have hc : (d == -1) = false ∨ ((d == -1) = true ∧ (n == -9223372036854775808) = false) := by
    by_cases g : d = -1
    · exact .inr ⟨by simpa using g, by simp; exact fun h => h1 ⟨g, h⟩⟩
    · exact .inl (by simpa using g)
  have hbd := absP_bd d hd
  have hs := sgn_mul n d
  obtain ⟨f1, f2, f3, f4, f5, f6, f7⟩ := hf
  have e1 : IntKind.i64.wrap (n.tdiv d) = n.tdiv d := IntWalk.i64_in _ ⟨f1, f2⟩
  generalize hq : n.tdiv d = q at *
  generalize hr : n.tmod d = r at *
  have HR := hid hr
  have hra := absP_bd r (by unfold I64 at *; omega)
  have hr64 : I64 r := ⟨by omega, by omega⟩
  have S1 := fun w => fx_size r w hr64
  have S2 := fun w => fx_size d w hd
  have S3 := fx_sign n
  have S4 := fx_sign d
  generalize ho : overP n d = o at *
  have HO := hid ho
  generalize absP r = ar at *
  generalize absP d = ad at *
  have F6 := hid f6
  have F7 := hid f7
  have HS1 := hid S1
  have HS2 := hid S2
  have HS3 := hid S3
  have HS4 := hid S4
  clear f6 f7 S1 S2 S3 S4 h1 ho
  obtain ⟨hs1, hs2⟩ := hs
  by_cases k1 : ad ≤ 2 * ar
  · by_cases k2 : r = 0
    · have hres := F7.out (fun h => h.2 k2)
      have HRES := hid hres
      have k2' : (r != 0) = false := by simpa using k2
      clear k2 hres
      rcases hc with g1 | ⟨g1, g2⟩
      all_goals
        go_enter Try.func90, Try.ntmps90
        go_wp2_with fail
        go_quiet (fail)
        go_wp2_with (first
          | (go_at_call_of 113 (Value.int IntKind.i64 r); refine (HS1.out _).mono ?_; rintro e w' ⟨rfl, rfl⟩)
          | (go_at_call_of 113 (Value.int IntKind.i64 d); refine (HS2.out _).mono ?_; rintro e w' ⟨rfl, rfl⟩))
        go_ret
        exact ⟨by rw [HRES.out]; rfl, (Below.refl _ _).drewN' _⟩
    · have hres := F6.out ⟨k1, k2⟩
      obtain ⟨hres, hr1, hr2⟩ := hres
      have HRES := hid hres
      have k2' : (r != 0) = true := by simpa using k2
      clear k2 hres
      rcases hc with g1 | ⟨g1, g2⟩
      all_goals
        go_enter Try.func90, Try.ntmps90
        go_wp2_with fail
        go_quiet (fail)
        go_wp2_with (first
          | (go_at_call_of 113 (Value.int IntKind.i64 r); refine (HS1.out _).mono ?_; rintro e w' ⟨rfl, rfl⟩)
          | (go_at_call_of 113 (Value.int IntKind.i64 d); refine (HS2.out _).mono ?_; rintro e w' ⟨rfl, rfl⟩)
          | (go_at_call_of 114 (Value.int IntKind.i64 n); refine (HS3.out _).mono ?_; rintro e w' ⟨rfl, rfl⟩)
          | (go_at_call_of 114 (Value.int IntKind.i64 d); refine (HS4.out _).mono ?_; rintro e w' ⟨rfl, rfl⟩))
        go_ret
        exact ⟨by rw [HRES.out]; rfl, (Below.refl _ _).drewN' _⟩
  · have hres := F7.out (fun h => k1 h.1)
    have HRES := hid hres
    clear hres
    rcases hc with g1 | ⟨g1, g2⟩
    all_goals
      go_enter Try.func90, Try.ntmps90
      go_wp2_with fail
      go_quiet (fail)
      go_wp2_with (first
        | (go_at_call_of 113 (Value.int IntKind.i64 r); refine (HS1.out _).mono ?_; rintro e w' ⟨rfl, rfl⟩)
        | (go_at_call_of 113 (Value.int IntKind.i64 d); refine (HS2.out _).mono ?_; rintro e w' ⟨rfl, rfl⟩))
      go_ret
      exact ⟨by rw [HRES.out]; rfl, (Below.refl _ _).drewN' _⟩

theorem fx_within (n lo hi : Int) (w : World) (h : I64 n) (h1 : I64 lo) (h2 : I64 hi) :
    Calls Try.prog 101 #[.int .i64 n, .int .i64 lo, .int .i64 hi] w fun e w' => e = .returned (.int .i64 (max lo (min n hi))) ∧ w = w' := by
  obtain ⟨h3, h4⟩ := h
  obtain ⟨h5, h6⟩ := h1
  obtain ⟨h7, h8⟩ := h2
  have H : Hid (∀ m, m = max lo (min n hi) → Ending.returned (.int .i64 m) = Ending.returned (.int .i64 (max lo (min n hi)))) := fun m hm => by rw [hm]
  go_enter Try.func101, Try.ntmps101
  go_wp2
  all_goals go_ret
  all_goals exact ⟨H.out _ (by omega), rfl⟩
theorem clampP_bd (n : Int) : I32 (clampP n) := by unfold clampP I32; omega
theorem fx_Clamp (n : Int) (w : World) (h : I64 n) :
    Calls Try.prog 56 #[.int .i64 n] w fun e w' => e = .returned (.tuple #[.int .i32 (clampP n), .bool (clampP n != n)]) ∧ w = w' := by
  obtain ⟨h3, h4⟩ := h
  have H : Hid (∀ m, m = clampP n → Ending.returned (.tuple #[.int .i32 m, .bool (m != n)]) = Ending.returned (.tuple #[.int .i32 (clampP n), .bool (clampP n != n)])) := fun m hm => by rw [hm]
  by_cases g1 : n < -2147483648
  · have e : -2147483648 = clampP n := by unfold clampP; omega
    have H2 := hid e
    clear e
    go_enter Try.func56, Try.ntmps56
    go_wp2
    all_goals go_ret2
    all_goals exact ⟨H.out _ H2.out, rfl⟩
  · by_cases g2 : 2147483647 < n
    · have e : 2147483647 = clampP n := by unfold clampP; omega
      have H2 := hid e
      clear e
      go_enter Try.func56, Try.ntmps56
      go_wp2
      all_goals go_ret2
      all_goals exact ⟨H.out _ H2.out, rfl⟩
    · have e : n = clampP n := by unfold clampP; omega
      have H2 := hid e
      have H3 : Hid (Ending.returned (.tuple #[.int .i32 n, .bool false]) = Ending.returned (.tuple #[.int .i32 (clampP n), .bool (clampP n != n)])) := by
        show _ = _; rw [← e]; simp
      clear e
      go_enter Try.func56, Try.ntmps56
      go_wp2
      all_goals go_ret2
      all_goals first | exact ⟨H3.out, rfl⟩ | exact ⟨H.out _ (by have := H2.out; omega), rfl⟩

/-- By which power of two. -/
def fracP (f hi : Int) : Nat := (max 0 (min f hi)).toNat
def roundP (n f : Int) : Int := overP n (2 ^ fracP f 62)
theorem pow_62 (j : Nat) (h : j ≤ 62) : 1 ≤ (2 : Int) ^ j ∧ (2 : Int) ^ j ≤ 4611686018427387904 := by
  have h1 : (1 : Nat) ≤ 2 ^ j := Nat.one_le_two_pow
  have h2 : 2 ^ j ≤ 2 ^ 62 := Nat.pow_le_pow_right (by omega) h
  have e : (2 : Int) ^ j = ((2 ^ j : Nat) : Int) := by rw [Int.natCast_pow]; rfl
  rw [e]; omega
theorem pow_61 (j : Nat) (h : j < 62) : (2 : Int) ^ j ≤ 2305843009213693952 := by
  have h2 : 2 ^ j ≤ 2 ^ 61 := Nat.pow_le_pow_right (by omega) (by omega)
  have e : (2 : Int) ^ j = ((2 ^ j : Nat) : Int) := by rw [Int.natCast_pow]; rfl
  rw [e]; omega
theorem over_bd (n d : Int) (hn : I64 n) (hd : I64 d) : I64 (overP n d) := by
  by_cases h0 : d = 0
  · unfold overP I64; rw [if_pos h0]; omega
  · by_cases h1 : d = -1 ∧ n = -9223372036854775808
    · unfold overP absP I64; rw [if_neg h0, h1.1, h1.2]; decide
    · obtain ⟨f1, f2, _, _, _, f6, f7⟩ := over_facts n d hn hd h0 h1
      by_cases g : absP d ≤ 2 * absP (n.tmod d) ∧ n.tmod d ≠ 0
      · have := f6 g; unfold I64; omega
      · have := f7 g; unfold I64; omega

theorem fx_Round (n f : Int) (w : World) (hn : I64 n) (hf : I64 f) :
    Calls Try.prog 76 #[.int .i64 n, .int .i64 f] w fun e w' => e = .returned (.int .i64 (roundP n f)) ∧ Below w.heap.size w w' := by
  have H : Hid (overP n (2 ^ fracP f 62) = roundP n f) := rfl
  have HW := hid fun w => fx_within f 0 62 w hf ⟨by omega, by omega⟩ ⟨by omega, by omega⟩
  have HM : Hid (max 0 (min f 62) = ((fracP f 62 : Nat) : Int)) := by show _ = _; unfold fracP; omega
  have hm : fracP f 62 ≤ 62 := by unfold fracP; omega
  generalize fracP f 62 = m at *
  have HO := hid fun w => fx_Over n (2 ^ m) w hn (by have := pow_62 m hm; unfold I64; omega)
  clear hf hn
  go_enter Try.func76, Try.ntmps76
  go_wp2_with fail
  refine (HW.out _).mono ?_
  rintro e w' ⟨rfl, rfl⟩
  rw [HM.out]
  go_wp2_with fail
  go_loop [5, 8] (fun b i => ∃ (j : Nat) (B : Int), j ≤ m ∧ i = .int .i64 j ∧ b = .int .i64 B ∧ Hid (B = 2 ^ j)) (fun _ i => m - (intOf i).toNat)
  case atStart => exact ⟨0, 1, by omega, rfl, rfl, rfl⟩
  case round =>
    obtain ⟨j, B, hj, rfl, rfl, hB⟩ := hrel
    have hp := pow_62 j (by omega)
    rw [← hB.out] at hp
    by_cases hlt : j < m
    · have hp2 := pow_61 j (by omega)
      rw [← hB.out] at hp2
      have HN : Hid (B * 2 = 2 ^ (j + 1)) := by show _ = _; rw [hB.out, Int.pow_succ]
      go_wp2
      go_round
      case rel => exact ⟨j + 1, _, by omega, by go_num, rfl, HN⟩
      case measure => simp [intOf]; omega
    · obtain rfl : j = m := by omega
      go_wp2_with fail
      rw [hB.out]
      refine (HO.out _).mono ?_
      rintro e w' ⟨rfl, hb⟩
      rw [H.out]
      go_wp2
      go_ret
      exact ⟨rfl, hb⟩
end Go.Proofs.Ytfogjfmpgfcolaa
