/- Chapter 01: numbers with a point that stands still: the leaves. -/
import Derived.Test.YtgmepohfkpncmaaAid
import Derived.BigQuiet
import Derived.Deep.QuietTactic
import Derived.Outline
import Derived.Handy
import Derived.WalkLawsBesides
import Derived.Deep.RegionWith
namespace Go.Proofs.Ytgmepohfkpncmaa
open Go.RowKit

/-! ### The plain words -/
def absP (n : Int) : Int := if n < 0 then -n else n
theorem absP_bd (n : Int) (h : -9223372036854775808 ≤ n ∧ n ≤ 9223372036854775807) : 0 ≤ absP n ∧ absP n ≤ 9223372036854775808 := by unfold absP; split <;> omega
/-- A number by another one: the nearest whole number, away from 0 where two are as near, cut. -/
def overP (n d : Int) : Int :=
  if d = 0 then 0 else
    if n < 0 then (if d < 0 then min ((2 * absP n + absP d) / (2 * absP d)) 9223372036854775807 else -((2 * absP n + absP d) / (2 * absP d)))
    else (if d < 0 then -((2 * absP n + absP d) / (2 * absP d)) else min ((2 * absP n + absP d) / (2 * absP d)) 9223372036854775807)
def clampP (n : Int) : Int := max (-2147483648) (min n 2147483647)
theorem half_up (a b : Nat) (hb : 0 < b) : (2 * a + b) / (2 * b) = a / b + if b ≤ 2 * (a % b) then 1 else 0 := by
  have h1 := Nat.div_add_mod a b
  have h2 := Nat.mod_lt a hb
  generalize a / b = q at *
  generalize a % b = r at *
  subst h1
  have e : 2 * (b * q + r) + b = (2 * r + b) + 2 * b * q := by rw [Nat.mul_add, Nat.mul_assoc]; omega
  rw [e, Nat.add_mul_div_left _ _ (by omega)]
  split
  · have : (2 * r + b) / (2 * b) = 1 := by
      rw [Nat.div_eq_iff (by omega)]; omega
    omega
  · have : (2 * r + b) / (2 * b) = 0 := Nat.div_eq_of_lt (by omega)
    omega
theorem half_upZ (a b : Nat) (hb : 0 < b) : (2 * (a : Int) + b) / (2 * b) = ((a / b : Nat) : Int) + if (b : Int) ≤ 2 * ((a % b : Nat) : Int) then 1 else 0 := by
  have h := half_up a b hb
  have e : (2 * (a : Int) + b) / (2 * b) = (((2 * a + b) / (2 * b) : Nat) : Int) := by simp
  rw [e, h]
  split <;> split <;> omega

/-- The sign of a number: 1, or -1. -/
def sgnP (n : Int) : Int := if n < 0 then -1 else 1
theorem over_facts (n d : Int) (hn : -9223372036854775808 ≤ n ∧ n ≤ 9223372036854775807) (hd : -9223372036854775808 ≤ d ∧ d ≤ 9223372036854775807) (h0 : d ≠ 0) (h1 : ¬ (d = -1 ∧ n = -9223372036854775808)) :
    -9223372036854775808 ≤ n.tdiv d ∧ n.tdiv d ≤ 9223372036854775807 ∧ 2 * absP (n.tmod d) ≤ 18446744073709551615 ∧ -9223372036854775807 ≤ n.tmod d ∧ n.tmod d ≤ 9223372036854775807 ∧
      ((absP d ≤ 2 * absP (n.tmod d) ∧ n.tmod d ≠ 0) → overP n d = n.tdiv d + sgnP n * sgnP d ∧ -9223372036854775808 ≤ n.tdiv d + sgnP n * sgnP d ∧ n.tdiv d + sgnP n * sgnP d ≤ 9223372036854775807) ∧
      (¬ (absP d ≤ 2 * absP (n.tmod d) ∧ n.tmod d ≠ 0) → overP n d = n.tdiv d) := by
  obtain ⟨a, ha⟩ : ∃ a : Nat, n = a ∨ (n = -(a : Int) ∧ 0 < a) := by
    rcases Int.lt_or_le n 0 with h | h
    · exact ⟨n.natAbs, .inr ⟨by omega, by omega⟩⟩
    · exact ⟨n.natAbs, .inl (by omega)⟩
  obtain ⟨b, hb⟩ : ∃ b : Nat, (d = b ∨ d = -(b : Int)) ∧ 0 < b := by
    rcases Int.lt_or_le d 0 with h | h
    · exact ⟨d.natAbs, .inr (by omega), by omega⟩
    · exact ⟨d.natAbs, .inl (by omega), by omega⟩
  obtain ⟨hb, hb0⟩ := hb
  have hu := half_upZ a b hb0
  have ea : absP n = a := by unfold absP; rcases ha with h | ⟨h, _⟩ <;> split <;> omega
  have eb : absP d = b := by unfold absP; rcases hb with h | h <;> split <;> omega
  have hq1 : ((a / b : Nat) : Int) ≤ a := by exact_mod_cast Nat.div_le_self a b
  have hm := Nat.mod_lt a hb0
  have hdm : (b : Int) * ((a / b : Nat) : Int) + ((a % b : Nat) : Int) = a := by rw [← Int.natCast_mul, ← Int.natCast_add, Nat.div_add_mod]
  have hq2 : 2 ≤ b → 2 * ((a / b : Nat) : Int) ≤ a := by
    intro h2
    have hr0 : 0 ≤ ((a % b : Nat) : Int) := Int.natCast_nonneg _
    have h3 : 2 * ((a / b : Nat) : Int) ≤ (b : Int) * ((a / b : Nat) : Int) := Int.mul_le_mul_of_nonneg_right (by omega) (Int.natCast_nonneg _)
    omega
  have hz : ((a / b : Nat) : Int) = 0 → a < b := by
    intro h
    rw [h] at hdm
    have : ((a % b : Nat) : Int) = a := by omega
    omega
  have tq : n.tdiv d = if n < 0 then (if d < 0 then ((a / b : Nat) : Int) else -((a / b : Nat) : Int)) else (if d < 0 then -((a / b : Nat) : Int) else ((a / b : Nat) : Int)) := by
    rcases ha with rfl | ⟨rfl, ha0⟩ <;> rcases hb with rfl | rfl
    · rw [if_neg (by omega), if_neg (by omega)]; rfl
    · rw [if_neg (by omega), if_pos (by omega), Int.tdiv_neg]; rfl
    · rw [if_pos (by omega), if_neg (by omega), Int.neg_tdiv]; rfl
    · rw [if_pos (by omega), if_pos (by omega), Int.tdiv_neg, Int.neg_tdiv, Int.neg_neg]; rfl
  have tr : n.tmod d = if n < 0 then -((a % b : Nat) : Int) else ((a % b : Nat) : Int) := by
    rcases ha with rfl | ⟨rfl, ha0⟩ <;> rcases hb with rfl | rfl
    · rw [if_neg (by omega)]; rfl
    · rw [if_neg (by omega), Int.tmod_neg]; rfl
    · rw [if_pos (by omega), Int.neg_tmod]; rfl
    · rw [if_pos (by omega), Int.tmod_neg, Int.neg_tmod]; rfl
  have er : absP (n.tmod d) = ((a % b : Nat) : Int) := by rw [tr]; unfold absP; split <;> split <;> omega
  rw [er, tq, tr, eb]
  unfold overP sgnP
  rw [if_neg h0, ea, eb, hu]
  generalize hQ : ((a / b : Nat) : Int) = q at *
  generalize hR : ((a % b : Nat) : Int) = r at *
  have hr0 : 0 ≤ r := by omega
  have hrb : r < b := by omega
  have hq0 : 0 ≤ q := by
    rcases Int.lt_or_le q 0 with h | h
    · have : (b : Int) * q ≤ (b : Int) * (-1) := Int.mul_le_mul_of_nonneg_left (by omega) (by omega)
      omega
    · exact h
  have hb1 : b = 1 → r = 0 := by omega
  have hbig : q ≤ 9223372036854775807 ∨ (a = 9223372036854775808 ∧ b = 1) := by
    rcases Nat.lt_or_ge b 2 with h | h
    · have : b = 1 := by omega
      subst this
      omega
    · have := hq2 h; omega
  clear hdm hz hR hQ hm tq tr er hu ea eb
  rcases ha with rfl | ⟨rfl, ha0⟩
  · have hN : ¬ (a : Int) < 0 := by omega
    rcases hb with rfl | rfl
    · have hD : ¬ (b : Int) < 0 := by omega
      by_cases hg : (b : Int) ≤ 2 * r ∧ r ≠ 0
      · have hbr := hg.1
        simp only [if_neg hN, if_neg hD, if_pos hbr]
        exact ⟨by omega, by omega, by omega, by omega, by omega, fun _ => ⟨by omega, by omega, by omega⟩, fun h => absurd ⟨hg.1, by omega⟩ h⟩
      · have hbr : ¬ (b : Int) ≤ 2 * r := fun h => hg ⟨h, by omega⟩
        simp only [if_neg hN, if_neg hD, if_neg hbr]
        exact ⟨by omega, by omega, by omega, by omega, by omega, fun h => absurd h.1 hbr, fun _ => by omega⟩
    · have hD : -(b : Int) < 0 := by omega
      by_cases hg : (b : Int) ≤ 2 * r ∧ r ≠ 0
      · have hbr := hg.1
        simp only [if_neg hN, if_pos hD, if_pos hbr]
        exact ⟨by omega, by omega, by omega, by omega, by omega, fun _ => ⟨by omega, by omega, by omega⟩, fun h => absurd ⟨hg.1, by omega⟩ h⟩
      · have hbr : ¬ (b : Int) ≤ 2 * r := fun h => hg ⟨h, by omega⟩
        simp only [if_neg hN, if_pos hD, if_neg hbr]
        exact ⟨by omega, by omega, by omega, by omega, by omega, fun h => absurd h.1 hbr, fun _ => by omega⟩
  · have hN : -(a : Int) < 0 := by omega
    rcases hb with rfl | rfl
    · have hD : ¬ (b : Int) < 0 := by omega
      by_cases hg : (b : Int) ≤ 2 * r ∧ r ≠ 0
      · have hbr := hg.1
        simp only [if_pos hN, if_neg hD, if_pos hbr]
        exact ⟨by omega, by omega, by omega, by omega, by omega, fun _ => ⟨by omega, by omega, by omega⟩, fun h => absurd ⟨hg.1, by omega⟩ h⟩
      · have hbr : ¬ (b : Int) ≤ 2 * r := fun h => hg ⟨h, by omega⟩
        simp only [if_pos hN, if_neg hD, if_neg hbr]
        exact ⟨by omega, by omega, by omega, by omega, by omega, fun h => absurd h.1 hbr, fun _ => by omega⟩
    · have hD : -(b : Int) < 0 := by omega
      by_cases hg : (b : Int) ≤ 2 * r ∧ r ≠ 0
      · have hbr := hg.1
        simp only [if_pos hN, if_pos hD, if_pos hbr]
        exact ⟨by omega, by omega, by omega, by omega, by omega, fun _ => ⟨by omega, by omega, by omega⟩, fun h => absurd ⟨hg.1, by omega⟩ h⟩
      · have hbr : ¬ (b : Int) ≤ 2 * r := fun h => hg ⟨h, by omega⟩
        simp only [if_pos hN, if_pos hD, if_neg hbr]
        exact ⟨by omega, by omega, by omega, by omega, by omega, fun h => absurd h.1 hbr, fun _ => by omega⟩
end Go.Proofs.Ytgmepohfkpncmaa
namespace Go.Proofs.Ytgmepohfkpncmaa
open Go.RowKit

def I64 (n : Int) : Prop := -9223372036854775808 ≤ n ∧ n ≤ 9223372036854775807
def I32 (n : Int) : Prop := -2147483648 ≤ n ∧ n ≤ 2147483647

theorem fx_size (n : Int) (w : World) (h : I64 n) :
    Calls Try.prog 73 #[.int .i64 n] w fun e w' => e = .returned (.int .u64 (absP n)) ∧ w = w' := by
  obtain ⟨h0, h1⟩ := h
  by_cases g : n < 0
  · have H : Hid (IntKind.u64.wrap (-IntKind.u64.wrap n) = absP n) := by show _ = _; unfold absP; rw [if_pos g, IntKind.wrap_u64, IntKind.wrap_u64]; omega
    go_enter Try.func73, Try.ntmps73
    go_wp2
    go_ret
    exact ⟨by rw [← H.out]; rfl, rfl⟩
  · have H : Hid (n = absP n) := by show _ = _; unfold absP; rw [if_neg g]
    go_enter Try.func73, Try.ntmps73
    go_wp2
    go_ret
    exact ⟨by rw [← H.out]; rfl, rfl⟩
theorem fx_sign (n : Int) (w : World) :
    Calls Try.prog 74 #[.int .i64 n] w fun e w' => e = .returned (.int .i64 (sgnP n)) ∧ w = w' := by
  by_cases g : n < 0
  · have H : Hid (-1 = sgnP n) := by show _ = _; unfold sgnP; rw [if_pos g]
    go_enter Try.func74, Try.ntmps74
    go_wp2
    go_ret
    exact ⟨by rw [← H.out]; rfl, rfl⟩
  · have H : Hid (1 = sgnP n) := by show _ = _; unfold sgnP; rw [if_neg g]
    go_enter Try.func74, Try.ntmps74
    go_wp2
    go_ret
    exact ⟨by rw [← H.out]; rfl, rfl⟩
theorem sgn_mul (n d : Int) : -1 ≤ sgnP n * sgnP d ∧ sgnP n * sgnP d ≤ 1 := by
  unfold sgnP; split <;> split <;> omega

theorem fx_Over (n d : Int) (w : World) (hn : I64 n) (hd : I64 d) :
    Calls Try.prog 54 #[.int .i64 n, .int .i64 d] w fun e w' => e = .returned (.int .i64 (overP n d)) ∧ Below w.heap.size w w' := by
  by_cases h0 : d = 0
  · have H : Hid (0 = overP n d) := by show _ = _; unfold overP; rw [if_pos h0]
    have g : (d == 0) = true := by simpa using h0
    clear h0
    go_enter Try.func54, Try.ntmps54
    go_wp2
    go_ret
    exact ⟨by rw [← H.out]; rfl, Below.refl _ _⟩
  have g0 : (d == 0) = false := by simpa using h0
  by_cases h1 : d = -1 ∧ n = -9223372036854775808
  · have H : Hid (9223372036854775807 = overP n d) := by
      show _ = _
      unfold overP absP
      rw [if_neg h0, h1.1, h1.2]; decide
    have g1 : (d == -1) = true := by simpa using h1.1
    have g2 : (n == -9223372036854775808) = true := by simpa using h1.2
    clear h0 h1
    go_enter Try.func54, Try.ntmps54
    go_wp2
    go_ret
    exact ⟨by rw [← H.out]; rfl, Below.refl _ _⟩
  have hf := over_facts n d hn hd h0 h1
  have hc : (d == -1) = false ∨ ((d == -1) = true ∧ (n == -9223372036854775808) = false) := by
    by_cases g : d = -1
    · exact .inr ⟨by simpa using g, by simp; exact fun h => h1 ⟨g, h⟩⟩
    · exact .inl (by simpa using g)
  have hbd := absP_bd d hd
  have hs := sgn_mul n d
  obtain ⟨f1, f2, f3, f4, f5, f6, f7⟩ := hf
  have e1 : IntKind.i64.wrap (n.tdiv d) = n.tdiv d := IntWalk.i64_in _ ⟨f1, f2⟩
  generalize hq : n.tdiv d = q at *
  generalize hr : n.tmod d = r at *
  have HR := hid hr
  have hra := absP_bd r (by unfold I64 at *; omega)
  have hr64 : I64 r := ⟨by omega, by omega⟩
  have S1 := fun w => fx_size r w hr64
  have S2 := fun w => fx_size d w hd
  have S3 := fx_sign n
  have S4 := fx_sign d
  generalize ho : overP n d = o at *
  have HO := hid ho
  generalize absP r = ar at *
  generalize absP d = ad at *
  have F6 := hid f6
  have F7 := hid f7
  have HS1 := hid S1
  have HS2 := hid S2
  have HS3 := hid S3
  have HS4 := hid S4
  clear f6 f7 S1 S2 S3 S4 h1 ho
  obtain ⟨hs1, hs2⟩ := hs
  by_cases k1 : ad ≤ 2 * ar
  · by_cases k2 : r = 0
    · have hres := F7.out (fun h => h.2 k2)
      have HRES := hid hres
      have k2' : (r != 0) = false := by simpa using k2
      clear k2 hres
      rcases hc with g1 | ⟨g1, g2⟩
      all_goals
        go_enter Try.func54, Try.ntmps54
        go_wp2_with fail
        go_quiet (fail)
        go_wp2_with (first
          | (go_at_call_of 73 (Value.int IntKind.i64 r); refine (HS1.out _).mono ?_; rintro e w' ⟨rfl, rfl⟩)
          | (go_at_call_of 73 (Value.int IntKind.i64 d); refine (HS2.out _).mono ?_; rintro e w' ⟨rfl, rfl⟩))
        go_ret
        exact ⟨by rw [HRES.out]; rfl, (Below.refl _ _).drewN' _⟩
    · have hres := F6.out ⟨k1, k2⟩
      obtain ⟨hres, hr1, hr2⟩ := hres
      have HRES := hid hres
      have k2' : (r != 0) = true := by simpa using k2
      clear k2 hres
      rcases hc with g1 | ⟨g1, g2⟩
      all_goals
        go_enter Try.func54, Try.ntmps54
        go_wp2_with fail
        go_quiet (fail)
        go_wp2_with (first
          | (go_at_call_of 73 (Value.int IntKind.i64 r); refine (HS1.out _).mono ?_; rintro e w' ⟨rfl, rfl⟩)
          | (go_at_call_of 73 (Value.int IntKind.i64 d); refine (HS2.out _).mono ?_; rintro e w' ⟨rfl, rfl⟩)
          | (go_at_call_of 74 (Value.int IntKind.i64 n); refine (HS3.out _).mono ?_; rintro e w' ⟨rfl, rfl⟩)
          | (go_at_call_of 74 (Value.int IntKind.i64 d); refine (HS4.out _).mono ?_; rintro e w' ⟨rfl, rfl⟩))
        go_ret
        exact ⟨by rw [HRES.out]; rfl, (Below.refl _ _).drewN' _⟩
  · have hres := F7.out (fun h => k1 h.1)
    have HRES := hid hres
    clear hres
    rcases hc with g1 | ⟨g1, g2⟩
    all_goals
      go_enter Try.func54, Try.ntmps54
      go_wp2_with fail
      go_quiet (fail)
      go_wp2_with (first
        | (go_at_call_of 73 (Value.int IntKind.i64 r); refine (HS1.out _).mono ?_; rintro e w' ⟨rfl, rfl⟩)
        | (go_at_call_of 73 (Value.int IntKind.i64 d); refine (HS2.out _).mono ?_; rintro e w' ⟨rfl, rfl⟩))
      go_ret
      exact ⟨by rw [HRES.out]; rfl, (Below.refl _ _).drewN' _⟩

theorem fx_within (n lo hi : Int) (w : World) (h : I64 n) (h1 : I64 lo) (h2 : I64 hi) :
    Calls Try.prog 66 #[.int .i64 n, .int .i64 lo, .int .i64 hi] w fun e w' => e = .returned (.int .i64 (max lo (min n hi))) ∧ w = w' := by
  obtain ⟨h3, h4⟩ := h
  obtain ⟨h5, h6⟩ := h1
  obtain ⟨h7, h8⟩ := h2
  have H : Hid (∀ m, m = max lo (min n hi) → Ending.returned (.int .i64 m) = Ending.returned (.int .i64 (max lo (min n hi)))) := fun m hm => by rw [hm]
  go_enter Try.func66, Try.ntmps66
  go_wp2
  all_goals go_ret
  all_goals exact ⟨H.out _ (by omega), rfl⟩
theorem clampP_bd (n : Int) : I32 (clampP n) := by unfold clampP I32; omega
theorem fx_Clamp (n : Int) (w : World) (h : I64 n) :
    Calls Try.prog 58 #[.int .i64 n] w fun e w' => e = .returned (.tuple #[.int .i32 (clampP n), .bool (clampP n != n)]) ∧ w = w' := by
  obtain ⟨h3, h4⟩ := h
  have H : Hid (∀ m, m = clampP n → Ending.returned (.tuple #[.int .i32 m, .bool (m != n)]) = Ending.returned (.tuple #[.int .i32 (clampP n), .bool (clampP n != n)])) := fun m hm => by rw [hm]
  by_cases g1 : n < -2147483648
  · have e : -2147483648 = clampP n := by unfold clampP; omega
    have H2 := hid e
    clear e
    go_enter Try.func58, Try.ntmps58
    go_wp2
    all_goals go_ret2
    all_goals exact ⟨H.out _ H2.out, rfl⟩
  · by_cases g2 : 2147483647 < n
    · have e : 2147483647 = clampP n := by unfold clampP; omega
      have H2 := hid e
      clear e
      go_enter Try.func58, Try.ntmps58
      go_wp2
      all_goals go_ret2
      all_goals exact ⟨H.out _ H2.out, rfl⟩
    · have e : n = clampP n := by unfold clampP; omega
      have H2 := hid e
      have H3 : Hid (Ending.returned (.tuple #[.int .i32 n, .bool false]) = Ending.returned (.tuple #[.int .i32 (clampP n), .bool (clampP n != n)])) := by
        show _ = _; rw [← e]; simp
      clear e
      go_enter Try.func58, Try.ntmps58
      go_wp2
      all_goals go_ret2
      all_goals first | exact ⟨H3.out, rfl⟩ | exact ⟨H.out _ (by have := H2.out; omega), rfl⟩

/-- By which power of two. -/
def fracP (f hi : Int) : Nat := (max 0 (min f hi)).toNat
def roundP (n f : Int) : Int := overP n (2 ^ fracP f 62)
theorem pow_62 (j : Nat) (h : j ≤ 62) : 1 ≤ (2 : Int) ^ j ∧ (2 : Int) ^ j ≤ 4611686018427387904 := by
  have h1 : (1 : Nat) ≤ 2 ^ j := Nat.one_le_two_pow
  have h2 : 2 ^ j ≤ 2 ^ 62 := Nat.pow_le_pow_right (by omega) h
  have e : (2 : Int) ^ j = ((2 ^ j : Nat) : Int) := by rw [Int.natCast_pow]; rfl
  rw [e]; omega
theorem pow_61 (j : Nat) (h : j < 62) : (2 : Int) ^ j ≤ 2305843009213693952 := by
  have h2 : 2 ^ j ≤ 2 ^ 61 := Nat.pow_le_pow_right (by omega) (by omega)
  have e : (2 : Int) ^ j = ((2 ^ j : Nat) : Int) := by rw [Int.natCast_pow]; rfl
  rw [e]; omega
theorem over_bd (n d : Int) (hn : I64 n) (hd : I64 d) : I64 (overP n d) := by
  by_cases h0 : d = 0
  · unfold overP I64; rw [if_pos h0]; omega
  · by_cases h1 : d = -1 ∧ n = -9223372036854775808
    · unfold overP absP I64; rw [if_neg h0, h1.1, h1.2]; decide
    · obtain ⟨f1, f2, _, _, _, f6, f7⟩ := over_facts n d hn hd h0 h1
      by_cases g : absP d ≤ 2 * absP (n.tmod d) ∧ n.tmod d ≠ 0
      · have := f6 g; unfold I64; omega
      · have := f7 g; unfold I64; omega

theorem fx_Round (n f : Int) (w : World) (hn : I64 n) (hf : I64 f) :
    Calls Try.prog 49 #[.int .i64 n, .int .i64 f] w fun e w' => e = .returned (.int .i64 (roundP n f)) ∧ Below w.heap.size w w' := by
  have H : Hid (overP n (2 ^ fracP f 62) = roundP n f) := rfl
  have HW := hid fun w => fx_within f 0 62 w hf ⟨by omega, by omega⟩ ⟨by omega, by omega⟩
  have HM : Hid (max 0 (min f 62) = ((fracP f 62 : Nat) : Int)) := by show _ = _; unfold fracP; omega
  have hm : fracP f 62 ≤ 62 := by unfold fracP; omega
  generalize fracP f 62 = m at *
  have HO := hid fun w => fx_Over n (2 ^ m) w hn (by have := pow_62 m hm; unfold I64; omega)
  clear hf hn
  go_enter Try.func49, Try.ntmps49
  go_wp2_with fail
  refine (HW.out _).mono ?_
  rintro e w' ⟨rfl, rfl⟩
  rw [HM.out]
  go_wp2_with fail
  go_loop [5, 8] (fun b i => ∃ (j : Nat) (B : Int), j ≤ m ∧ i = .int .i64 j ∧ b = .int .i64 B ∧ Hid (B = 2 ^ j)) (fun _ i => m - (intOf i).toNat)
  case atStart => exact ⟨0, 1, by omega, rfl, rfl, rfl⟩
  case round =>
    obtain ⟨j, B, hj, rfl, rfl, hB⟩ := hrel
    have hp := pow_62 j (by omega)
    rw [← hB.out] at hp
    by_cases hlt : j < m
    · have hp2 := pow_61 j (by omega)
      rw [← hB.out] at hp2
      have HN : Hid (B * 2 = 2 ^ (j + 1)) := by show _ = _; rw [hB.out, Int.pow_succ]
      go_wp2
      go_round
      case rel => exact ⟨j + 1, _, by omega, by go_num, rfl, HN⟩
      case measure => simp [intOf]; omega
    · obtain rfl : j = m := by omega
      go_wp2_with fail
      rw [hB.out]
      refine (HO.out _).mono ?_
      rintro e w' ⟨rfl, hb⟩
      rw [H.out]
      go_wp2
      go_ret
      exact ⟨rfl, hb⟩
end Go.Proofs.Ytgmepohfkpncmaa
namespace Go.Proofs.Ytgmepohfkpncmaa
open Go.RowKit

theorem over_ref (n d : Int) (hn : I64 n) (hd : I64 d) (h0 : d ≠ 0) :
    0 ≤ absP n / absP d ∧ absP n / absP d ≤ 9223372036854775808 ∧ 0 ≤ absP n % absP d ∧ absP n % absP d < absP d ∧ 1 ≤ absP d ∧
      (2 * absP n + absP d) / (2 * absP d) = absP n / absP d + (if absP d - absP n % absP d ≤ absP n % absP d then 1 else 0) ∧ (2 * absP n + absP d) / (2 * absP d) ≤ 9223372036854775808 := by
  have ha := absP_bd n hn
  have hb := absP_bd d hd
  have hb1 : 1 ≤ absP d := by unfold absP; split <;> omega
  generalize absP n = a at *
  generalize absP d = b at *
  obtain ⟨a, rfl⟩ := Int.eq_ofNat_of_zero_le ha.1
  obtain ⟨b, rfl⟩ := Int.eq_ofNat_of_zero_le hb.1
  have hb0 : 0 < b := by omega
  have hu := half_upZ a b hb0
  have e1 : (a : Int) / (b : Int) = ((a / b : Nat) : Int) := rfl
  have e2 : (a : Int) % (b : Int) = ((a % b : Nat) : Int) := rfl
  have hm := Nat.mod_lt a hb0
  have hq1 : ((a / b : Nat) : Int) ≤ a := by exact_mod_cast Nat.div_le_self a b
  have hq0 : 0 ≤ ((a / b : Nat) : Int) := Int.natCast_nonneg _
  have hr0 : 0 ≤ ((a % b : Nat) : Int) := Int.natCast_nonneg _
  have hmZ : ((a % b : Nat) : Int) < b := by exact_mod_cast hm
  have hdm : (b : Int) * ((a / b : Nat) : Int) + ((a % b : Nat) : Int) = a := by rw [← Int.natCast_mul, ← Int.natCast_add, Nat.div_add_mod]
  have hq2 : 2 ≤ b → 2 * ((a / b : Nat) : Int) ≤ a := by
    intro h2
    have h3 : 2 * ((a / b : Nat) : Int) ≤ (b : Int) * ((a / b : Nat) : Int) := Int.mul_le_mul_of_nonneg_right (by omega) hq0
    omega
  rw [hu, e1, e2]
  clear e1 e2 hu
  generalize ((a / b : Nat) : Int) = q at *
  generalize ((a % b : Nat) : Int) = r at *
  clear hdm hm
  refine ⟨hq0, by omega, hr0, hmZ, hb1, ?_, ?_⟩
  · congr 1
    by_cases g : (b : Int) ≤ 2 * r
    · rw [if_pos g, if_pos (by omega)]
    · rw [if_neg g, if_neg (by omega)]
  · rcases Nat.lt_or_ge b 2 with h | h
    · have : ¬ (b : Int) ≤ 2 * r := by omega
      rw [if_neg this]; omega
    · have := hq2 h
      split <;> omega

end Go.Proofs.Ytgmepohfkpncmaa
namespace Go.Proofs.Ytgmepohfkpncmaa
open Go.RowKit

/-- A number, cut, and whether it was. -/
def Cuts (w : World) (v : Int) (e : Ending) (w' : World) : Prop := e = .returned (.tuple #[.int .i32 (clampP v), .bool (clampP v != v)]) ∧ Below w.heap.size w w'

def sumL : List Int → Int
  | [] => 0
  | c :: r => c + sumL r
theorem sumL_snoc (xs : List Int) (c : Int) : sumL (xs ++ [c]) = sumL xs + c := by
  induction xs with
  | nil => simp [sumL]
  | cons x r ih => simp only [List.cons_append, sumL, ih]; omega
theorem sumL_bd (xs : List Int) (h : ∀ x ∈ xs, -8589934592 ≤ x ∧ x ≤ 8589934592) : -8589934592 * xs.length ≤ sumL xs ∧ sumL xs ≤ 8589934592 * xs.length := by
  induction xs with
  | nil => simp [sumL]
  | cons c r ih =>
    have h1 := h c (by simp)
    have h2 := ih (fun x hx => h x (by simp [hx]))
    simp only [sumL, List.length_cons]
    omega
theorem take_snoc (xs : List Int) (j : Nat) (h : j < xs.length) : xs.take (j + 1) = xs.take j ++ [xs[j]?.getD 0] := by
  rw [List.take_succ_eq_append_getElem h]; simp [h]

theorem mul_bd (a b : Int) (ha : I32 a) (hb : I32 b) : -4611686018427387904 ≤ a * b ∧ a * b ≤ 4611686018427387904 := by
  unfold I32 at *
  have h1 : absP a ≤ 2147483648 := by unfold absP; split <;> omega
  have h2 : absP b ≤ 2147483648 := by unfold absP; split <;> omega
  have h3 : 0 ≤ absP a := by unfold absP; split <;> omega
  have h4 : 0 ≤ absP b := by unfold absP; split <;> omega
  have h5 : absP a * absP b ≤ 2147483648 * 2147483648 := Int.mul_le_mul h1 h2 h4 (by omega)
  have h6 : 0 ≤ absP a * absP b := Int.mul_nonneg h3 h4
  have h7 : a * b = absP a * absP b ∨ a * b = -(absP a * absP b) := by
    unfold absP
    split <;> split
    · left; rw [Int.neg_mul_neg]
    · right; rw [Int.neg_mul, Int.neg_neg]
    · right; rw [Int.mul_neg, Int.neg_neg]
    · left; rfl
  omega
/-- A quotient: cut, or, by 0, the greatest, the least, or 0. -/
def divV (a b f : Int) : Int := if b = 0 then (if 0 < a then 2147483647 else if a < 0 then -2147483648 else 0) else clampP (overP (a * 2 ^ fracP f 30) b)
def divC (a b f : Int) : Bool := if b = 0 then true else clampP (overP (a * 2 ^ fracP f 30) b) != overP (a * 2 ^ fracP f 30) b
def Divs (w : World) (a b f : Int) (e : Ending) (w' : World) : Prop := e = .returned (.tuple #[.int .i32 (divV a b f), .bool (divC a b f)]) ∧ Below w.heap.size w w'
theorem divs_zero {w w' : World} {a b f v : Int} (hb : b = 0) (hv : v = if 0 < a then 2147483647 else if a < 0 then -2147483648 else 0) (h : Below w.heap.size w w') : Divs w a b f (.returned (.tuple #[.int .i32 v, .bool true])) w' := by
  subst hv
  unfold Divs divV divC
  rw [if_pos hb, if_pos hb]
  exact ⟨rfl, h⟩
theorem divs_over {w w' : World} {a b f V : Int} (hb : b ≠ 0) (hV : V = overP (a * 2 ^ fracP f 30) b) (h : Below w.heap.size w w') : Divs w a b f (.returned (.tuple #[.int .i32 (clampP V), .bool (clampP V != V)])) w' := by
  subst hV
  unfold Divs divV divC
  rw [if_neg hb, if_neg hb]
  exact ⟨rfl, h⟩
theorem shl_bd (a : Int) (m : Nat) (ha : I32 a) (hm : m ≤ 30) : -2305843009213693952 ≤ a * 2 ^ m ∧ a * 2 ^ m ≤ 2305843009213693952 := by
  have h1 : (1 : Nat) ≤ 2 ^ m := Nat.one_le_two_pow
  have h2 : 2 ^ m ≤ 2 ^ 30 := Nat.pow_le_pow_right (by omega) hm
  have e : (2 : Int) ^ m = ((2 ^ m : Nat) : Int) := by rw [Int.natCast_pow]; rfl
  have h3 := mul_bd a ((2 ^ m : Nat) : Int) ha (by unfold I32; omega)
  rw [e]
  unfold I32 at ha
  have h4 : a * ((2 ^ m : Nat) : Int) ≤ 2147483648 * 1073741824 := by
    rcases Int.lt_or_le a 0 with h | h
    · have : a * ((2 ^ m : Nat) : Int) ≤ 0 := Int.mul_nonpos_of_nonpos_of_nonneg (by omega) (by omega)
      omega
    · exact Int.mul_le_mul (by omega) (by omega) (by omega) (by omega)
  have h5 : -a * ((2 ^ m : Nat) : Int) ≤ 2147483648 * 1073741824 := by
    rcases Int.lt_or_le a 0 with h | h
    · exact Int.mul_le_mul (by omega) (by omega) (by omega) (by omega)
    · have : -a * ((2 ^ m : Nat) : Int) ≤ 0 := Int.mul_nonpos_of_nonpos_of_nonneg (by omega) (by omega)
      omega
  rw [Int.neg_mul] at h5
  omega
end Go.Proofs.Ytgmepohfkpncmaa
namespace Go.Proofs.Ytgmepohfkpncmaa
open Go.RowKit

theorem _root_.Go.RowKit.Below.on {w w1 w2 : World} (a : Below w.heap.size w w1) (b : Below w1.heap.size w1 w2) : Below w.heap.size w w2 := a.trans (b.mono a.size)

/-- A number, cut, and whether it was; the world stays. -/
def CutsR (w : World) (v : Int) (e : Ending) (w' : World) : Prop := e = .returned (.tuple #[.int .i32 (clampP v), .bool (clampP v != v)]) ∧ w = w'

def DivsR (w : World) (a b f : Int) (e : Ending) (w' : World) : Prop := e = .returned (.tuple #[.int .i32 (divV a b f), .bool (divC a b f)]) ∧ w = w'
theorem divsR_zero {w : World} {a b f v : Int} (hb : b = 0) (hv : v = if 0 < a then 2147483647 else if a < 0 then -2147483648 else 0) : DivsR w a b f (.returned (.tuple #[.int .i32 v, .bool true])) w := by
  subst hv
  unfold DivsR divV divC
  rw [if_pos hb, if_pos hb]
  exact ⟨rfl, rfl⟩
theorem divsR_over {w : World} {a b f V : Int} (hb : b ≠ 0) (hV : V = overP (a * 2 ^ fracP f 30) b) : DivsR w a b f (.returned (.tuple #[.int .i32 (clampP V), .bool (clampP V != V)])) w := by
  subst hV
  unfold DivsR divV divC
  rw [if_neg hb, if_neg hb]
  exact ⟨rfl, rfl⟩
end Go.Proofs.Ytgmepohfkpncmaa
