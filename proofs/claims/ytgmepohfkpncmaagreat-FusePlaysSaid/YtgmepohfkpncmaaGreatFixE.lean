/- Chapter 01: numbers with a point that stands still: the leaves. -/
import Derived.Test.YtgmepohfkpncmaaGreatAid
import Derived.BigQuiet
import Derived.Deep.QuietTactic
import Derived.Outline
import Derived.Handy
import Derived.WalkLawsBesides
import Derived.Deep.RegionWith
namespace Go.Proofs.YtgmepohfkpncmaaGreat
open Go.RowKit

/-! ### The plain words -/
def absP (n : Int) : Int := if n < 0 then -n else n
theorem absP_bd (n : Int) (h : -9223372036854775808 ≤ n ∧ n ≤ 9223372036854775807) : 0 ≤ absP n ∧ absP n ≤ 9223372036854775808 := by unfold absP; split <;> omega
/-- A number by another one: the nearest whole number, away from 0 where two are as near, cut. -/
def overP (n d : Int) : Int :=
  if d = 0 then 0 else
    if n < 0 then (if d < 0 then min ((2 * absP n + absP d) / (2 * absP d)) 9223372036854775807 else -((2 * absP n + absP d) / (2 * absP d)))
    else (if d < 0 then -((2 * absP n + absP d) / (2 * absP d)) else min ((2 * absP n + absP d) / (2 * absP d)) 9223372036854775807)
def clampP (n : Int) : Int := max (-2147483648) (min n 2147483647)
theorem half_up (a b : Nat) (hb : 0 < b) : (2 * a + b) / (2 * b) = a / b + if b ≤ 2 * (a % b) then 1 else 0 := by
  have h1 := Nat.div_add_mod a b
  have h2 := Nat.mod_lt a hb
  generalize a / b = q at *
  generalize a % b = r at *
  subst h1
  have e : 2 * (b * q + r) + b = (2 * r + b) + 2 * b * q := by rw [Nat.mul_add, Nat.mul_assoc]; omega
  rw [e, Nat.add_mul_div_left _ _ (by omega)]
  split
  · have : (2 * r + b) / (2 * b) = 1 := by
      rw [Nat.div_eq_iff (by omega)]; omega
    omega
  · have : (2 * r + b) / (2 * b) = 0 := Nat.div_eq_of_lt (by omega)
    omega
theorem half_upZ (a b : Nat) (hb : 0 < b) : (2 * (a : Int) + b) / (2 * b) = ((a / b : Nat) : Int) + if (b : Int) ≤ 2 * ((a % b : Nat) : Int) then 1 else 0 := by
  have h := half_up a b hb
  have e : (2 * (a : Int) + b) / (2 * b) = (((2 * a + b) / (2 * b) : Nat) : Int) := by simp
  rw [e, h]
  split <;> split <;> omega

/-- The sign of a number: 1, or -1. -/
def sgnP (n : Int) : Int := if n < 0 then -1 else 1
theorem over_facts (n d : Int) (hn : -9223372036854775808 ≤ n ∧ n ≤ 9223372036854775807) (hd : -9223372036854775808 ≤ d ∧ d ≤ 9223372036854775807) (h0 : d ≠ 0) (h1 : ¬ (d = -1 ∧ n = -9223372036854775808)) :
    -9223372036854775808 ≤ n.tdiv d ∧ n.tdiv d ≤ 9223372036854775807 ∧ 2 * absP (n.tmod d) ≤ 18446744073709551615 ∧ -9223372036854775807 ≤ n.tmod d ∧ n.tmod d ≤ 9223372036854775807 ∧
      ((absP d ≤ 2 * absP (n.tmod d) ∧ n.tmod d ≠ 0) → overP n d = n.tdiv d + sgnP n * sgnP d ∧ -9223372036854775808 ≤ n.tdiv d + sgnP n * sgnP d ∧ n.tdiv d + sgnP n * sgnP d ≤ 9223372036854775807) ∧
      (¬ (absP d ≤ 2 * absP (n.tmod d) ∧ n.tmod d ≠ 0) → overP n d = n.tdiv d) := by
  obtain ⟨a, ha⟩ : ∃ a : Nat, n = a ∨ (n = -(a : Int) ∧ 0 < a) := by
    rcases Int.lt_or_le n 0 with h | h
    · exact ⟨n.natAbs, .inr ⟨by omega, by omega⟩⟩
    · exact ⟨n.natAbs, .inl (by omega)⟩
  obtain ⟨b, hb⟩ : ∃ b : Nat, (d = b ∨ d = -(b : Int)) ∧ 0 < b := by
    rcases Int.lt_or_le d 0 with h | h
    · exact ⟨d.natAbs, .inr (by omega), by omega⟩
    · exact ⟨d.natAbs, .inl (by omega), by omega⟩
  obtain ⟨hb, hb0⟩ := hb
  have hu := half_upZ a b hb0
  have ea : absP n = a := by unfold absP; rcases ha with h | ⟨h, _⟩ <;> split <;> omega
  have eb : absP d = b := by unfold absP; rcases hb with h | h <;> split <;> omega
  have hq1 : ((a / b : Nat) : Int) ≤ a := by exact_mod_cast Nat.div_le_self a b
  have hm := Nat.mod_lt a hb0
  have hdm : (b : Int) * ((a / b : Nat) : Int) + ((a % b : Nat) : Int) = a := by rw [← Int.natCast_mul, ← Int.natCast_add, Nat.div_add_mod]
  have hq2 : 2 ≤ b → 2 * ((a / b : Nat) : Int) ≤ a := by
    intro h2
    have hr0 : 0 ≤ ((a % b : Nat) : Int) := Int.natCast_nonneg _
    have h3 : 2 * ((a / b : Nat) : Int) ≤ (b : Int) * ((a / b : Nat) : Int) := Int.mul_le_mul_of_nonneg_right (by omega) (Int.natCast_nonneg _)
    omega
  have hz : ((a / b : Nat) : Int) = 0 → a < b := by
    intro h
    rw [h] at hdm
    have : ((a % b : Nat) : Int) = a := by omega
    omega
  have tq : n.tdiv d = if n < 0 then (if d < 0 then ((a / b : Nat) : Int) else -((a / b : Nat) : Int)) else (if d < 0 then -((a / b : Nat) : Int) else ((a / b : Nat) : Int)) := by
    rcases ha with rfl | ⟨rfl, ha0⟩ <;> rcases hb with rfl | rfl
    · rw [if_neg (by omega), if_neg (by omega)]; rfl
    · rw [if_neg (by omega), if_pos (by omega), Int.tdiv_neg]; rfl
    · rw [if_pos (by omega), if_neg (by omega), Int.neg_tdiv]; rfl
    · rw [if_pos (by omega), if_pos (by omega), Int.tdiv_neg, Int.neg_tdiv, Int.neg_neg]; rfl
  have tr : n.tmod d = if n < 0 then -((a % b : Nat) : Int) else ((a % b : Nat) : Int) := by
    rcases ha with rfl | ⟨rfl, ha0⟩ <;> rcases hb with rfl | rfl
    · rw [if_neg (by omega)]; rfl
    · rw [if_neg (by omega), Int.tmod_neg]; rfl
    · rw [if_pos (by omega), Int.neg_tmod]; rfl
    · rw [if_pos (by omega), Int.tmod_neg, Int.neg_tmod]; rfl
  have er : absP (n.tmod d) = ((a % b : Nat) : Int) := by rw [tr]; unfold absP; split <;> split <;> omega
  rw [er, tq, tr, eb]
  unfold overP sgnP
  rw [if_neg h0, ea, eb, hu]
  generalize hQ : ((a / b : Nat) : Int) = q at *
  generalize hR : ((a % b : Nat) : Int) = r at *
  have hr0 : 0 ≤ r := by omega
  have hrb : r < b := by omega
  have hq0 : 0 ≤ q := by
    rcases Int.lt_or_le q 0 with h | h
    · have : (b : Int) * q ≤ (b : Int) * (-1) := Int.mul_le_mul_of_nonneg_left (by omega) (by omega)
      omega
    · exact h
  have hb1 : b = 1 → r = 0 := by omega
  have hbig : q ≤ 9223372036854775807 ∨ (a = 9223372036854775808 ∧ b = 1) := by
    rcases Nat.lt_or_ge b 2 with h | h
    · have : b = 1 := by omega
      subst this
      omega
    · have := hq2 h; omega
  clear hdm hz hR hQ hm tq tr er hu ea eb
  rcases ha with rfl | ⟨rfl, ha0⟩
  · have hN : ¬ (a : Int) < 0 := by omega
    rcases hb with rfl | rfl
    · have hD : ¬ (b : Int) < 0 := by omega
      by_cases hg : (b : Int) ≤ 2 * r ∧ r ≠ 0
      · have hbr := hg.1
        simp only [if_neg hN, if_neg hD, if_pos hbr]
        exact ⟨by omega, by omega, by omega, by omega, by omega, fun _ => ⟨by omega, by omega, by omega⟩, fun h => absurd ⟨hg.1, by omega⟩ h⟩
      · have hbr : ¬ (b : Int) ≤ 2 * r := fun h => hg ⟨h, by omega⟩
        simp only [if_neg hN, if_neg hD, if_neg hbr]
        exact ⟨by omega, by omega, by omega, by omega, by omega, fun h => absurd h.1 hbr, fun _ => by omega⟩
    · have hD : -(b : Int) < 0 := by omega
      by_cases hg : (b : Int) ≤ 2 * r ∧ r ≠ 0
      · have hbr := hg.1
        simp only [if_neg hN, if_pos hD, if_pos hbr]
        exact ⟨by omega, by omega, by omega, by omega, by omega, fun _ => ⟨by omega, by omega, by omega⟩, fun h => absurd ⟨hg.1, by omega⟩ h⟩
      · have hbr : ¬ (b : Int) ≤ 2 * r := fun h => hg ⟨h, by omega⟩
        simp only [if_neg hN, if_pos hD, if_neg hbr]
        exact ⟨by omega, by omega, by omega, by omega, by omega, fun h => absurd h.1 hbr, fun _ => by omega⟩
  · have hN : -(a : Int) < 0 := by omega
    rcases hb with rfl | rfl
    · have hD : ¬ (b : Int) < 0 := by omega
      by_cases hg : (b : Int) ≤ 2 * r ∧ r ≠ 0
      · have hbr := hg.1
        simp only [if_pos hN, if_neg hD, if_pos hbr]
        exact ⟨by omega, by omega, by omega, by omega, by omega, fun _ => ⟨by omega, by omega, by omega⟩, fun h => absurd ⟨hg.1, by omega⟩ h⟩
      · have hbr : ¬ (b : Int) ≤ 2 * r := fun h => hg ⟨h, by omega⟩
        simp only [if_pos hN, if_neg hD, if_neg hbr]
        exact ⟨by omega, by omega, by omega, by omega, by omega, fun h => absurd h.1 hbr, fun _ => by omega⟩
    · have hD : -(b : Int) < 0 := by omega
      by_cases hg : (b : Int) ≤ 2 * r ∧ r ≠ 0
      · have hbr := hg.1
        simp only [if_pos hN, if_pos hD, if_pos hbr]
        exact ⟨by omega, by omega, by omega, by omega, by omega, fun _ => ⟨by omega, by omega, by omega⟩, fun h => absurd ⟨hg.1, by omega⟩ h⟩
      · have hbr : ¬ (b : Int) ≤ 2 * r := fun h => hg ⟨h, by omega⟩
        simp only [if_pos hN, if_pos hD, if_neg hbr]
        exact ⟨by omega, by omega, by omega, by omega, by omega, fun h => absurd h.1 hbr, fun _ => by omega⟩
end Go.Proofs.YtgmepohfkpncmaaGreat
namespace Go.Proofs.YtgmepohfkpncmaaGreat
open Go.RowKit

def I64 (n : Int) : Prop := -9223372036854775808 ≤ n ∧ n ≤ 9223372036854775807
def I32 (n : Int) : Prop := -2147483648 ≤ n ∧ n ≤ 2147483647

theorem fx_size (n : Int) (w : World) (h : I64 n) :
    Calls Tryz.prog 78 #[.int .i64 n] w fun e w' => e = .returned (.int .u64 (absP n)) ∧ w = w' := by
  obtain ⟨h0, h1⟩ := h
  by_cases g : n < 0
  · have H : Hid (IntKind.u64.wrap (-IntKind.u64.wrap n) = absP n) := by show _ = _; unfold absP; rw [if_pos g, IntKind.wrap_u64, IntKind.wrap_u64]; omega
    go_enter Tryz.func78, Tryz.ntmps78
    go_wp2
    go_ret
    exact ⟨by rw [← H.out]; rfl, rfl⟩
  · have H : Hid (n = absP n) := by show _ = _; unfold absP; rw [if_neg g]
    go_enter Tryz.func78, Tryz.ntmps78
    go_wp2
    go_ret
    exact ⟨by rw [← H.out]; rfl, rfl⟩
theorem fx_sign (n : Int) (w : World) :
    Calls Tryz.prog 79 #[.int .i64 n] w fun e w' => e = .returned (.int .i64 (sgnP n)) ∧ w = w' := by
  by_cases g : n < 0
  · have H : Hid (-1 = sgnP n) := by show _ = _; unfold sgnP; rw [if_pos g]
    go_enter Tryz.func79, Tryz.ntmps79
    go_wp2
    go_ret
    exact ⟨by rw [← H.out]; rfl, rfl⟩
  · have H : Hid (1 = sgnP n) := by show _ = _; unfold sgnP; rw [if_neg g]
    go_enter Tryz.func79, Tryz.ntmps79
    go_wp2
    go_ret
    exact ⟨by rw [← H.out]; rfl, rfl⟩
theorem sgn_mul (n d : Int) : -1 ≤ sgnP n * sgnP d ∧ sgnP n * sgnP d ≤ 1 := by
  unfold sgnP; split <;> split <;> omega

theorem fx_Over (n d : Int) (w : World) (hn : I64 n) (hd : I64 d) :
    Calls Tryz.prog 43 #[.int .i64 n, .int .i64 d] w fun e w' => e = .returned (.int .i64 (overP n d)) ∧ Below w.heap.size w w' := by
  by_cases h0 : d = 0
  · have H : Hid (0 = overP n d) := by show _ = _; unfold overP; rw [if_pos h0]
    have g : (d == 0) = true := by simpa using h0
    clear h0
    go_enter Tryz.func43, Tryz.ntmps43
    go_wp2
    go_ret
    exact ⟨by rw [← H.out]; rfl, Below.refl _ _⟩
  have g0 : (d == 0) = false := by simpa using h0
  by_cases h1 : d = -1 ∧ n = -9223372036854775808
  · have H : Hid (9223372036854775807 = overP n d) := by
      show _ = _
      unfold overP absP
      rw [if_neg h0, h1.1, h1.2]; decide
    have g1 : (d == -1) = true := by simpa using h1.1
    have g2 : (n == -9223372036854775808) = true := by simpa using h1.2
    clear h0 h1
    go_enter Tryz.func43, Tryz.ntmps43
    go_wp2
    go_ret
    exact ⟨by rw [← H.out]; rfl, Below.refl _ _⟩
  have hf := over_facts n d hn hd h0 h1
  have hc : (d == -1) = false ∨ ((d == -1) = true ∧ (n == -9223372036854775808) = false) := by
    by_cases g : d = -1
    · exact .inr ⟨by simpa using g, by simp; exact fun h => h1 ⟨g, h⟩⟩
    · exact .inl (by simpa using g)
  have hbd := absP_bd d hd
  have hs := sgn_mul n d
  obtain ⟨f1, f2, f3, f4, f5, f6, f7⟩ := hf
  have e1 : IntKind.i64.wrap (n.tdiv d) = n.tdiv d := IntWalk.i64_in _ ⟨f1, f2⟩
  generalize hq : n.tdiv d = q at *
  generalize hr : n.tmod d = r at *
  have HR := hid hr
  have hra := absP_bd r (by unfold I64 at *; omega)
  have hr64 : I64 r := ⟨by omega, by omega⟩
  have S1 := fun w => fx_size r w hr64
  have S2 := fun w => fx_size d w hd
  have S3 := fx_sign n
  have S4 := fx_sign d
  generalize ho : overP n d = o at *
  have HO := hid ho
  generalize absP r = ar at *
  generalize absP d = ad at *
  have F6 := hid f6
  have F7 := hid f7
  have HS1 := hid S1
  have HS2 := hid S2
  have HS3 := hid S3
  have HS4 := hid S4
  clear f6 f7 S1 S2 S3 S4 h1 ho
  obtain ⟨hs1, hs2⟩ := hs
  by_cases k1 : ad ≤ 2 * ar
  · by_cases k2 : r = 0
    · have hres := F7.out (fun h => h.2 k2)
      have HRES := hid hres
      have k2' : (r != 0) = false := by simpa using k2
      clear k2 hres
      rcases hc with g1 | ⟨g1, g2⟩
      all_goals
        go_enter Tryz.func43, Tryz.ntmps43
        go_wp2_with fail
        go_quiet (fail)
        go_wp2_with (first
          | (go_at_call_of 78 (Value.int IntKind.i64 r); refine (HS1.out _).mono ?_; rintro e w' ⟨rfl, rfl⟩)
          | (go_at_call_of 78 (Value.int IntKind.i64 d); refine (HS2.out _).mono ?_; rintro e w' ⟨rfl, rfl⟩))
        go_ret
        exact ⟨by rw [HRES.out]; rfl, (Below.refl _ _).drewN' _⟩
    · have hres := F6.out ⟨k1, k2⟩
      obtain ⟨hres, hr1, hr2⟩ := hres
      have HRES := hid hres
      have k2' : (r != 0) = true := by simpa using k2
      clear k2 hres
      rcases hc with g1 | ⟨g1, g2⟩
      all_goals
        go_enter Tryz.func43, Tryz.ntmps43
        go_wp2_with fail
        go_quiet (fail)
        go_wp2_with (first
          | (go_at_call_of 78 (Value.int IntKind.i64 r); refine (HS1.out _).mono ?_; rintro e w' ⟨rfl, rfl⟩)
          | (go_at_call_of 78 (Value.int IntKind.i64 d); refine (HS2.out _).mono ?_; rintro e w' ⟨rfl, rfl⟩)
          | (go_at_call_of 79 (Value.int IntKind.i64 n); refine (HS3.out _).mono ?_; rintro e w' ⟨rfl, rfl⟩)
          | (go_at_call_of 79 (Value.int IntKind.i64 d); refine (HS4.out _).mono ?_; rintro e w' ⟨rfl, rfl⟩))
        go_ret
        exact ⟨by rw [HRES.out]; rfl, (Below.refl _ _).drewN' _⟩
  · have hres := F7.out (fun h => k1 h.1)
    have HRES := hid hres
    clear hres
    rcases hc with g1 | ⟨g1, g2⟩
    all_goals
      go_enter Tryz.func43, Tryz.ntmps43
      go_wp2_with fail
      go_quiet (fail)
      go_wp2_with (first
        | (go_at_call_of 78 (Value.int IntKind.i64 r); refine (HS1.out _).mono ?_; rintro e w' ⟨rfl, rfl⟩)
        | (go_at_call_of 78 (Value.int IntKind.i64 d); refine (HS2.out _).mono ?_; rintro e w' ⟨rfl, rfl⟩))
      go_ret
      exact ⟨by rw [HRES.out]; rfl, (Below.refl _ _).drewN' _⟩

theorem fx_within (n lo hi : Int) (w : World) (h : I64 n) (h1 : I64 lo) (h2 : I64 hi) :
    Calls Tryz.prog 80 #[.int .i64 n, .int .i64 lo, .int .i64 hi] w fun e w' => e = .returned (.int .i64 (max lo (min n hi))) ∧ w = w' := by
  obtain ⟨h3, h4⟩ := h
  obtain ⟨h5, h6⟩ := h1
  obtain ⟨h7, h8⟩ := h2
  have H : Hid (∀ m, m = max lo (min n hi) → Ending.returned (.int .i64 m) = Ending.returned (.int .i64 (max lo (min n hi)))) := fun m hm => by rw [hm]
  go_enter Tryz.func80, Tryz.ntmps80
  go_wp2
  all_goals go_ret
  all_goals exact ⟨H.out _ (by omega), rfl⟩
theorem clampP_bd (n : Int) : I32 (clampP n) := by unfold clampP I32; omega
theorem fx_Clamp (n : Int) (w : World) (h : I64 n) :
    Calls Tryz.prog 47 #[.int .i64 n] w fun e w' => e = .returned (.tuple #[.int .i32 (clampP n), .bool (clampP n != n)]) ∧ w = w' := by
  obtain ⟨h3, h4⟩ := h
  have H : Hid (∀ m, m = clampP n → Ending.returned (.tuple #[.int .i32 m, .bool (m != n)]) = Ending.returned (.tuple #[.int .i32 (clampP n), .bool (clampP n != n)])) := fun m hm => by rw [hm]
  by_cases g1 : n < -2147483648
  · have e : -2147483648 = clampP n := by unfold clampP; omega
    have H2 := hid e
    clear e
    go_enter Tryz.func47, Tryz.ntmps47
    go_wp2
    all_goals go_ret2
    all_goals exact ⟨H.out _ H2.out, rfl⟩
  · by_cases g2 : 2147483647 < n
    · have e : 2147483647 = clampP n := by unfold clampP; omega
      have H2 := hid e
      clear e
      go_enter Tryz.func47, Tryz.ntmps47
      go_wp2
      all_goals go_ret2
      all_goals exact ⟨H.out _ H2.out, rfl⟩
    · have e : n = clampP n := by unfold clampP; omega
      have H2 := hid e
      have H3 : Hid (Ending.returned (.tuple #[.int .i32 n, .bool false]) = Ending.returned (.tuple #[.int .i32 (clampP n), .bool (clampP n != n)])) := by
        show _ = _; rw [← e]; simp
      clear e
      go_enter Tryz.func47, Tryz.ntmps47
      go_wp2
      all_goals go_ret2
      all_goals first | exact ⟨H3.out, rfl⟩ | exact ⟨H.out _ (by have := H2.out; omega), rfl⟩

/-- By which power of two. -/
def fracP (f hi : Int) : Nat := (max 0 (min f hi)).toNat
def roundP (n f : Int) : Int := overP n (2 ^ fracP f 62)
theorem pow_62 (j : Nat) (h : j ≤ 62) : 1 ≤ (2 : Int) ^ j ∧ (2 : Int) ^ j ≤ 4611686018427387904 := by
  have h1 : (1 : Nat) ≤ 2 ^ j := Nat.one_le_two_pow
  have h2 : 2 ^ j ≤ 2 ^ 62 := Nat.pow_le_pow_right (by omega) h
  have e : (2 : Int) ^ j = ((2 ^ j : Nat) : Int) := by rw [Int.natCast_pow]; rfl
  rw [e]; omega
theorem pow_61 (j : Nat) (h : j < 62) : (2 : Int) ^ j ≤ 2305843009213693952 := by
  have h2 : 2 ^ j ≤ 2 ^ 61 := Nat.pow_le_pow_right (by omega) (by omega)
  have e : (2 : Int) ^ j = ((2 ^ j : Nat) : Int) := by rw [Int.natCast_pow]; rfl
  rw [e]; omega
theorem over_bd (n d : Int) (hn : I64 n) (hd : I64 d) : I64 (overP n d) := by
  by_cases h0 : d = 0
  · unfold overP I64; rw [if_pos h0]; omega
  · by_cases h1 : d = -1 ∧ n = -9223372036854775808
    · unfold overP absP I64; rw [if_neg h0, h1.1, h1.2]; decide
    · obtain ⟨f1, f2, _, _, _, f6, f7⟩ := over_facts n d hn hd h0 h1
      by_cases g : absP d ≤ 2 * absP (n.tmod d) ∧ n.tmod d ≠ 0
      · have := f6 g; unfold I64; omega
      · have := f7 g; unfold I64; omega

theorem fx_Round (n f : Int) (w : World) (hn : I64 n) (hf : I64 f) :
    Calls Tryz.prog 48 #[.int .i64 n, .int .i64 f] w fun e w' => e = .returned (.int .i64 (roundP n f)) ∧ Below w.heap.size w w' := by
  have H : Hid (overP n (2 ^ fracP f 62) = roundP n f) := rfl
  have HW := hid fun w => fx_within f 0 62 w hf ⟨by omega, by omega⟩ ⟨by omega, by omega⟩
  have HM : Hid (max 0 (min f 62) = ((fracP f 62 : Nat) : Int)) := by show _ = _; unfold fracP; omega
  have hm : fracP f 62 ≤ 62 := by unfold fracP; omega
  generalize fracP f 62 = m at *
  have HO := hid fun w => fx_Over n (2 ^ m) w hn (by have := pow_62 m hm; unfold I64; omega)
  clear hf hn
  go_enter Tryz.func48, Tryz.ntmps48
  go_wp2_with fail
  refine (HW.out _).mono ?_
  rintro e w' ⟨rfl, rfl⟩
  rw [HM.out]
  go_wp2_with fail
  go_loop [5, 8] (fun b i => ∃ (j : Nat) (B : Int), j ≤ m ∧ i = .int .i64 j ∧ b = .int .i64 B ∧ Hid (B = 2 ^ j)) (fun _ i => m - (intOf i).toNat)
  case atStart => exact ⟨0, 1, by omega, rfl, rfl, rfl⟩
  case round =>
    obtain ⟨j, B, hj, rfl, rfl, hB⟩ := hrel
    have hp := pow_62 j (by omega)
    rw [← hB.out] at hp
    by_cases hlt : j < m
    · have hp2 := pow_61 j (by omega)
      rw [← hB.out] at hp2
      have HN : Hid (B * 2 = 2 ^ (j + 1)) := by show _ = _; rw [hB.out, Int.pow_succ]
      go_wp2
      go_round
      case rel => exact ⟨j + 1, _, by omega, by go_num, rfl, HN⟩
      case measure => simp [intOf]; omega
    · obtain rfl : j = m := by omega
      go_wp2_with fail
      rw [hB.out]
      refine (HO.out _).mono ?_
      rintro e w' ⟨rfl, hb⟩
      rw [H.out]
      go_wp2
      go_ret
      exact ⟨rfl, hb⟩
end Go.Proofs.YtgmepohfkpncmaaGreat
namespace Go.Proofs.YtgmepohfkpncmaaGreat
open Go.RowKit

theorem fxr_far (n : Int) (w : World) (h : I64 n) :
    Calls Tryz.prog 83 #[.int .i64 n] w fun e w' => e = .returned (.int .u64 (absP n)) ∧ w = w' := by
  obtain ⟨h0, h1⟩ := h
  by_cases g : n < 0
  · have H : Hid (-(n + 1) + 1 = absP n) := by show _ = _; unfold absP; rw [if_pos g]; omega
    go_enter Tryz.func83, Tryz.ntmps83
    go_wp2
    go_ret
    exact ⟨by rw [← H.out]; rfl, rfl⟩
  · have H : Hid (n = absP n) := by show _ = _; unfold absP; rw [if_neg g]
    go_enter Tryz.func83, Tryz.ntmps83
    go_wp2
    go_ret
    exact ⟨by rw [← H.out]; rfl, rfl⟩

theorem over_ref (n d : Int) (hn : I64 n) (hd : I64 d) (h0 : d ≠ 0) :
    0 ≤ absP n / absP d ∧ absP n / absP d ≤ 9223372036854775808 ∧ 0 ≤ absP n % absP d ∧ absP n % absP d < absP d ∧ 1 ≤ absP d ∧
      (2 * absP n + absP d) / (2 * absP d) = absP n / absP d + (if absP d - absP n % absP d ≤ absP n % absP d then 1 else 0) ∧ (2 * absP n + absP d) / (2 * absP d) ≤ 9223372036854775808 := by
  have ha := absP_bd n hn
  have hb := absP_bd d hd
  have hb1 : 1 ≤ absP d := by unfold absP; split <;> omega
  generalize absP n = a at *
  generalize absP d = b at *
  obtain ⟨a, rfl⟩ := Int.eq_ofNat_of_zero_le ha.1
  obtain ⟨b, rfl⟩ := Int.eq_ofNat_of_zero_le hb.1
  have hb0 : 0 < b := by omega
  have hu := half_upZ a b hb0
  have e1 : (a : Int) / (b : Int) = ((a / b : Nat) : Int) := rfl
  have e2 : (a : Int) % (b : Int) = ((a % b : Nat) : Int) := rfl
  have hm := Nat.mod_lt a hb0
  have hq1 : ((a / b : Nat) : Int) ≤ a := by exact_mod_cast Nat.div_le_self a b
  have hq0 : 0 ≤ ((a / b : Nat) : Int) := Int.natCast_nonneg _
  have hr0 : 0 ≤ ((a % b : Nat) : Int) := Int.natCast_nonneg _
  have hmZ : ((a % b : Nat) : Int) < b := by exact_mod_cast hm
  have hdm : (b : Int) * ((a / b : Nat) : Int) + ((a % b : Nat) : Int) = a := by rw [← Int.natCast_mul, ← Int.natCast_add, Nat.div_add_mod]
  have hq2 : 2 ≤ b → 2 * ((a / b : Nat) : Int) ≤ a := by
    intro h2
    have h3 : 2 * ((a / b : Nat) : Int) ≤ (b : Int) * ((a / b : Nat) : Int) := Int.mul_le_mul_of_nonneg_right (by omega) hq0
    omega
  rw [hu, e1, e2]
  clear e1 e2 hu
  generalize ((a / b : Nat) : Int) = q at *
  generalize ((a % b : Nat) : Int) = r at *
  clear hdm hm
  refine ⟨hq0, by omega, hr0, hmZ, hb1, ?_, ?_⟩
  · congr 1
    by_cases g : (b : Int) ≤ 2 * r
    · rw [if_pos g, if_pos (by omega)]
    · rw [if_neg g, if_neg (by omega)]
  · rcases Nat.lt_or_ge b 2 with h | h
    · have : ¬ (b : Int) ≤ 2 * r := by omega
      rw [if_neg this]; omega
    · have := hq2 h
      split <;> omega

theorem fxr_Over (n d : Int) (w : World) (hn : I64 n) (hd : I64 d) :
    Calls Tryz.prog 52 #[.int .i64 n, .int .i64 d] w fun e w' => e = .returned (.int .i64 (overP n d)) ∧ w = w' := by
  by_cases h0 : d = 0
  · have H : Hid (0 = overP n d) := by show _ = _; unfold overP; rw [if_pos h0]
    have g : (d == 0) = true := by simpa using h0
    clear h0
    go_enter Tryz.func52, Tryz.ntmps52
    go_wp2
    go_ret
    exact ⟨by rw [← H.out]; rfl, rfl⟩
  have g0 : (d == 0) = false := by simpa using h0
  have hf := over_ref n d hn hd h0
  have hov : overP n d = if n < 0 then (if d < 0 then min ((2 * absP n + absP d) / (2 * absP d)) 9223372036854775807 else -((2 * absP n + absP d) / (2 * absP d)))
      else (if d < 0 then -((2 * absP n + absP d) / (2 * absP d)) else min ((2 * absP n + absP d) / (2 * absP d)) 9223372036854775807) := by unfold overP; rw [if_neg h0]
  have ha := absP_bd n hn
  have hb := absP_bd d hd
  have HS1 := hid fun w => fxr_far n w hn
  have HS2 := hid fun w => fxr_far d w hd
  have hq0 : n ≠ 0 ∨ n = 0 := by omega
  generalize hA : absP n = a at *
  generalize hB : absP d = b at *
  have HA := hid hA
  have HB := hid hB
  clear hA hB
  obtain ⟨f1, f2, f3, f4, f5, f6, f7⟩ := hf
  generalize (2 * a + b) / (2 * b) = Q at *
  have hb0 : ¬ b = 0 := by omega
  generalize ho : overP n d = o at *
  clear ho h0 hq0 hn hd
  have fin : ∀ (q : Int), q = Q → Hid (o = if n < 0 then (if d < 0 then min q 9223372036854775807 else -q) else (if d < 0 then -q else min q 9223372036854775807)) := fun q h => by subst h; exact hov
  clear hov
  have HR : Hid (∀ m, m = o → Ending.returned (.int .i64 m) = Ending.returned (.int .i64 o)) := fun m hm => by rw [hm]
  by_cases g1 : b - a % b ≤ a % b
  · rw [if_pos g1] at f6
    have HF := fin (a / b + 1) f6.symm
    rw [f6] at f7
    clear fin f6
    have g1' : decide (b - a % b ≤ a % b) = true := by simp; omega
    by_cases gn : n < 0
    · by_cases gd : d < 0
      · rw [if_pos gn, if_pos gd] at HF
        have gn' : decide (n < 0) = true := by simp; omega
        have gd' : decide (d < 0) = true := by simp; omega
        go_enter Tryz.func52, Tryz.ntmps52
        go_wp2_with (first
          | (go_at_call_of 83 (Value.int IntKind.i64 n); refine (HS1.out _).mono ?_; rintro e w' ⟨rfl, rfl⟩)
          | (go_at_call_of 83 (Value.int IntKind.i64 d); refine (HS2.out _).mono ?_; rintro e w' ⟨rfl, rfl⟩))
        all_goals go_ret
        all_goals exact ⟨HR.out _ (by have := HF.out; omega), rfl⟩
      · rw [if_pos gn, if_neg gd] at HF
        have gn' : decide (n < 0) = true := by simp; omega
        have gd' : decide (d < 0) = false := by simp; omega
        by_cases gq : a / b + 1 = 0
        · have gq' : (a / b + 1 == 0) = true := by simpa using gq
          exact absurd gq (by omega)
        · have gq' : (a / b + 1 == 0) = false := by simpa using gq
          have gq2 : 1 ≤ a / b + 1 := by omega
          clear gq
          go_enter Tryz.func52, Tryz.ntmps52
          go_wp2_with (first
            | (go_at_call_of 83 (Value.int IntKind.i64 n); refine (HS1.out _).mono ?_; rintro e w' ⟨rfl, rfl⟩)
            | (go_at_call_of 83 (Value.int IntKind.i64 d); refine (HS2.out _).mono ?_; rintro e w' ⟨rfl, rfl⟩))
          all_goals go_ret
          all_goals exact ⟨HR.out _ (by have := HF.out; omega), rfl⟩
    · by_cases gd : d < 0
      · rw [if_neg gn, if_pos gd] at HF
        have gn' : decide (n < 0) = false := by simp; omega
        have gd' : decide (d < 0) = true := by simp; omega
        by_cases gq : a / b + 1 = 0
        · have gq' : (a / b + 1 == 0) = true := by simpa using gq
          exact absurd gq (by omega)
        · have gq' : (a / b + 1 == 0) = false := by simpa using gq
          have gq2 : 1 ≤ a / b + 1 := by omega
          clear gq
          go_enter Tryz.func52, Tryz.ntmps52
          go_wp2_with (first
            | (go_at_call_of 83 (Value.int IntKind.i64 n); refine (HS1.out _).mono ?_; rintro e w' ⟨rfl, rfl⟩)
            | (go_at_call_of 83 (Value.int IntKind.i64 d); refine (HS2.out _).mono ?_; rintro e w' ⟨rfl, rfl⟩))
          all_goals go_ret
          all_goals exact ⟨HR.out _ (by have := HF.out; omega), rfl⟩
      · rw [if_neg gn, if_neg gd] at HF
        have gn' : decide (n < 0) = false := by simp; omega
        have gd' : decide (d < 0) = false := by simp; omega
        go_enter Tryz.func52, Tryz.ntmps52
        go_wp2_with (first
          | (go_at_call_of 83 (Value.int IntKind.i64 n); refine (HS1.out _).mono ?_; rintro e w' ⟨rfl, rfl⟩)
          | (go_at_call_of 83 (Value.int IntKind.i64 d); refine (HS2.out _).mono ?_; rintro e w' ⟨rfl, rfl⟩))
        all_goals go_ret
        all_goals exact ⟨HR.out _ (by have := HF.out; omega), rfl⟩
  · rw [if_neg g1] at f6
    rw [Int.add_zero] at f6
    have HF := fin (a / b) f6.symm
    rw [f6] at f7
    clear fin f6
    have g1' : decide (b - a % b ≤ a % b) = false := by simp; omega
    by_cases gn : n < 0
    · by_cases gd : d < 0
      · rw [if_pos gn, if_pos gd] at HF
        have gn' : decide (n < 0) = true := by simp; omega
        have gd' : decide (d < 0) = true := by simp; omega
        go_enter Tryz.func52, Tryz.ntmps52
        go_wp2_with (first
          | (go_at_call_of 83 (Value.int IntKind.i64 n); refine (HS1.out _).mono ?_; rintro e w' ⟨rfl, rfl⟩)
          | (go_at_call_of 83 (Value.int IntKind.i64 d); refine (HS2.out _).mono ?_; rintro e w' ⟨rfl, rfl⟩))
        all_goals go_ret
        all_goals exact ⟨HR.out _ (by have := HF.out; omega), rfl⟩
      · rw [if_pos gn, if_neg gd] at HF
        have gn' : decide (n < 0) = true := by simp; omega
        have gd' : decide (d < 0) = false := by simp; omega
        by_cases gq : a / b = 0
        · have gq' : (a / b == 0) = true := by simpa using gq
          have gq2 : o = 0 := by have := HF.out; omega
          have HF := hid gq2
          clear gq gq2
          go_enter Tryz.func52, Tryz.ntmps52
          go_wp2_with (first
            | (go_at_call_of 83 (Value.int IntKind.i64 n); refine (HS1.out _).mono ?_; rintro e w' ⟨rfl, rfl⟩)
            | (go_at_call_of 83 (Value.int IntKind.i64 d); refine (HS2.out _).mono ?_; rintro e w' ⟨rfl, rfl⟩))
          all_goals go_ret
          all_goals exact ⟨HR.out _ (by have := HF.out; omega), rfl⟩
        · have gq' : (a / b == 0) = false := by simpa using gq
          have gq2 : 1 ≤ a / b := by omega
          clear gq
          go_enter Tryz.func52, Tryz.ntmps52
          go_wp2_with (first
            | (go_at_call_of 83 (Value.int IntKind.i64 n); refine (HS1.out _).mono ?_; rintro e w' ⟨rfl, rfl⟩)
            | (go_at_call_of 83 (Value.int IntKind.i64 d); refine (HS2.out _).mono ?_; rintro e w' ⟨rfl, rfl⟩))
          all_goals go_ret
          all_goals exact ⟨HR.out _ (by have := HF.out; omega), rfl⟩
    · by_cases gd : d < 0
      · rw [if_neg gn, if_pos gd] at HF
        have gn' : decide (n < 0) = false := by simp; omega
        have gd' : decide (d < 0) = true := by simp; omega
        by_cases gq : a / b = 0
        · have gq' : (a / b == 0) = true := by simpa using gq
          have gq2 : o = 0 := by have := HF.out; omega
          have HF := hid gq2
          clear gq gq2
          go_enter Tryz.func52, Tryz.ntmps52
          go_wp2_with (first
            | (go_at_call_of 83 (Value.int IntKind.i64 n); refine (HS1.out _).mono ?_; rintro e w' ⟨rfl, rfl⟩)
            | (go_at_call_of 83 (Value.int IntKind.i64 d); refine (HS2.out _).mono ?_; rintro e w' ⟨rfl, rfl⟩))
          all_goals go_ret
          all_goals exact ⟨HR.out _ (by have := HF.out; omega), rfl⟩
        · have gq' : (a / b == 0) = false := by simpa using gq
          have gq2 : 1 ≤ a / b := by omega
          clear gq
          go_enter Tryz.func52, Tryz.ntmps52
          go_wp2_with (first
            | (go_at_call_of 83 (Value.int IntKind.i64 n); refine (HS1.out _).mono ?_; rintro e w' ⟨rfl, rfl⟩)
            | (go_at_call_of 83 (Value.int IntKind.i64 d); refine (HS2.out _).mono ?_; rintro e w' ⟨rfl, rfl⟩))
          all_goals go_ret
          all_goals exact ⟨HR.out _ (by have := HF.out; omega), rfl⟩
      · rw [if_neg gn, if_neg gd] at HF
        have gn' : decide (n < 0) = false := by simp; omega
        have gd' : decide (d < 0) = false := by simp; omega
        go_enter Tryz.func52, Tryz.ntmps52
        go_wp2_with (first
          | (go_at_call_of 83 (Value.int IntKind.i64 n); refine (HS1.out _).mono ?_; rintro e w' ⟨rfl, rfl⟩)
          | (go_at_call_of 83 (Value.int IntKind.i64 d); refine (HS2.out _).mono ?_; rintro e w' ⟨rfl, rfl⟩))
        all_goals go_ret
        all_goals exact ⟨HR.out _ (by have := HF.out; omega), rfl⟩

theorem fxr_Power (n : Int) (w : World) (h : 0 ≤ n ∧ n ≤ 62) :
    Calls Tryz.prog 84 #[.int .i64 n] w fun e w' => e = .returned (.int .i64 (2 ^ n.toNat)) ∧ w = w' := by
  obtain ⟨m, rfl⟩ := Int.eq_ofNat_of_zero_le h.1
  rw [Int.toNat_natCast]
  have hm : m ≤ 62 := by omega
  clear h
  go_enter Tryz.func84, Tryz.ntmps84
  go_wp2
  go_loop [3, 4] (fun b i => ∃ (j : Nat) (B : Int), j ≤ m ∧ i = .int .i64 j ∧ b = .int .i64 B ∧ Hid (B = 2 ^ j)) (fun _ i => m - (intOf i).toNat)
  case atStart => exact ⟨0, 1, by omega, rfl, rfl, rfl⟩
  case round =>
    obtain ⟨j, B, hj, rfl, rfl, hB⟩ := hrel
    have hp := pow_62 j (by omega)
    rw [← hB.out] at hp
    by_cases hlt : j < m
    · have hp2 := pow_61 j (by omega)
      rw [← hB.out] at hp2
      have HN : Hid (2 * B = 2 ^ (j + 1)) := by show _ = _; rw [hB.out, Int.pow_succ, Int.mul_comm]
      go_wp2
      go_round
      case rel => exact ⟨j + 1, _, by omega, by go_num, rfl, HN⟩
      case measure => simp [intOf]; omega
    · obtain rfl : j = m := by omega
      go_wp2
      go_ret
      exact ⟨by rw [hB.out]; rfl, rfl⟩

theorem fxr_Round (n f : Int) (w : World) (hn : I64 n) (hf : I64 f) :
    Calls Tryz.prog 55 #[.int .i64 n, .int .i64 f] w fun e w' => e = .returned (.int .i64 (roundP n f)) ∧ w = w' := by
  obtain ⟨h1, h2⟩ := hf
  have key : ∀ x : Int, 0 ≤ x → x ≤ 62 → x = max 0 (min f 62) → ∀ w : World, Calls Tryz.prog 84 #[.int .i64 x] w fun e w' => e = .returned (.int .i64 (2 ^ fracP f 62)) ∧ w = w' := fun x h3 h4 h5 w => by
    have := fxr_Power x w ⟨h3, h4⟩
    unfold fracP
    rw [← h5]
    exact this
  have HK := hid key
  have HO := hid fun w => fxr_Over n (2 ^ fracP f 62) w hn (by have := pow_62 (fracP f 62) (by unfold fracP; omega); unfold I64; omega)
  have HR : Hid (overP n (2 ^ fracP f 62) = roundP n f) := rfl
  generalize (2 : Int) ^ fracP f 62 = P at *
  clear hn
  by_cases g1 : f < 0
  · go_enter Tryz.func55, Tryz.ntmps55
    go_wp2_with (first
      | (go_at_call 84; refine (HK.out _ (by omega) (by omega) (by omega) _).mono ?_; rintro e w' ⟨rfl, rfl⟩)
      | (go_at_call 52; refine (HO.out _).mono ?_; rintro e w' ⟨rfl, rfl⟩))
    all_goals go_ret
    all_goals exact ⟨by rw [HR.out]; rfl, rfl⟩
  · by_cases g2 : 62 < f
    all_goals
      go_enter Tryz.func55, Tryz.ntmps55
      go_wp2_with (first
        | (go_at_call 84; refine (HK.out _ (by omega) (by omega) (by omega) _).mono ?_; rintro e w' ⟨rfl, rfl⟩)
        | (go_at_call 52; refine (HO.out _).mono ?_; rintro e w' ⟨rfl, rfl⟩))
      all_goals go_ret
      all_goals exact ⟨by rw [HR.out]; rfl, rfl⟩
theorem fxr_Clamp (n : Int) (w : World) (h : I64 n) :
    Calls Tryz.prog 54 #[.int .i64 n] w fun e w' => e = .returned (.tuple #[.int .i32 (clampP n), .bool (clampP n != n)]) ∧ w = w' := by
  obtain ⟨h1, h2⟩ := h
  by_cases g1 : 2147483647 < n
  · have H : Hid (Ending.returned (.tuple #[.int .i32 2147483647, .bool true]) = Ending.returned (.tuple #[.int .i32 (clampP n), .bool (clampP n != n)])) := by
      have e : clampP n = 2147483647 := by unfold clampP; omega
      have e2 : ((2147483647 : Int) != n) = true := by simp; omega
      show _ = _; rw [e, e2]
    go_enter Tryz.func54, Tryz.ntmps54
    go_wp2
    go_ret2
    exact ⟨H.out, rfl⟩
  · by_cases g2 : n < -2147483648
    · have H : Hid (Ending.returned (.tuple #[.int .i32 (-2147483648), .bool true]) = Ending.returned (.tuple #[.int .i32 (clampP n), .bool (clampP n != n)])) := by
        have e : clampP n = -2147483648 := by unfold clampP; omega
        have e2 : ((-2147483648 : Int) != n) = true := by simp; omega
        show _ = _; rw [e, e2]
      go_enter Tryz.func54, Tryz.ntmps54
      go_wp2
      go_ret2
      exact ⟨H.out, rfl⟩
    · have H : Hid (Ending.returned (.tuple #[.int .i32 n, .bool false]) = Ending.returned (.tuple #[.int .i32 (clampP n), .bool (clampP n != n)])) := by
        have e : clampP n = n := by unfold clampP; omega
        show _ = _; rw [e]; simp
      go_enter Tryz.func54, Tryz.ntmps54
      go_wp2
      go_ret2
      exact ⟨H.out, rfl⟩
end Go.Proofs.YtgmepohfkpncmaaGreat
namespace Go.Proofs.YtgmepohfkpncmaaGreat
open Go.RowKit

theorem mul_bd (a b : Int) (ha : I32 a) (hb : I32 b) : -4611686018427387904 ≤ a * b ∧ a * b ≤ 4611686018427387904 := by
  unfold I32 at *
  have h1 : absP a ≤ 2147483648 := by unfold absP; split <;> omega
  have h2 : absP b ≤ 2147483648 := by unfold absP; split <;> omega
  have h3 : 0 ≤ absP a := by unfold absP; split <;> omega
  have h4 : 0 ≤ absP b := by unfold absP; split <;> omega
  have h5 : absP a * absP b ≤ 2147483648 * 2147483648 := Int.mul_le_mul h1 h2 h4 (by omega)
  have h6 : 0 ≤ absP a * absP b := Int.mul_nonneg h3 h4
  have h7 : a * b = absP a * absP b ∨ a * b = -(absP a * absP b) := by
    unfold absP
    split <;> split
    · left; rw [Int.neg_mul_neg]
    · right; rw [Int.neg_mul, Int.neg_neg]
    · right; rw [Int.mul_neg, Int.neg_neg]
    · left; rfl
  omega
end Go.Proofs.YtgmepohfkpncmaaGreat
namespace Go.Proofs.YtgmepohfkpncmaaGreat
open Go.RowKit

theorem _root_.Go.RowKit.Below.on {w w1 w2 : World} (a : Below w.heap.size w w1) (b : Below w1.heap.size w1 w2) : Below w.heap.size w w2 := a.trans (b.mono a.size)

end Go.Proofs.YtgmepohfkpncmaaGreat
