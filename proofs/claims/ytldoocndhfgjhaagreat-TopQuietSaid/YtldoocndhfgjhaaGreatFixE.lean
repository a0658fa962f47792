/- Chapter 01: numbers with a point that stands still: the leaves. -/
import Derived.Test.YtldoocndhfgjhaaGreatOwn
import Derived.BigQuiet
import Derived.Deep.QuietTactic
import Derived.Outline
import Derived.Handy
import Derived.WalkLawsBesides
import Derived.Deep.RegionWith
namespace Go.Proofs.YtldoocndhfgjhaaGreat
open Go.RowKit

/-! ### The plain words -/
def absP (n : Int) : Int := if n < 0 then -n else n
theorem absP_bd (n : Int) (h : -9223372036854775808 ≤ n ∧ n ≤ 9223372036854775807) : 0 ≤ absP n ∧ absP n ≤ 9223372036854775808 := by unfold absP; split <;> omega
/-- A number by another one: the nearest whole number, away from 0 where two are as near, cut. -/
def overP (n d : Int) : Int :=
  if d = 0 then 0 else
    if n < 0 then (if d < 0 then min ((2 * absP n + absP d) / (2 * absP d)) 9223372036854775807 else -((2 * absP n + absP d) / (2 * absP d)))
    else (if d < 0 then -((2 * absP n + absP d) / (2 * absP d)) else min ((2 * absP n + absP d) / (2 * absP d)) 9223372036854775807)
theorem half_up (a b : Nat) (hb : 0 < b) : (2 * a + b) / (2 * b) = a / b + if b ≤ 2 * (a % b) then 1 else 0 := by
  have h1 := Nat.div_add_mod a b
  have h2 := Nat.mod_lt a hb
  generalize a / b = q at *
  generalize a % b = r at *
  subst h1
  have e : 2 * (b * q + r) + b = (2 * r + b) + 2 * b * q := by rw [Nat.mul_add, Nat.mul_assoc]; omega
  rw [e, Nat.add_mul_div_left _ _ (by omega)]
  split
  · have : (2 * r + b) / (2 * b) = 1 := by
      rw [Nat.div_eq_iff (by omega)]; omega
    omega
  · have : (2 * r + b) / (2 * b) = 0 := Nat.div_eq_of_lt (by omega)
    omega
theorem half_upZ (a b : Nat) (hb : 0 < b) : (2 * (a : Int) + b) / (2 * b) = ((a / b : Nat) : Int) + if (b : Int) ≤ 2 * ((a % b : Nat) : Int) then 1 else 0 := by
  have h := half_up a b hb
  have e : (2 * (a : Int) + b) / (2 * b) = (((2 * a + b) / (2 * b) : Nat) : Int) := by simp
  rw [e, h]
  split <;> split <;> omega

/-- The sign of a number: 1, or -1. -/
def sgnP (n : Int) : Int := if n < 0 then -1 else 1
theorem over_facts (n d : Int) (hn : -9223372036854775808 ≤ n ∧ n ≤ 9223372036854775807) (hd : -9223372036854775808 ≤ d ∧ d ≤ 9223372036854775807) (h0 : d ≠ 0) (h1 : ¬ (d = -1 ∧ n = -9223372036854775808)) :
    -9223372036854775808 ≤ n.tdiv d ∧ n.tdiv d ≤ 9223372036854775807 ∧ 2 * absP (n.tmod d) ≤ 18446744073709551615 ∧ -9223372036854775807 ≤ n.tmod d ∧ n.tmod d ≤ 9223372036854775807 ∧
      ((absP d ≤ 2 * absP (n.tmod d) ∧ n.tmod d ≠ 0) → overP n d = n.tdiv d + sgnP n * sgnP d ∧ -9223372036854775808 ≤ n.tdiv d + sgnP n * sgnP d ∧ n.tdiv d + sgnP n * sgnP d ≤ 9223372036854775807) ∧
      (¬ (absP d ≤ 2 * absP (n.tmod d) ∧ n.tmod d ≠ 0) → overP n d = n.tdiv d) := by
  obtain ⟨a, ha⟩ : ∃ a : Nat, n = a ∨ (n = -(a : Int) ∧ 0 < a) := by
    rcases Int.lt_or_le n 0 with h | h
    · exact ⟨n.natAbs, .inr ⟨by omega, by omega⟩⟩
    · exact ⟨n.natAbs, .inl (by omega)⟩
  obtain ⟨b, hb⟩ : ∃ b : Nat, (d = b ∨ d = -(b : Int)) ∧ 0 < b := by
    rcases Int.lt_or_le d 0 with h | h
    · exact ⟨d.natAbs, .inr (by omega), by omega⟩
    · exact ⟨d.natAbs, .inl (by omega), by omega⟩
  obtain ⟨hb, hb0⟩ := hb
  have hu := half_upZ a b hb0
  have ea : absP n = a := by unfold absP; rcases ha with h | ⟨h, _⟩ <;> split <;> omega
  have eb : absP d = b := by unfold absP; rcases hb with h | h <;> split <;> omega
  have hq1 : ((a / b : Nat) : Int) ≤ a := by exact_mod_cast Nat.div_le_self a b
  have hm := Nat.mod_lt a hb0
  have hdm : (b : Int) * ((a / b : Nat) : Int) + ((a % b : Nat) : Int) = a := by rw [← Int.natCast_mul, ← Int.natCast_add, Nat.div_add_mod]
  have hq2 : 2 ≤ b → 2 * ((a / b : Nat) : Int) ≤ a := by
    intro h2
    have hr0 : 0 ≤ ((a % b : Nat) : Int) := Int.natCast_nonneg _
    have h3 : 2 * ((a / b : Nat) : Int) ≤ (b : Int) * ((a / b : Nat) : Int) := Int.mul_le_mul_of_nonneg_right (by omega) (Int.natCast_nonneg _)
    omega
  have hz : ((a / b : Nat) : Int) = 0 → a < b := by
    intro h
    rw [h] at hdm
    have : ((a % b : Nat) : Int) = a := by omega
    omega
  have tq : n.tdiv d = if n < 0 then (if d < 0 then ((a / b : Nat) : Int) else -((a / b : Nat) : Int)) else (if d < 0 then -((a / b : Nat) : Int) else ((a / b : Nat) : Int)) := by
    rcases ha with rfl | ⟨rfl, ha0⟩ <;> rcases hb with rfl | rfl
    · rw [if_neg (by omega), if_neg (by omega)]; rfl
    · rw [if_neg (by omega), if_pos (by omega), Int.tdiv_neg]; rfl
    · rw [if_pos (by omega), if_neg (by omega), Int.neg_tdiv]; rfl
    · rw [if_pos (by omega), if_pos (by omega), Int.tdiv_neg, Int.neg_tdiv, Int.neg_neg]; rfl
  have tr : n.tmod d = if n < 0 then -((a % b : Nat) : Int) else ((a % b : Nat) : Int) := by
    rcases ha with rfl | ⟨rfl, ha0⟩ <;> rcases hb with rfl | rfl
    · rw [if_neg (by omega)]; rfl
    · rw [if_neg (by omega), Int.tmod_neg]; rfl
    · rw [if_pos (by omega), Int.neg_tmod]; rfl
    · rw [if_pos (by omega), Int.tmod_neg, Int.neg_tmod]; rfl
  have er : absP (n.tmod d) = ((a % b : Nat) : Int) := by rw [tr]; unfold absP; split <;> split <;> omega
  rw [er, tq, tr, eb]
  unfold overP sgnP
  rw [if_neg h0, ea, eb, hu]
  generalize hQ : ((a / b : Nat) : Int) = q at *
  generalize hR : ((a % b : Nat) : Int) = r at *
  have hr0 : 0 ≤ r := by omega
  have hrb : r < b := by omega
  have hq0 : 0 ≤ q := by
    rcases Int.lt_or_le q 0 with h | h
    · have : (b : Int) * q ≤ (b : Int) * (-1) := Int.mul_le_mul_of_nonneg_left (by omega) (by omega)
      omega
    · exact h
  have hb1 : b = 1 → r = 0 := by omega
  have hbig : q ≤ 9223372036854775807 ∨ (a = 9223372036854775808 ∧ b = 1) := by
    rcases Nat.lt_or_ge b 2 with h | h
    · have : b = 1 := by omega
      subst this
      omega
    · have := hq2 h; omega
  clear hdm hz hR hQ hm tq tr er hu ea eb
  rcases ha with rfl | ⟨rfl, ha0⟩
  · have hN : ¬ (a : Int) < 0 := by omega
    rcases hb with rfl | rfl
    · have hD : ¬ (b : Int) < 0 := by omega
      by_cases hg : (b : Int) ≤ 2 * r ∧ r ≠ 0
      · have hbr := hg.1
        simp only [if_neg hN, if_neg hD, if_pos hbr]
        exact ⟨by omega, by omega, by omega, by omega, by omega, fun _ => ⟨by omega, by omega, by omega⟩, fun h => absurd ⟨hg.1, by omega⟩ h⟩
      · have hbr : ¬ (b : Int) ≤ 2 * r := fun h => hg ⟨h, by omega⟩
        simp only [if_neg hN, if_neg hD, if_neg hbr]
        exact ⟨by omega, by omega, by omega, by omega, by omega, fun h => absurd h.1 hbr, fun _ => by omega⟩
    · have hD : -(b : Int) < 0 := by omega
      by_cases hg : (b : Int) ≤ 2 * r ∧ r ≠ 0
      · have hbr := hg.1
        simp only [if_neg hN, if_pos hD, if_pos hbr]
        exact ⟨by omega, by omega, by omega, by omega, by omega, fun _ => ⟨by omega, by omega, by omega⟩, fun h => absurd ⟨hg.1, by omega⟩ h⟩
      · have hbr : ¬ (b : Int) ≤ 2 * r := fun h => hg ⟨h, by omega⟩
        simp only [if_neg hN, if_pos hD, if_neg hbr]
        exact ⟨by omega, by omega, by omega, by omega, by omega, fun h => absurd h.1 hbr, fun _ => by omega⟩
  · have hN : -(a : Int) < 0 := by omega
    rcases hb with rfl | rfl
    · have hD : ¬ (b : Int) < 0 := by omega
      by_cases hg : (b : Int) ≤ 2 * r ∧ r ≠ 0
      · have hbr := hg.1
        simp only [if_pos hN, if_neg hD, if_pos hbr]
        exact ⟨by omega, by omega, by omega, by omega, by omega, fun _ => ⟨by omega, by omega, by omega⟩, fun h => absurd ⟨hg.1, by omega⟩ h⟩
      · have hbr : ¬ (b : Int) ≤ 2 * r := fun h => hg ⟨h, by omega⟩
        simp only [if_pos hN, if_neg hD, if_neg hbr]
        exact ⟨by omega, by omega, by omega, by omega, by omega, fun h => absurd h.1 hbr, fun _ => by omega⟩
    · have hD : -(b : Int) < 0 := by omega
      by_cases hg : (b : Int) ≤ 2 * r ∧ r ≠ 0
      · have hbr := hg.1
        simp only [if_pos hN, if_pos hD, if_pos hbr]
        exact ⟨by omega, by omega, by omega, by omega, by omega, fun _ => ⟨by omega, by omega, by omega⟩, fun h => absurd ⟨hg.1, by omega⟩ h⟩
      · have hbr : ¬ (b : Int) ≤ 2 * r := fun h => hg ⟨h, by omega⟩
        simp only [if_pos hN, if_pos hD, if_neg hbr]
        exact ⟨by omega, by omega, by omega, by omega, by omega, fun h => absurd h.1 hbr, fun _ => by omega⟩
end Go.Proofs.YtldoocndhfgjhaaGreat
namespace Go.Proofs.YtldoocndhfgjhaaGreat
open Go.RowKit

def I64 (n : Int) : Prop := -9223372036854775808 ≤ n ∧ n ≤ 9223372036854775807
def I32 (n : Int) : Prop := -2147483648 ≤ n ∧ n ≤ 2147483647

theorem fx_size (n : Int) (w : World) (h : I64 n) :
    Calls Tryz.prog 191 #[.int .i64 n] w fun e w' => e = .returned (.int .u64 (absP n)) ∧ w = w' := by
  obtain ⟨h0, h1⟩ := h
  by_cases g : n < 0
  · have H : Hid (IntKind.u64.wrap (-IntKind.u64.wrap n) = absP n) := by show _ = _; unfold absP; rw [if_pos g, IntKind.wrap_u64, IntKind.wrap_u64]; omega
    go_enter Tryz.func191, Tryz.ntmps191
    go_wp2
    go_ret
    exact ⟨by rw [← H.out]; rfl, rfl⟩
  · have H : Hid (n = absP n) := by show _ = _; unfold absP; rw [if_neg g]
    go_enter Tryz.func191, Tryz.ntmps191
    go_wp2
    go_ret
    exact ⟨by rw [← H.out]; rfl, rfl⟩
theorem fx_sign (n : Int) (w : World) :
    Calls Tryz.prog 192 #[.int .i64 n] w fun e w' => e = .returned (.int .i64 (sgnP n)) ∧ w = w' := by
  by_cases g : n < 0
  · have H : Hid (-1 = sgnP n) := by show _ = _; unfold sgnP; rw [if_pos g]
    go_enter Tryz.func192, Tryz.ntmps192
    go_wp2
    go_ret
    exact ⟨by rw [← H.out]; rfl, rfl⟩
  · have H : Hid (1 = sgnP n) := by show _ = _; unfold sgnP; rw [if_neg g]
    go_enter Tryz.func192, Tryz.ntmps192
    go_wp2
    go_ret
    exact ⟨by rw [← H.out]; rfl, rfl⟩
theorem sgn_mul (n d : Int) : -1 ≤ sgnP n * sgnP d ∧ sgnP n * sgnP d ≤ 1 := by
  unfold sgnP; split <;> split <;> omega

theorem fx_Over (n d : Int) (w : World) (hn : I64 n) (hd : I64 d) :
    Calls Tryz.prog 159 #[.int .i64 n, .int .i64 d] w fun e w' => e = .returned (.int .i64 (overP n d)) ∧ Below w.heap.size w w' := by
  by_cases h0 : d = 0
  · have H : Hid (0 = overP n d) := by show _ = _; unfold overP; rw [if_pos h0]
    have g : (d == 0) = true := by simpa using h0
    clear h0
    go_enter Tryz.func159, Tryz.ntmps159
    go_wp2
    go_ret
    exact ⟨by rw [← H.out]; rfl, Below.refl _ _⟩
  have g0 : (d == 0) = false := by simpa using h0
  by_cases h1 : d = -1 ∧ n = -9223372036854775808
  · have H : Hid (9223372036854775807 = overP n d) := by
      show _ = _
      unfold overP absP
      rw [if_neg h0, h1.1, h1.2]; decide
    have g1 : (d == -1) = true := by simpa using h1.1
    have g2 : (n == -9223372036854775808) = true := by simpa using h1.2
    clear h0 h1
    go_enter Tryz.func159, Tryz.ntmps159
    go_wp2
    go_ret
    exact ⟨by rw [← H.out]; rfl, Below.refl _ _⟩
  have hf := over_facts n d hn hd h0 h1
  have hc : (d == -1) = false ∨ ((d == -1) = true ∧ (n == -9223372036854775808) = false) := by
    by_cases g : d = -1
    · exact .inr ⟨by simpa using g, by simp; exact fun h => h1 ⟨g, h⟩⟩
    · exact .inl (by simpa using g)
  have hbd := absP_bd d hd
  have hs := sgn_mul n d
  obtain ⟨f1, f2, f3, f4, f5, f6, f7⟩ := hf
  have e1 : IntKind.i64.wrap (n.tdiv d) = n.tdiv d := IntWalk.i64_in _ ⟨f1, f2⟩
  generalize hq : n.tdiv d = q at *
  generalize hr : n.tmod d = r at *
  have HR := hid hr
  have hra := absP_bd r (by unfold I64 at *; omega)
  have hr64 : I64 r := ⟨by omega, by omega⟩
  have S1 := fun w => fx_size r w hr64
  have S2 := fun w => fx_size d w hd
  have S3 := fx_sign n
  have S4 := fx_sign d
  generalize ho : overP n d = o at *
  have HO := hid ho
  generalize absP r = ar at *
  generalize absP d = ad at *
  have F6 := hid f6
  have F7 := hid f7
  have HS1 := hid S1
  have HS2 := hid S2
  have HS3 := hid S3
  have HS4 := hid S4
  clear f6 f7 S1 S2 S3 S4 h1 ho
  obtain ⟨hs1, hs2⟩ := hs
  by_cases k1 : ad ≤ 2 * ar
  · by_cases k2 : r = 0
    · have hres := F7.out (fun h => h.2 k2)
      have HRES := hid hres
      have k2' : (r != 0) = false := by simpa using k2
      clear k2 hres
      rcases hc with g1 | ⟨g1, g2⟩
      all_goals
        go_enter Tryz.func159, Tryz.ntmps159
        go_wp2_with fail
        go_quiet (fail)
        go_wp2_with (first
          | (go_at_call_of 191 (Value.int IntKind.i64 r); refine (HS1.out _).mono ?_; rintro e w' ⟨rfl, rfl⟩)
          | (go_at_call_of 191 (Value.int IntKind.i64 d); refine (HS2.out _).mono ?_; rintro e w' ⟨rfl, rfl⟩))
        go_ret
        exact ⟨by rw [HRES.out]; rfl, (Below.refl _ _).drewN' _⟩
    · have hres := F6.out ⟨k1, k2⟩
      obtain ⟨hres, hr1, hr2⟩ := hres
      have HRES := hid hres
      have k2' : (r != 0) = true := by simpa using k2
      clear k2 hres
      rcases hc with g1 | ⟨g1, g2⟩
      all_goals
        go_enter Tryz.func159, Tryz.ntmps159
        go_wp2_with fail
        go_quiet (fail)
        go_wp2_with (first
          | (go_at_call_of 191 (Value.int IntKind.i64 r); refine (HS1.out _).mono ?_; rintro e w' ⟨rfl, rfl⟩)
          | (go_at_call_of 191 (Value.int IntKind.i64 d); refine (HS2.out _).mono ?_; rintro e w' ⟨rfl, rfl⟩)
          | (go_at_call_of 192 (Value.int IntKind.i64 n); refine (HS3.out _).mono ?_; rintro e w' ⟨rfl, rfl⟩)
          | (go_at_call_of 192 (Value.int IntKind.i64 d); refine (HS4.out _).mono ?_; rintro e w' ⟨rfl, rfl⟩))
        go_ret
        exact ⟨by rw [HRES.out]; rfl, (Below.refl _ _).drewN' _⟩
  · have hres := F7.out (fun h => k1 h.1)
    have HRES := hid hres
    clear hres
    rcases hc with g1 | ⟨g1, g2⟩
    all_goals
      go_enter Tryz.func159, Tryz.ntmps159
      go_wp2_with fail
      go_quiet (fail)
      go_wp2_with (first
        | (go_at_call_of 191 (Value.int IntKind.i64 r); refine (HS1.out _).mono ?_; rintro e w' ⟨rfl, rfl⟩)
        | (go_at_call_of 191 (Value.int IntKind.i64 d); refine (HS2.out _).mono ?_; rintro e w' ⟨rfl, rfl⟩))
      go_ret
      exact ⟨by rw [HRES.out]; rfl, (Below.refl _ _).drewN' _⟩

end Go.Proofs.YtldoocndhfgjhaaGreat
namespace Go.Proofs.YtldoocndhfgjhaaGreat
open Go.RowKit

end Go.Proofs.YtldoocndhfgjhaaGreat
namespace Go.Proofs.YtldoocndhfgjhaaGreat
open Go.RowKit

end Go.Proofs.YtldoocndhfgjhaaGreat
namespace Go.Proofs.YtldoocndhfgjhaaGreat
open Go.RowKit

theorem _root_.Go.RowKit.Below.on {w w1 w2 : World} (a : Below w.heap.size w w1) (b : Below w1.heap.size w1 w2) : Below w.heap.size w w2 := a.trans (b.mono a.size)

end Go.Proofs.YtldoocndhfgjhaaGreat
