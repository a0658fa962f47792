/- Chapter 02: the walks of the reference's roots; the nearest; the squares. -/
import Derived.Test.YtfogjfmpgfcolaaRootB
namespace Go.Proofs.Ytfogjfmpgfcolaa
open Go.RowKit

theorem ref_next (s x y x' : Int) (j : Nat) (hj : j ≤ 31) (hy : y = 2 ^ j) (h1 : s < x + 2 * y) (h2 : x + 2 * y ≤ 4294967296) (h3 : x ≤ s) (h : x' = x + y ∧ x + y ≤ s ∨ x' = x ∧ s < x + y) :
    x' ≤ s ∧ ((y / 2 = 0 ∧ x' = s) ∨ ∃ j : Nat, j ≤ 31 ∧ y / 2 = 2 ^ j ∧ s < x' + 2 * (y / 2) ∧ x' + 2 * (y / 2) ≤ 4294967296) := by
  refine ⟨by omega, ?_⟩
  cases j with
  | zero =>
    rw [Int.pow_zero] at hy
    left
    omega
  | succ k =>
    rw [Int.pow_succ] at hy
    right
    have hk := (pow_le32 k (by omega)).1
    refine ⟨k, by omega, ?_⟩
    generalize (2 : Int) ^ k = p at *
    omega

theorem ref_Sqrt (n : Int) (w : World) (h0 : 0 ≤ n) (h1 : n ≤ 18446744073709551615) :
    Calls Try.prog 74 #[.int .u64 n] w fun e w' => e = .returned (.int .u32 (rootP n)) ∧ w = w' := by
  have HS := hid fun x hx => sq_iff n x h0 hx
  obtain ⟨hb1, hb2⟩ := root_bd n h0 h1
  generalize rootP n = s at *
  go_enter Try.func74, Try.ntmps74
  go_wp2
  go_loop [3, 4] (fun r b => ∃ x y : Int, r = .int .u64 x ∧ b = .int .u64 y ∧ 0 ≤ x ∧ x ≤ s ∧ ((y = 0 ∧ x = s) ∨ ∃ j : Nat, j ≤ 31 ∧ y = 2 ^ j ∧ s < x + 2 * y ∧ x + 2 * y ≤ 4294967296)) (fun _ b => (intOf b).toNat)
  case atStart => exact ⟨0, 2147483648, rfl, rfl, by omega, by omega, .inr ⟨31, by omega, by decide +kernel, by omega, by omega⟩⟩
  case round =>
    obtain ⟨x, y, rfl, rfl, x0, x1, hc⟩ := hrel
    rcases hc with ⟨rfl, rfl⟩ | ⟨j, hj, hy, y1, y2⟩
    · go_wp2
      go_ret
      exact ⟨rfl, rfl⟩
    · have hp := pow_le32 j (by omega)
      rw [← hy] at hp
      obtain ⟨p1, p2⟩ := hp
      have hs := HS.out (x + y) (by omega)
      have hb : 0 ≤ (x + y) * (x + y) ∧ (x + y) * (x + y) ≤ 18446744065119617025 := ⟨sq_nonneg _, by have := sq_le (show 0 ≤ x + y by omega) (show x + y ≤ 4294967295 by omega); omega⟩
      have HX := hid fun x' => ref_next s x y x' j hj hy y1 y2 x1
      generalize hP : (x + y) * (x + y) = P at *
      obtain ⟨b1, b2⟩ := hb
      clear hy
      by_cases g : P ≤ n
      · have HG := hid (HX.out (x + y) (.inl ⟨rfl, hs.1 g⟩))
        clear hs
        go_wp2
        go_round
        case rel => exact ⟨x + y, y / 2, rfl, rfl, by omega, HG.out.1, HG.out.2⟩
        case measure => simp [intOf]; omega
      · have HG := hid (HX.out x (.inr ⟨rfl, by
          rcases Int.lt_or_le s (x + y) with h | h
          · exact h
          · exact absurd (hs.2 h) g⟩))
        clear hs
        go_wp2
        go_round
        case rel => exact ⟨x, y / 2, rfl, rfl, by omega, HG.out.1, HG.out.2⟩
        case measure => simp [intOf]; omega

/-- The nearest whole number to the root. -/
def nearP (n : Int) : Int := if rootP n < n - rootP n * rootP n then rootP n + 1 else rootP n
theorem near_eq {n v : Int} (h : v = if rootP n < n - rootP n * rootP n then rootP n + 1 else rootP n) : Ending.returned (.int .u64 v) = .returned (.int .u64 (nearP n)) := by rw [h]; rfl

end Go.Proofs.Ytfogjfmpgfcolaa
