/- Chapter 02: the walks of the roots. -/
import Derived.Test.YtfogjfmpgfcolaaRoot
namespace Go.Proofs.Ytfogjfmpgfcolaa
open Go.RowKit

theorem root_above (n : Int) (w : World) (h0 : 0 < n) (h1 : n ≤ 18446744073709551615) :
    Calls Try.prog 99 #[.int .u64 n] w fun e w' => ∃ R : Int, 2 ≤ R ∧ R ≤ 4294967296 ∧ rootP n ≤ R ∧ e = .returned (.int .u64 R) ∧ w = w' := by
  obtain ⟨m, m1, m2, l1, l2, l3⟩ := above_facts n h0 h1
  have H1 := hid (lib_Len64 n w (by omega) h1)
  have hp := pow_le32 m m2
  have hp2 : 2 ≤ (2 : Int) ^ m := by
    obtain ⟨k, rfl⟩ : ∃ k, m = k + 1 := ⟨m - 1, by omega⟩
    have := pow_le32 k (by omega)
    rw [Int.pow_succ]; omega
  have HL := hid l3
  have l0 : (0 : Int) ≤ ((Lib.bitLen n.toNat : Nat) : Int) := Int.natCast_nonneg _
  clear l3
  generalize ((Lib.bitLen n.toNat : Nat) : Int) = L at *
  have l2' : (L + 1).tdiv 2 = (m : Int) := by rw [Int.tdiv_eq_ediv_of_nonneg (by omega)]; exact l2
  go_enter Try.func99, Try.ntmps99
  go_wp2_with fail
  refine (H1.out).mono ?_
  rintro e w' ⟨rfl, rfl⟩
  go_wp2
  go_ret
  exact ⟨2 ^ m, hp2, hp.2, HL.out, rfl, rfl⟩

theorem root_Sqrt (n : Int) (w : World) (h0 : 0 ≤ n) (h1 : n ≤ 18446744073709551615) :
    Calls Try.prog 72 #[.int .u64 n] w fun e w' => e = .returned (.int .u32 (rootP n)) ∧ w = w' := by
  by_cases g : n = 0
  · subst g
    have H : Hid (rootP 0 = 0) := by show _ = _; decide +kernel
    go_enter Try.func72, Try.ntmps72
    go_wp2
    go_step3
    go_wp2
    rw [Exit.noGoto_ret]
    go_ret
    exact ⟨by rw [H.out]; rfl, rfl⟩
  have g' : (n == 0) = false := by simpa using g
  have H1 := hid fun w => root_above n w (by omega) h1
  have hn : 0 < n := by omega
  have HN := hid fun r hr => newton n r hn hr
  obtain ⟨hb1, hb2⟩ := root_bd n h0 h1
  generalize rootP n = s at *
  clear g
  go_enter Try.func72, Try.ntmps72
  go_wp2
  go_step3
  go_wp2_with fail
  refine (H1.out _).mono ?_
  rintro e w' ⟨R, r1, r2, r3, rfl, rfl⟩
  go_wp2
  go_step3
  go_wp2
  go_loop [3] (fun r => ∃ q : Int, s ≤ q ∧ q ≤ 4294967296 ∧ r = .int .u64 q) (fun r => (intOf r).toNat)
  case atStart => exact ⟨R, r3, r2, rfl⟩
  case round =>
    obtain ⟨q, q1, q2, rfl⟩ := hrel
    obtain ⟨a1, a2, a3, a4, a5, a6⟩ := HN.out q q1
    have HE := hid a6
    clear a6
    have a0 : (q == 0) = false := by simp; omega
    generalize ht : n / q = t at *
    by_cases gq : q ≤ (q + t) / 2
    · have he : Hid (q % 4294967296 = s) := by
        have := HE.out gq
        show _ = _
        omega
      have gq' : decide (q ≤ (q + t) / 2) = true := by simpa using gq
      go_wp2
      go_ret
      exact ⟨by rw [he.out]; rfl, rfl⟩
    · have gq' : decide (q ≤ (q + t) / 2) = false := by simpa using gq
      go_wp2
      go_round
      case rel => exact ⟨(q + t) / 2, by omega, by omega, rfl⟩
      case measure => simp [intOf]; omega
end Go.Proofs.Ytfogjfmpgfcolaa
