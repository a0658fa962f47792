/- Chapter 08: does a number fit; what the reference says of bits. -/
import Derived.Test.YtfogjfmpgfcolaaBitsE
namespace Go.Proofs.Ytfogjfmpgfcolaa
open Go.RowKit
set_option linter.unusedVariables false
set_option linter.unusedSimpArgs false

theorem fit_law (i : Int) (N : Nat) (hi : -2147483648 ≤ i ∧ i ≤ 2147483647) (h1 : 1 ≤ N) (h2 : N ≤ 32) :
    (signP (i % 4294967296) N == i) = (decide (i < 2 ^ (N - 1)) && decide (-(2 ^ (N - 1)) ≤ i)) := by
  obtain ⟨L, hL⟩ : ∃ L : Nat, N + L = 32 := ⟨32 - N, by omega⟩
  obtain ⟨e1, e2, e3⟩ := sign_parts N L hL h1
  have hN : (0 : Int) < 2 ^ N := Int.pow_pos (by omega)
  have hd : (2 : Int) ^ N ∣ 4294967296 := ⟨2 ^ L, by rw [e1, Int.mul_comm]⟩
  have hm : i % 4294967296 % 2 ^ N = i % 2 ^ N := Int.emod_emod_of_dvd _ hd
  have hx0 := Int.emod_nonneg i (show (2 : Int) ^ N ≠ 0 by omega)
  have hx1 := Int.emod_lt_of_pos i hN
  have hS : signP (i % 4294967296) N = if 2 ^ (N - 1) ≤ i % 2 ^ N then i % 2 ^ N - 2 ^ N else i % 2 ^ N := by
    unfold signP
    rw [if_neg (by omega)]; simp [hm]
  rw [hS]
  by_cases g : -(2 ^ (N - 1)) ≤ i ∧ i < 2 ^ (N - 1)
  · have t1 : decide (i < 2 ^ (N - 1)) = true := by simpa using g.2
    have t2 : decide (-(2 ^ (N - 1)) ≤ i) = true := by simpa using g.1
    rw [t1, t2]
    rcases Int.lt_or_le i 0 with h | h
    · have e : i % 2 ^ N = i + 2 ^ N := by
        rw [← Int.add_emod_right]; exact Int.emod_eq_of_lt (by omega) (by omega)
      rw [e, if_pos (by omega)]
      simp
    · have e : i % 2 ^ N = i := Int.emod_eq_of_lt h (by omega)
      rw [e, if_neg (by omega)]
      simp
  · have : (decide (i < 2 ^ (N - 1)) && decide (-(2 ^ (N - 1)) ≤ i)) = false := by simp; omega
    rw [this]
    simp only [beq_eq_false_iff_ne, ne_eq]
    split <;> omega

theorem r8_place (a n : Int) (w : World) :
    Calls Try.prog 118 #[.int .i64 a, .int .i64 n] w fun e w' => e = .returned (.bool (placeB a n)) ∧ w = w' := by
  have HB : Hid (placeB a n = (decide (1 ≤ n) && decide (n ≤ 32) && decide (0 ≤ a) && decide (a ≤ 32 - n))) := rfl
  by_cases g1 : 1 ≤ n
  · have d1 : decide (1 ≤ n) = true := by simpa using g1
    by_cases g2 : n ≤ 32
    · have d2 : decide (n ≤ 32) = true := by simpa using g2
      have u1 : IntKind.i64.wrap (32 - n) = 32 - n := IntWalk.i64_in _ (by omega)
      by_cases g3 : 0 ≤ a
      · have d3 : decide (0 ≤ a) = true := by simpa using g3
        go_enter Try.func118, Try.ntmps118
        go_wp2
        go_ret
        exact ⟨by rw [HB.out, d1, d2, d3]; simp, rfl⟩
      · have d3 : decide (0 ≤ a) = false := by simpa using g3
        go_enter Try.func118, Try.ntmps118
        go_wp2
        go_ret
        exact ⟨by rw [HB.out, d1, d2, d3]; simp, rfl⟩
    · have d2 : decide (n ≤ 32) = false := by simpa using g2
      go_enter Try.func118, Try.ntmps118
      go_wp2
      go_ret
      exact ⟨by rw [HB.out, d1, d2]; simp, rfl⟩
  · have d1 : decide (1 ≤ n) = false := by simpa using g1
    go_enter Try.func118, Try.ntmps118
    go_wp2
    go_ret
    exact ⟨by rw [HB.out, d1]; simp, rfl⟩


theorem r8_Power (N : Nat) (w : World) (hN : N ≤ 32) :
    Calls Try.prog 96 #[.int .i64 N] w fun e w' => e = .returned (.int .u64 (2 ^ N)) ∧ w = w' := by
  go_enter Try.func96, Try.ntmps96
  go_wp2
  go_loop [3, 4] (fun p i => ∃ j : Nat, j ≤ N ∧ i = .int .i64 j ∧ p = .int .u64 (2 ^ j)) (fun _ i => N - (intOf i).toNat)
  case atStart => exact ⟨0, by omega, rfl, rfl⟩
  case round =>
    obtain ⟨j, hj, rfl, rfl⟩ := hrel
    by_cases g : j < N
    · obtain ⟨p1, p2⟩ := pow_bd j (by omega)
      have e : (2 : Int) ^ (j + 1) = 2 * 2 ^ j := by rw [Int.pow_succ, Int.mul_comm]
      have E := hid e
      clear e
      generalize (2 : Int) ^ j = P at *
      have u1 : IntKind.u64.wrap (2 * P) = 2 * P := IntWalk.u64_in _ (by omega)
      have ej : IntKind.i64.wrap ((j : Int) + 1) = ((j + 1 : Nat) : Int) := (IntWalk.i64_in _ (by omega)).trans (by omega)
      have mj : N - (j + 1) < N - j := by omega
      go_wp2
      go_round
      case rel => exact ⟨j + 1, by omega, rfl, by rw [E.out]⟩
      case measure => simpa [intOf] using mj
    · obtain rfl : j = N := by omega
      go_wp2
      go_ret
      exact ⟨rfl, rfl⟩

theorem r8_Get (u a n : Int) (w : World) (hu : 0 ≤ u ∧ u ≤ 4294967295) :
    Calls Try.prog 100 #[.int .u32 u, .int .i64 a, .int .i64 n] w fun e w' => e = .returned (.int .u32 (getP u a n)) ∧ Below w.heap.size w w' := by
  have HP := hid fun w => r8_place a n w
  have HG : Hid (getP u a n = if placeB a n = true then u / 2 ^ a.toNat % 2 ^ n.toNat else 0) := rfl
  cases hB : placeB a n
  · rw [hB] at HP HG
    clear hB hu
    go_enter Try.func100, Try.ntmps100
    go_wp2_with fail
    refine (HP.out _).mono ?_
    rintro e w' ⟨rfl, rfl⟩
    go_wp2
    go_ret
    exact ⟨by rw [HG.out]; rfl, Below.refl _ w⟩
  · obtain ⟨A, N, rfl, rfl, h1, h2⟩ := place_yes a n hB
    rw [hB] at HP HG
    have HA := hid fun w => r8_Power A w (by omega)
    have HN := hid fun w => r8_Power N w (by omega)
    obtain ⟨p1, p2⟩ := pow_bd N (by omega)
    obtain ⟨q1, q2⟩ := pow_bd A (by omega)
    have x0 : 0 ≤ u / 2 ^ A := Int.ediv_nonneg hu.1 (by omega)
    have x1 : u / 2 ^ A ≤ u := Int.ediv_le_self _ hu.1
    have r0 : 0 ≤ u / 2 ^ A % 2 ^ N := Int.emod_nonneg _ (by omega)
    have r1 : u / 2 ^ A % 2 ^ N ≤ u / 2 ^ A := by
      rcases Int.lt_or_le (u / 2 ^ A) (2 ^ N) with h | h
      · rw [Int.emod_eq_of_lt x0 h]; exact Int.le_refl _
      · have := Int.emod_lt_of_pos (u / 2 ^ A) (show (0 : Int) < 2 ^ N by omega); omega
    have HG2 : Hid (getP u A N = u / 2 ^ A % 2 ^ N) := hid (by rw [HG.out]; simp)
    have k1 : u.tdiv (2 ^ A) = u / 2 ^ A := Int.tdiv_eq_ediv_of_nonneg hu.1
    have k2 : (u / 2 ^ A).tmod (2 ^ N) = u / 2 ^ A % 2 ^ N := Int.tmod_eq_emod_of_nonneg x0
    have uc : IntKind.u64.wrap u = u := IntWalk.u64_in _ (by omega)
    have ur : IntKind.u32.wrap (u / 2 ^ A % 2 ^ N) = u / 2 ^ A % 2 ^ N := IntWalk.u32_in _ (by omega)
    have ux : IntKind.u64.wrap (u / 2 ^ A) = u / 2 ^ A := IntWalk.u64_in _ (by omega)
    have uy : IntKind.u64.wrap (u / 2 ^ A % 2 ^ N) = u / 2 ^ A % 2 ^ N := IntWalk.u64_in _ (by omega)
    have zA : ¬ ((2 : Int) ^ A = 0) := by omega
    have zN : ¬ ((2 : Int) ^ N = 0) := by omega
    generalize hR : u / 2 ^ A % 2 ^ N = R at *
    clear hR
    generalize hX : u / 2 ^ A = X at *
    clear hX
    generalize hP : (2 : Int) ^ N = P at *
    generalize hQ : (2 : Int) ^ A = Q at *
    have hb : Below w.heap.size w w := Below.refl _ w
    clear hB HG hP hQ
    go_enter Try.func100, Try.ntmps100
    go_wp2_with fail
    refine (HP.out _).mono ?_
    rintro e w' ⟨rfl, rfl⟩
    go_wp2
    refine wp_region_noPanic ?_
    refine wp_region_held_drew (S := (fun _ : World => True)) (by kernel_rfl) trivial (fun hHeld => ?_)
    refine (show wpAnyH _ _ _ _ _ 10 _ _ _ from ?_)
    try (simp only [Act.put, List.setIfInBounds_toArray, List.set_cons_zero, List.set_cons_succ])
    replace hb := hb.drew
    generalize w.drew = W1 at *
    refine tk 0 hHeld ?_
    refine tk 1 hHeld ?_
    refine tk 2 hHeld ?_
    refine tk 5 hHeld ?_
    refine rd1 3 (fun K hK => ?_)
    go_simp
    refine (HA.out _).mono ?_
    rintro e w' ⟨rfl, rfl⟩
    go_wp2_with fail
    refine hK.out _ _ trivial (fun hHeld => ?_)
    clear hK K
    try (simp only [Act.put, List.setIfInBounds_toArray, List.set_cons_zero, List.set_cons_succ])
    refine tk 4 hHeld ?_
    refine rd1 6 (fun K hK => ?_)
    go_simp
    refine (HN.out _).mono ?_
    rintro e w' ⟨rfl, rfl⟩
    go_wp2_with fail
    refine hK.out _ _ trivial (fun hHeld => ?_)
    clear hK K
    try (simp only [Act.put, List.setIfInBounds_toArray, List.set_cons_zero, List.set_cons_succ])
    refine tk 7 hHeld ?_
    refine tk 8 hHeld ?_
    refine tk 9 hHeld ?_
    refine wpAnyH_done ?hru4 ?hqu4 _
    case hru4 => kernel_rfl
    refine NoPanic.normal ?_
    go_wp2
    go_ret
    exact ⟨by rw [HG2.out]; rfl, hb⟩
end Go.Proofs.Ytfogjfmpgfcolaa
