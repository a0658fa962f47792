/- Chapter 08: what the reference says of bits: put, with a sign, does it fit. -/
import Derived.Test.YtbhfidneijogfaaBitsF
import Derived.Deep.CutRange
namespace Go.Proofs.Ytbhfidneijogfaa
open Go.RowKit
set_option linter.unusedVariables false
set_option linter.unusedSimpArgs false

set_option maxHeartbeats 4000000 in
theorem r8_Put (u a n v : Int) (w : World) (hu : 0 ≤ u ∧ u ≤ 4294967295) (hv : 0 ≤ v ∧ v ≤ 4294967295) :
    Calls Try.prog 25 #[.int .u32 u, .int .i64 a, .int .i64 n, .int .u32 v] w fun e w' => e = .returned (.tuple #[.int .u32 (putV u a n v), .bool (putB a n v)]) ∧ Below w.heap.size w w' := by
  have HP := hid fun w => r8_place a n w
  have HB : Hid (putB a n v = (placeB a n && decide (v < 2 ^ n.toNat))) := rfl
  have HV : Hid (putV u a n v = if putB a n v = true then 2 ^ (a.toNat + n.toNat) * (u / 2 ^ (a.toNat + n.toNat)) + v * 2 ^ a.toNat + u % 2 ^ a.toNat else 0) := rfl
  have uv : IntKind.u64.wrap v = v := IntWalk.u64_in _ (by omega)
  cases hB : placeB a n
  · rw [hB] at HP HB
    have e1 : putB a n v = false := by rw [HB.out]; rfl
    have e2 : putV u a n v = 0 := by rw [HV.out, e1]; rfl
    have E := hid (And.intro e1 e2)
    clear hB hu hv HB HV e1 e2
    go_enter Try.func25, Try.ntmps25
    go_wp2_with fail
    refine (HP.out _).mono ?_
    rintro e w' ⟨rfl, rfl⟩
    go_wp2
    go_ret2
    exact ⟨by rw [E.out.1, E.out.2]; rfl, Below.refl _ w⟩
  · obtain ⟨A, N, rfl, rfl, h1, h2⟩ := place_yes a n hB
    rw [hB] at HP HB
    have HN := hid fun w => r8_Power N w (by omega)
    have HA := hid fun w => r8_Power A w (by omega)
    have HAN := hid fun w => r8_Power (A + N) w (by omega)
    obtain ⟨p1, p2⟩ := pow_bd N (by omega)
    obtain ⟨q1, q2⟩ := pow_bd A (by omega)
    obtain ⟨s1, s2⟩ := pow_bd (A + N) (by omega)
    by_cases g : v < 2 ^ N
    · have e1 : putB A N v = true := by rw [HB.out]; simpa using g
      have e2 : putV u A N v = u / 2 ^ (A + N) * 2 ^ (A + N) + v * 2 ^ A + u % 2 ^ A := by rw [HV.out, e1]; simp [Int.mul_comm]
      obtain ⟨_, y1, y2, r1, r2, hh, hl, c1, c2⟩ := int_put u v A N hu ⟨hv.1, g⟩ (by omega)
      rw [Int.mul_comm ((2 : Int) ^ (A + N))] at r1 r2 hh c1 c2
      have E := hid (And.intro e1 e2)
      have dg : decide (2 ^ N ≤ v) = false := by simpa using g
      clear hB HB HV e1 e2
      have x0 : 0 ≤ u / 2 ^ (A + N) := Int.ediv_nonneg hu.1 (by omega)
      have x1 : u / 2 ^ (A + N) ≤ u := Int.ediv_le_self _ hu.1
      have k1 : u.tdiv (2 ^ (A + N)) = u / 2 ^ (A + N) := Int.tdiv_eq_ediv_of_nonneg hu.1
      have k2 : u.tmod (2 ^ A) = u % 2 ^ A := Int.tmod_eq_emod_of_nonneg hu.1
      have uc : IntKind.u64.wrap u = u := IntWalk.u64_in _ (by omega)
      have ux : IntKind.u64.wrap (u / 2 ^ (A + N)) = u / 2 ^ (A + N) := IntWalk.u64_in _ (by omega)
      have uh : IntKind.u64.wrap (u / 2 ^ (A + N) * 2 ^ (A + N)) = u / 2 ^ (A + N) * 2 ^ (A + N) := IntWalk.u64_in _ (by omega)
      have ul : IntKind.u64.wrap (u % 2 ^ A) = u % 2 ^ A := IntWalk.u64_in _ (by omega)
      have uy : IntKind.u64.wrap (v * 2 ^ A) = v * 2 ^ A := IntWalk.u64_in _ (by omega)
      have us : IntKind.u64.wrap (u / 2 ^ (A + N) * 2 ^ (A + N) + v * 2 ^ A) = u / 2 ^ (A + N) * 2 ^ (A + N) + v * 2 ^ A := IntWalk.u64_in _ (by omega)
      have ut : IntKind.u64.wrap (u / 2 ^ (A + N) * 2 ^ (A + N) + v * 2 ^ A + u % 2 ^ A) = u / 2 ^ (A + N) * 2 ^ (A + N) + v * 2 ^ A + u % 2 ^ A := IntWalk.u64_in _ (by omega)
      have ur : IntKind.u32.wrap (u / 2 ^ (A + N) * 2 ^ (A + N) + v * 2 ^ A + u % 2 ^ A) = u / 2 ^ (A + N) * 2 ^ (A + N) + v * 2 ^ A + u % 2 ^ A := IntWalk.u32_in _ (by omega)
      have ua : IntKind.i64.wrap ((A : Int) + N) = ((A + N : Nat) : Int) := (IntWalk.i64_in _ (by omega)).trans (by omega)
      have zA : ¬ ((2 : Int) ^ A = 0) := by omega
      have zAN : ¬ ((2 : Int) ^ (A + N) = 0) := by omega
      generalize hX : u / 2 ^ (A + N) = X at *
      clear hX
      generalize hLo : u % 2 ^ A = Lo at *
      clear hLo
      generalize hP : (2 : Int) ^ N = P at *
      generalize hR : (2 : Int) ^ (A + N) = R at *
      generalize hQ : (2 : Int) ^ A = Q at *
      generalize hH : X * R = H at *
      generalize hY : v * Q = Y at *
      have hb : Below w.heap.size w w := Below.refl _ w
      clear hP hQ hR r1 r2
      go_enter Try.func25, Try.ntmps25
      go_wp2_with fail
      refine (HP.out _).mono ?_
      rintro e w' ⟨rfl, rfl⟩
      go_wp2_with fail
      refine (HN.out _).mono ?_
      rintro e w' ⟨rfl, rfl⟩
      go_upto_region 3 with fail
      refine wp_region_noPanic ?_
      refine wp_region_held_drew (S := (fun _ : World => True)) (by kernel_rfl) trivial (fun hHeld => ?_)
      refine (show wpAnyH _ _ _ _ _ 13 _ _ _ from ?_)
      try (simp only [Act.put, List.setIfInBounds_toArray, List.set_cons_zero, List.set_cons_succ])
      replace hb := hb.drew
      generalize w.drew = W1 at *
      refine tk 0 hHeld ?_
      refine tk 1 hHeld ?_
      refine tk 2 hHeld ?_
      refine tk 3 hHeld ?_
      refine tk 4 hHeld ?_
      refine tk 7 hHeld ?_
      refine tk 8 hHeld ?_
      refine tk 9 hHeld ?_
      refine rd1 5 (fun K hK => ?_)
      go_simp
      refine (HAN.out _).mono ?_
      rintro e w' ⟨rfl, rfl⟩
      go_wp2_with fail
      refine hK.out _ _ trivial (fun hHeld => ?_)
      clear hK K
      try (simp only [Act.put, List.setIfInBounds_toArray, List.set_cons_zero, List.set_cons_succ])
      refine tk 6 hHeld ?_
      refine rd1 10 (fun K hK => ?_)
      go_simp
      refine (HAN.out _).mono ?_
      rintro e w' ⟨rfl, rfl⟩
      go_wp2_with fail
      refine hK.out _ _ trivial (fun hHeld => ?_)
      clear hK K
      try (simp only [Act.put, List.setIfInBounds_toArray, List.set_cons_zero, List.set_cons_succ])
      refine tk 11 hHeld ?_
      refine tk 12 hHeld ?_
      refine wpAnyH_done ?hru4 ?hqu4 _
      case hru4 => kernel_rfl
      refine NoPanic.normal ?_
      go_wp2_with fail
      refine (HA.out _).mono ?_
      rintro e w' ⟨rfl, rfl⟩
      go_wp2_with fail
      refine (HA.out _).mono ?_
      rintro e w' ⟨rfl, rfl⟩
      go_wp2
      go_ret2
      exact ⟨by rw [E.out.1, E.out.2]; rfl, hb⟩
    · have e1 : putB A N v = false := by rw [HB.out]; simpa using g
      have e2 : putV u A N v = 0 := by rw [HV.out, e1]; rfl
      have E := hid (And.intro e1 e2)
      have dg : decide (2 ^ N ≤ v) = true := by simpa using g
      clear hB HB HV e1 e2 g
      go_enter Try.func25, Try.ntmps25
      go_wp2_with fail
      refine (HP.out _).mono ?_
      rintro e w' ⟨rfl, rfl⟩
      go_wp2_with fail
      refine (HN.out _).mono ?_
      rintro e w' ⟨rfl, rfl⟩
      go_wp2
      go_ret2
      exact ⟨by rw [E.out.1, E.out.2]; rfl, Below.refl _ w⟩

theorem r8_Signed (u n : Int) (w : World) (hu : 0 ≤ u ∧ u ≤ 4294967295) :
    Calls Try.prog 29 #[.int .u32 u, .int .i64 n] w fun e w' => e = .returned (.int .i32 (signP u n)) ∧ w = w' := by
  by_cases g1 : n < 1
  · have d1 : decide (n < 1) = true := by simpa using g1
    have HS : Hid (signP u n = 0) := hid (by unfold signP; rw [if_pos (.inl g1)])
    go_enter Try.func29, Try.ntmps29
    go_wp2
    go_ret
    exact ⟨by rw [HS.out]; rfl, rfl⟩
  have d1 : decide (n < 1) = false := by simpa using g1
  by_cases g2 : 32 < n
  · have d2 : decide (32 < n) = true := by simpa using g2
    have HS : Hid (signP u n = 0) := hid (by unfold signP; rw [if_pos (.inr g2)])
    go_enter Try.func29, Try.ntmps29
    go_wp2
    go_ret
    exact ⟨by rw [HS.out]; rfl, rfl⟩
  have d2 : decide (32 < n) = false := by simpa using g2
  obtain ⟨N, rfl⟩ := Int.eq_ofNat_of_zero_le (show 0 ≤ n by omega)
  obtain ⟨M, rfl⟩ : ∃ M, N = M + 1 := ⟨N - 1, by omega⟩
  obtain ⟨p1, p2⟩ := pow_bd (M + 1) (by omega)
  obtain ⟨q1, q2⟩ := pow_bd M (by omega)
  have e3 : (2 : Int) ^ (M + 1) = 2 * 2 ^ M := by rw [Int.pow_succ, Int.mul_comm]
  have HN := hid fun w => r8_Power (M + 1) w (by omega)
  have HM := hid fun w => r8_Power M w (by omega)
  have HS : Hid (signP u ((M + 1 : Nat) : Int) = if 2 ^ M ≤ u % 2 ^ (M + 1) then u % 2 ^ (M + 1) - 2 ^ (M + 1) else u % 2 ^ (M + 1)) := hid (by unfold signP; rw [if_neg (by omega)]; simp)
  have um : IntKind.i64.wrap (((M + 1 : Nat) : Int) - 1) = (M : Int) := (IntWalk.i64_in _ (by omega)).trans (by omega)
  have um2 : IntKind.i64.wrap ((M : Int) + 1 - 1) = (M : Int) := (IntWalk.i64_in _ (by omega)).trans (by omega)
  have x0 := Int.emod_nonneg u (show (2 : Int) ^ (M + 1) ≠ 0 by omega)
  have x1 := Int.emod_lt_of_pos u (show (0 : Int) < 2 ^ (M + 1) by omega)
  have k2 : u.tmod (2 ^ (M + 1)) = u % 2 ^ (M + 1) := Int.tmod_eq_emod_of_nonneg hu.1
  have zN : ¬ ((2 : Int) ^ (M + 1) = 0) := by omega
  have uc : IntKind.u64.wrap u = u := IntWalk.u64_in _ (by omega)
  have ux : IntKind.u64.wrap (u % 2 ^ (M + 1)) = u % 2 ^ (M + 1) := IntWalk.u64_in _ (by omega)
  have uy : IntKind.i64.wrap (u % 2 ^ (M + 1)) = u % 2 ^ (M + 1) := IntWalk.i64_in _ (by omega)
  have uP : IntKind.i64.wrap ((2 : Int) ^ (M + 1)) = 2 ^ (M + 1) := IntWalk.i64_in _ (by omega)
  have uQ : IntKind.i64.wrap ((2 : Int) ^ M) = 2 ^ M := IntWalk.i64_in _ (by omega)
  have us : IntKind.i64.wrap (u % 2 ^ (M + 1) - 2 ^ (M + 1)) = u % 2 ^ (M + 1) - 2 ^ (M + 1) := IntWalk.i64_in _ (by omega)
  by_cases g : 2 ^ M ≤ u % 2 ^ (M + 1)
  · have dg : decide (2 ^ M ≤ u % 2 ^ (M + 1)) = true := by simpa using g
    have ui : IntKind.i32.wrap (u % 2 ^ (M + 1) - 2 ^ (M + 1)) = u % 2 ^ (M + 1) - 2 ^ (M + 1) := IntWalk.i32_in _ (by omega)
    have HS2 : Hid (signP u ((M + 1 : Nat) : Int) = u % 2 ^ (M + 1) - 2 ^ (M + 1)) := hid (by rw [HS.out, if_pos g])
    generalize u % 2 ^ (M + 1) = x at *
    generalize (2 : Int) ^ (M + 1) = P at *
    generalize (2 : Int) ^ M = Q at *
    clear HS e3 g
    go_enter Try.func29, Try.ntmps29
    go_wp2_with fail
    refine (HN.out _).mono ?_
    rintro e w' ⟨rfl, rfl⟩
    go_wp2_with fail
    refine (HM.out _).mono ?_
    rintro e w' ⟨rfl, rfl⟩
    go_wp2_with fail
    refine (HN.out _).mono ?_
    rintro e w' ⟨rfl, rfl⟩
    go_wp2
    go_ret
    exact ⟨by rw [HS2.out]; rfl, rfl⟩
  · have dg : decide (2 ^ M ≤ u % 2 ^ (M + 1)) = false := by simpa using g
    have ui : IntKind.i32.wrap (u % 2 ^ (M + 1)) = u % 2 ^ (M + 1) := IntWalk.i32_in _ (by omega)
    have HS2 : Hid (signP u ((M + 1 : Nat) : Int) = u % 2 ^ (M + 1)) := hid (by rw [HS.out, if_neg g])
    generalize u % 2 ^ (M + 1) = x at *
    generalize (2 : Int) ^ (M + 1) = P at *
    generalize (2 : Int) ^ M = Q at *
    clear HS e3 g
    go_enter Try.func29, Try.ntmps29
    go_wp2_with fail
    refine (HN.out _).mono ?_
    rintro e w' ⟨rfl, rfl⟩
    go_wp2_with fail
    refine (HM.out _).mono ?_
    rintro e w' ⟨rfl, rfl⟩
    go_wp2
    go_ret
    exact ⟨by rw [HS2.out]; rfl, rfl⟩

theorem r8_Fits (i n : Int) (w : World) (hi : -2147483648 ≤ i ∧ i ≤ 2147483647) :
    Calls Try.prog 31 #[.int .i32 i, .int .i64 n] w fun e w' => e = .returned (.bool (fitB i n)) ∧ w = w' := by
  have HB : Hid (fitB i n = (decide (1 ≤ n) && decide (n ≤ 32) && decide (i < 2 ^ (n.toNat - 1)) && decide (-(2 ^ (n.toNat - 1)) ≤ i))) := rfl
  by_cases g1 : 1 ≤ n
  · have d1 : decide (1 ≤ n) = true := by simpa using g1
    by_cases g2 : n ≤ 32
    · have d2 : decide (n ≤ 32) = true := by simpa using g2
      obtain ⟨N, rfl⟩ := Int.eq_ofNat_of_zero_le (show 0 ≤ n by omega)
      obtain ⟨M, rfl⟩ : ∃ M, N = M + 1 := ⟨N - 1, by omega⟩
      have HB2 : Hid (fitB i ((M + 1 : Nat) : Int) = (decide (i < 2 ^ M) && decide (-(2 ^ M) ≤ i))) := hid (by rw [HB.out, d1, d2]; simp)
      obtain ⟨q1, q2⟩ := pow_bd M (by omega)
      have HM := hid fun w => r8_Power M w (by omega)
      have um : IntKind.i64.wrap (((M + 1 : Nat) : Int) - 1) = (M : Int) := (IntWalk.i64_in _ (by omega)).trans (by omega)
      have um2 : IntKind.i64.wrap ((M : Int) + 1 - 1) = (M : Int) := (IntWalk.i64_in _ (by omega)).trans (by omega)
      have uQ : IntKind.i64.wrap ((2 : Int) ^ M) = 2 ^ M := IntWalk.i64_in _ (by omega)
      have uN : IntKind.i64.wrap (-(2 : Int) ^ M) = -2 ^ M := IntWalk.i64_in _ (by omega)
      have ui : IntKind.i64.wrap i = i := IntWalk.i64_in _ (by omega)
      generalize (2 : Int) ^ M = Q at *
      clear HB
      by_cases g3 : i < Q
      · have d3 : decide (i < Q) = true := by simpa using g3
        go_enter Try.func31, Try.ntmps31
        go_wp2_with fail
        refine (HM.out _).mono ?_
        rintro e w' ⟨rfl, rfl⟩
        go_wp2_with fail
        refine (HM.out _).mono ?_
        rintro e w' ⟨rfl, rfl⟩
        go_wp2
        go_ret
        exact ⟨by rw [HB2.out, d3]; rfl, rfl⟩
      · have d3 : decide (i < Q) = false := by simpa using g3
        go_enter Try.func31, Try.ntmps31
        go_wp2_with fail
        refine (HM.out _).mono ?_
        rintro e w' ⟨rfl, rfl⟩
        go_wp2
        go_ret
        exact ⟨by rw [HB2.out, d3]; rfl, rfl⟩
    · have d2 : decide (n ≤ 32) = false := by simpa using g2
      go_enter Try.func31, Try.ntmps31
      go_wp2
      go_ret
      exact ⟨by rw [HB.out, d1, d2]; simp, rfl⟩
  · have d1 : decide (1 ≤ n) = false := by simpa using g1
    go_enter Try.func31, Try.ntmps31
    go_wp2
    go_ret
    exact ⟨by rw [HB.out, d1]; simp, rfl⟩
end Go.Proofs.Ytbhfidneijogfaa
