/- Chapter 08: the plain laws of BitsBack: a word's parts make that word; what is put is got; a number with a sign comes back. -/
import Derived.Test.YtbhfidneijogfaaBitsN
namespace Go.Proofs.Ytbhfidneijogfaa
open Go.RowKit
set_option linter.unusedVariables false
set_option linter.unusedSimpArgs false

theorem ediv_two (a b c : Int) (hb : 0 ≤ b) : a / b / c = a / (b * c) := by
  rw [Int.ediv_ediv, if_neg (by omega), Int.sub_zero]
/-- The parts of a word make that word. -/
theorem split_ref (u : Int) (hu : 0 ≤ u ∧ u ≤ 4294967295) : ∀ (ws : List Int) (lv : Nat), lv ≤ 32 → okF lv ws = true → refF (u / 2 ^ lv) ws (splitF u lv ws) = (u, true)
  | [], lv, h1, h2 => by
    simp only [okF] at h2
    have : lv = 0 := by simpa using h2
    subst this
    simp [refF, splitF]
  | n :: r, lv, h1, h2 => by
    simp only [okF] at h2
    have hn : ¬ (n < 1 ∨ (lv : Int) < n) := fun hh => by rw [if_pos hh] at h2; cases h2
    rw [if_neg hn] at h2
    obtain ⟨N, rfl⟩ := Int.eq_ofNat_of_zero_le (show 0 ≤ n by omega)
    obtain ⟨M, rfl⟩ : ∃ M, lv = N + M := ⟨lv - N, by omega⟩
    have eM : ((N + M : Nat) : Int) - N = (M : Int) := by omega
    have hpl : placeB M N = true := by unfold placeB; simp; omega
    have hN : (0 : Int) < 2 ^ N := Int.pow_pos (by omega)
    have hM : (0 : Int) < 2 ^ M := Int.pow_pos (by omega)
    rw [eM] at h2
    simp only [refF, splitF, eM, Int.toNat_natCast]
    have hg : getP u M N = u / 2 ^ M % 2 ^ N := by unfold getP; rw [if_pos hpl]; simp
    have hlt := Int.emod_lt_of_pos (u / 2 ^ M) hN
    rw [hg, if_neg (by omega)]
    have e : u / 2 ^ (N + M) * 2 ^ N + u / 2 ^ M % 2 ^ N = u / 2 ^ M := by
      rw [Nat.add_comm, Int.pow_add, ← ediv_two _ _ _ (Int.le_of_lt hM)]
      exact Int.ediv_mul_add_emod _ _
    rw [e]
    exact split_ref u hu r M (by omega) h2
theorem getP_bd (u a n : Int) (hu : 0 ≤ u ∧ u ≤ 4294967295) : 0 ≤ getP u a n ∧ getP u a n ≤ 4294967295 := by
  unfold getP
  by_cases h : placeB a n = true
  · rw [if_pos h]
    obtain ⟨A, N, rfl, rfl, h1, h2⟩ := place_yes a n h
    have hN := pow_bd N (by omega)
    have := Int.emod_nonneg (u / 2 ^ A) (show (2 : Int) ^ N ≠ 0 by omega)
    have := Int.emod_lt_of_pos (u / 2 ^ A) (show (0 : Int) < 2 ^ N by omega)
    simp only [Int.toNat_natCast]
    omega
  · rw [if_neg h]; omega
theorem splitF_bd (u : Int) (hu : 0 ≤ u ∧ u ≤ 4294967295) : ∀ (ws : List Int) (l : Int), ∀ x ∈ splitF u l ws, 0 ≤ x ∧ x ≤ 4294967295
  | [], _, x, h => by simp [splitF] at h
  | n :: r, l, x, h => by
    simp only [splitF, List.mem_cons] at h
    rcases h with rfl | h
    · exact getP_bd _ _ _ hu
    · exact splitF_bd u hu r _ x h
theorem splitP_bd (u : Int) (ws : List Int) (hu : 0 ≤ u ∧ u ≤ 4294967295) : ∀ x ∈ splitP u ws, 0 ≤ x ∧ x ≤ 4294967295 := by
  unfold splitP
  split
  · exact splitF_bd u hu ws 32
  · simp
theorem back_law (u : Int) (ws : List Int) (hu : 0 ≤ u ∧ u ≤ 4294967295) :
    joinB ws (splitP u ws) = okF 32 ws ∧ (okF 32 ws = true → joinV ws (splitP u ws) = u ∧ (splitP u ws).length = ws.length) ∧ (okF 32 ws = false → (splitP u ws).length = 0) := by
  cases h : okF 32 ws
  · have hs : splitP u ws = [] := by unfold splitP; rw [h]; rfl
    rw [hs]
    refine ⟨by unfold joinB; rw [h]; simp, by simp, by simp⟩
  · have hs : splitP u ws = splitF u 32 ws := by unfold splitP; rw [h]; rfl
    have hl := splitF_len u ws 32
    have hr := split_ref u hu ws 32 (by omega) h
    have e32 : (2 : Int) ^ 32 = 4294967296 := by decide +kernel
    have e0 : u / 2 ^ 32 = 0 := Int.ediv_eq_zero_of_lt hu.1 (by omega)
    rw [e0] at hr
    obtain ⟨j1, j2⟩ := join_ref ws (splitF u 32 ws) 32 0 (by omega) h hl (by omega) (by decide +kernel) (splitF_bd u hu ws 32)
    have hr2 : refF 0 ws (splitF u ((32 : Nat) : Int) ws) = refF 0 ws (splitF u 32 ws) := rfl
    rw [hr2] at hr
    rw [hr] at j1 j2
    have hj : joinB ws (splitF u 32 ws) = true := by
      unfold joinB
      rw [h]
      have : (joinF 0 32 ws (splitF u 32 ws)).2 = true := by simpa using j1
      rw [this]; simp [hl]
    rw [hs]
    refine ⟨hj, fun _ => ⟨?_, hl⟩, by simp⟩
    unfold joinV
    rw [if_pos hj]
    have := (j2 rfl).1
    simpa using this

/-- Outside of the place all bits stay; inside is what was put. -/
theorem put_bits (u v : Int) (A N : Nat) (hu : 0 ≤ u ∧ u ≤ 4294967295) (hv : 0 ≤ v ∧ v < 2 ^ N) (hN : 1 ≤ N) (hAN : A + N ≤ 32) :
    getP (2 ^ (A + N) * (u / 2 ^ (A + N)) + v * 2 ^ A + u % 2 ^ A) A N = v ∧
    ∀ i : Nat, i < 32 → (i < A ∨ A + N ≤ i) → getP (2 ^ (A + N) * (u / 2 ^ (A + N)) + v * 2 ^ A + u % 2 ^ A) i 1 = getP u i 1 := by
  have hA : (0 : Int) < 2 ^ A := Int.pow_pos (by omega)
  have hNp : (0 : Int) < 2 ^ N := Int.pow_pos (by omega)
  have hANp : (0 : Int) < 2 ^ (A + N) := Int.pow_pos (by omega)
  have m0 := Int.emod_nonneg u (show (2 : Int) ^ A ≠ 0 by omega)
  have m1 := Int.emod_lt_of_pos u hA
  have hpow : (2 : Int) ^ (A + N) = 2 ^ A * 2 ^ N := Int.pow_add _ _ _
  constructor
  · have hp : placeB A N = true := by unfold placeB; simp; omega
    unfold getP
    rw [if_pos hp]
    simp only [Int.toNat_natCast]
    have e : 2 ^ (A + N) * (u / 2 ^ (A + N)) + v * 2 ^ A + u % 2 ^ A = u % 2 ^ A + 2 ^ A * (2 ^ N * (u / 2 ^ (A + N)) + v) := by rw [hpow]; grind
    rw [e, Int.add_mul_ediv_left _ _ (by omega), Int.ediv_eq_zero_of_lt m0 m1, Int.zero_add, Int.add_comm, Int.add_mul_emod_self_left]
    exact Int.emod_eq_of_lt hv.1 hv.2
  · intro i hi ho
    have hp : placeB i 1 = true := by unfold placeB; simp; omega
    unfold getP
    rw [if_pos hp, if_pos hp]
    simp only [Int.toNat_natCast]
    show _ % 2 ^ 1 = _ % 2 ^ 1
    rcases ho with ho | ho
    · obtain ⟨D, rfl⟩ : ∃ D, A = i + (D + 1) := ⟨A - i - 1, by omega⟩
      have hi0 : (0 : Int) < 2 ^ i := Int.pow_pos (by omega)
      have e : 2 ^ (i + (D + 1) + N) * (u / 2 ^ (i + (D + 1) + N)) + v * 2 ^ (i + (D + 1)) + u % 2 ^ (i + (D + 1)) = u + 2 ^ i * (2 * (2 ^ D * (2 ^ N * (u / 2 ^ (i + (D + 1) + N)) + v - u / 2 ^ (i + (D + 1))))) := by
        have h1 := Int.mul_ediv_add_emod u (2 ^ (i + (D + 1)))
        have e2 : (2 : Int) ^ (i + (D + 1)) = 2 ^ i * (2 * 2 ^ D) := by rw [Int.pow_add, Int.pow_succ, Int.mul_comm (2 ^ D)]
        rw [hpow]
        generalize u / 2 ^ (i + (D + 1) + N) = q at *
        generalize u / 2 ^ (i + (D + 1)) = q2 at *
        generalize u % 2 ^ (i + (D + 1)) = lo at *
        rw [e2] at h1 ⊢
        grind
      rw [e, Int.add_mul_ediv_left _ _ (by omega)]
      show (u / 2 ^ i + 2 * _) % 2 = _
      rw [Int.add_mul_emod_self_left]
      rfl
    · obtain ⟨D, rfl⟩ : ∃ D, i = A + N + D := ⟨i - (A + N), by omega⟩
      have hlow : 0 ≤ v * 2 ^ A + u % 2 ^ A ∧ v * 2 ^ A + u % 2 ^ A < 2 ^ (A + N) := by
        have h1 : 0 ≤ v * 2 ^ A := Int.mul_nonneg hv.1 (by omega)
        have h2 : (v + 1) * 2 ^ A ≤ 2 ^ N * 2 ^ A := Int.mul_le_mul_of_nonneg_right (by omega) (by omega)
        rw [hpow, Int.mul_comm (2 ^ A)]
        rw [Int.add_mul] at h2
        omega
      have eD : (2 : Int) ^ (A + N + D) = 2 ^ (A + N) * 2 ^ D := Int.pow_add _ _ _
      rw [eD, ← ediv_two _ _ _ (Int.le_of_lt hANp), ← ediv_two _ _ _ (Int.le_of_lt hANp), Int.add_assoc, Int.add_comm (2 ^ (A + N) * (u / 2 ^ (A + N))), Int.add_mul_ediv_left _ _ (by omega), Int.ediv_eq_zero_of_lt hlow.1 hlow.2, Int.zero_add]
theorem sign_back (v : Int) (N : Nat) (h1 : 1 ≤ N) (h2 : N ≤ 32) :
    fitB (signP v N) N = true ∧ signP (signP v N % 4294967296) N = signP v N ∧ -2147483648 ≤ signP v N ∧ signP v N ≤ 2147483647 := by
  obtain ⟨L, hL⟩ : ∃ L : Nat, N + L = 32 := ⟨32 - N, by omega⟩
  obtain ⟨_, _, _, s0, s1⟩ := sign_law v N L hL h1
  obtain ⟨e1, e2, e3⟩ := sign_parts N L hL h1
  have hN : (0 : Int) < 2 ^ N := Int.pow_pos (by omega)
  have hx0 := Int.emod_nonneg v (show (2 : Int) ^ N ≠ 0 by omega)
  have hx1 := Int.emod_lt_of_pos v hN
  have hf := fit_law (signP v N) N ⟨s0, s1⟩ h1 h2
  have hS : signP v N = if 2 ^ (N - 1) ≤ v % 2 ^ N then v % 2 ^ N - 2 ^ N else v % 2 ^ N := by
    unfold signP
    rw [if_neg (by omega)]; simp
  have r1 : -(2 ^ (N - 1)) ≤ signP v N ∧ signP v N < 2 ^ (N - 1) := by rw [hS]; split <;> omega
  have t1 : decide (signP v N < 2 ^ (N - 1)) = true := by simpa using r1.2
  have t2 : decide (-(2 ^ (N - 1)) ≤ signP v N) = true := by simpa using r1.1
  rw [t1, t2] at hf
  refine ⟨?_, by simpa using hf, s0, s1⟩
  unfold fitB
  simp only [Int.toNat_natCast]
  rw [t1, t2]
  simp; omega

end Go.Proofs.Ytbhfidneijogfaa
