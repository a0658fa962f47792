/- Chapter 08: some bits of a word: get, put, with a sign. -/
import Derived.Test.YtldoocndhfgjhaaGreatBits
import Derived.Test.YtldoocndhfgjhaaGreatHeld
import Derived.Laws.Closers25b
import Derived.Laws.BitsAllLaws
import Derived.Deep.CutRange
namespace Go.Proofs.YtldoocndhfgjhaaGreat
open Go.RowKit
set_option linter.unusedVariables false
set_option linter.unusedSimpArgs false

theorem place_yes (a n : Int) (h : placeB a n = true) : ∃ A N : Nat, a = A ∧ n = N ∧ 1 ≤ N ∧ A + N ≤ 32 := by
  unfold placeB at h
  simp only [Bool.and_eq_true, decide_eq_true_eq] at h
  exact ⟨a.toNat, n.toNat, by omega, by omega, by omega, by omega⟩
end Go.Proofs.YtldoocndhfgjhaaGreat
namespace Go.Proofs.YtldoocndhfgjhaaGreat
open Go.RowKit
set_option linter.unusedVariables false
set_option linter.unusedSimpArgs false

/-- The bits above a mask. -/
theorem nat_above (x N : Nat) (hx : x < 2 ^ 32) (hN : N ≤ 32) : x &&& (4294967295 - (2 ^ N - 1)) = 2 ^ N * (x / 2 ^ N) := by
  have hp : 0 < 2 ^ N := Nat.two_pow_pos N
  have hle : 2 ^ N ≤ 2 ^ 32 := Nat.pow_le_pow_right (by omega) hN
  have e : 4294967295 - (2 ^ N - 1) = 2 ^ 32 - ((2 ^ N - 1) + 1) := by omega
  rw [e]
  apply Nat.eq_of_testBit_eq
  intro i
  rw [Nat.testBit_and, Nat.testBit_two_pow_sub_succ (by omega), Nat.testBit_two_pow_mul, Nat.testBit_two_pow_sub_one, Nat.testBit_div_two_pow]
  by_cases h : i < 32
  · by_cases g : i < N
    · simp [h, g]; omega
    · have e2 : i - N + N = i := by omega
      simp [h, g]
      rw [e2]
      simp
      omega
  · have h0 : x.testBit i = false := Nat.testBit_lt_two_pow (Nat.lt_of_lt_of_le hx (Nat.pow_le_pow_right (by omega) (by omega)))
    simp [h, h0]
    intro hg
    rw [Nat.sub_add_cancel hg]; exact h0

theorem nat_beside (x A N : Nat) (hx : x < 2 ^ 32) (hAN : A + N ≤ 32) : x &&& (4294967295 - (2 ^ N - 1) * 2 ^ A) = 2 ^ (A + N) * (x / 2 ^ (A + N)) + x % 2 ^ A := by
  have hp : 0 < 2 ^ N := Nat.two_pow_pos N
  have hq : 0 < 2 ^ A := Nat.two_pow_pos A
  have hle : 2 ^ (A + N) ≤ 2 ^ 32 := Nat.pow_le_pow_right (by omega) hAN
  have hm : (2 ^ N - 1) * 2 ^ A < 2 ^ 32 := by
    have h1 : (2 ^ N - 1) * 2 ^ A < 2 ^ N * 2 ^ A := Nat.mul_lt_mul_of_pos_right (by omega) hq
    rw [← Nat.pow_add, Nat.add_comm] at h1
    omega
  have e : 4294967295 - (2 ^ N - 1) * 2 ^ A = 2 ^ 32 - ((2 ^ N - 1) * 2 ^ A + 1) := by omega
  have hlt : x % 2 ^ A < 2 ^ (A + N) := Nat.lt_of_lt_of_le (Nat.mod_lt _ hq) (Nat.pow_le_pow_right (by omega) (by omega))
  rw [e, Nat.two_pow_add_eq_or_of_lt hlt]
  apply Nat.eq_of_testBit_eq
  intro i
  rw [Nat.testBit_and, Nat.testBit_two_pow_sub_succ hm, Nat.testBit_or, Nat.testBit_two_pow_mul, Nat.testBit_mul_two_pow, Nat.testBit_two_pow_sub_one, Nat.testBit_div_two_pow, Nat.testBit_mod_two_pow]
  by_cases h : i < 32
  · by_cases g1 : i < A
    · have a1 : ¬ A ≤ i := by omega
      have a2 : ¬ A + N ≤ i := by omega
      simp [h, g1, a1, a2]
    · by_cases g2 : i < A + N
      · have a1 : A ≤ i := by omega
        have a2 : ¬ A + N ≤ i := by omega
        have a3 : i - A < N := by omega
        simp [h, g1, a1, a2, a3]
      · have a1 : A ≤ i := by omega
        have a2 : A + N ≤ i := by omega
        have a3 : ¬ i - A < N := by omega
        have a4 : i - (A + N) + (A + N) = i := by omega
        simp [h, g1, a1, a2, a3, a4]
  · have h0 : x.testBit i = false := Nat.testBit_lt_two_pow (Nat.lt_of_lt_of_le hx (Nat.pow_le_pow_right (by omega) (by omega)))
    have a2 : A + N ≤ i := by omega
    have a4 : i - (A + N) + (A + N) = i := by omega
    simp [h, h0, a2, a4]
theorem nat_put (q v lo A N : Nat) (hv : v < 2 ^ N) (hlo : lo < 2 ^ A) : (2 ^ (A + N) * q + lo) ||| (v * 2 ^ A) = 2 ^ (A + N) * q + v * 2 ^ A + lo := by
  have hq : 0 < 2 ^ A := Nat.two_pow_pos A
  have h1 : lo < 2 ^ (A + N) := Nat.lt_of_lt_of_le hlo (Nat.pow_le_pow_right (by omega) (by omega))
  have h2 : 2 ^ A * v + lo < 2 ^ (A + N) := by
    rw [Nat.pow_add]
    have : 2 ^ A * (v + 1) ≤ 2 ^ A * 2 ^ N := Nat.mul_le_mul_left _ (by omega)
    rw [Nat.mul_add] at this
    omega
  rw [Nat.mul_comm v, Nat.add_assoc, Nat.two_pow_add_eq_or_of_lt h2, Nat.two_pow_add_eq_or_of_lt h1, Nat.two_pow_add_eq_or_of_lt hlo]
  rw [Nat.or_assoc, Nat.or_comm lo]
end Go.Proofs.YtldoocndhfgjhaaGreat
namespace Go.Proofs.YtldoocndhfgjhaaGreat
open Go.RowKit
set_option linter.unusedVariables false
set_option linter.unusedSimpArgs false

theorem cast_pow (N : Nat) : ((2 ^ N : Nat) : Int) = (2 : Int) ^ N := by simp
theorem int_above (v : Int) (N : Nat) (hv : 0 ≤ v ∧ v ≤ 4294967295) (hN : N ≤ 32) : bits .andNot .u32 v (2 ^ N - 1) = 2 ^ N * (v / 2 ^ N) := by
  obtain ⟨p1, p2⟩ := pow_bd N hN
  obtain ⟨V, rfl⟩ := Int.eq_ofNat_of_zero_le hv.1
  have hp : 0 < 2 ^ N := Nat.two_pow_pos N
  have e : (2 : Int) ^ N - 1 = ((2 ^ N - 1 : Nat) : Int) := by rw [Int.natCast_sub hp, cast_pow]; rfl
  have hle : 2 ^ N ≤ 2 ^ 32 := Nat.pow_le_pow_right (by omega) hN
  rw [e, u32_andNot_nat V (2 ^ N - 1) (by omega) (by omega), nat_above V N (by omega) hN]
  simp
theorem int_beside (u : Int) (A N : Nat) (hu : 0 ≤ u ∧ u ≤ 4294967295) (hAN : A + N ≤ 32) : bits .andNot .u32 u ((2 ^ N - 1) * 2 ^ A) = 2 ^ (A + N) * (u / 2 ^ (A + N)) + u % 2 ^ A := by
  obtain ⟨U, rfl⟩ := Int.eq_ofNat_of_zero_le hu.1
  have hp : 0 < 2 ^ N := Nat.two_pow_pos N
  have hq : 0 < 2 ^ A := Nat.two_pow_pos A
  have hm : (2 ^ N - 1) * 2 ^ A < 4294967296 := by
    have h1 : (2 ^ N - 1) * 2 ^ A < 2 ^ N * 2 ^ A := Nat.mul_lt_mul_of_pos_right (by omega) hq
    have hle : 2 ^ (A + N) ≤ 2 ^ 32 := Nat.pow_le_pow_right (by omega) hAN
    rw [← Nat.pow_add, Nat.add_comm] at h1
    omega
  have e : ((2 : Int) ^ N - 1) * 2 ^ A = (((2 ^ N - 1) * 2 ^ A : Nat) : Int) := by rw [Int.natCast_mul, Int.natCast_sub hp, cast_pow, cast_pow]; rfl
  rw [e, u32_andNot_nat U _ (by omega) hm, nat_beside U A N (by omega) hAN]
  simp
theorem int_put (u v : Int) (A N : Nat) (hu : 0 ≤ u ∧ u ≤ 4294967295) (hv : 0 ≤ v ∧ v < 2 ^ N) (hAN : A + N ≤ 32) :
    bits .or .u32 (2 ^ (A + N) * (u / 2 ^ (A + N)) + u % 2 ^ A) (v * 2 ^ A) = 2 ^ (A + N) * (u / 2 ^ (A + N)) + v * 2 ^ A + u % 2 ^ A ∧
    0 ≤ v * 2 ^ A ∧ v * 2 ^ A ≤ 4294967295 ∧ 0 ≤ 2 ^ (A + N) * (u / 2 ^ (A + N)) + v * 2 ^ A + u % 2 ^ A ∧ 2 ^ (A + N) * (u / 2 ^ (A + N)) + v * 2 ^ A + u % 2 ^ A ≤ 4294967295 ∧
    0 ≤ 2 ^ (A + N) * (u / 2 ^ (A + N)) ∧ 0 ≤ u % 2 ^ A ∧ 0 ≤ 2 ^ (A + N) * (u / 2 ^ (A + N)) + v * 2 ^ A ∧ 2 ^ (A + N) * (u / 2 ^ (A + N)) + v * 2 ^ A ≤ 4294967295 := by
  obtain ⟨U, rfl⟩ := Int.eq_ofNat_of_zero_le hu.1
  obtain ⟨V, rfl⟩ := Int.eq_ofNat_of_zero_le hv.1
  have hV : V < 2 ^ N := by have := hv.2; rw [← cast_pow] at this; exact_mod_cast this
  have hq : 0 < 2 ^ A := Nat.two_pow_pos A
  have hle : 2 ^ (A + N) ≤ 2 ^ 32 := Nat.pow_le_pow_right (by omega) hAN
  have h1 : V * 2 ^ A + U % 2 ^ A < 2 ^ (A + N) := by
    have := Nat.mod_lt U hq
    have : (V + 1) * 2 ^ A ≤ 2 ^ N * 2 ^ A := Nat.mul_le_mul_right _ (by omega)
    rw [Nat.add_mul, ← Nat.pow_add, Nat.add_comm N A] at this
    omega
  have hUlt : U < 2 ^ 32 := by omega
  -- the high part and what is less than 2^(A+N) stay below 2^32
  have hd : 2 ^ (A + N) ∣ 2 ^ 32 := Nat.pow_dvd_pow 2 hAN
  have h2 : 2 ^ (A + N) * (U / 2 ^ (A + N)) + (V * 2 ^ A + U % 2 ^ A) < 2 ^ 32 := by
    obtain ⟨c, hc⟩ := hd
    have hlt : U / 2 ^ (A + N) < c := by
      rw [Nat.div_lt_iff_lt_mul (Nat.two_pow_pos _), Nat.mul_comm, ← hc]; exact hUlt
    have : 2 ^ (A + N) * (U / 2 ^ (A + N) + 1) ≤ 2 ^ (A + N) * c := Nat.mul_le_mul_left _ hlt
    rw [Nat.mul_add] at this
    omega
  have e1 : ((2 : Int) ^ (A + N) * ((U : Int) / 2 ^ (A + N)) + (U : Int) % 2 ^ A) = ((2 ^ (A + N) * (U / 2 ^ (A + N)) + U % 2 ^ A : Nat) : Int) := by simp
  have e2 : (V : Int) * 2 ^ A = ((V * 2 ^ A : Nat) : Int) := by simp
  have e3 : (2 : Int) ^ (A + N) * ((U : Int) / 2 ^ (A + N)) = ((2 ^ (A + N) * (U / 2 ^ (A + N)) : Nat) : Int) := by simp
  have e4 : (U : Int) % 2 ^ A = ((U % 2 ^ A : Nat) : Int) := by simp
  refine ⟨?_, ?_⟩
  · rw [e1, e2, u32_or_nat _ _ (by omega) (by omega), nat_put _ _ _ _ _ hV (Nat.mod_lt U hq), e3, e4]
    omega
  · rw [e2, e3, e4]
    generalize 2 ^ (A + N) * (U / 2 ^ (A + N)) = X at *
    generalize V * 2 ^ A = Y at *
    generalize U % 2 ^ A = Z at *
    omega
end Go.Proofs.YtldoocndhfgjhaaGreat
namespace Go.Proofs.YtldoocndhfgjhaaGreat
open Go.RowKit
set_option linter.unusedVariables false
set_option linter.unusedSimpArgs false

def putBB (a n v : Int) : Bool := placeB a n && decide (v < 2 ^ n.toNat)
def putV (u a n v : Int) : Int := if putBB a n v = true then 2 ^ (a.toNat + n.toNat) * (u / 2 ^ (a.toNat + n.toNat)) + v * 2 ^ a.toNat + u % 2 ^ a.toNat else 0
theorem above_zero (v : Int) (N : Nat) (hv : 0 ≤ v) : (v < 2 ^ N → (2 : Int) ^ N * (v / 2 ^ N) = 0) ∧ (¬ v < 2 ^ N → ((2 : Int) ^ N * (v / 2 ^ N) == 0) = false) := by
  have hp : (0 : Int) < 2 ^ N := Int.pow_pos (by omega)
  constructor
  · intro h
    rw [Int.ediv_eq_zero_of_lt hv h, Int.mul_zero]
  · intro h
    have : 1 ≤ v / 2 ^ N := (Int.le_ediv_iff_mul_le hp).2 (by omega)
    have := Int.mul_pos hp (show 0 < v / 2 ^ N by omega)
    simp; omega
set_option maxHeartbeats 4000000 in
theorem b_Put (u a n v : Int) (w : World) (hu : 0 ≤ u ∧ u ≤ 4294967295) (hv : 0 ≤ v ∧ v ≤ 4294967295) :
    Calls Tryz.prog 206 #[.int .u32 u, .int .i64 a, .int .i64 n, .int .u32 v] w fun e w' => e = .returned (.tuple #[.int .u32 (putV u a n v), .bool (putBB a n v)]) ∧ Below w.heap.size w w' := by
  have HP := hid fun w => b_place a n w
  have HB : Hid (putBB a n v = (placeB a n && decide (v < 2 ^ n.toNat))) := rfl
  have HV : Hid (putV u a n v = if putBB a n v = true then 2 ^ (a.toNat + n.toNat) * (u / 2 ^ (a.toNat + n.toNat)) + v * 2 ^ a.toNat + u % 2 ^ a.toNat else 0) := rfl
  cases hB : placeB a n
  · rw [hB] at HP HB
    have e1 : putBB a n v = false := by rw [HB.out]; rfl
    have e2 : putV u a n v = 0 := by rw [HV.out, e1]; rfl
    have E := hid (And.intro e1 e2)
    clear hB hu hv HB HV e1 e2
    go_enter Tryz.func206, Tryz.ntmps206
    go_wp2_with fail
    refine (HP.out _).mono ?_
    rintro e w' ⟨rfl, rfl⟩
    go_wp2
    go_ret2
    exact ⟨by rw [E.out.1, E.out.2]; rfl, Below.refl _ w⟩
  · obtain ⟨A, N, rfl, rfl, h1, h2⟩ := place_yes a n hB
    rw [hB] at HP HB
    have HM := hid fun w => b_mask N w (by omega)
    have hab := int_above v N hv (by omega)
    obtain ⟨z1, z2⟩ := above_zero v N hv.1
    by_cases g : v < 2 ^ N
    · have e1 : putBB A N v = true := by rw [HB.out]; simpa using g
      have e2 : putV u A N v = 2 ^ (A + N) * (u / 2 ^ (A + N)) + v * 2 ^ A + u % 2 ^ A := by rw [HV.out, e1]; simp
      have hbe := int_beside u A N hu (by omega)
      obtain ⟨hor, y1, y2, r1, r2, _⟩ := int_put u v A N hu ⟨hv.1, g⟩ (by omega)
      rw [z1 g] at hab
      have E := hid (And.intro e1 e2)
      clear hB HB HV e1 e2 z1 z2
      obtain ⟨p1, p2⟩ := pow_bd N (by omega)
      obtain ⟨q1, q2⟩ := pow_bd A (by omega)
      have e64 : min A 64 = A := by omega
      have m1 : 0 ≤ ((2 : Int) ^ N - 1) * 2 ^ A := Int.mul_nonneg (by omega) (by omega)
      have m2 : ((2 : Int) ^ N - 1) * 2 ^ A ≤ 4294967295 := by
        have h3 := pow_bd (A + N) (by omega)
        rw [Int.pow_add, Int.mul_comm] at h3
        rw [Int.sub_mul]
        omega
      have um : IntKind.u32.wrap (((2 : Int) ^ N - 1) * 2 ^ A) = ((2 : Int) ^ N - 1) * 2 ^ A := IntWalk.u32_in _ (by omega)
      have uv : IntKind.u32.wrap (v * 2 ^ A) = v * 2 ^ A := IntWalk.u32_in _ (by omega)
      generalize hR : 2 ^ (A + N) * (u / 2 ^ (A + N)) + v * 2 ^ A + u % 2 ^ A = R at *
      generalize hX : 2 ^ (A + N) * (u / 2 ^ (A + N)) + u % 2 ^ A = X at *
      clear hR hX
      generalize hMM : ((2 : Int) ^ N - 1) * 2 ^ A = M at *
      generalize hVV : v * 2 ^ A = Y at *
      have hb : Below w.heap.size w w := Below.refl _ w
      go_enter Tryz.func206, Tryz.ntmps206
      go_wp2_with fail
      refine (HP.out _).mono ?_
      rintro e w' ⟨rfl, rfl⟩
      go_wp2_with fail
      refine (HM.out _).mono ?_
      rintro e w' ⟨rfl, rfl⟩
      go_wp2
      refine wp_region_noPanic ?_
      refine wp_region_held_drew (S := (fun _ : World => True)) (by kernel_rfl) trivial (fun hHeld => ?_)
      refine (show wpAnyH _ _ _ _ _ 12 _ _ _ from ?_)
      try (simp only [Act.put, List.setIfInBounds_toArray, List.set_cons_zero, List.set_cons_succ])
      replace hb := hb.drew
      generalize w.drew = W1 at *
      refine tk 0 hHeld ?_
      refine tk 1 hHeld ?_
      refine tk 3 hHeld ?_
      refine tk 6 hHeld ?_
      refine tk 7 hHeld ?_
      refine tk 8 hHeld ?_
      refine rd1 2 (fun K hK => ?_)
      go_simp
      refine (HM.out _).mono ?_
      rintro e w' ⟨rfl, rfl⟩
      go_wp2_with fail
      refine hK.out _ _ trivial (fun hHeld => ?_)
      clear hK K
      try (simp only [Act.put, List.setIfInBounds_toArray, List.set_cons_zero, List.set_cons_succ])
      refine tk 4 hHeld ?_
      refine tk 5 hHeld ?_
      refine tk 9 hHeld ?_
      refine tk 10 hHeld ?_
      refine tk 11 hHeld ?_
      refine wpAnyH_done ?hru3 ?hqu3 _
      case hru3 => kernel_rfl
      refine NoPanic.normal ?_
      go_wp2
      go_ret2
      exact ⟨by rw [E.out.1, E.out.2]; rfl, hb⟩
    · have e1 : putBB A N v = false := by rw [HB.out]; simpa using g
      have e2 : putV u A N v = 0 := by rw [HV.out, e1]; rfl
      have E := hid (And.intro e1 e2)
      have z3 := z2 g
      rw [← hab] at z3
      clear hB HB HV e1 e2 z1 z2 hab g
      go_enter Tryz.func206, Tryz.ntmps206
      go_wp2_with fail
      refine (HP.out _).mono ?_
      rintro e w' ⟨rfl, rfl⟩
      go_wp2_with fail
      refine (HM.out _).mono ?_
      rintro e w' ⟨rfl, rfl⟩
      go_wp2
      go_ret2
      exact ⟨by rw [E.out.1, E.out.2]; rfl, Below.refl _ w⟩
end Go.Proofs.YtldoocndhfgjhaaGreat
namespace Go.Proofs.YtldoocndhfgjhaaGreat
open Go.RowKit
set_option linter.unusedVariables false
set_option linter.unusedSimpArgs false

end Go.Proofs.YtldoocndhfgjhaaGreat
namespace Go.Proofs.YtldoocndhfgjhaaGreat
open Go.RowKit
set_option linter.unusedVariables false
set_option linter.unusedSimpArgs false

end Go.Proofs.YtldoocndhfgjhaaGreat
namespace Go.Proofs.YtldoocndhfgjhaaGreat
open Go.RowKit
set_option linter.unusedVariables false
set_option linter.unusedSimpArgs false

end Go.Proofs.YtldoocndhfgjhaaGreat
namespace Go.Proofs.YtldoocndhfgjhaaGreat
open Go.RowKit
set_option linter.unusedVariables false
set_option linter.unusedSimpArgs false

/-- All below 'base' but the block g is as it was. -/
def Rest (base g : Nat) (w w' : World) : Prop := w.heap.size ≤ w'.heap.size ∧ ∀ (w0 : World) (B : Nat), B ≤ g → B ≤ base → Below B w0 w → Below B w0 w'
theorem Rest.trans {base g : Nat} {w w1 w2 : World} (a : Rest base g w w1) (b : Rest base g w1 w2) : Rest base g w w2 := ⟨Nat.le_trans a.1 b.1, fun w0 B h1 h2 h => b.2 w0 B h1 h2 (a.2 w0 B h1 h2 h)⟩
end Go.Proofs.YtldoocndhfgjhaaGreat
namespace Go.Proofs.YtldoocndhfgjhaaGreat
open Go.RowKit
set_option linter.unusedVariables false
set_option linter.unusedSimpArgs false

/-- Are the widths right? -/
def okF : Int → List Int → Bool
  | l, [] => l == 0
  | l, n :: r => if n < 1 ∨ l < n then false else okF (l - n) r
theorem drop_at (ws : List Int) (j : Nat) (h : j < ws.length) : ws.drop j = ws[j]?.getD 0 :: ws.drop (j + 1) := by
  rw [List.drop_eq_getElem_cons h]; simp [h]

end Go.Proofs.YtldoocndhfgjhaaGreat
