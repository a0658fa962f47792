/- Chapter 08: some bits of a word: put, with a sign, does it fit. -/
import Derived.Test.YtfogjfmpgfcolaaBitsC
namespace Go.Proofs.Ytfogjfmpgfcolaa
open Go.RowKit
set_option linter.unusedVariables false
set_option linter.unusedSimpArgs false

def putB (a n v : Int) : Bool := placeB a n && decide (v < 2 ^ n.toNat)
def putV (u a n v : Int) : Int := if putB a n v = true then 2 ^ (a.toNat + n.toNat) * (u / 2 ^ (a.toNat + n.toNat)) + v * 2 ^ a.toNat + u % 2 ^ a.toNat else 0
theorem above_zero (v : Int) (N : Nat) (hv : 0 ≤ v) : (v < 2 ^ N → (2 : Int) ^ N * (v / 2 ^ N) = 0) ∧ (¬ v < 2 ^ N → ((2 : Int) ^ N * (v / 2 ^ N) == 0) = false) := by
  have hp : (0 : Int) < 2 ^ N := Int.pow_pos (by omega)
  constructor
  · intro h
    rw [Int.ediv_eq_zero_of_lt hv h, Int.mul_zero]
  · intro h
    have : 1 ≤ v / 2 ^ N := (Int.le_ediv_iff_mul_le hp).2 (by omega)
    have := Int.mul_pos hp (show 0 < v / 2 ^ N by omega)
    simp; omega
set_option maxHeartbeats 4000000 in
theorem b_Put (u a n v : Int) (w : World) (hu : 0 ≤ u ∧ u ≤ 4294967295) (hv : 0 ≤ v ∧ v ≤ 4294967295) :
    Calls Try.prog 93 #[.int .u32 u, .int .i64 a, .int .i64 n, .int .u32 v] w fun e w' => e = .returned (.tuple #[.int .u32 (putV u a n v), .bool (putB a n v)]) ∧ Below w.heap.size w w' := by
  have HP := hid fun w => b_place a n w
  have HB : Hid (putB a n v = (placeB a n && decide (v < 2 ^ n.toNat))) := rfl
  have HV : Hid (putV u a n v = if putB a n v = true then 2 ^ (a.toNat + n.toNat) * (u / 2 ^ (a.toNat + n.toNat)) + v * 2 ^ a.toNat + u % 2 ^ a.toNat else 0) := rfl
  cases hB : placeB a n
  · rw [hB] at HP HB
    have e1 : putB a n v = false := by rw [HB.out]; rfl
    have e2 : putV u a n v = 0 := by rw [HV.out, e1]; rfl
    have E := hid (And.intro e1 e2)
    clear hB hu hv HB HV e1 e2
    go_enter Try.func93, Try.ntmps93
    go_wp2_with fail
    refine (HP.out _).mono ?_
    rintro e w' ⟨rfl, rfl⟩
    go_wp2
    go_ret2
    exact ⟨by rw [E.out.1, E.out.2]; rfl, Below.refl _ w⟩
  · obtain ⟨A, N, rfl, rfl, h1, h2⟩ := place_yes a n hB
    rw [hB] at HP HB
    have HM := hid fun w => b_mask N w (by omega)
    have hab := int_above v N hv (by omega)
    obtain ⟨z1, z2⟩ := above_zero v N hv.1
    by_cases g : v < 2 ^ N
    · have e1 : putB A N v = true := by rw [HB.out]; simpa using g
      have e2 : putV u A N v = 2 ^ (A + N) * (u / 2 ^ (A + N)) + v * 2 ^ A + u % 2 ^ A := by rw [HV.out, e1]; simp
      have hbe := int_beside u A N hu (by omega)
      obtain ⟨hor, y1, y2, r1, r2, _⟩ := int_put u v A N hu ⟨hv.1, g⟩ (by omega)
      rw [z1 g] at hab
      have E := hid (And.intro e1 e2)
      clear hB HB HV e1 e2 z1 z2
      obtain ⟨p1, p2⟩ := pow_bd N (by omega)
      obtain ⟨q1, q2⟩ := pow_bd A (by omega)
      have e64 : min A 64 = A := by omega
      have m1 : 0 ≤ ((2 : Int) ^ N - 1) * 2 ^ A := Int.mul_nonneg (by omega) (by omega)
      have m2 : ((2 : Int) ^ N - 1) * 2 ^ A ≤ 4294967295 := by
        have h3 := pow_bd (A + N) (by omega)
        rw [Int.pow_add, Int.mul_comm] at h3
        rw [Int.sub_mul]
        omega
      have um : IntKind.u32.wrap (((2 : Int) ^ N - 1) * 2 ^ A) = ((2 : Int) ^ N - 1) * 2 ^ A := IntWalk.u32_in _ (by omega)
      have uv : IntKind.u32.wrap (v * 2 ^ A) = v * 2 ^ A := IntWalk.u32_in _ (by omega)
      generalize hR : 2 ^ (A + N) * (u / 2 ^ (A + N)) + v * 2 ^ A + u % 2 ^ A = R at *
      generalize hX : 2 ^ (A + N) * (u / 2 ^ (A + N)) + u % 2 ^ A = X at *
      clear hR hX
      generalize hMM : ((2 : Int) ^ N - 1) * 2 ^ A = M at *
      generalize hVV : v * 2 ^ A = Y at *
      have hb : Below w.heap.size w w := Below.refl _ w
      go_enter Try.func93, Try.ntmps93
      go_wp2_with fail
      refine (HP.out _).mono ?_
      rintro e w' ⟨rfl, rfl⟩
      go_wp2_with fail
      refine (HM.out _).mono ?_
      rintro e w' ⟨rfl, rfl⟩
      go_wp2
      refine wp_region_noPanic ?_
      refine wp_region_held_drew (S := (fun _ : World => True)) (by kernel_rfl) trivial (fun hHeld => ?_)
      refine (show wpAnyH _ _ _ _ _ 12 _ _ _ from ?_)
      try (simp only [Act.put, List.setIfInBounds_toArray, List.set_cons_zero, List.set_cons_succ])
      replace hb := hb.drew
      generalize w.drew = W1 at *
      refine tk 0 hHeld ?_
      refine tk 1 hHeld ?_
      refine tk 3 hHeld ?_
      refine tk 6 hHeld ?_
      refine tk 7 hHeld ?_
      refine tk 8 hHeld ?_
      refine rd1 2 (fun K hK => ?_)
      go_simp
      refine (HM.out _).mono ?_
      rintro e w' ⟨rfl, rfl⟩
      go_wp2_with fail
      refine hK.out _ _ trivial (fun hHeld => ?_)
      clear hK K
      try (simp only [Act.put, List.setIfInBounds_toArray, List.set_cons_zero, List.set_cons_succ])
      refine tk 4 hHeld ?_
      refine tk 5 hHeld ?_
      refine tk 9 hHeld ?_
      refine tk 10 hHeld ?_
      refine tk 11 hHeld ?_
      refine wpAnyH_done ?hru3 ?hqu3 _
      case hru3 => kernel_rfl
      refine NoPanic.normal ?_
      go_wp2
      go_ret2
      exact ⟨by rw [E.out.1, E.out.2]; rfl, hb⟩
    · have e1 : putB A N v = false := by rw [HB.out]; simpa using g
      have e2 : putV u A N v = 0 := by rw [HV.out, e1]; rfl
      have E := hid (And.intro e1 e2)
      have z3 := z2 g
      rw [← hab] at z3
      clear hB HB HV e1 e2 z1 z2 hab g
      go_enter Try.func93, Try.ntmps93
      go_wp2_with fail
      refine (HP.out _).mono ?_
      rintro e w' ⟨rfl, rfl⟩
      go_wp2_with fail
      refine (HM.out _).mono ?_
      rintro e w' ⟨rfl, rfl⟩
      go_wp2
      go_ret2
      exact ⟨by rw [E.out.1, E.out.2]; rfl, Below.refl _ w⟩
end Go.Proofs.Ytfogjfmpgfcolaa
