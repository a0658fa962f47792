/- Chapter 08: some bits of a word: get, put, with a sign. -/
import Derived.Test.YtfogjfmpgfcolaaBits
import Derived.Test.YtfogjfmpgfcolaaHeld
import Derived.Laws.Closers25b
namespace Go.Proofs.Ytfogjfmpgfcolaa
open Go.RowKit
set_option linter.unusedVariables false
set_option linter.unusedSimpArgs false

theorem place_yes (a n : Int) (h : placeB a n = true) : ∃ A N : Nat, a = A ∧ n = N ∧ 1 ≤ N ∧ A + N ≤ 32 := by
  unfold placeB at h
  simp only [Bool.and_eq_true, decide_eq_true_eq] at h
  exact ⟨a.toNat, n.toNat, by omega, by omega, by omega, by omega⟩
def getP (u a n : Int) : Int := if placeB a n = true then u / 2 ^ a.toNat % 2 ^ n.toNat else 0
theorem wraps_u32 (n : Int) (h₀ : 0 ≤ n) (h₁ : n < 2 ^ 32) : IntKind.u32.wrap n = n := by rw [IntKind.wrap_u32]; omega
theorem and_mask (x : Int) (N : Nat) (hN : N ≤ 32) (h0 : 0 ≤ x) (h1 : x < 4294967296) : bits .and .u32 x (2 ^ N - 1) = x % 2 ^ N :=
  bits_mask .u32 32 (by decide) wraps_u32 N hN x h0 (by omega)
theorem b_Get (u a n : Int) (w : World) (hu : 0 ≤ u ∧ u ≤ 4294967295) :
    Calls Try.prog 98 #[.int .u32 u, .int .i64 a, .int .i64 n] w fun e w' => e = .returned (.int .u32 (getP u a n)) ∧ Below w.heap.size w w' := by
  have HP := hid fun w => b_place a n w
  have HG : Hid (getP u a n = if placeB a n = true then u / 2 ^ a.toNat % 2 ^ n.toNat else 0) := rfl
  cases hB : placeB a n
  · rw [hB] at HP HG
    clear hB hu
    go_enter Try.func98, Try.ntmps98
    go_wp2_with fail
    refine (HP.out _).mono ?_
    rintro e w' ⟨rfl, rfl⟩
    go_wp2
    go_ret
    exact ⟨by rw [HG.out]; rfl, Below.refl _ w⟩
  · obtain ⟨A, N, rfl, rfl, h1, h2⟩ := place_yes a n hB
    rw [hB] at HP HG
    have HM := hid fun w => b_mask N w (by omega)
    obtain ⟨p1, p2⟩ := pow_bd N (by omega)
    obtain ⟨q1, q2⟩ := pow_bd A (by omega)
    have e64 : min A 64 = A := by omega
    have x0 : 0 ≤ u / 2 ^ A := Int.ediv_nonneg hu.1 (by omega)
    have x1 : u / 2 ^ A ≤ u := Int.ediv_le_self _ hu.1
    have hand := and_mask (u / 2 ^ A) N (by omega) x0 (by omega)
    have r0 : 0 ≤ u / 2 ^ A % 2 ^ N := Int.emod_nonneg _ (by omega)
    have HG2 : Hid (getP u A N = u / 2 ^ A % 2 ^ N) := hid (by rw [HG.out]; simp)
    generalize hR : u / 2 ^ A % 2 ^ N = R at *
    generalize hX : u / 2 ^ A = X at *
    generalize hP : (2 : Int) ^ N = P at *
    have hb : Below w.heap.size w w := Below.refl _ w
    clear hB HG
    go_enter Try.func98, Try.ntmps98
    go_wp2_with fail
    refine (HP.out _).mono ?_
    rintro e w' ⟨rfl, rfl⟩
    go_wp2
    refine wp_region_noPanic ?_
    refine wp_region_held_drew (S := (fun _ : World => True)) (by kernel_rfl) trivial (fun hHeld => ?_)
    refine (show wpAnyH _ _ _ _ _ 7 _ _ _ from ?_)
    try (simp only [Act.put, List.setIfInBounds_toArray, List.set_cons_zero, List.set_cons_succ])
    replace hb := hb.drew
    generalize w.drew = W1 at *
    refine tk 0 hHeld ?_
    refine tk 1 hHeld ?_
    refine tk 2 hHeld ?_
    refine tk 3 hHeld ?_
    refine rd1 4 (fun K hK => ?_)
    go_simp
    refine (HM.out _).mono ?_
    rintro e w' ⟨rfl, rfl⟩
    go_wp2_with fail
    refine hK.out _ _ trivial (fun hHeld => ?_)
    clear hK K
    try (simp only [Act.put, List.setIfInBounds_toArray, List.set_cons_zero, List.set_cons_succ])
    refine tk 5 hHeld ?_
    refine tk 6 hHeld ?_
    refine wpAnyH_done ?hru3 ?hqu3 _
    case hru3 => kernel_rfl
    refine NoPanic.normal ?_
    go_wp2
    go_ret
    exact ⟨by rw [HG2.out]; rfl, hb⟩
end Go.Proofs.Ytfogjfmpgfcolaa
