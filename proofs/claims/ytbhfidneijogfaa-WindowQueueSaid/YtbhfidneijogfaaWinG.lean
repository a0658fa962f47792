/- Chapter 39: bytes come. -/
import Derived.Test.YtbhfidneijogfaaWinF
namespace Go.Proofs.Ytbhfidneijogfaa
open Go.RowKit
set_option linter.unusedVariables false
set_option linter.unusedSimpArgs false

theorem Row.drop {k : IntKind} {w : World} {B : Nat} {ad : Addr} {n : Nat} {xs : List Int} (h : Row k w B (some ad) n xs) (j : Nat) (hj : j ≤ n) : Row k w B (some (ad.add j)) (n - j) (xs.drop j) := by
  refine ⟨by simp [h.1], fun e => (by cases e), fun ad' e i hi => ?_⟩
  cases e
  have := h.2.2 ad rfl (j + i) (by omega)
  rw [add_block, add_twice]
  refine ⟨this.1, ?_⟩
  rw [this.2]
  simp
theorem Row.cut {k : IntKind} {w : World} {B : Nat} {ad : Addr} {n : Nat} {xs : List Int} (h : Row k w B (some ad) n xs) (c j : Nat) (hj : j ≤ n) (hc : n ≤ c) : Row k w B (if c = j then some ad else some (ad.add j)) (n - j) (xs.drop j) := by
  split
  · refine ⟨by simp [h.1], fun e => (by cases e), fun ad' e i hi => ?_⟩
    omega
  · exact h.drop j hj
theorem w_Put_full (g : Nat) (bs : List Int) (P N : Nat) (A : Option Addr) (m c : Nat) (w : World) (h : Win w g true bs P N) (hN : N ≤ 1024) (hK : min m (1024 - N) = 0) :
    Calls Try.prog 18 #[.pointer (some ⟨g, 0, none⟩), .slice A m c] w fun e w' => e = .returned (.int .i64 0) ∧ w = w' := by
  have HR := w_Room g true bs P N w h (by omega)
  simp only [roomW, if_true] at HR
  replace HR := hid HR
  rcases Nat.eq_zero_or_pos m with rfl | hm
  · have d1 : (0 : Int) ≤ 1024 - (N : Int) := by omega
    generalize 1024 - (N : Int) = R at *
    go_enter Try.func18, Try.ntmps18
    go_wp2_with fail
    refine (HR.out).mono ?_
    rintro e w' ⟨rfl, rfl⟩
    go_wp2
    go_ret
    exact ⟨rfl, rfl⟩
  · have d0 : 1024 - (N : Int) = 0 := by omega
    rw [d0] at HR
    have d1 : (0 : Int) < (m : Int) := by omega
    go_enter Try.func18, Try.ntmps18
    go_wp2_with fail
    refine (HR.out).mono ?_
    rintro e w' ⟨rfl, rfl⟩
    go_wp2
    go_ret
    exact ⟨rfl, rfl⟩
set_option maxHeartbeats 4000000 in
theorem w_Put_some (g : Nat) (bs : List Int) (P N : Nat) (ad : Addr) (m c : Nat) (xs : List Int) (B : Nat) (w : World) (h : Win w g true bs P N) (hP : P < 1024) (hN : N ≤ 1024) (hK : 0 < min m (1024 - N)) (hmc : m ≤ c) (hml : m ≤ maxLen)
    (hr : ∀ w', w.grownBy w' (some g) → Row .u8 w' B (some ad) m xs) :
    Calls Try.prog 18 #[.pointer (some ⟨g, 0, none⟩), .slice (some ad) m c] w fun e w' => e = .returned (.int .i64 (min m (1024 - N) : Nat)) ∧ w.grownBy w' (some g) ∧
      Win w' g true (putW bs ((P + N) % 1024) (min (min m (1024 - N)) (1024 - (P + N) % 1024)) (xs.take (min m (1024 - N)))) P (N + min m (1024 - N) : Nat) := by
  have HR := w_Room g true bs P N w h (by omega)
  simp only [roomW, if_true] at HR
  replace HR := hid HR
  have hmin : min m (1024 - N) = m ∧ (m : Int) ≤ 1024 - (N : Int) ∨ 1024 - (N : Int) = ((min m (1024 - N) : Nat) : Int) ∧ ((min m (1024 - N) : Nat) : Int) < (m : Int) := by omega
  have hKm : min m (1024 - N) ≤ m := by omega
  have hKN : N + min m (1024 - N) ≤ 1024 := by omega
  generalize min m (1024 - N) = K at *
  have k0 : ¬ ((K : Int) = 0) := by omega
  have k1 : (0 : Int) ≤ (K : Int) := by omega
  have k2 : (K : Int) ≤ (m : Int) := by omega
  have k3 : (K : Int) ≤ (c : Int) := by omega
  have E1 : (P + N) % 1024 < 1024 := by omega
  have u1 : IntKind.i64.wrap ((P : Int) + (N : Int)) = (P : Int) + (N : Int) := IntWalk.i64_in _ (by omega)
  have u2 : ((P : Int) + (N : Int)).tmod 1024 = (((P + N) % 1024 : Nat) : Int) := by rw [Int.tmod_eq_emod_of_nonneg (by omega)]; omega
  generalize (P + N) % 1024 = E at *
  have u3 : IntKind.i64.wrap (E : Int) = (E : Int) := IntWalk.i64_in _ (by omega)
  have e1 : (0 : Int) ≤ (E : Int) := by omega
  have e2 : (E : Int) ≤ 1024 := by omega
  have e3 : ¬ (1024 = E) := by omega
  have c1 := h.place
  have c2 := h.count
  rcases hmin with ⟨q, d1⟩ | ⟨q, d1⟩
  · subst q
    generalize 1024 - (N : Int) = R at *
    go_enter Try.func18, Try.ntmps18
    go_wp2_with fail
    refine (HR.out).mono ?_
    rintro e w' ⟨rfl, rfl⟩
    go_wp2
    go_quiet (fail)
    go_wp2
    have hw1 : w.grownBy (w.drewN nq).drew (some g) := only_drew (only_drewN (World.grownBy.refl _ _) nq)
    have h1 : Win (w.drewN nq).drew g true bs P N := h
    refine wp_region_noPanic ?_
    refine wp_region_held_drew (S := (fun _ : World => True)) (by kernel_rfl) trivial (fun hHeld => ?_)
    refine (show wpAnyH _ _ _ _ _ 10 _ _ _ from ?_)
    try (simp only [Act.put, List.setIfInBounds_toArray, List.set_cons_zero, List.set_cons_succ])
    generalize (w.drewN nq).drew = W1 at *
    refine tk 0 hHeld ?_
    refine tk 1 hHeld ?_
    refine tk 2 hHeld ?_
    refine tk 3 hHeld ?_
    refine tk 4 hHeld ?_
    refine tk 5 hHeld ?_
    refine tk 6 hHeld ?_
    refine tk 7 hHeld ?_
    refine rd1 8 (fun X hX => ?_)
    rw [if_pos (by kernel_rfl)]
    refine wp_copyrow (k := .u8) (.tmp 29) (.tmp 32) 27 27 rfl 5 (by kernel_rfl) (by kernel_rfl) (some ⟨g, 1 + E, none⟩) (some ad) (1024 - E) (1024 - E) K c rfl rfl B (xs.take K) ((hr _ hw1).take (by omega) (fun e => by cases e)) g (1 + E) (winL true bs P N) 41 h1.1 (fun _ => rfl) (by rw [len_winL, h1.2]; omega) ?_
    intro W2 hb2 hg2
    have hw2 := hw1.trans hg2
    generalize hK1 : min K (1024 - E) = K1 at *
    have y1 : K1 ≤ K := by omega
    have y2 : E + K1 ≤ 1024 := by omega
    have y3 : (0 : Int) ≤ (K1 : Int) := by omega
    have y4 : (K1 : Int) ≤ (K : Int) := by omega
    rw [List.take_take, Nat.min_eq_left y1, win_splice true bs P N E (xs.take K1) (by simp [h1.2]; omega)] at hb2
    have h2 : Win W2 g true (splice bs E (xs.take K1)) P N := ⟨hb2, by rw [length_splice _ _ _ (by simp [h1.2]; omega)]; exact h1.2⟩
    clear hb2 hg2 h1 hw1 hHeld
    refine hX.out _ _ trivial (fun hHeld => ?_)
    clear hX X
    try (simp only [Act.put, List.setIfInBounds_toArray, List.set_cons_zero, List.set_cons_succ])
    refine tk 9 hHeld ?_
    refine wpAnyH_done ?hr1 ?hq1 _
    case hr1 => kernel_rfl
    refine NoPanic.normal ?_
    clear hHeld
    go_wp2
    have hw3 := hw2.trans (only_drew (World.grownBy.refl W2 (some g)))
    replace h2 : Win W2.drew g true (splice bs E (xs.take K1)) P N := h2
    refine wp_region_noPanic ?_
    refine wp_region_held_drew (S := (fun _ : World => True)) (by kernel_rfl) trivial (fun hHeld => ?_)
    refine (show wpAnyH _ _ _ _ _ 9 _ _ _ from ?_)
    try (simp only [Act.put, List.setIfInBounds_toArray, List.set_cons_zero, List.set_cons_succ])
    generalize W2.drew = W3 at *
    refine tk 0 hHeld ?_
    refine tk 1 hHeld ?_
    refine tk 2 hHeld ?_
    refine tk 3 hHeld ?_
    refine tk 4 hHeld ?_
    refine tk 5 hHeld ?_
    refine tk 6 hHeld ?_
    refine tk 7 hHeld ?_
    refine rd1 8 (fun X hX => ?_)
    rw [if_pos (by kernel_rfl)]
    refine wp_copyrow (k := .u8) (.tmp 37) (.tmp 41) 27 27 rfl 5 (by kernel_rfl) (by kernel_rfl) (some ⟨g, 1, none⟩) (if c = K1 then some ad else some (ad.add K1)) 1024 1024 (K - K1) (c - K1) rfl rfl B ((xs.take K).drop K1) (((hr _ hw3).take (by omega) (fun e => by cases e)).cut c K1 y1 (by omega)) g (1 + 0) (winL true (splice bs E (xs.take K1)) P N) 41 h2.1 (fun _ => rfl) (by rw [len_winL, h2.2]; omega) ?_
    intro W4 hb2 hg2
    have hw4 := hw3.trans hg2
    have y5 : ((xs.take K).drop K1).length ≤ 1024 := by simp; omega
    have e9 : ((xs.take K).drop K1).take (K - K1) = (xs.take K).drop K1 := List.take_of_length_le (by simp <;> omega)
    rw [show min (K - K1) 1024 = K - K1 by omega, e9, win_splice true _ P N 0 _ (by rw [h2.2]; omega)] at hb2
    generalize (if c = K1 then some ad else some (ad.add K1)) = Z at *
    have h4 : Win W4 g true (putW bs E K1 (xs.take K)) P N := by
      have e0 : putW bs E K1 (xs.take K) = splice (splice bs E (xs.take K1)) 0 ((xs.take K).drop K1) := by unfold putW; rw [List.take_take, Nat.min_eq_left y1]
      rw [e0]
      exact ⟨hb2, by rw [length_splice _ _ _ (by rw [h2.2]; omega)]; exact h2.2⟩
    clear hb2 hg2 h2 hw3 hHeld
    refine hX.out _ _ trivial (fun hHeld => ?_)
    clear hX X
    try (simp only [Act.put, List.setIfInBounds_toArray, List.set_cons_zero, List.set_cons_succ])
    refine wpAnyH_done ?hs1 ?hp1 _
    case hs1 => kernel_rfl
    refine NoPanic.normal ?_
    clear hHeld
    have c5 := h4.count
    have z5 := h4.frozen 1026
    have u5 : IntKind.i64.wrap ((N : Int) + (K : Int)) = (N : Int) + (K : Int) := IntWalk.i64_in _ (by omega)
    have h5 := h4.setCount ((N : Int) + (K : Int))
    have hw5 := only_set hw4 1026 (.int .i64 ((N : Int) + (K : Int)))
    go_wp2
    go_ret
    exact ⟨rfl, hw5, by rw [hK1]; exact h5⟩
  · rw [q] at HR
    clear q
    go_enter Try.func18, Try.ntmps18
    go_wp2_with fail
    refine (HR.out).mono ?_
    rintro e w' ⟨rfl, rfl⟩
    go_wp2
    go_quiet (fail)
    go_wp2
    have hw1 : w.grownBy (w.drewN nq).drew (some g) := only_drew (only_drewN (World.grownBy.refl _ _) nq)
    have h1 : Win (w.drewN nq).drew g true bs P N := h
    refine wp_region_noPanic ?_
    refine wp_region_held_drew (S := (fun _ : World => True)) (by kernel_rfl) trivial (fun hHeld => ?_)
    refine (show wpAnyH _ _ _ _ _ 10 _ _ _ from ?_)
    try (simp only [Act.put, List.setIfInBounds_toArray, List.set_cons_zero, List.set_cons_succ])
    generalize (w.drewN nq).drew = W1 at *
    refine tk 0 hHeld ?_
    refine tk 1 hHeld ?_
    refine tk 2 hHeld ?_
    refine tk 3 hHeld ?_
    refine tk 4 hHeld ?_
    refine tk 5 hHeld ?_
    refine tk 6 hHeld ?_
    refine tk 7 hHeld ?_
    refine rd1 8 (fun X hX => ?_)
    rw [if_pos (by kernel_rfl)]
    refine wp_copyrow (k := .u8) (.tmp 29) (.tmp 32) 27 27 rfl 5 (by kernel_rfl) (by kernel_rfl) (some ⟨g, 1 + E, none⟩) (some ad) (1024 - E) (1024 - E) K c rfl rfl B (xs.take K) ((hr _ hw1).take (by omega) (fun e => by cases e)) g (1 + E) (winL true bs P N) 41 h1.1 (fun _ => rfl) (by rw [len_winL, h1.2]; omega) ?_
    intro W2 hb2 hg2
    have hw2 := hw1.trans hg2
    generalize hK1 : min K (1024 - E) = K1 at *
    have y1 : K1 ≤ K := by omega
    have y2 : E + K1 ≤ 1024 := by omega
    have y3 : (0 : Int) ≤ (K1 : Int) := by omega
    have y4 : (K1 : Int) ≤ (K : Int) := by omega
    rw [List.take_take, Nat.min_eq_left y1, win_splice true bs P N E (xs.take K1) (by simp [h1.2]; omega)] at hb2
    have h2 : Win W2 g true (splice bs E (xs.take K1)) P N := ⟨hb2, by rw [length_splice _ _ _ (by simp [h1.2]; omega)]; exact h1.2⟩
    clear hb2 hg2 h1 hw1 hHeld
    refine hX.out _ _ trivial (fun hHeld => ?_)
    clear hX X
    try (simp only [Act.put, List.setIfInBounds_toArray, List.set_cons_zero, List.set_cons_succ])
    refine tk 9 hHeld ?_
    refine wpAnyH_done ?hr2 ?hq2 _
    case hr2 => kernel_rfl
    refine NoPanic.normal ?_
    clear hHeld
    go_wp2
    have hw3 := hw2.trans (only_drew (World.grownBy.refl W2 (some g)))
    replace h2 : Win W2.drew g true (splice bs E (xs.take K1)) P N := h2
    refine wp_region_noPanic ?_
    refine wp_region_held_drew (S := (fun _ : World => True)) (by kernel_rfl) trivial (fun hHeld => ?_)
    refine (show wpAnyH _ _ _ _ _ 9 _ _ _ from ?_)
    try (simp only [Act.put, List.setIfInBounds_toArray, List.set_cons_zero, List.set_cons_succ])
    generalize W2.drew = W3 at *
    refine tk 0 hHeld ?_
    refine tk 1 hHeld ?_
    refine tk 2 hHeld ?_
    refine tk 3 hHeld ?_
    refine tk 4 hHeld ?_
    refine tk 5 hHeld ?_
    refine tk 6 hHeld ?_
    refine tk 7 hHeld ?_
    refine rd1 8 (fun X hX => ?_)
    rw [if_pos (by kernel_rfl)]
    refine wp_copyrow (k := .u8) (.tmp 37) (.tmp 41) 27 27 rfl 5 (by kernel_rfl) (by kernel_rfl) (some ⟨g, 1, none⟩) (if c = K1 then some ad else some (ad.add K1)) 1024 1024 (K - K1) (c - K1) rfl rfl B ((xs.take K).drop K1) (((hr _ hw3).take (by omega) (fun e => by cases e)).cut c K1 y1 (by omega)) g (1 + 0) (winL true (splice bs E (xs.take K1)) P N) 41 h2.1 (fun _ => rfl) (by rw [len_winL, h2.2]; omega) ?_
    intro W4 hb2 hg2
    have hw4 := hw3.trans hg2
    have y5 : ((xs.take K).drop K1).length ≤ 1024 := by simp; omega
    have e9 : ((xs.take K).drop K1).take (K - K1) = (xs.take K).drop K1 := List.take_of_length_le (by simp <;> omega)
    rw [show min (K - K1) 1024 = K - K1 by omega, e9, win_splice true _ P N 0 _ (by rw [h2.2]; omega)] at hb2
    generalize (if c = K1 then some ad else some (ad.add K1)) = Z at *
    have h4 : Win W4 g true (putW bs E K1 (xs.take K)) P N := by
      have e0 : putW bs E K1 (xs.take K) = splice (splice bs E (xs.take K1)) 0 ((xs.take K).drop K1) := by unfold putW; rw [List.take_take, Nat.min_eq_left y1]
      rw [e0]
      exact ⟨hb2, by rw [length_splice _ _ _ (by rw [h2.2]; omega)]; exact h2.2⟩
    clear hb2 hg2 h2 hw3 hHeld
    refine hX.out _ _ trivial (fun hHeld => ?_)
    clear hX X
    try (simp only [Act.put, List.setIfInBounds_toArray, List.set_cons_zero, List.set_cons_succ])
    refine wpAnyH_done ?hs2 ?hp2 _
    case hs2 => kernel_rfl
    refine NoPanic.normal ?_
    clear hHeld
    have c5 := h4.count
    have z5 := h4.frozen 1026
    have u5 : IntKind.i64.wrap ((N : Int) + (K : Int)) = (N : Int) + (K : Int) := IntWalk.i64_in _ (by omega)
    have h5 := h4.setCount ((N : Int) + (K : Int))
    have hw5 := only_set hw4 1026 (.int .i64 ((N : Int) + (K : Int)))
    go_wp2
    go_ret
    exact ⟨rfl, hw5, by rw [hK1]; exact h5⟩
end Go.Proofs.Ytbhfidneijogfaa
