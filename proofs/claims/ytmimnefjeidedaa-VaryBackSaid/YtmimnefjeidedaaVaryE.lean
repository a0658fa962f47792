/- Chapter 03: the reference's Take. -/
import Derived.Test.YtmimnefjeidedaaVaryC
namespace Go.Proofs.Ytmimnefjeidedaa
open Go.RowKit

theorem pow_le9 (j : Nat) (hj : j ≤ 9) : 1 ≤ (128 : Int) ^ j ∧ (128 : Int) ^ j ≤ 9223372036854775808 := by
  have hj' : j = 0 ∨ j = 1 ∨ j = 2 ∨ j = 3 ∨ j = 4 ∨ j = 5 ∨ j = 6 ∨ j = 7 ∨ j = 8 ∨ j = 9 := by omega
  rcases hj' with rfl | rfl | rfl | rfl | rfl | rfl | rfl | rfl | rfl | rfl <;> omega
theorem pow_le8 (j : Nat) (hj : j ≤ 8) : (128 : Int) ^ j ≤ 72057594037927936 := by
  have hj' : j = 0 ∨ j = 1 ∨ j = 2 ∨ j = 3 ∨ j = 4 ∨ j = 5 ∨ j = 6 ∨ j = 7 ∨ j = 8 := by omega
  rcases hj' with rfl | rfl | rfl | rfl | rfl | rfl | rfl | rfl | rfl <;> omega
theorem word_fits (c uj : Int) (j : Nat) (hj : j ≤ 9) (hx : 0 ≤ c ∧ c ≤ 255) (g9 : ¬ (j = 9 ∧ 1 < c)) (hu : uj < 128 ^ j) : 0 ≤ 128 ^ j * (c % 128) ∧ 128 ^ j * (c % 128) ≤ 18446744073709551615 ∧ uj + 128 ^ j * (c % 128) ≤ 18446744073709551615 := by
  have hj' : j = 0 ∨ j = 1 ∨ j = 2 ∨ j = 3 ∨ j = 4 ∨ j = 5 ∨ j = 6 ∨ j = 7 ∨ j = 8 ∨ j = 9 := by omega
  rcases hj' with rfl | rfl | rfl | rfl | rfl | rfl | rfl | rfl | rfl | rfl <;> omega

theorem var_Take (A : Option Addr) (n cap : Nat) (xs : List Int) (w : World) (h : Row .u8 w w.heap.size A n xs) (hB : ∀ x ∈ xs, 0 ≤ x ∧ x ≤ 255) (hn : n ≤ 9223372036854775807) :
    Calls Try.prog 41 #[.slice A n cap] w (Takes w xs) := by
  have HB := hid hB
  clear hB
  go_enter Try.func41, Try.ntmps41
  go_wp2
  go_loop [5, 6, 7] (fun u p i => ∃ (j : Nat) (uj P : Int), j ≤ n ∧ j ≤ 9 ∧ i = .int .i64 j ∧ u = .int .u64 uj ∧ p = .int .u64 P ∧ 0 ≤ uj ∧ Hid (P = 128 ^ j) ∧ Hid (uj < 128 ^ j) ∧ Hid (takeF j uj (xs.drop j) = takeP xs)) (fun _ _ i => n - (intOf i).toNat)
  case atStart => exact ⟨0, 0, 1, by omega, by omega, rfl, rfl, rfl, by omega, rfl, by show _ < _; omega, rfl⟩
  case round =>
    obtain ⟨j, uj, P, hj, hj9, rfl, rfl, rfl, h0, hP, hu, ht⟩ := hrel
    by_cases hlt : j < n
    · obtain ⟨ad, rfl, _, hc⟩ := h.at_ hlt
      have hx := bytes_at HB.out j
      have HD := hid (drop_at xs j (by rw [h.1]; exact hlt))
      generalize xs[j]?.getD 0 = c at *
      by_cases g9 : j = 9 ∧ 1 < c
      · have HT : Hid (((0, 0, 3) : Int × Int × Int) = takeP xs) := by show _ = _; rw [← ht.out, HD.out, takeF_form _ _ _ _ (.inl g9)]
        have g1 : ((j : Int) == 9) = true := by simp; omega
        have g2 : 1 < c := g9.2
        clear g9 hj9
        go_wp2
        go_ret3
        exact takes_of HT.out
      · obtain ⟨hP1, hP2⟩ := pow_le9 j hj9
        have hW := word_fits c uj j hj9 hx g9 hu.out
        rw [← hP.out] at hP1 hP2 hW
        obtain ⟨w1, w2, w3⟩ := hW
        by_cases gz : c = 0 ∧ 0 < j
        · have HT : Hid (((0, 0, 3) : Int × Int × Int) = takeP xs) := by show _ = _; rw [← ht.out, HD.out, takeF_form _ _ _ _ (.inr gz)]
          have g1 : (c == 0) = true := by simpa using gz.1
          have g2 : 0 < j := gz.2
          have g3 : c ≤ 1 := by omega
          have g4 : c < 128 := by omega
          have g5 : (c == 0) = true := by simpa using gz.1
          have g6 : decide (c < 128) = true := by simp; omega
          have g7 : decide (1 < c) = false := by simp; omega
          by_cases j9 : j = 9
          · have j9' : ((j : Int) == 9) = true := by simp; omega
            clear gz g9 j9 g5
            go_wp2
            go_ret3
            exact takes_of HT.out
          · have j9' : ((j : Int) == 9) = false := by simp; omega
            clear gz g9 j9 g5
            go_wp2
            go_ret3
            exact takes_of HT.out
        · have G : Hid (¬ ((j = 9 ∧ 1 < c) ∨ (c = 0 ∧ 0 < j))) := by show ¬ _; rintro (g | g) <;> contradiction
          by_cases gl : c < 128
          · have HT : Hid ((uj + P * (c % 128), (j : Int) + 1, 0) = takeP xs) := by
              show _ = _
              have e : c % 128 = c := by omega
              rw [e, ← ht.out, HD.out, takeF_ok _ _ _ _ G.out gl, hP.out, Int.mul_comm]
            by_cases j9 : j = 9
            · have t1 : ¬ 1 < c := fun g => g9 ⟨j9, g⟩
              have t2 : c ≠ 0 := fun g => gz ⟨g, by omega⟩
              have c1 : c ≤ 1 := by omega
              have c0' : (c == 0) = false := by simp; omega
              have j9' : ((j : Int) == 9) = true := by simp; omega
              clear g9 gz j9 t1 t2
              go_wp2
              go_ret3
              exact takes_of HT.out
            · have j9' : ((j : Int) == 9) = false := by simp; omega
              by_cases c0 : c = 0
              · have j00 : ¬ 0 < j := fun g => gz ⟨c0, g⟩
                have j0 : decide (0 < j) = false := by simp; omega
                have j1 : decide ((0 : Int) < (j : Int)) = false := by simp; omega
                have c0' : (c == 0) = true := by simp; omega
                clear g9 gz c0 j9 j00
                go_wp2
                go_ret3
                exact takes_of HT.out
              · have c0' : (c == 0) = false := by simpa using c0
                clear g9 gz c0 j9
                go_wp2
                go_ret3
                exact takes_of HT.out
          · have j9 : ¬ j = 9 := fun g => g9 ⟨g, by omega⟩
            have j9' : ((j : Int) == 9) = false := by simp; omega
            have c0' : (c == 0) = false := by simp; omega
            have hm : c % 128 = c - 128 := by omega
            have hnx := pow_next uj (c - 128) j h0 hu.out (by omega) (by omega)
            have hP8 := pow_le8 j (by omega)
            rw [← hP.out] at hP8
            have HT : Hid (takeF (j + 1) (uj + P * (c % 128)) (xs.drop (j + 1)) = takeP xs) := by
              show _ = _
              rw [← ht.out, HD.out, takeF_more _ _ _ _ G.out gl, hm, hP.out, Int.mul_comm]
            have HN : Hid (0 ≤ uj + P * (c % 128) ∧ uj + P * (c % 128) < 128 ^ (j + 1)) := by
              show _ ∧ _
              rw [hm, hP.out, Int.mul_comm]; exact hnx
            have HP : Hid (P * 128 = 128 ^ (j + 1)) := by show _ = _; rw [hP.out, Int.pow_succ]
            clear g9 gz hm hnx
            go_wp2
            go_round
            case rel => exact ⟨j + 1, _, _, by omega, by omega, by go_num, rfl, rfl, HN.out.1, HP, HN.out.2, HT⟩
            case measure => simp [intOf]; omega
    · obtain rfl : j = n := by omega
      have HT : Hid (((0, 0, 2) : Int × Int × Int) = takeP xs) := by
        show _ = _
        rw [← ht.out, List.drop_eq_nil_of_le (by rw [h.1]; exact Nat.le_refl _)]; rfl
      go_wp2
      go_ret3
      exact takes_of HT.out
end Go.Proofs.Ytmimnefjeidedaa
