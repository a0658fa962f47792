/- Chapter 02: the walks of the squares and the lengths; what must come. -/
import Derived.Test.YtfogjfmpgfcolaaRootC
namespace Go.Proofs.Ytfogjfmpgfcolaa
open Go.RowKit

theorem sqP_is {xs : List Int} {v : Int} (h : v = sqs xs) (hv : v ≤ 18446744073709551615) : Ending.returned (.int .u64 v) = .returned (.int .u64 (sqP xs)) := by
  have : sqP xs = v := by unfold sqP; omega
  rw [this]
theorem sqP_over {xs : List Int} (h : 18446744073709551615 ≤ sqs xs) : Ending.returned (.int .u64 18446744073709551615) = .returned (.int .u64 (sqP xs)) := by
  have : sqP xs = 18446744073709551615 := by unfold sqP; omega
  rw [this]

theorem root_Squares (A : Option Addr) (n c : Nat) (xs : List Int) (w : World) (h : Row .i32 w w.heap.size A n xs) (hx : ∀ x ∈ xs, -2147483648 ≤ x ∧ x ≤ 2147483647) (hn : n ≤ 1000) :
    Calls Try.prog 87 #[.slice A n c] w fun e w' => e = .returned (.int .u64 (sqP xs)) ∧ w = w' := by
  have HX := hid hx
  clear hx
  go_enter Try.func87, Try.ntmps87
  go_wp2
  go_loop [3, 11] (fun s i => ∃ j : Nat, j ≤ n ∧ i = .int .i64 j ∧ s = .int .u64 (sqs (xs.take j)) ∧ sqs (xs.take j) ≤ 18446744073709551615) (fun _ i => n - (intOf i).toNat)
  case atStart => exact ⟨0, by omega, rfl, rfl, by simp [sqs]⟩
  case round =>
    obtain ⟨j, hj, rfl, rfl, hs⟩ := hrel
    have hs0 := sqs_nonneg (xs.take j)
    by_cases hlt : j < n
    · obtain ⟨ad, rfl, _, hc⟩ := h.at_ hlt
      have hjl : j < xs.length := by rw [h.1]; exact hlt
      have hx : -2147483648 ≤ xs[j]?.getD 0 ∧ xs[j]?.getD 0 ≤ 2147483647 := by
        have := HX.out xs[j] (List.getElem_mem hjl)
        simpa [hjl] using this
      have hT := sqs_take xs j hjl
      have hq := sq32 _ hx
      obtain ⟨x1, x2⟩ := hx
      obtain ⟨q1, q2⟩ := hq
      generalize xs[j]?.getD 0 = x at *
      generalize sqs (xs.take j) = s at *
      generalize hQ : x * x = q at *
      have HT := hid hT
      clear hT
      by_cases g : s + q ≤ 18446744073709551615
      · have d1 : (s + q) / 18446744073709551616 = 0 := by omega
        have d2 : (s + q) % 18446744073709551616 = s + q := by omega
        go_wp2_with (simp only [lib_Add64 _ _ hs0 q1])
        go_round
        case rel => exact ⟨j + 1, by omega, by go_num, by rw [HT.out.1], by rw [HT.out.1]; exact g⟩
        case measure => simp [intOf]; omega
      · have d1 : (s + q) / 18446744073709551616 = 1 := by omega
        have HO := hid (sqP_over (xs := xs) (by have := HT.out; omega))
        go_wp2_with (simp only [lib_Add64 _ _ hs0 q1])
        go_ret
        exact ⟨HO.out, rfl⟩
    · obtain rfl : j = n := by omega
      have et : xs.take j = xs := List.take_of_length_le (by rw [h.1]; exact Nat.le_refl _)
      rw [et] at hs hs0 ⊢
      clear et
      have HO := hid (sqP_is (xs := xs) rfl hs)
      go_wp2
      go_ret
      exact ⟨HO.out, rfl⟩

theorem ref_Squares (A : Option Addr) (n c : Nat) (xs : List Int) (w : World) (h : Row .i32 w w.heap.size A n xs) (hx : ∀ x ∈ xs, -2147483648 ≤ x ∧ x ≤ 2147483647) (hn : n ≤ 1000) :
    Calls Try.prog 22 #[.slice A n c] w fun e w' => e = .returned (.int .u64 (sqP xs)) ∧ Below w.heap.size w w' := by
  have HX := hid hx
  clear hx
  go_enter Try.func22, Try.ntmps22
  go_wp2
  go_loopw [3, 4] (fun s i wr => ∃ j : Nat, j ≤ n ∧ i = .int .i64 j ∧ s = .int .u64 (sqs (xs.take j)) ∧ sqs (xs.take j) ≤ 18446744073709551615 ∧ Below w.heap.size w wr) (fun _ i _ => n - (intOf i).toNat)
  case atStart => exact ⟨0, by omega, rfl, rfl, by simp [sqs], Below.refl _ _⟩
  case round =>
    obtain ⟨j, hj, rfl, rfl, hs, hbe⟩ := hrel
    have hs0 := sqs_nonneg (xs.take j)
    by_cases hlt : j < n
    · obtain ⟨ad, rfl, _, hc⟩ := (h.below hbe).at_ hlt
      have hjl : j < xs.length := by rw [h.1]; exact hlt
      have hx : -2147483648 ≤ xs[j]?.getD 0 ∧ xs[j]?.getD 0 ≤ 2147483647 := by
        have := HX.out xs[j] (List.getElem_mem hjl)
        simpa [hjl] using this
      have hT := sqs_take xs j hjl
      have hq := sq32 _ hx
      obtain ⟨x1, x2⟩ := hx
      obtain ⟨q1, q2⟩ := hq
      generalize xs[j]?.getD 0 = x at *
      generalize sqs (xs.take j) = s at *
      generalize hQ : x * x = q at *
      have HT := hid hT
      clear hT
      have k0 : (0 : Int) ≤ (j : Int) := by omega
      have k1 : (j : Int) < (n : Int) := by omega
      by_cases g : s + q ≤ 18446744073709551615
      · go_wp2_with fail
        go_quiet (fail)
        go_wp2
        go_roundw
        case rel => exact ⟨j + 1, by omega, by go_num, by rw [HT.out.1], by rw [HT.out.1]; exact g, hbe.drewN' _⟩
        case measure => simp [intOf]; omega
      · have HO := hid (sqP_over (xs := xs) (by have := HT.out; omega))
        go_wp2_with fail
        go_quiet (fail)
        go_wp2
        go_ret
        exact ⟨HO.out, hbe.drewN' _⟩
    · obtain rfl : j = n := by omega
      have et : xs.take j = xs := List.take_of_length_le (by rw [h.1]; exact Nat.le_refl _)
      rw [et] at hs hs0 ⊢
      clear et
      have HO := hid (sqP_is (xs := xs) rfl hs)
      go_wp2
      go_ret
      exact ⟨HO.out, hbe⟩

theorem root_Length (A : Option Addr) (n c : Nat) (xs : List Int) (w : World) (h : Row .i32 w w.heap.size A n xs) (hx : ∀ x ∈ xs, -2147483648 ≤ x ∧ x ≤ 2147483647) (hn : n ≤ 1000) :
    Calls Try.prog 57 #[.slice A n c] w fun e w' => e = .returned (.int .u32 (rootP (sqP xs))) ∧ w = w' := by
  have H1 := hid (root_Squares A n c xs w h hx hn)
  have hb := sqP_bd xs
  have H2 := hid (root_Sqrt (sqP xs) w hb.1 hb.2)
  clear hx hb
  generalize rootP (sqP xs) = r at *
  generalize sqP xs = s at *
  go_enter Try.func57, Try.ntmps57
  go_wp2_with fail
  refine (H1.out).mono ?_
  rintro e w' ⟨rfl, rfl⟩
  go_wp2_with fail
  refine (H2.out).mono ?_
  rintro e w' ⟨rfl, rfl⟩
  go_wp2
  go_ret
  exact ⟨rfl, rfl⟩
theorem ref_Length (A : Option Addr) (n c : Nat) (xs : List Int) (w : World) (h : Row .i32 w w.heap.size A n xs) (hx : ∀ x ∈ xs, -2147483648 ≤ x ∧ x ≤ 2147483647) (hn : n ≤ 1000) :
    Calls Try.prog 46 #[.slice A n c] w fun e w' => e = .returned (.int .u32 (rootP (sqP xs))) ∧ Below w.heap.size w w' := by
  have H1 := hid (ref_Squares A n c xs w h hx hn)
  have hb := sqP_bd xs
  have H2 := hid fun w => ref_Sqrt (sqP xs) w hb.1 hb.2
  clear hx hb
  generalize rootP (sqP xs) = r at *
  generalize sqP xs = s at *
  go_enter Try.func46, Try.ntmps46
  go_wp2_with fail
  refine (H1.out).mono ?_
  rintro e w' ⟨rfl, b1⟩
  go_wp2_with fail
  refine (H2.out _).mono ?_
  rintro e w' ⟨rfl, rfl⟩
  go_wp2
  go_ret
  exact ⟨rfl, b1⟩

end Go.Proofs.Ytfogjfmpgfcolaa
