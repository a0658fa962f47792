/- Chapter 06: the walks of the laws: the Go text returns true, whatever the bytes. -/
import Derived.Test.YtmimnefjeidedaaFletchB
namespace Go.Proofs.Ytmimnefjeidedaa
open Go.RowKit


theorem bytes_of {xs : List Int} (h : ∀ x ∈ xs, (Lit.int .u8 x).wf = true) : Bytes xs := fun x hx => bounds_u8 (h x hx)

theorem fletchSums_walk (A : Option Addr) (n c : Nat) (xs : List Int) (A' : Option Addr) (n' c' : Nat) (ys : List Int) (w : World) (h : In .u8 w A n c xs) (h' : In .u8 w A' n' c' ys) :
    Calls Try.prog 3 #[.slice A n c, .slice A' n' c'] w fun e w' => e = .returned (.bool true) ∧ Below w.heap.size w w' := by
  obtain ⟨hr, hm, _, hw⟩ := h
  obtain ⟨hr', hm', _, hw'⟩ := h'
  unfold maxLen at hm hm'
  by_cases g1 : 500 < n
  · go_enter Try.func3, Try.ntmps3
    go_wp2_with (go_at_call 15; refine (fl_knows _).mono ?_; rintro e w' ⟨rfl, hb⟩)
    go_ret
    exact ⟨rfl, hb⟩
  by_cases g2 : 500 < n'
  · go_enter Try.func3, Try.ntmps3
    go_wp2_with (go_at_call 15; refine (fl_knows _).mono ?_; rintro e w' ⟨rfl, hb⟩)
    go_ret
    exact ⟨rfl, hb⟩
  obtain ⟨i0, hi, hz, hz1, hz2⟩ := info_parts info8
  have d1 : decide ((500 : Int) < n) = false := by simp; omega
  have d2 : decide ((500 : Int) < n') = false := by simp; omega
  go_enter Try.func3, Try.ntmps3
  go_wp2_with (first
    | (go_at_call 15; refine (fl_knows _).mono ?_; rintro e w1 ⟨rfl, hb⟩)
    | (at_builtin; refine wpList_app rfl (.tmp 26) (.tmp 27) _ rfl w.heap.size 5 i0 0 1 Try.underlying22 hi hz hz1 hz2 (some ⟨w1.heap.size, 0, none⟩) 0 0 [] rfl (Own.empty .u8 w1 _ hb.size) w.heap.size A n c xs rfl ((hr.below hb).alloc hb.size _) (by unfold maxLen; omega) (by omega) (by have := hb.size; simp; omega) ?_; intro A2 c2 w2 ho2 hg2; simp only [Nat.zero_add, List.nil_append] at ho2; have hb2 := own_below (hb.alloc hb.size _) (Own.empty .u8 w1 _ hb.size) hg2 (by have := hb.size; simp; omega))
    | (at_builtin; refine wpList_app rfl (.tmp 28) (.tmp 29) _ rfl w.heap.size 5 i0 0 1 Try.underlying22 hi hz hz1 hz2 A2 n c2 xs rfl ho2 w.heap.size A' n' c' ys rfl (hr'.below hb2) (by unfold maxLen; omega) (by omega) hb2.size ?_; intro A3 c3 w3 ho3 hg3; have hb3 := own_below hb2 ho2 hg3 hb2.size))
  have HB := hid ((bytes_of hw).app (bytes_of hw'))
  have hN0 : n + n' ≤ 1000 := by omega
  generalize hN : n + n' = N at *
  have HN := hid hN
  clear hN
  generalize hZ : xs ++ ys = zs at *
  have HZ := hid hZ
  clear hZ
  have hr3 := ho3.row
  have hr1 := hr.below hb3
  have hs1 := hb3.size
  go_loop [6, 7, 8] (fun one two i => ∃ j : Nat, j ≤ N ∧ i = .int .i64 j ∧ one = .int .i64 (sumP (zs.take j)) ∧ two = .int .i64 (fromP N (zs.take j))) (fun _ _ i => N - (intOf i).toNat)
  case atStart => exact ⟨0, Nat.zero_le _, rfl, rfl, rfl⟩
  case round =>
    obtain ⟨j, hj, rfl, rfl, rfl⟩ := hrel
    have bs := sumP_bd (zs.take j) (HB.out.take j)
    have bf := fromP_bd N (zs.take j) (HB.out.take j) (by simp [hr3.1]; omega) (by omega)
    have hl : (zs.take j).length ≤ 1000 := by simp; omega
    by_cases hlt : j < N
    · obtain ⟨ad, rfl, _, hc⟩ := hr3.at_ hlt
      have hx := HB.out.at_ j
      have HT := hid (take_snoc zs j (by rw [hr3.1]; exact hlt))
      have hp : 0 ≤ ((N : Int) - j) * zs[j]?.getD 0 := Int.mul_nonneg (by omega) hx.1
      have hq : ((N : Int) - j) * zs[j]?.getD 0 ≤ 1000 * 255 := Int.mul_le_mul (by omega) hx.2 hx.1 (by omega)
      go_wp2
      go_round
      case rel =>
        refine ⟨j + 1, by omega, by go_num, ?_, ?_⟩
        · rw [HT.out, sumP_app]; simp [sumP]
        · rw [HT.out, fromP_snoc]; simp [hr3.1, Nat.min_eq_left hj]
      case measure => simp [intOf]; omega
    · obtain rfl : j = N := by omega
      have et : zs.take j = zs := List.take_of_length_le (by rw [hr3.1]; exact Nat.le_refl _)
      have ef : fromP (j : Int) zs = twoP zs := by have := fromP_is zs; rw [hr3.1] at this; exact this
      have e3 : moreP (sumP xs % 256) (twoP xs % 256) ys = (sumP zs % 256, twoP zs % 256) := by
        have h1 := moreP_is 0 0 xs (by omega) (by omega)
        have h2 := moreP_is 0 0 zs (by omega) (by omega)
        rw [← HZ.out, moreP_app, h1] at h2
        simpa [HZ.out] using h2
      rw [et, ef]
      have H3 := hid e3
      rw [et] at bs
      rw [et, ef] at bf
      clear et ef e3
      go_wp2_with fail
      refine (fl_Of _ _ _ zs _ hr3 (by omega)).mono ?_
      rintro e w4 ⟨rfl, hb4⟩
      go_wp2_with fail
      refine (fl_Of _ _ _ xs _ ((hr1.below (hb4.mono hs1)).more (by have := hb4.size; omega)) (by omega)).mono ?_
      rintro e w5 ⟨rfl, hb5⟩
      go_wp2_with fail
      refine (fl_More _ _ _ _ _ ys _ (((hr'.below hb3).below (hb4.mono hs1)).more (by have := hb4.size; omega) |>.below hb5 |>.more hb5.size) (by omega)).mono ?_
      rintro e w6 ⟨rfl, hb6⟩
      rw [H3.out]
      go_wp2
      go_ret
      exact ⟨rfl, ((hb3.trans (hb4.mono hs1)).trans (hb5.mono (by have := hb4.size; omega))).trans (hb6.mono (by have := hb4.size; have := hb5.size; omega))⟩
end Go.Proofs.Ytmimnefjeidedaa
