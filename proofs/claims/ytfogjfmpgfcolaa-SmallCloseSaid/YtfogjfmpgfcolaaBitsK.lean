/- Chapter 08: what the reference says of a word's parts. -/
import Derived.Test.YtfogjfmpgfcolaaBitsJ
import Derived.Test.YtfogjfmpgfcolaaOwn
namespace Go.Proofs.Ytfogjfmpgfcolaa
open Go.RowKit
set_option linter.unusedVariables false
set_option linter.unusedSimpArgs false

theorem okF_neg : ∀ (ws : List Int) (l : Int), l < 0 → okF l ws = false
  | [], l, h => by simp [okF]; omega
  | n :: r, l, h => by simp only [okF]; rw [if_pos (by omega)]
theorem r8_Right (A : Option Addr) (n c : Nat) (ws : List Int) (w : World) (hw : Row .i64 w w.heap.size A n ws) (hx : ∀ x ∈ ws, -9223372036854775808 ≤ x ∧ x ≤ 9223372036854775807) (hn : n ≤ 40) :
    Calls Try.prog 95 #[.slice A n c] w fun e w' => e = .returned (.bool (okF 32 ws)) ∧ w = w' := by
  have HX := hid hx
  clear hx
  have hlen := hw.1
  go_enter Try.func95, Try.ntmps95
  go_wp2
  go_loop [3, 4] (fun s i => ∃ (j : Nat) (t : Int), j ≤ n ∧ i = .int .i64 j ∧ s = .int .i64 t ∧ (0 ≤ t ∧ t ≤ 64) ∧ Hid (okF 32 ws = okF (32 - t) (ws.drop j))) (fun _ i => n - (intOf i).toNat)
  case atStart => exact ⟨0, 0, by omega, rfl, rfl, by omega, rfl⟩
  case round =>
    obtain ⟨j, t, hj, rfl, rfl, ht, hok⟩ := hrel
    by_cases hlt : j < n
    · obtain ⟨ad, rfl, _, hc⟩ := hw.at_ hlt
      have hjl : j < ws.length := by omega
      have hxx : -9223372036854775808 ≤ ws[j]?.getD 0 ∧ ws[j]?.getD 0 ≤ 9223372036854775807 := by
        have := HX.out ws[j] (List.getElem_mem hjl)
        simpa [hjl] using this
      have hd := drop_at ws j hjl
      have ho := hok.out
      rw [hd] at ho
      simp only [okF] at ho
      generalize ws[j]?.getD 0 = x at *
      clear hd
      have ej : IntKind.i64.wrap ((j : Int) + 1) = ((j + 1 : Nat) : Int) := (IntWalk.i64_in _ (by omega)).trans (by omega)
      have mj : n - (j + 1) < n - j := by omega
      by_cases g1 : x < 1
      · have d1 : decide (x < 1) = true := by simpa using g1
        rw [if_pos (.inl g1)] at ho
        have HO := hid ho
        clear ho g1
        go_wp2
        go_ret
        exact ⟨by rw [HO.out]; rfl, rfl⟩
      have d1 : decide (x < 1) = false := by simpa using g1
      by_cases g2 : 32 < x
      · have d2 : decide (32 < x) = true := by simpa using g2
        rw [if_pos (.inr (by omega))] at ho
        have HO := hid ho
        clear ho g1 g2
        go_wp2
        go_ret
        exact ⟨by rw [HO.out]; rfl, rfl⟩
      have d2 : decide (32 < x) = false := by simpa using g2
      by_cases g3 : 32 < t
      · have d3 : decide (32 < t) = true := by simpa using g3
        rw [if_pos (.inr (by omega))] at ho
        have HO := hid ho
        clear ho g1 g2 g3
        go_wp2
        go_ret
        exact ⟨by rw [HO.out]; rfl, rfl⟩
      have d3 : decide (32 < t) = false := by simpa using g3
      have u1 : IntKind.i64.wrap (t + x) = t + x := IntWalk.i64_in _ (by omega)
      have HO : Hid (okF 32 ws = okF (32 - (t + x)) (ws.drop (j + 1))) := hid (by
        rw [ho, show 32 - (t + x) = 32 - t - x by omega]
        by_cases g4 : 32 - t < x
        · rw [if_pos (.inr g4), okF_neg _ _ (by omega)]
        · rw [if_neg (by omega)])
      clear ho
      go_wp2
      go_round
      case rel => exact ⟨j + 1, t + x, by omega, rfl, rfl, by omega, HO⟩
      case measure => simpa [intOf] using mj
    · obtain rfl : j = n := by omega
      have hd : ws.drop j = [] := List.drop_eq_nil_of_le (by omega)
      have ho := hok.out
      rw [hd] at ho
      simp only [okF] at ho
      have e : (32 - t == 0) = (t == 32) := by
        by_cases h : t = 32
        · subst h; rfl
        · have a : (32 - t == 0) = false := by simp; omega
          have b : (t == 32) = false := by simpa using h
          rw [a, b]
      rw [e] at ho
      have HO := hid ho
      clear ho hd hok e
      go_wp2
      go_ret
      exact ⟨by rw [HO.out]; rfl, rfl⟩

set_option maxHeartbeats 8000000 in
theorem r8_Split (A : Option Addr) (n c : Nat) (ws : List Int) (u : Int) (w : World) (hu : 0 ≤ u ∧ u ≤ 4294967295) (hw : Row .i64 w w.heap.size A n ws) (hx : ∀ x ∈ ws, -9223372036854775808 ≤ x ∧ x ≤ 9223372036854775807) (hn : n ≤ 40) :
    Calls Try.prog 73 #[.int .u32 u, .slice A n c] w fun e w' => ∃ A' c', e = .returned (.tuple #[.slice A' (splitP u ws).length c', .bool (okF 32 ws)]) ∧ Row .u32 w' w'.heap.size A' (splitP u ws).length (splitP u ws) ∧ Below w.heap.size w w' := by
  have HR := hid (r8_Right A n c ws w hw hx hn)
  have hlen := hw.1
  obtain ⟨i0, hi0, hz0, hz1, hz2⟩ := info_parts4 info43
  have HG := hid fun a m w => r8_Get u a m w hu
  cases hB : okF 32 ws
  · rw [hB] at HR
    have HS : Hid (splitP u ws = []) := hid (by unfold splitP; rw [hB]; rfl)
    clear hB
    go_enter Try.func73, Try.ntmps73
    go_wp2_with fail
    refine (HR.out).mono ?_
    rintro e w' ⟨rfl, rfl⟩
    go_wp2
    go_ret2
    exact ⟨none, 0, by rw [HS.out]; rfl, by rw [HS.out]; exact Row.none_, Below.refl _ w⟩
  · rw [hB] at HR
    have HS : Hid (splitP u ws = splitF u 32 ws) := hid (by unfold splitP; rw [hB]; rfl)
    have hl := splitF_len u ws 32
    have HB := hid hB
    clear hB hx
    go_enter Try.func73, Try.ntmps73
    go_wp2_with fail
    refine (HR.out).mono ?_
    rintro e w' ⟨rfl, rfl⟩
    go_wp2
    go_loopw [6, 7, 8] (fun o l i wr => ∃ (j : Nat) (lv : Int) (A1 : Option Addr) (c1 : Nat) (ys : List Int), j ≤ n ∧ i = .int .i64 j ∧ l = .int .i64 lv ∧ o = .slice A1 j c1 ∧ (0 ≤ lv ∧ lv ≤ 32) ∧ Hid (okF lv (ws.drop j) = true ∧ splitF u 32 ws = ys ++ splitF u lv (ws.drop j)) ∧
      Own .u32 wr w.heap.size 33 A1 j c1 ys ∧ Below w.heap.size w wr) (fun _ _ i _ => n - (intOf i).toNat)
    case atStart => exact ⟨0, 32, none, 0, [], by omega, rfl, rfl, rfl, by omega, ⟨HB.out, rfl⟩, Own.nil_ _ _ _ _, Below.refl _ w⟩
    case round =>
      obtain ⟨j, lv, A1, c1, ys, hj, rfl, rfl, rfl, hlv, hi, ho, hbe⟩ := hrel
      have hwr := hw.below hbe
      by_cases hlt : j < n
      · obtain ⟨ad, rfl, hadb, hc⟩ := hwr.at_ hlt
        have hd := drop_at ws j (by omega)
        obtain ⟨o1, o2⟩ := hi.out
        rw [hd] at o1 o2
        simp only [okF, splitF] at o1 o2
        generalize ws[j]?.getD 0 = x at *
        clear hd hi
        have hxx : ¬ (x < 1 ∨ lv < x) := fun hh => by rw [if_pos hh] at o1; cases o1
        rw [if_neg hxx] at o1
        have hI : Hid (okF (lv - x) (ws.drop (j + 1)) = true ∧ splitF u 32 ws = (ys ++ [getP u (lv - x) x]) ++ splitF u (lv - x) (ws.drop (j + 1))) := hid ⟨o1, by rw [o2]; simp⟩
        clear o1 o2
        have HG2 := hid fun w => HG.out (lv - x) x w
        generalize getP u (lv - x) x = y at *
        have u1 : IntKind.i64.wrap (lv - x) = lv - x := IntWalk.i64_in _ (by omega)
        have ej : IntKind.i64.wrap ((j : Int) + 1) = ((j + 1 : Nat) : Int) := (IntWalk.i64_in _ (by omega)).trans (by omega)
        have mj : n - (j + 1) < n - j := by omega
        go_wp2_with fail
        refine (HG2.out _).mono ?_
        rintro e w2 ⟨rfl, b2⟩
        have ho2 := ho.below b2 (Nat.le_refl _)
        have hs1 := hbe.size
        have hbe2 := hbe.trans (b2.mono hs1)
        have hs2 := hbe2.size
        go_wp2_with (at_builtin; refine wpList_app rfl (.tmp 24) (.tmp 32) _ rfl w.heap.size 33 i0 0 4 Try.underlying80 hi0 hz0 hz1 hz2 A1 j c1 ys rfl (ho2.alloc _) (w2.heap.size + 1) (some ⟨w2.heap.size, 0, none⟩) 1 1 [y] rfl (Row.blk (Blk.new _ _ _) rfl (by omega)) (by unfold maxLen; omega) (by omega) (by simp; omega) ?_; intro A2 c2 w3 ho3 hg3; have be3 := own_below_alloc hbe2 ho2 _ hg3 hs2)
        go_round
        case rel => exact ⟨j + 1, lv - x, A2, c2, _, by omega, rfl, rfl, rfl, by omega, hI, ho3, be3⟩
        case measure => simpa [intOf] using mj
      · obtain rfl : j = n := by omega
        have hd : ws.drop j = [] := List.drop_eq_nil_of_le (by omega)
        obtain ⟨o1, o2⟩ := hi.out
        rw [hd] at o2
        simp only [splitF, List.append_nil] at o2
        have O2 := hid o2
        clear hd hi o1 o2
        go_wp2
        go_ret2
        exact ⟨A1, c1, by rw [HS.out, hl, hlen]; rfl, by rw [HS.out, hl, hlen, O2.out]; exact ho.row, hbe⟩

end Go.Proofs.Ytfogjfmpgfcolaa
