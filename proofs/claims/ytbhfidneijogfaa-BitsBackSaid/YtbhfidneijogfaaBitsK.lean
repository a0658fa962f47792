/- Chapter 08: what the reference says of a word's parts. -/
import Derived.Test.YtbhfidneijogfaaBitsJ
import Derived.Test.YtbhfidneijogfaaOwn
namespace Go.Proofs.Ytbhfidneijogfaa
open Go.RowKit
set_option linter.unusedVariables false
set_option linter.unusedSimpArgs false

theorem okF_neg : ∀ (ws : List Int) (l : Int), l < 0 → okF l ws = false
  | [], l, h => by simp [okF]; omega
  | n :: r, l, h => by simp only [okF]; rw [if_pos (by omega)]
theorem r8_Right (A : Option Addr) (n c : Nat) (ws : List Int) (w : World) (hw : Row .i64 w w.heap.size A n ws) (hx : ∀ x ∈ ws, -9223372036854775808 ≤ x ∧ x ≤ 9223372036854775807) (hn : n ≤ 40) :
    Calls Try.prog 61 #[.slice A n c] w fun e w' => e = .returned (.bool (okF 32 ws)) ∧ w = w' := by
  have HX := hid hx
  clear hx
  have hlen := hw.1
  go_enter Try.func61, Try.ntmps61
  go_wp2
  go_loop [3, 4] (fun s i => ∃ (j : Nat) (t : Int), j ≤ n ∧ i = .int .i64 j ∧ s = .int .i64 t ∧ (0 ≤ t ∧ t ≤ 64) ∧ Hid (okF 32 ws = okF (32 - t) (ws.drop j))) (fun _ i => n - (intOf i).toNat)
  case atStart => exact ⟨0, 0, by omega, rfl, rfl, by omega, rfl⟩
  case round =>
    obtain ⟨j, t, hj, rfl, rfl, ht, hok⟩ := hrel
    by_cases hlt : j < n
    · obtain ⟨ad, rfl, _, hc⟩ := hw.at_ hlt
      have hjl : j < ws.length := by omega
      have hxx : -9223372036854775808 ≤ ws[j]?.getD 0 ∧ ws[j]?.getD 0 ≤ 9223372036854775807 := by
        have := HX.out ws[j] (List.getElem_mem hjl)
        simpa [hjl] using this
      have hd := drop_at ws j hjl
      have ho := hok.out
      rw [hd] at ho
      simp only [okF] at ho
      generalize ws[j]?.getD 0 = x at *
      clear hd
      have ej : IntKind.i64.wrap ((j : Int) + 1) = ((j + 1 : Nat) : Int) := (IntWalk.i64_in _ (by omega)).trans (by omega)
      have mj : n - (j + 1) < n - j := by omega
      by_cases g1 : x < 1
      · have d1 : decide (x < 1) = true := by simpa using g1
        rw [if_pos (.inl g1)] at ho
        have HO := hid ho
        clear ho g1
        go_wp2
        go_ret
        exact ⟨by rw [HO.out]; rfl, rfl⟩
      have d1 : decide (x < 1) = false := by simpa using g1
      by_cases g2 : 32 < x
      · have d2 : decide (32 < x) = true := by simpa using g2
        rw [if_pos (.inr (by omega))] at ho
        have HO := hid ho
        clear ho g1 g2
        go_wp2
        go_ret
        exact ⟨by rw [HO.out]; rfl, rfl⟩
      have d2 : decide (32 < x) = false := by simpa using g2
      by_cases g3 : 32 < t
      · have d3 : decide (32 < t) = true := by simpa using g3
        rw [if_pos (.inr (by omega))] at ho
        have HO := hid ho
        clear ho g1 g2 g3
        go_wp2
        go_ret
        exact ⟨by rw [HO.out]; rfl, rfl⟩
      have d3 : decide (32 < t) = false := by simpa using g3
      have u1 : IntKind.i64.wrap (t + x) = t + x := IntWalk.i64_in _ (by omega)
      have HO : Hid (okF 32 ws = okF (32 - (t + x)) (ws.drop (j + 1))) := hid (by
        rw [ho, show 32 - (t + x) = 32 - t - x by omega]
        by_cases g4 : 32 - t < x
        · rw [if_pos (.inr g4), okF_neg _ _ (by omega)]
        · rw [if_neg (by omega)])
      clear ho
      go_wp2
      go_round
      case rel => exact ⟨j + 1, t + x, by omega, rfl, rfl, by omega, HO⟩
      case measure => simpa [intOf] using mj
    · obtain rfl : j = n := by omega
      have hd : ws.drop j = [] := List.drop_eq_nil_of_le (by omega)
      have ho := hok.out
      rw [hd] at ho
      simp only [okF] at ho
      have e : (32 - t == 0) = (t == 32) := by
        by_cases h : t = 32
        · subst h; rfl
        · have a : (32 - t == 0) = false := by simp; omega
          have b : (t == 32) = false := by simpa using h
          rw [a, b]
      rw [e] at ho
      have HO := hid ho
      clear ho hd hok e
      go_wp2
      go_ret
      exact ⟨by rw [HO.out]; rfl, rfl⟩

set_option maxHeartbeats 8000000 in
theorem r8_Split (A : Option Addr) (n c : Nat) (ws : List Int) (u : Int) (w : World) (hu : 0 ≤ u ∧ u ≤ 4294967295) (hw : Row .i64 w w.heap.size A n ws) (hx : ∀ x ∈ ws, -9223372036854775808 ≤ x ∧ x ≤ 9223372036854775807) (hn : n ≤ 40) :
    Calls Try.prog 34 #[.int .u32 u, .slice A n c] w fun e w' => ∃ A' c', e = .returned (.tuple #[.slice A' (splitP u ws).length c', .bool (okF 32 ws)]) ∧ Row .u32 w' w'.heap.size A' (splitP u ws).length (splitP u ws) ∧ Below w.heap.size w w' := by
  have HR := hid (r8_Right A n c ws w hw hx hn)
  have hlen := hw.1
  obtain ⟨i0, hi0, hz0, hz1, hz2⟩ := info_parts4 info43
  have HG := hid fun a m w => r8_Get u a m w hu
  cases hB : okF 32 ws
  · rw [hB] at HR
    have HS : Hid (splitP u ws = []) := hid (by unfold splitP; rw [hB]; rfl)
    clear hB
    go_enter Try.func34, Try.ntmps34
    go_wp2_with fail
    refine (HR.out).mono ?_
    rintro e w' ⟨rfl, rfl⟩
    go_wp2
    go_ret2
    exact ⟨none, 0, by rw [HS.out]; rfl, by rw [HS.out]; exact Row.none_, Below.refl _ w⟩
  · rw [hB] at HR
    have HS : Hid (splitP u ws = splitF u 32 ws) := hid (by unfold splitP; rw [hB]; rfl)
    have hl := splitF_len u ws 32
    have HB := hid hB
    clear hB hx
    go_enter Try.func34, Try.ntmps34
    go_wp2_with fail
    refine (HR.out).mono ?_
    rintro e w' ⟨rfl, rfl⟩
    go_wp2
    go_loopw [6, 7, 8] (fun o l i wr => ∃ (j : Nat) (lv : Int) (A1 : Option Addr) (c1 : Nat) (ys : List Int), j ≤ n ∧ i = .int .i64 j ∧ l = .int .i64 lv ∧ o = .slice A1 j c1 ∧ (0 ≤ lv ∧ lv ≤ 32) ∧ Hid (okF lv (ws.drop j) = true ∧ splitF u 32 ws = ys ++ splitF u lv (ws.drop j)) ∧
      Own .u32 wr w.heap.size 43 A1 j c1 ys ∧ Below w.heap.size w wr) (fun _ _ i _ => n - (intOf i).toNat)
    case atStart => exact ⟨0, 32, none, 0, [], by omega, rfl, rfl, rfl, by omega, ⟨HB.out, rfl⟩, Own.nil_ _ _ _ _, Below.refl _ w⟩
    case round =>
      obtain ⟨j, lv, A1, c1, ys, hj, rfl, rfl, rfl, hlv, hi, ho, hbe⟩ := hrel
      have hwr := hw.below hbe
      by_cases hlt : j < n
      · obtain ⟨ad, rfl, hadb, hc⟩ := hwr.at_ hlt
        have hd := drop_at ws j (by omega)
        obtain ⟨o1, o2⟩ := hi.out
        rw [hd] at o1 o2
        simp only [okF, splitF] at o1 o2
        generalize ws[j]?.getD 0 = x at *
        clear hd hi
        have hxx : ¬ (x < 1 ∨ lv < x) := fun hh => by rw [if_pos hh] at o1; cases o1
        rw [if_neg hxx] at o1
        have hI : Hid (okF (lv - x) (ws.drop (j + 1)) = true ∧ splitF u 32 ws = (ys ++ [getP u (lv - x) x]) ++ splitF u (lv - x) (ws.drop (j + 1))) := hid ⟨o1, by rw [o2]; simp⟩
        clear o1 o2
        have HG2 := hid fun w => HG.out (lv - x) x w
        generalize getP u (lv - x) x = y at *
        have u1 : IntKind.i64.wrap (lv - x) = lv - x := IntWalk.i64_in _ (by omega)
        have ej : IntKind.i64.wrap ((j : Int) + 1) = ((j + 1 : Nat) : Int) := (IntWalk.i64_in _ (by omega)).trans (by omega)
        have mj : n - (j + 1) < n - j := by omega
        go_wp2_with fail
        refine (HG2.out _).mono ?_
        rintro e w2 ⟨rfl, b2⟩
        have ho2 := ho.below b2 (Nat.le_refl _)
        have hs1 := hbe.size
        have hbe2 := hbe.trans (b2.mono hs1)
        have hs2 := hbe2.size
        go_wp2_with (at_builtin; refine wpList_app rfl (.tmp 24) (.tmp 32) _ rfl w.heap.size 43 i0 0 4 Try.underlying51 hi0 hz0 hz1 hz2 A1 j c1 ys rfl (ho2.alloc _) (w2.heap.size + 1) (some ⟨w2.heap.size, 0, none⟩) 1 1 [y] rfl (Row.blk (Blk.new _ _ _) rfl (by omega)) (by unfold maxLen; omega) (by omega) (by simp; omega) ?_; intro A2 c2 w3 ho3 hg3; have be3 := own_below_alloc hbe2 ho2 _ hg3 hs2)
        go_round
        case rel => exact ⟨j + 1, lv - x, A2, c2, _, by omega, rfl, rfl, rfl, by omega, hI, ho3, be3⟩
        case measure => simpa [intOf] using mj
      · obtain rfl : j = n := by omega
        have hd : ws.drop j = [] := List.drop_eq_nil_of_le (by omega)
        obtain ⟨o1, o2⟩ := hi.out
        rw [hd] at o2
        simp only [splitF, List.append_nil] at o2
        have O2 := hid o2
        clear hd hi o1 o2
        go_wp2
        go_ret2
        exact ⟨A1, c1, by rw [HS.out, hl, hlen]; rfl, by rw [HS.out, hl, hlen, O2.out]; exact ho.row, hbe⟩

theorem r8_Same (A : Option Addr) (n c : Nat) (xs : List Int) (B : Option Addr) (m d : Nat) (ys : List Int) (w : World) (hx : Row .u32 w w.heap.size A n xs) (hy : Row .u32 w w.heap.size B m ys) (hn : n ≤ 1000) (hm : m ≤ 1000) :
    Calls Try.prog 37 #[.slice A n c, .slice B m d] w fun e w' => e = .returned (.bool (decide (xs = ys))) ∧ Below w.heap.size w w' := by
  have lx := hx.1
  have ly := hy.1
  by_cases hnm : n = m
  · subst hnm
    go_enter Try.func37, Try.ntmps37
    go_wp2
    go_loopw [5] (fun i wr => ∃ j : Nat, j ≤ n ∧ i = .int .i64 j ∧ Hid (xs.take j = ys.take j) ∧ Below w.heap.size w wr) (fun i _ => n - (intOf i).toNat)
    case atStart => exact ⟨0, by omega, rfl, rfl, Below.refl _ w⟩
    case round =>
      obtain ⟨j, hj, rfl, he, hbe⟩ := hrel
      by_cases hlt : j < n
      · obtain ⟨ax, rfl, _, cx⟩ := (hx.below hbe).at_ hlt
        obtain ⟨ay, rfl, _, cy⟩ := (hy.below hbe).at_ hlt
        have k1 : (0 : Int) ≤ (j : Int) := by omega
        have k2 : (j : Int) < (n : Int) := by omega
        have ej : IntKind.i64.wrap ((j : Int) + 1) = ((j + 1 : Nat) : Int) := (IntWalk.i64_in _ (by omega)).trans (by omega)
        have mj : n - (j + 1) < n - j := by omega
        have tx : xs.take (j + 1) = xs.take j ++ [xs[j]?.getD 0] := by rw [List.take_add_one]; simp [show j < xs.length by omega]
        have ty : ys.take (j + 1) = ys.take j ++ [ys[j]?.getD 0] := by rw [List.take_add_one]; simp [show j < ys.length by omega]
        have TX := hid tx
        have TY := hid ty
        have gx : xs[j]?.getD 0 ≠ ys[j]?.getD 0 → xs ≠ ys := fun h e => h (by rw [e])
        have GX := hid gx
        clear tx ty gx
        generalize xs[j]?.getD 0 = x at *
        generalize ys[j]?.getD 0 = y at *
        by_cases g : x = y
        · subst g
          have hI : Hid (xs.take (j + 1) = ys.take (j + 1)) := hid (by rw [TX.out, TY.out, he.out])
          go_wp2
          go_quiet (fail)
          go_wp2
          go_round
          case rel => exact ⟨j + 1, by omega, rfl, hI, hbe.drewN' _⟩
          case measure => simpa [intOf] using mj
        · have d1 : (x == y) = false := by simpa using g
          have hne := GX.out g
          have HD : Hid (decide (xs = ys) = false) := hid (decide_eq_false hne)
          clear hne
          go_wp2
          go_quiet (fail)
          go_wp2
          go_ret
          exact ⟨by rw [HD.out]; rfl, hbe.drewN' _⟩
      · obtain rfl : j = n := by omega
        have e1 : xs = ys := by
          have := he.out
          rwa [List.take_of_length_le (by omega), List.take_of_length_le (by omega)] at this
        have HD : Hid (decide (xs = ys) = true) := hid (decide_eq_true e1)
        clear e1
        go_wp2
        go_ret
        exact ⟨by rw [HD.out]; rfl, hbe⟩
  · have d1 : ((n : Int) == (m : Int)) = false := by simp; omega
    have HD : Hid (decide (xs = ys) = false) := hid (decide_eq_false (fun e => hnm (by rw [← lx, ← ly, e])))
    go_enter Try.func37, Try.ntmps37
    go_wp2
    go_ret
    exact ⟨by rw [HD.out]; rfl, Below.refl _ w⟩
end Go.Proofs.Ytbhfidneijogfaa
