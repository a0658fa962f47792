/- Chapter 24: digits, pairs of the document's; what texts say. -/
import Derived.Test.YtbhfidneijogfaaClkJ
namespace Go.Proofs.Ytbhfidneijogfaa
open Go.RowKit
set_option linter.unusedVariables false
set_option linter.unusedSimpArgs false
attribute [local go_sem] Oper.semAt_some
theorem byteP_lt (s : ByteArray) (k : Nat) : byteP s k ≤ 255 := by unfold byteP; have := (s.data.toList[k]?.getD 0).toNat_lt; omega
theorem at_is (s : ByteArray) (k : Nat) (h : k < s.size) : (s[k]'h).toNat = byteP s k := by
  have h2 := cutS_at s 0 k (by rw [cutS_size]; omega)
  have e : cutS s 0 = s := by unfold cutS; simp
  simp only [e, Nat.zero_add] at h2
  exact h2
theorem digP_iff (c : Nat) (h : c ≤ 255) : digP c < 10 ↔ 48 ≤ c ∧ c ≤ 57 := by
  unfold digP
  rw [IntKind.wrap_u8]
  omega
def digsB (s : ByteArray) : Bool := (List.range s.size).all fun k => decide (digP (byteP s k) < 10)
theorem digsB_iff (s : ByteArray) : digsB s = true ↔ ∀ k, k < s.size → digP (byteP s k) < 10 := by
  unfold digsB
  rw [List.all_eq_true]
  constructor
  · intro h k hk; simpa using h k (by simpa using hk)
  · intro h k hk; simpa using h k (by simpa using hk)
theorem digsB_no (s : ByteArray) (k : Nat) (hk : k < s.size) (h : ¬ digP (byteP s k) < 10) : digsB s = false := by
  cases e : digsB s
  · rfl
  · exact absurd ((digsB_iff s).1 e k hk) h
set_option maxHeartbeats 2000000 in
theorem r_digs (s : ByteArray) (w : World) (hs : s.size ≤ 100) : Calls Try.prog 76 #[.string s] w fun e w' => e = .returned (.bool (digsB s)) ∧ w = w' := by
  go_enter Try.func76, Try.ntmps76
  go_wp2_with fail
  go_loop [3] (fun vi => ∃ k : Nat, k ≤ s.size ∧ vi = .int .i64 k ∧ Hid (∀ j, j < k → digP (byteP s j) < 10)) (fun vi => s.size - (intOf vi).toNat)
  case atStart => exact ⟨0, by omega, rfl, hid fun j hj => by omega⟩
  case round =>
    obtain ⟨k, hk, rfl, hh⟩ := hrel
    by_cases hlt : k < s.size
    · have hx := at_is s k hlt
      have hb := byteP_lt s k
      have hi := digP_iff (byteP s k) hb
      have ek : IntKind.i64.wrap ((k : Int) + 1) = ((k + 1 : Nat) : Int) := (IntWalk.i64_in _ (by omega)).trans (by omega)
      have mk : s.size - (k + 1) < s.size - k := by omega
      by_cases hd : digP (byteP s k) < 10
      · have hc := hi.1 hd
        have HH : Hid (∀ j, j < k + 1 → digP (byteP s j) < 10) := hid fun j hj => by
          rcases Nat.lt_or_ge j k with h | h
          · exact hh.out j h
          · obtain rfl : j = k := by omega
            exact hd
        have k1 : ¬ ((byteP s k : Int) < 48) := by omega
        have k2 : ¬ (57 < (byteP s k : Int)) := by omega
        have d1 : decide ((byteP s k : Int) < 48) = false := by simpa using k1
        have d2 : decide (57 < (byteP s k : Int)) = false := by simpa using k2
        clear hi hh
        generalize byteP s k = X at *
        go_wp2_with fail
        go_round
        case rel => exact ⟨k + 1, by omega, rfl, HH⟩
        case measure => simpa [intOf] using mk
      · have hc : byteP s k < 48 ∨ 57 < byteP s k := by
          have := fun h => hd (hi.2 h)
          omega
        have HF : Hid (digsB s = false) := hid (digsB_no s k hlt hd)
        clear hi hh hd
        generalize byteP s k = X at *
        by_cases h48 : X < 48
        · have d1 : decide ((X : Int) < 48) = true := by simp; omega
          have d1b : decide (X < 48) = true := by simp; omega
          go_wp2_with fail
          go_ret
          exact ⟨by rw [HF.out]; rfl, rfl⟩
        · have d1 : decide ((X : Int) < 48) = false := by simp; omega
          have d2 : decide (57 < (X : Int)) = true := by simp; omega
          have d1b : decide (X < 48) = false := by simp; omega
          have d2b : decide (57 < X) = true := by simp; omega
          go_wp2_with fail
          go_ret
          exact ⟨by rw [HF.out]; rfl, rfl⟩
    · obtain rfl : k = s.size := by omega
      have HT : Hid (digsB s = true) := hid ((digsB_iff s).2 hh.out)
      clear hh
      go_wp2
      go_ret
      exact ⟨by rw [HT.out]; rfl, rfl⟩
def pairV (s : ByteArray) : Int := 10 * digP (byteP s 0) + digP (byteP s 1)
theorem r_pair (s : ByteArray) (w : World) (hs : 2 ≤ s.size ∧ s.size ≤ 100) : Calls Try.prog 77 #[.string s] w fun e w' => e = .returned (.int .i64 (pairV s)) ∧ Below w.heap.size w w' := by
  have hx0 := at_is s 0 (by omega)
  have hx1 := at_is s 1 (by omega)
  have p0 : 0 < s.size := by omega
  have p1 : 1 < s.size := by omega
  have p1c : (1 : Int) < (s.size : Int) := by omega
  have b0 := digP_bd (byteP s 0)
  have b1 := digP_bd (byteP s 1)
  have e0 : IntKind.u8.wrap ((byteP s 0 : Int) - 48) = digP (byteP s 0) := rfl
  have e1 : IntKind.u8.wrap ((byteP s 1 : Int) - 48) = digP (byteP s 1) := rfl
  have HV : Hid (pairV s = 10 * digP (byteP s 0) + digP (byteP s 1)) := rfl
  generalize digP (byteP s 0) = D0 at *
  generalize digP (byteP s 1) = D1 at *
  generalize byteP s 0 = X0 at *
  generalize byteP s 1 = X1 at *
  have u0 : IntKind.i64.wrap D0 = D0 := IntWalk.i64_in _ (by omega)
  have u1 : IntKind.i64.wrap D1 = D1 := IntWalk.i64_in _ (by omega)
  have u2 : IntKind.i64.wrap (10 * D0) = 10 * D0 := IntWalk.i64_in _ (by omega)
  have u3 : IntKind.i64.wrap (10 * D0 + D1) = 10 * D0 + D1 := IntWalk.i64_in _ (by omega)
  go_enter Try.func77, Try.ntmps77
  go_wp2_with fail
  refine wp_region_noPanic ?_
  refine wp_region_held_drew (S := (fun _ : World => True)) (by kernel_rfl) trivial (fun hHeld => ?_)
  refine (show wpAnyH _ _ _ _ _ 11 _ _ _ from ?_)
  try (simp only [Act.put, List.setIfInBounds_toArray, List.set_cons_zero, List.set_cons_succ])
  refine tk 0 hHeld ?_
  refine tk 1 hHeld ?_
  refine tk 2 hHeld ?_
  refine tk 3 hHeld ?_
  refine tk 4 hHeld ?_
  refine tk 5 hHeld ?_
  refine tk 6 hHeld ?_
  refine tk 7 hHeld ?_
  refine tk 8 hHeld ?_
  refine tk 9 hHeld ?_
  refine tk 10 hHeld ?_
  refine wpAnyH_done (by kernel_rfl) ?_ _
  refine NoPanic.normal ?_
  go_wp2
  go_ret
  exact ⟨by rw [HV.out]; rfl, (Below.refl _ w).drew⟩
/-! ### What texts say -/
theorem byteP_ext (s : ByteArray) (a b i : Nat) (hb : b ≤ s.size) (h : a + i < b) : byteP (s.extract a b) i = byteP s (a + i) := by
  unfold byteP
  have e : (s.extract a b).data.toList = (s.data.toList.take b).drop a := by
    rw [ByteArray.data_extract, Array.toList_extract]
    simp [List.extract, List.drop_take]
  rw [e, List.getElem?_drop, List.getElem?_take, if_pos (by omega)]
theorem ext_size (s : ByteArray) (a b : Nat) (hb : b ≤ s.size) : (s.extract a b).size = b - a := by simp; omega
theorem head6 (s : ByteArray) (h : 6 ≤ s.size) : headS s = s.extract 0 6 := by unfold headS; rw [Nat.min_eq_right h]
theorem tail6 (s : ByteArray) (h : 6 ≤ s.size) : tailS s = s.extract 6 s.size := by unfold tailS; rw [Nat.min_eq_right h]
theorem pairsL_6 (s : ByteArray) (h : s.size = 6) : pairsL s = [pairAt s 0, pairAt s 1, pairAt s 2] := by unfold pairsL; rw [h]; rfl
theorem six_is (s : ByteArray) (h : s.size = 6) : sixB s = digsB s := by
  rw [Bool.eq_iff_iff, digsB_iff]
  unfold sixB
  rw [pairsL_6 s h]
  simp [h, pairAt]
  constructor
  · rintro ⟨⟨h0, h1⟩, ⟨h2, h3⟩, h4, h5⟩ k hk
    obtain rfl | rfl | rfl | rfl | rfl | rfl : k = 0 ∨ k = 1 ∨ k = 2 ∨ k = 3 ∨ k = 4 ∨ k = 5 := by omega
    all_goals assumption
  · intro hh
    exact ⟨⟨hh 0 (by omega), hh 1 (by omega)⟩, ⟨hh 2 (by omega), hh 3 (by omega)⟩, hh 4 (by omega), hh 5 (by omega)⟩
theorem tkH_is (s : ByteArray) (h : 6 ≤ s.size) (k : Nat) (hk : k < 3) : tkH s k = 10 * digP (byteP s (2 * k)) + digP (byteP s (2 * k + 1)) := by
  have hz : (s.extract 0 6).size = 6 := ext_size s 0 6 h
  have he : ∀ i, i < 6 → byteP (s.extract 0 6) i = byteP s i := fun i hi => by rw [byteP_ext s 0 6 i h (by omega), Nat.zero_add]
  unfold tkH
  rw [head6 s h, pairsL_6 _ hz]
  obtain rfl | rfl | rfl : k = 0 ∨ k = 1 ∨ k = 2 := by omega
  all_goals (simp only [valP, pairAt, List.getElem?_cons_zero, List.getElem?_cons_succ, Option.getD_some]; rw [he _ (by omega), he _ (by omega)])
/-- The document's conditions. -/
def refB (s : ByteArray) : Bool := decide (6 ≤ s.size) && (digsB (s.extract 0 6) && (decide (s.size = 6) || (decide (byteP s 6 = 46) && (decide (8 ≤ s.size) && (decide (s.size ≤ 9) && digsB (s.extract 7 s.size))))))
theorem beh_tail (s : ByteArray) (h : 6 ≤ s.size) : behP (tailS s) = (if s.size = 6 then (0, true) else if byteP s 6 = 46 ∧ (s.size = 8 ∨ s.size = 9) then (10 * digP (byteP s 7) + (if s.size = 8 then 0 else digP (byteP s 8)), decide (digP (byteP s 7) < 10) && (decide (s.size = 8) || decide (digP (byteP s 8) < 10))) else (0, false)) := by
  have hz : (s.extract 6 s.size).size = s.size - 6 := ext_size s 6 s.size (Nat.le_refl _)
  rw [tail6 s h]
  unfold behP
  rw [hz]
  by_cases h6 : s.size = 6
  · rw [if_pos h6, if_pos (by omega)]
  · rw [if_neg h6, if_neg (by omega), byteP_ext s 6 s.size 0 (Nat.le_refl _) (by omega)]
    by_cases h8 : byteP s 6 = 46 ∧ (s.size = 8 ∨ s.size = 9)
    · rw [if_pos h8, if_pos ⟨h8.1, by omega⟩, byteP_ext s 6 s.size 1 (Nat.le_refl _) (by omega)]
      rcases h8.2 with e | e
      · simp [e]
      · rw [byteP_ext s 6 s.size 2 (Nat.le_refl _) (by omega)]
        simp [e]
    · rw [if_neg h8, if_neg (fun h => h8 ⟨h.1, by rcases h.2 with e | e <;> omega⟩)]
theorem tkB_ref (s : ByteArray) (h0 : s.size ≠ 0) : tkB s = refB s := by
  by_cases h6 : 6 ≤ s.size
  · have hz : (s.extract 0 6).size = 6 := ext_size s 0 6 h6
    have hz7 : (s.extract 7 s.size).size = s.size - 7 := ext_size s 7 s.size (Nat.le_refl _)
    unfold tkB refB
    rw [head6 s h6, six_is _ hz, beh_tail s h6]
    cases hd : digsB (s.extract 0 6)
    · simp [h0]
    · by_cases e6 : s.size = 6
      · simp [e6]
      · by_cases h46 : byteP s 6 = 46
        · by_cases h8 : s.size = 8
          · have hd7 : digsB (s.extract 7 s.size) = decide (digP (byteP s 7) < 10) := by
              rw [Bool.eq_iff_iff, digsB_iff, hz7]
              simp only [decide_eq_true_eq]
              constructor
              · intro hh
                have := hh 0 (by omega)
                rwa [byteP_ext s 7 s.size 0 (Nat.le_refl _) (by omega)] at this
              · intro hh k hk
                obtain rfl : k = 0 := by omega
                rwa [byteP_ext s 7 s.size 0 (Nat.le_refl _) (by omega)]
            rw [hd7]
            simp [h8, h46]
          · by_cases h9 : s.size = 9
            · have hd7 : digsB (s.extract 7 s.size) = (decide (digP (byteP s 7) < 10) && decide (digP (byteP s 8) < 10)) := by
                rw [Bool.eq_iff_iff, digsB_iff, hz7]
                simp only [Bool.and_eq_true, decide_eq_true_eq]
                constructor
                · intro hh
                  have a0 := hh 0 (by omega)
                  have a1 := hh 1 (by omega)
                  rw [byteP_ext s 7 s.size 0 (Nat.le_refl _) (by omega)] at a0
                  rw [byteP_ext s 7 s.size 1 (Nat.le_refl _) (by omega)] at a1
                  exact ⟨a0, a1⟩
                · intro hh k hk
                  obtain rfl | rfl : k = 0 ∨ k = 1 := by omega
                  · rw [byteP_ext s 7 s.size 0 (Nat.le_refl _) (by omega)]; exact hh.1
                  · rw [byteP_ext s 7 s.size 1 (Nat.le_refl _) (by omega)]; exact hh.2
              rw [hd7]
              simp [h9, h46]
            · have hn : ¬ (8 ≤ s.size ∧ s.size ≤ 9) := by omega
              simp [h0, e6, h8, h9, h46, h6]
              omega
        · simp [h0, e6, h46]
  · have hn : (headS s).size ≠ 6 := by unfold headS; rw [Nat.min_eq_left (by omega)]; simp; omega
    unfold tkB refB sixB
    simp [h0, h6, hn]
end Go.Proofs.Ytbhfidneijogfaa
