/- Chapter 24: what is put is taken; the walk of ClockBack. -/
import Derived.Test.YtbhfidneijogfaaClkR
namespace Go.Proofs.Ytbhfidneijogfaa
open Go.RowKit
set_option linter.unusedVariables false
set_option linter.unusedSimpArgs false
attribute [local go_sem] Oper.semAt_some

theorem byteP_str (xs : List Int) (k : Nat) (h : k < xs.length) (hx : 0 ≤ xs[k]?.getD 0 ∧ xs[k]?.getD 0 ≤ 255) : (byteP (strOfNums xs) k : Int) = xs[k]?.getD 0 := by
  unfold byteP
  rw [strOfNums_data, List.getElem?_map]
  rw [List.getElem?_eq_getElem h] at hx ⊢
  simp only [Option.map_some, Option.getD_some] at hx ⊢
  generalize xs[k] = x at *
  simp
  omega
theorem dig_48 (n : Int) (b : Nat) (h : (b : Int) = 48 + n) (hn : 0 ≤ n ∧ n ≤ 9) : digP b = n := by
  unfold digP
  rw [h, IntKind.wrap_u8]
  omega
theorem at_dig (xs : List Int) (k : Nat) (n : Int) (h : xs[k]? = some (48 + n)) (hn : 0 ≤ n ∧ n ≤ 9) : digP (byteP (strOfNums xs) k) = n := by
  obtain ⟨hk, he⟩ := List.getElem?_eq_some_iff.1 h
  refine dig_48 n _ ?_ hn
  rw [byteP_str xs k hk (by rw [h]; simp; omega), h]
  rfl
theorem at_is2 (xs : List Int) (k : Nat) (n : Nat) (h : xs[k]? = some (n : Int)) (hn : n ≤ 255) : byteP (strOfNums xs) k = n := by
  obtain ⟨hk, he⟩ := List.getElem?_eq_some_iff.1 h
  have := byteP_str xs k hk (by rw [h]; simp; omega)
  rw [h] at this
  simp at this
  omega
/-- A date's text is taken as it was put. -/
theorem date_back (d m y : Int) (hday : isDay d m y) : (strOfNums (putDL d m y)).size = 6 ∧ takeDC (strOfNums (putDL d m y)) = .agg #[.bool true, .int .i64 d, .int .i64 m, .int .i64 y] ∧ takeDE (strOfNums (putDL d m y)) = 0 := by
  have hdb := daysP_bd m y
  obtain ⟨hy, hm, hd⟩ := id hday
  have hz : (strOfNums (putDL d m y)).size = 6 := by rw [strOfNums_size]; rfl
  have b0 : digP (byteP (strOfNums (putDL d m y)) 0) = d / 10 := at_dig _ 0 _ rfl (by omega)
  have b1 : digP (byteP (strOfNums (putDL d m y)) 1) = d % 10 := at_dig _ 1 _ rfl (by omega)
  have b2 : digP (byteP (strOfNums (putDL d m y)) 2) = m / 10 := at_dig _ 2 _ rfl (by omega)
  have b3 : digP (byteP (strOfNums (putDL d m y)) 3) = m % 10 := at_dig _ 3 _ rfl (by omega)
  have b4 : digP (byteP (strOfNums (putDL d m y)) 4) = (y - 2000) / 10 := at_dig _ 4 _ rfl (by omega)
  have b5 : digP (byteP (strOfNums (putDL d m y)) 5) = (y - 2000) % 10 := at_dig _ 5 _ rfl (by omega)
  have hp := pairsL_6 _ hz
  have hB : tdB (strOfNums (putDL d m y)) = true := by
    unfold tdB
    rw [six_is _ hz, hz]
    have : digsB (strOfNums (putDL d m y)) = true := (digsB_iff _).2 fun k hk => by
      rw [hz] at hk
      obtain rfl | rfl | rfl | rfl | rfl | rfl : k = 0 ∨ k = 1 ∨ k = 2 ∨ k = 3 ∨ k = 4 ∨ k = 5 := by omega
      · rw [b0]; omega
      · rw [b1]; omega
      · rw [b2]; omega
      · rw [b3]; omega
      · rw [b4]; omega
      · rw [b5]; omega
    rw [this]; rfl
  have v0 : valP (pairsL (strOfNums (putDL d m y))) 0 = d := by rw [hp]; show 10 * digP (byteP _ 0) + digP (byteP _ 1) = d; rw [b0, b1]; omega
  have v1 : valP (pairsL (strOfNums (putDL d m y))) 1 = m := by rw [hp]; show 10 * digP (byteP _ 2) + digP (byteP _ 3) = m; rw [b2, b3]; omega
  have v2 : 2000 + valP (pairsL (strOfNums (putDL d m y))) 2 = y := by rw [hp]; show 2000 + (10 * digP (byteP _ 4) + digP (byteP _ 5)) = y; rw [b4, b5]; omega
  have hM : tdM (strOfNums (putDL d m y)) = true := by
    unfold tdM
    rw [v0, v1, v2, (isDay_may d m y).2 hday]
    simp
  refine ⟨hz, ?_, ?_⟩
  · unfold takeDC
    rw [if_pos ⟨by omega, hB, hM⟩, v0, v1, v2]
  · unfold takeDE
    rw [hB, hM]; rfl
theorem put_len (h m s c : Int) : (putL h m s c).length = 6 + (fracL c).length := by unfold putL twoL; simp; omega
theorem frac_len (c : Int) : (c = 0 ∧ (fracL c) = []) ∨ (c ≠ 0 ∧ c % 10 = 0 ∧ fracL c = [46, 48 + c / 10]) ∨ (c ≠ 0 ∧ c % 10 ≠ 0 ∧ fracL c = [46, 48 + c / 10, 48 + c % 10]) := by
  by_cases h0 : c = 0
  · exact .inl ⟨h0, if_pos h0⟩
  · by_cases h1 : c % 10 = 0
    · exact .inr (.inl ⟨h0, h1, by unfold fracL; rw [if_neg h0, if_pos h1]⟩)
    · exact .inr (.inr ⟨h0, h1, by unfold fracL; rw [if_neg h0, if_neg h1]; rfl⟩)
theorem put_at (h m s c : Int) (k : Nat) : (putL h m s c)[k]? = if k < 6 then [48 + h / 10, 48 + h % 10, 48 + m / 10, 48 + m % 10, 48 + s / 10, 48 + s % 10][k]? else (fracL c)[k - 6]? := by
  show ([48 + h / 10, 48 + h % 10, 48 + m / 10, 48 + m % 10, 48 + s / 10, 48 + s % 10] ++ fracL c)[k]? = _
  rw [List.getElem?_append]
  rfl
/-- A time's text is taken as it was put. -/
theorem time_back (h m s c : Int) (hm : mayP true h m s c = true) : (6 ≤ (strOfNums (putL h m s c)).size ∧ (strOfNums (putL h m s c)).size ≤ 9) ∧ takeC (strOfNums (putL h m s c)) = .agg #[.bool true, .int .i64 h, .int .i64 m, .int .i64 s, .int .i64 c] ∧ takeE (strOfNums (putL h m s c)) = 0 := by
  obtain ⟨hh, hmm, hs, hc⟩ := may_bd h m s c hm
  have hz : (strOfNums (putL h m s c)).size = 6 + (fracL c).length := by rw [strOfNums_size, put_len]
  have hat := put_at h m s c
  have b0 : digP (byteP (strOfNums (putL h m s c)) 0) = h / 10 := at_dig _ 0 _ (by rw [hat]; rfl) (by omega)
  have b1 : digP (byteP (strOfNums (putL h m s c)) 1) = h % 10 := at_dig _ 1 _ (by rw [hat]; rfl) (by omega)
  have b2 : digP (byteP (strOfNums (putL h m s c)) 2) = m / 10 := at_dig _ 2 _ (by rw [hat]; rfl) (by omega)
  have b3 : digP (byteP (strOfNums (putL h m s c)) 3) = m % 10 := at_dig _ 3 _ (by rw [hat]; rfl) (by omega)
  have b4 : digP (byteP (strOfNums (putL h m s c)) 4) = s / 10 := at_dig _ 4 _ (by rw [hat]; rfl) (by omega)
  have b5 : digP (byteP (strOfNums (putL h m s c)) 5) = s % 10 := at_dig _ 5 _ (by rw [hat]; rfl) (by omega)
  have h6 : 6 ≤ (strOfNums (putL h m s c)).size := by omega
  have v0 : tkH (strOfNums (putL h m s c)) 0 = h := by rw [tkH_is _ h6 0 (by omega), b0, b1]; omega
  have v1 : tkH (strOfNums (putL h m s c)) 1 = m := by rw [tkH_is _ h6 1 (by omega), b2, b3]; omega
  have v2 : tkH (strOfNums (putL h m s c)) 2 = s := by rw [tkH_is _ h6 2 (by omega), b4, b5]; omega
  have hD : digsB ((strOfNums (putL h m s c)).extract 0 6) = true := (digsB_iff _).2 fun k hk => by
    rw [ext_size _ 0 6 h6] at hk
    rw [byteP_ext _ 0 6 k h6 (by omega), Nat.zero_add]
    obtain rfl | rfl | rfl | rfl | rfl | rfl : k = 0 ∨ k = 1 ∨ k = 2 ∨ k = 3 ∨ k = 4 ∨ k = 5 := by omega
    · rw [b0]; omega
    · rw [b1]; omega
    · rw [b2]; omega
    · rw [b3]; omega
    · rw [b4]; omega
    · rw [b5]; omega
  have hbt := beh_tail (strOfNums (putL h m s c)) h6
  have hsix : sixB (headS (strOfNums (putL h m s c))) = true := by rw [head6 _ h6, six_is _ (ext_size _ 0 6 h6)]; exact hD
  have hbe : behP (tailS (strOfNums (putL h m s c))) = (c, true) := by
    rcases frac_len c with ⟨e0, el⟩ | ⟨e0, e1, el⟩ | ⟨e0, e1, el⟩
    · rw [el] at hz
      rw [hbt, if_pos (by rw [hz]; rfl), e0]
    · rw [el] at hz
      have c6 : byteP (strOfNums (putL h m s c)) 6 = 46 := at_is2 _ 6 46 (by rw [hat, if_neg (by omega), el]; rfl) (by omega)
      have c7 : digP (byteP (strOfNums (putL h m s c)) 7) = c / 10 := at_dig _ 7 _ (by rw [hat, if_neg (by omega), el]; rfl) (by omega)
      have hz8 : (strOfNums (putL h m s c)).size = 8 := hz
      rw [hbt, if_neg (by omega), if_pos ⟨c6, .inl hz8⟩, c7, hz8]
      simp
      omega
    · rw [el] at hz
      have c6 : byteP (strOfNums (putL h m s c)) 6 = 46 := at_is2 _ 6 46 (by rw [hat, if_neg (by omega), el]; rfl) (by omega)
      have c7 : digP (byteP (strOfNums (putL h m s c)) 7) = c / 10 := at_dig _ 7 _ (by rw [hat, if_neg (by omega), el]; rfl) (by omega)
      have c8 : digP (byteP (strOfNums (putL h m s c)) 8) = c % 10 := at_dig _ 8 _ (by rw [hat, if_neg (by omega), el]; rfl) (by omega)
      have hz9 : (strOfNums (putL h m s c)).size = 9 := hz
      rw [hbt, if_neg (by omega), if_pos ⟨c6, .inr hz9⟩, c7, c8, hz9]
      simp
      omega
  have hB : tkB (strOfNums (putL h m s c)) = true := by unfold tkB; rw [hsix, hbe]; simp
  have hM : tkM (strOfNums (putL h m s c)) = true := by unfold tkM; rw [v0, v1, v2, hbe, hm]; simp
  refine ⟨⟨h6, ?_⟩, ?_, ?_⟩
  · rcases frac_len c with ⟨_, el⟩ | ⟨_, _, el⟩ | ⟨_, _, el⟩ <;> rw [el] at hz <;> simp at hz <;> omega
  · unfold takeC
    rw [if_pos ⟨by omega, hB, hM⟩, v0, v1, v2, hbe]
  · unfold takeE
    rw [hB, hM]; rfl
/-- What is put without an error is taken as it was. -/
theorem put_take (i : Bool) (h m s c : Int) (hm : mayP i h m s c = true) : (putV i h m s c).size ≤ 100 ∧ takeC (putV i h m s c) = .agg #[.bool i, .int .i64 h, .int .i64 m, .int .i64 s, .int .i64 c] ∧ takeE (putV i h m s c) = 0 := by
  cases i
  · have hz : putV false h m s c = strOfNums [] := by unfold putV; rw [if_neg (by simp)]
    rw [hz]
    have hv : h = 0 ∧ m = 0 ∧ s = 0 ∧ c = 0 := by unfold mayP at hm; simpa using hm
    obtain ⟨rfl, rfl, rfl, rfl⟩ := hv
    refine ⟨by rw [strOfNums_size]; simp, ?_, ?_⟩
    · unfold takeC; rw [if_neg (by rw [strOfNums_size]; simp)]
    · unfold takeE tkB tkM; rw [strOfNums_size]; simp
  · have hz : putV true h m s c = strOfNums (putL h m s c) := by unfold putV; rw [if_pos ⟨rfl, hm⟩]
    rw [hz]
    obtain ⟨h1, h2, h3⟩ := time_back h m s c hm
    exact ⟨by omega, h2, h3⟩
theorem putD_take (i : Bool) (d m y : Int) (hm : mayDP i d m y = true) : (putDV i d m y).size ≤ 100 ∧ takeDC (putDV i d m y) = .agg #[.bool i, .int .i64 d, .int .i64 m, .int .i64 y] ∧ takeDE (putDV i d m y) = 0 := by
  cases i
  · have hz : putDV false d m y = strOfNums [] := by unfold putDV; rw [if_neg (by simp)]
    rw [hz]
    have hv : d = 0 ∧ m = 0 ∧ y = 0 := by unfold mayDP at hm; simpa using hm
    obtain ⟨rfl, rfl, rfl⟩ := hv
    refine ⟨by rw [strOfNums_size]; simp, ?_, ?_⟩
    · unfold takeDC; rw [if_neg (by rw [strOfNums_size]; simp)]
    · unfold takeDE tdB tdM; rw [strOfNums_size]; simp
  · have hz : putDV true d m y = strOfNums (putDL d m y) := by unfold putDV; rw [if_pos ⟨rfl, hm⟩]
    rw [hz]
    obtain ⟨h1, h2, h3⟩ := date_back d m y ((isDay_may d m y).1 hm)
    exact ⟨by omega, h2, h3⟩
/-- What is counted leads back. -/
theorem rest_back (h m s c : Int) (hh : 0 ≤ h ∧ h ≤ 23) (hm : 0 ≤ m ∧ m ≤ 59) (hs : 0 ≤ s ∧ s ≤ 59) (hc : 0 ≤ c ∧ c ≤ 99) : restV (h * 360000 + m * 6000 + s * 100 + c) = .agg #[.bool true, .int .i64 h, .int .i64 m, .int .i64 s, .int .i64 c] := by
  unfold restV
  rw [show (h * 360000 + m * 6000 + s * 100 + c) / 360000 = h by omega, show (h * 360000 + m * 6000 + s * 100 + c) % 360000 / 6000 = m by omega, show (h * 360000 + m * 6000 + s * 100 + c) % 6000 / 100 = s by omega, show (h * 360000 + m * 6000 + s * 100 + c) % 100 = c by omega]
theorem count_of (d m y h mi s c : Int) (hd : mayDP true d m y = true) (hm : mayP true h mi s c = true) : (0 ≤ countV d m y h mi s c ∧ countV d m y h mi s c ≤ 315575999999) ∧ countV d m y h mi s c / 8640000 = rankP d m y ∧ countV d m y h mi s c % 8640000 = h * 360000 + mi * 6000 + s * 100 + c := by
  have h1 := rank_all d m y ((isDay_may d m y).1 hd)
  obtain ⟨b1, b2, b3, b4⟩ := may_bd h mi s c hm
  unfold countV
  omega
theorem of_count (n d m y : Int) (hn : 0 ≤ n) (hday : isDay d m y) (hr : rankP d m y = n / 8640000) : mayP true (n % 8640000 / 360000) (n % 8640000 % 360000 / 6000) (n % 8640000 % 6000 / 100) (n % 8640000 % 100) = true ∧ countV d m y (n % 8640000 / 360000) (n % 8640000 % 360000 / 6000) (n % 8640000 % 6000 / 100) (n % 8640000 % 100) = n := by
  refine ⟨?_, ?_⟩
  · unfold mayP
    simp [inB_iff]
    omega
  · unfold countV
    rw [hr]
    omega
end Go.Proofs.Ytbhfidneijogfaa
