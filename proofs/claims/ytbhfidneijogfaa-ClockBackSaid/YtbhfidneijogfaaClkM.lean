/- Chapter 24: Put, PutDate. -/
import Derived.Test.YtbhfidneijogfaaClkL
import Derived.Deep.CutRange
import Derived.Test.YtbhfidneijogfaaClkD
namespace Go.Proofs.Ytbhfidneijogfaa
open Go.RowKit Go.Shelf
set_option linter.unusedVariables false
set_option linter.unusedSimpArgs false
attribute [local go_sem] Oper.semAt_some
theorem lib_trim (s p : ByteArray) (w : World) (hs : s.size ≤ 9223372036854775807) :
    Calls Try.prog 71 #[.string s, .string p] w fun e w' => e = .returned (.string ⟨(Lib.trimSuffix s.data.toList p.data.toList).toArray⟩) ∧ w' = w := Any.strings_TrimSuffix Try.lays102 s p w hs
theorem digL_two (n : Int) (h : 0 ≤ n ∧ n ≤ 99) : digL n 2 = twoL n := by
  show [48 + n / 10 % 10, 48 + n % 10] = [48 + n / 10, 48 + n % 10]
  rw [show n / 10 % 10 = n / 10 by omega]
theorem r_two (n : Int) (w : World) (hn : 0 ≤ n ∧ n ≤ 99) : Calls Try.prog 72 #[.int .i64 n] w fun e w' => e = .returned (.string (strOfNums (twoL n))) ∧ Below w.heap.size w w' := by
  have H := hid fun w => r_digits n 2 w hn (.inr rfl) (fun h => by omega)
  rw [digL_two n hn] at H
  go_enter Try.func72, Try.ntmps72
  go_wp2_with fail
  refine (H.out _).mono ?_
  rintro e w' ⟨rfl, hb⟩
  go_wp2
  go_ret
  exact ⟨rfl, hb⟩
def fracL (c : Int) : List Int := if c = 0 then [] else if c % 10 = 0 then [46, 48 + c / 10] else 46 :: twoL c
def putL (h m s c : Int) : List Int := twoL h ++ twoL m ++ twoL s ++ fracL c
def putV (i : Bool) (h m s c : Int) : ByteArray := if i = true ∧ mayP i h m s c = true then strOfNums (putL h m s c) else strOfNums []
def putE (i : Bool) (h m s c : Int) : Int := if mayP i h m s c = true then 0 else 5
def putDL (d m y : Int) : List Int := twoL d ++ twoL m ++ twoL (y - 2000)
def putDV (i : Bool) (d m y : Int) : ByteArray := if i = true ∧ mayDP i d m y = true then strOfNums (putDL d m y) else strOfNums []
def putDE (i : Bool) (d m y : Int) : Int := if mayDP i d m y = true then 0 else 5
theorem isDay_may' (d m y : Int) : mayDP true d m y = true ↔ (2000 ≤ y ∧ y ≤ 2099) ∧ (1 ≤ m ∧ m ≤ 12) ∧ 1 ≤ d ∧ d ≤ daysP m y := isDay_may d m y
theorem trim_frac (c : Int) (h : 1 ≤ c ∧ c ≤ 99) : (⟨(Lib.trimSuffix (strOfNums (46 :: twoL c)).data.toList ({ data := #[48] } : ByteArray).data.toList).toArray⟩ : ByteArray) = strOfNums (fracL c) := by
  have hk : ∀ k : Nat, k < 100 → 1 ≤ k → (⟨(Lib.trimSuffix (strOfNums (46 :: twoL (k : Int))).data.toList ({ data := #[48] } : ByteArray).data.toList).toArray⟩ : ByteArray) = strOfNums (fracL (k : Int)) := by decide +kernel
  obtain ⟨k, rfl⟩ := Int.eq_ofNat_of_zero_le (show 0 ≤ c by omega)
  exact hk k (by omega) (by omega)
theorem app_nil (S : ByteArray) : S ++ ({ data := #[] } : ByteArray) = S := by
  apply ByteArray.ext
  rw [ByteArray.data_append]
  simp
theorem point_is : ({ data := #[46] } : ByteArray) = strOfNums [46] := rfl
theorem two_size (n : Int) : (strOfNums (twoL n)).size ≤ 2 := by rw [strOfNums_size]; exact Nat.le_refl _
theorem frac_size (c : Int) : (strOfNums (fracL c)).size ≤ 3 := by
  rw [strOfNums_size]
  unfold fracL
  split
  · simp
  · split <;> simp [twoL]
set_option maxHeartbeats 4000000 in
theorem c_Put (i : Bool) (h m s c : Int) (w : World) : Calls Try.prog 43 #[.agg #[.bool i, .int .i64 h, .int .i64 m, .int .i64 s, .int .i64 c]] w fun e w' => e = .returned (.tuple #[.string (putV i h m s c), .int .i64 (putE i h m s c)]) ∧ Below w.heap.size w w' := by
  have HM := hid fun w => c_may i h m s c w
  cases g : mayP i h m s c
  · have HV : Hid (putV i h m s c = { data := #[] }) := hid (by unfold putV; rw [g, if_neg (by simp)]; rfl)
    have HE : Hid (putE i h m s c = 5) := hid (by unfold putE; rw [g]; rfl)
    rw [g] at HM
    clear g
    have hp := Blk.new w 62 #[.bool i, .int .i64 h, .int .i64 m, .int .i64 s, .int .i64 c]
    have hb := (Below.refl w.heap.size w).alloc (Nat.le_refl _) (.cells #[.bool i, .int .i64 h, .int .i64 m, .int .i64 s, .int .i64 c] 62)
    have f0 : (w.alloc (.cells #[.bool i, .int .i64 h, .int .i64 m, .int .i64 s, .int .i64 c] 62)).cell? ⟨w.heap.size, 0, none⟩ = some (.bool i) := hp.cell 0
    have f1 : (w.alloc (.cells #[.bool i, .int .i64 h, .int .i64 m, .int .i64 s, .int .i64 c] 62)).cell? ⟨w.heap.size, 1, none⟩ = some (.int .i64 h) := hp.cell 1
    have f2 : (w.alloc (.cells #[.bool i, .int .i64 h, .int .i64 m, .int .i64 s, .int .i64 c] 62)).cell? ⟨w.heap.size, 2, none⟩ = some (.int .i64 m) := hp.cell 2
    have f3 : (w.alloc (.cells #[.bool i, .int .i64 h, .int .i64 m, .int .i64 s, .int .i64 c] 62)).cell? ⟨w.heap.size, 3, none⟩ = some (.int .i64 s) := hp.cell 3
    have f4 : (w.alloc (.cells #[.bool i, .int .i64 h, .int .i64 m, .int .i64 s, .int .i64 c] 62)).cell? ⟨w.heap.size, 4, none⟩ = some (.int .i64 c) := hp.cell 4
    go_enter Try.func43, Try.ntmps43
    go_wp2_with fail
    clear f0 f1 f2 f3 f4
    generalize w.alloc (.cells #[.bool i, .int .i64 h, .int .i64 m, .int .i64 s, .int .i64 c] 62) = W0 at *
    refine (HM.out _).mono ?_
    rintro e w1 ⟨rfl, b1⟩
    replace hp := hp.below b1 hp.lt
    replace hb := hb.trans (b1.mono hb.size)
    clear b1
    have f0 : (w1).cell? ⟨w.heap.size, 0, none⟩ = some (.bool i) := hp.cell 0
    have f1 : (w1).cell? ⟨w.heap.size, 1, none⟩ = some (.int .i64 h) := hp.cell 1
    have f2 : (w1).cell? ⟨w.heap.size, 2, none⟩ = some (.int .i64 m) := hp.cell 2
    have f3 : (w1).cell? ⟨w.heap.size, 3, none⟩ = some (.int .i64 s) := hp.cell 3
    have f4 : (w1).cell? ⟨w.heap.size, 4, none⟩ = some (.int .i64 c) := hp.cell 4
    go_wp2
    go_ret2
    exact ⟨by rw [HV.out, HE.out]; rfl, hb⟩
  · have HE : Hid (putE i h m s c = 0) := hid (by unfold putE; rw [g]; rfl)
    cases i
    · have HV : Hid (putV false h m s c = { data := #[] }) := hid (by unfold putV; rw [if_neg (by simp)]; rfl)
      rw [g] at HM
      clear g
      have hp := Blk.new w 62 #[.bool false, .int .i64 h, .int .i64 m, .int .i64 s, .int .i64 c]
      have hb := (Below.refl w.heap.size w).alloc (Nat.le_refl _) (.cells #[.bool false, .int .i64 h, .int .i64 m, .int .i64 s, .int .i64 c] 62)
      have f0 : (w.alloc (.cells #[.bool false, .int .i64 h, .int .i64 m, .int .i64 s, .int .i64 c] 62)).cell? ⟨w.heap.size, 0, none⟩ = some (.bool false) := hp.cell 0
      have f1 : (w.alloc (.cells #[.bool false, .int .i64 h, .int .i64 m, .int .i64 s, .int .i64 c] 62)).cell? ⟨w.heap.size, 1, none⟩ = some (.int .i64 h) := hp.cell 1
      have f2 : (w.alloc (.cells #[.bool false, .int .i64 h, .int .i64 m, .int .i64 s, .int .i64 c] 62)).cell? ⟨w.heap.size, 2, none⟩ = some (.int .i64 m) := hp.cell 2
      have f3 : (w.alloc (.cells #[.bool false, .int .i64 h, .int .i64 m, .int .i64 s, .int .i64 c] 62)).cell? ⟨w.heap.size, 3, none⟩ = some (.int .i64 s) := hp.cell 3
      have f4 : (w.alloc (.cells #[.bool false, .int .i64 h, .int .i64 m, .int .i64 s, .int .i64 c] 62)).cell? ⟨w.heap.size, 4, none⟩ = some (.int .i64 c) := hp.cell 4
      go_enter Try.func43, Try.ntmps43
      go_wp2_with fail
      clear f0 f1 f2 f3 f4
      generalize w.alloc (.cells #[.bool false, .int .i64 h, .int .i64 m, .int .i64 s, .int .i64 c] 62) = W0 at *
      refine (HM.out _).mono ?_
      rintro e w1 ⟨rfl, b1⟩
      replace hp := hp.below b1 hp.lt
      replace hb := hb.trans (b1.mono hb.size)
      clear b1
      have f0 : (w1).cell? ⟨w.heap.size, 0, none⟩ = some (.bool false) := hp.cell 0
      have f1 : (w1).cell? ⟨w.heap.size, 1, none⟩ = some (.int .i64 h) := hp.cell 1
      have f2 : (w1).cell? ⟨w.heap.size, 2, none⟩ = some (.int .i64 m) := hp.cell 2
      have f3 : (w1).cell? ⟨w.heap.size, 3, none⟩ = some (.int .i64 s) := hp.cell 3
      have f4 : (w1).cell? ⟨w.heap.size, 4, none⟩ = some (.int .i64 c) := hp.cell 4
      go_wp2
      go_ret2
      exact ⟨by rw [HV.out, HE.out]; rfl, hb⟩
    · obtain ⟨b1, b2, b3, b4⟩ := may_bd h m s c g
      have HV : Hid (putV true h m s c = strOfNums (twoL h) ++ strOfNums (twoL m) ++ strOfNums (twoL s) ++ strOfNums (fracL c)) := hid (by unfold putV; rw [if_pos ⟨rfl, g⟩, str_app, str_app, str_app]; rfl)
      rw [g] at HM
      have HT1 := hid fun w => c_two h w (by omega)
      have HT2 := hid fun w => c_two m w (by omega)
      have HT3 := hid fun w => c_two s w (by omega)
      have z1 := two_size h
      have z2 := two_size m
      have z3 := two_size s
      have zf := frac_size c
      clear g
      have HFT : Hid (1 ≤ c → ∀ w, Calls Try.prog 71 #[.string ({ data := #[46] } ++ strOfNums (twoL c)), .string { data := #[48] }] w fun e w' => e = .returned (.string (strOfNums (fracL c))) ∧ w' = w) := hid fun h1 w => by
        have h2 := lib_trim (strOfNums (46 :: twoL c)) { data := #[48] } w (by rw [strOfNums_size]; simp [twoL])
        rw [trim_frac c ⟨h1, b4.2⟩] at h2
        rw [point_is, str_app]
        exact h2
      have HT4 := hid fun w => c_two c w (by omega)
      have z4 := two_size c
      have HF0 : Hid (c = 0 → strOfNums (fracL c) = { data := #[] }) := hid fun h => by rw [h]; rfl
      have hp := Blk.new w 62 #[.bool true, .int .i64 h, .int .i64 m, .int .i64 s, .int .i64 c]
      have hb := (Below.refl w.heap.size w).alloc (Nat.le_refl _) (.cells #[.bool true, .int .i64 h, .int .i64 m, .int .i64 s, .int .i64 c] 62)
      have f0 : (w.alloc (.cells #[.bool true, .int .i64 h, .int .i64 m, .int .i64 s, .int .i64 c] 62)).cell? ⟨w.heap.size, 0, none⟩ = some (.bool true) := hp.cell 0
      have f1 : (w.alloc (.cells #[.bool true, .int .i64 h, .int .i64 m, .int .i64 s, .int .i64 c] 62)).cell? ⟨w.heap.size, 1, none⟩ = some (.int .i64 h) := hp.cell 1
      have f2 : (w.alloc (.cells #[.bool true, .int .i64 h, .int .i64 m, .int .i64 s, .int .i64 c] 62)).cell? ⟨w.heap.size, 2, none⟩ = some (.int .i64 m) := hp.cell 2
      have f3 : (w.alloc (.cells #[.bool true, .int .i64 h, .int .i64 m, .int .i64 s, .int .i64 c] 62)).cell? ⟨w.heap.size, 3, none⟩ = some (.int .i64 s) := hp.cell 3
      have f4 : (w.alloc (.cells #[.bool true, .int .i64 h, .int .i64 m, .int .i64 s, .int .i64 c] 62)).cell? ⟨w.heap.size, 4, none⟩ = some (.int .i64 c) := hp.cell 4
      go_enter Try.func43, Try.ntmps43
      go_wp2_with fail
      clear f0 f1 f2 f3 f4
      generalize w.alloc (.cells #[.bool true, .int .i64 h, .int .i64 m, .int .i64 s, .int .i64 c] 62) = W0 at *
      refine (HM.out _).mono ?_
      rintro e w1 ⟨rfl, b1⟩
      replace hp := hp.below b1 hp.lt
      replace hb := hb.trans (b1.mono hb.size)
      clear b1
      have f0 : (w1).cell? ⟨w.heap.size, 0, none⟩ = some (.bool true) := hp.cell 0
      have f1 : (w1).cell? ⟨w.heap.size, 1, none⟩ = some (.int .i64 h) := hp.cell 1
      have f2 : (w1).cell? ⟨w.heap.size, 2, none⟩ = some (.int .i64 m) := hp.cell 2
      have f3 : (w1).cell? ⟨w.heap.size, 3, none⟩ = some (.int .i64 s) := hp.cell 3
      have f4 : (w1).cell? ⟨w.heap.size, 4, none⟩ = some (.int .i64 c) := hp.cell 4
      generalize strOfNums (twoL h) = S1 at *
      generalize strOfNums (twoL m) = S2 at *
      generalize strOfNums (twoL s) = S3 at *
      have q12 : ¬ (9223372036854775807 < S1.size + S2.size) := by omega
      have q123 : ¬ (9223372036854775807 < S1.size + S2.size + S3.size) := by omega
      have q123' : ¬ (9223372036854775807 < (S1 ++ S2).size + S3.size) := by rw [ByteArray.size_append]; omega
      go_wp2_with fail
      clear f0 f1 f2 f3 f4
      refine wp_region_noPanic ?_
      refine wp_region_held_drew (S := (fun w' : World => w'.cell? ⟨w.heap.size, 0, none⟩ = some (.bool true) ∧ w'.cell? ⟨w.heap.size, 1, none⟩ = some (.int .i64 h) ∧ w'.cell? ⟨w.heap.size, 2, none⟩ = some (.int .i64 m) ∧ w'.cell? ⟨w.heap.size, 3, none⟩ = some (.int .i64 s) ∧ w'.cell? ⟨w.heap.size, 4, none⟩ = some (.int .i64 c))) (by kernel_rfl) ⟨hp.cell 0, hp.cell 1, hp.cell 2, hp.cell 3, hp.cell 4⟩ (fun hHeld => ?_)
      refine (show wpAnyH _ _ _ _ _ 12 _ _ _ from ?_)
      try (simp only [Act.put, List.setIfInBounds_toArray, List.set_cons_zero, List.set_cons_succ])
      replace hp := hp.drew
      replace hb := hb.drew
      generalize w1.drew = V0 at *
      refine tk 0 hHeld ?_
      refine tk 1 hHeld ?_
      refine tk 3 hHeld ?_
      refine tk 4 hHeld ?_
      refine tk 7 hHeld ?_
      refine tk 8 hHeld ?_
      refine rd1 2 (fun K hK => ?_)
      go_simp
      refine (HT1.out _).mono ?_
      rintro e V1 ⟨rfl, b1⟩
      go_wp2_with fail
      replace hp := hp.below b1 hp.lt
      replace hb := hb.trans (b1.mono hb.size)
      clear b1
      refine hK.out _ _ ⟨hp.cell 0, hp.cell 1, hp.cell 2, hp.cell 3, hp.cell 4⟩ (fun hHeld => ?_)
      clear hK K
      try (simp only [Act.put, List.setIfInBounds_toArray, List.set_cons_zero, List.set_cons_succ])
      refine rd1 5 (fun K hK => ?_)
      go_simp
      refine (HT2.out _).mono ?_
      rintro e V2 ⟨rfl, b1⟩
      go_wp2_with fail
      replace hp := hp.below b1 hp.lt
      replace hb := hb.trans (b1.mono hb.size)
      clear b1
      refine hK.out _ _ ⟨hp.cell 0, hp.cell 1, hp.cell 2, hp.cell 3, hp.cell 4⟩ (fun hHeld => ?_)
      clear hK K
      try (simp only [Act.put, List.setIfInBounds_toArray, List.set_cons_zero, List.set_cons_succ])
      refine tk 6 hHeld ?_
      refine rd1 9 (fun K hK => ?_)
      go_simp
      refine (HT3.out _).mono ?_
      rintro e V3 ⟨rfl, b1⟩
      go_wp2_with fail
      replace hp := hp.below b1 hp.lt
      replace hb := hb.trans (b1.mono hb.size)
      clear b1
      refine hK.out _ _ ⟨hp.cell 0, hp.cell 1, hp.cell 2, hp.cell 3, hp.cell 4⟩ (fun hHeld => ?_)
      clear hK K
      try (simp only [Act.put, List.setIfInBounds_toArray, List.set_cons_zero, List.set_cons_succ])
      refine tk 10 hHeld ?_
      refine tk 11 hHeld ?_
      refine wpAnyH_done (by kernel_rfl) ?_ _
      refine NoPanic.normal ?_
      obtain ⟨S, hS⟩ : ∃ S, S1 ++ S2 ++ S3 = S := ⟨_, rfl⟩
      have zS : S.size ≤ 6 := by rw [← hS, ByteArray.size_append, ByteArray.size_append]; omega
      rw [hS] at HV ⊢
      clear hS
      have f0 : (V3).cell? ⟨w.heap.size, 0, none⟩ = some (.bool true) := hp.cell 0
      have f1 : (V3).cell? ⟨w.heap.size, 1, none⟩ = some (.int .i64 h) := hp.cell 1
      have f2 : (V3).cell? ⟨w.heap.size, 2, none⟩ = some (.int .i64 m) := hp.cell 2
      have f3 : (V3).cell? ⟨w.heap.size, 3, none⟩ = some (.int .i64 s) := hp.cell 3
      have f4 : (V3).cell? ⟨w.heap.size, 4, none⟩ = some (.int .i64 c) := hp.cell 4
      by_cases hc : 0 < c
      · have HFT2 := hid (HFT.out (by omega))
        generalize strOfNums (twoL c) = S4 at *
        generalize strOfNums (fracL c) = FR at *
        go_wp2_with fail
        refine (HT4.out _).mono ?_
        rintro e V4 ⟨rfl, b4⟩
        replace hb := hb.trans (b4.mono hb.size)
        go_wp2_with fail
        refine (HFT2.out _).mono ?_
        rintro e w' ⟨rfl, rfl⟩
        go_wp2
        go_ret2
        exact ⟨by rw [HV.out, HE.out]; rfl, hb⟩
      · have HF1 := hid (HF0.out (by omega))
        go_wp2
        go_ret2
        exact ⟨by rw [HV.out, HE.out, HF1.out, app_nil]; rfl, hb⟩
set_option maxHeartbeats 4000000 in
theorem r_Put (i : Bool) (h m s c : Int) (w : World) : Calls Try.prog 44 #[.agg #[.bool i, .int .i64 h, .int .i64 m, .int .i64 s, .int .i64 c]] w fun e w' => e = .returned (.tuple #[.string (putV i h m s c), .int .i64 (putE i h m s c)]) ∧ Below w.heap.size w w' := by
  have HM := hid fun w => r_May i h m s c w
  cases g : mayP i h m s c
  · have HV : Hid (putV i h m s c = { data := #[] }) := hid (by unfold putV; rw [g, if_neg (by simp)]; rfl)
    have HE : Hid (putE i h m s c = 5) := hid (by unfold putE; rw [g]; rfl)
    rw [g] at HM
    clear g
    have hp := Blk.new w 62 #[.bool i, .int .i64 h, .int .i64 m, .int .i64 s, .int .i64 c]
    have hb := (Below.refl w.heap.size w).alloc (Nat.le_refl _) (.cells #[.bool i, .int .i64 h, .int .i64 m, .int .i64 s, .int .i64 c] 62)
    have f0 : (w.alloc (.cells #[.bool i, .int .i64 h, .int .i64 m, .int .i64 s, .int .i64 c] 62)).cell? ⟨w.heap.size, 0, none⟩ = some (.bool i) := hp.cell 0
    have f1 : (w.alloc (.cells #[.bool i, .int .i64 h, .int .i64 m, .int .i64 s, .int .i64 c] 62)).cell? ⟨w.heap.size, 1, none⟩ = some (.int .i64 h) := hp.cell 1
    have f2 : (w.alloc (.cells #[.bool i, .int .i64 h, .int .i64 m, .int .i64 s, .int .i64 c] 62)).cell? ⟨w.heap.size, 2, none⟩ = some (.int .i64 m) := hp.cell 2
    have f3 : (w.alloc (.cells #[.bool i, .int .i64 h, .int .i64 m, .int .i64 s, .int .i64 c] 62)).cell? ⟨w.heap.size, 3, none⟩ = some (.int .i64 s) := hp.cell 3
    have f4 : (w.alloc (.cells #[.bool i, .int .i64 h, .int .i64 m, .int .i64 s, .int .i64 c] 62)).cell? ⟨w.heap.size, 4, none⟩ = some (.int .i64 c) := hp.cell 4
    go_enter Try.func44, Try.ntmps44
    go_wp2_with fail
    clear f0 f1 f2 f3 f4
    generalize w.alloc (.cells #[.bool i, .int .i64 h, .int .i64 m, .int .i64 s, .int .i64 c] 62) = W0 at *
    refine (HM.out _).mono ?_
    rintro e w1 ⟨rfl, b1⟩
    replace hp := hp.below b1 hp.lt
    replace hb := hb.trans (b1.mono hb.size)
    clear b1
    have f0 : (w1).cell? ⟨w.heap.size, 0, none⟩ = some (.bool i) := hp.cell 0
    have f1 : (w1).cell? ⟨w.heap.size, 1, none⟩ = some (.int .i64 h) := hp.cell 1
    have f2 : (w1).cell? ⟨w.heap.size, 2, none⟩ = some (.int .i64 m) := hp.cell 2
    have f3 : (w1).cell? ⟨w.heap.size, 3, none⟩ = some (.int .i64 s) := hp.cell 3
    have f4 : (w1).cell? ⟨w.heap.size, 4, none⟩ = some (.int .i64 c) := hp.cell 4
    go_wp2
    go_ret2
    exact ⟨by rw [HV.out, HE.out]; rfl, hb⟩
  · have HE : Hid (putE i h m s c = 0) := hid (by unfold putE; rw [g]; rfl)
    cases i
    · have HV : Hid (putV false h m s c = { data := #[] }) := hid (by unfold putV; rw [if_neg (by simp)]; rfl)
      rw [g] at HM
      clear g
      have hp := Blk.new w 62 #[.bool false, .int .i64 h, .int .i64 m, .int .i64 s, .int .i64 c]
      have hb := (Below.refl w.heap.size w).alloc (Nat.le_refl _) (.cells #[.bool false, .int .i64 h, .int .i64 m, .int .i64 s, .int .i64 c] 62)
      have f0 : (w.alloc (.cells #[.bool false, .int .i64 h, .int .i64 m, .int .i64 s, .int .i64 c] 62)).cell? ⟨w.heap.size, 0, none⟩ = some (.bool false) := hp.cell 0
      have f1 : (w.alloc (.cells #[.bool false, .int .i64 h, .int .i64 m, .int .i64 s, .int .i64 c] 62)).cell? ⟨w.heap.size, 1, none⟩ = some (.int .i64 h) := hp.cell 1
      have f2 : (w.alloc (.cells #[.bool false, .int .i64 h, .int .i64 m, .int .i64 s, .int .i64 c] 62)).cell? ⟨w.heap.size, 2, none⟩ = some (.int .i64 m) := hp.cell 2
      have f3 : (w.alloc (.cells #[.bool false, .int .i64 h, .int .i64 m, .int .i64 s, .int .i64 c] 62)).cell? ⟨w.heap.size, 3, none⟩ = some (.int .i64 s) := hp.cell 3
      have f4 : (w.alloc (.cells #[.bool false, .int .i64 h, .int .i64 m, .int .i64 s, .int .i64 c] 62)).cell? ⟨w.heap.size, 4, none⟩ = some (.int .i64 c) := hp.cell 4
      go_enter Try.func44, Try.ntmps44
      go_wp2_with fail
      clear f0 f1 f2 f3 f4
      generalize w.alloc (.cells #[.bool false, .int .i64 h, .int .i64 m, .int .i64 s, .int .i64 c] 62) = W0 at *
      refine (HM.out _).mono ?_
      rintro e w1 ⟨rfl, b1⟩
      replace hp := hp.below b1 hp.lt
      replace hb := hb.trans (b1.mono hb.size)
      clear b1
      have f0 : (w1).cell? ⟨w.heap.size, 0, none⟩ = some (.bool false) := hp.cell 0
      have f1 : (w1).cell? ⟨w.heap.size, 1, none⟩ = some (.int .i64 h) := hp.cell 1
      have f2 : (w1).cell? ⟨w.heap.size, 2, none⟩ = some (.int .i64 m) := hp.cell 2
      have f3 : (w1).cell? ⟨w.heap.size, 3, none⟩ = some (.int .i64 s) := hp.cell 3
      have f4 : (w1).cell? ⟨w.heap.size, 4, none⟩ = some (.int .i64 c) := hp.cell 4
      go_wp2
      go_ret2
      exact ⟨by rw [HV.out, HE.out]; rfl, hb⟩
    · obtain ⟨b1, b2, b3, b4⟩ := may_bd h m s c g
      have HV : Hid (putV true h m s c = strOfNums (twoL h) ++ strOfNums (twoL m) ++ strOfNums (twoL s) ++ strOfNums (fracL c)) := hid (by unfold putV; rw [if_pos ⟨rfl, g⟩, str_app, str_app, str_app]; rfl)
      rw [g] at HM
      have HT1 := hid fun w => r_two h w (by omega)
      have HT2 := hid fun w => r_two m w (by omega)
      have HT3 := hid fun w => r_two s w (by omega)
      have z1 := two_size h
      have z2 := two_size m
      have z3 := two_size s
      have zf := frac_size c
      clear g
      have HD : Hid (1 ≤ c → c % 10 = 0 → ∀ w, Calls Try.prog 73 #[.int .i64 (c / 10), .int .i64 1] w fun e w' => e = .returned (.string (strOfNums [48 + c / 10])) ∧ Below w.heap.size w w') := hid fun h1 h2 w => by
        have h5 := r_digits (c / 10) 1 w (by omega) (.inl rfl) (fun _ => by omega)
        rw [show digL (c / 10) 1 = [48 + c / 10] by show [48 + c / 10 % 10] = _; rw [show c / 10 % 10 = c / 10 by omega]] at h5
        exact h5
      have HT4 := hid fun w => r_two c w (by omega)
      have z4 := two_size c
      have z5 : (strOfNums [48 + c / 10]).size ≤ 1 := by rw [strOfNums_size]; exact Nat.le_refl _
      have HF0 : Hid (c = 0 → strOfNums (fracL c) = { data := #[] }) := hid fun h => by rw [h]; rfl
      have HF1 : Hid (1 ≤ c → c % 10 = 0 → strOfNums (fracL c) = { data := #[46] } ++ strOfNums [48 + c / 10]) := hid fun h1 h2 => by
        rw [point_is, str_app]; unfold fracL; rw [if_neg (by omega), if_pos h2]; rfl
      have HF2 : Hid (1 ≤ c → ¬ c % 10 = 0 → strOfNums (fracL c) = { data := #[46] } ++ strOfNums (twoL c)) := hid fun h1 h2 => by
        rw [point_is, str_app]; unfold fracL; rw [if_neg (by omega), if_neg h2]; rfl
      have hp := Blk.new w 62 #[.bool true, .int .i64 h, .int .i64 m, .int .i64 s, .int .i64 c]
      have hb := (Below.refl w.heap.size w).alloc (Nat.le_refl _) (.cells #[.bool true, .int .i64 h, .int .i64 m, .int .i64 s, .int .i64 c] 62)
      have f0 : (w.alloc (.cells #[.bool true, .int .i64 h, .int .i64 m, .int .i64 s, .int .i64 c] 62)).cell? ⟨w.heap.size, 0, none⟩ = some (.bool true) := hp.cell 0
      have f1 : (w.alloc (.cells #[.bool true, .int .i64 h, .int .i64 m, .int .i64 s, .int .i64 c] 62)).cell? ⟨w.heap.size, 1, none⟩ = some (.int .i64 h) := hp.cell 1
      have f2 : (w.alloc (.cells #[.bool true, .int .i64 h, .int .i64 m, .int .i64 s, .int .i64 c] 62)).cell? ⟨w.heap.size, 2, none⟩ = some (.int .i64 m) := hp.cell 2
      have f3 : (w.alloc (.cells #[.bool true, .int .i64 h, .int .i64 m, .int .i64 s, .int .i64 c] 62)).cell? ⟨w.heap.size, 3, none⟩ = some (.int .i64 s) := hp.cell 3
      have f4 : (w.alloc (.cells #[.bool true, .int .i64 h, .int .i64 m, .int .i64 s, .int .i64 c] 62)).cell? ⟨w.heap.size, 4, none⟩ = some (.int .i64 c) := hp.cell 4
      go_enter Try.func44, Try.ntmps44
      go_wp2_with fail
      clear f0 f1 f2 f3 f4
      generalize w.alloc (.cells #[.bool true, .int .i64 h, .int .i64 m, .int .i64 s, .int .i64 c] 62) = W0 at *
      refine (HM.out _).mono ?_
      rintro e w1 ⟨rfl, b1⟩
      replace hp := hp.below b1 hp.lt
      replace hb := hb.trans (b1.mono hb.size)
      clear b1
      have f0 : (w1).cell? ⟨w.heap.size, 0, none⟩ = some (.bool true) := hp.cell 0
      have f1 : (w1).cell? ⟨w.heap.size, 1, none⟩ = some (.int .i64 h) := hp.cell 1
      have f2 : (w1).cell? ⟨w.heap.size, 2, none⟩ = some (.int .i64 m) := hp.cell 2
      have f3 : (w1).cell? ⟨w.heap.size, 3, none⟩ = some (.int .i64 s) := hp.cell 3
      have f4 : (w1).cell? ⟨w.heap.size, 4, none⟩ = some (.int .i64 c) := hp.cell 4
      generalize strOfNums (twoL h) = S1 at *
      generalize strOfNums (twoL m) = S2 at *
      generalize strOfNums (twoL s) = S3 at *
      have q12 : ¬ (9223372036854775807 < S1.size + S2.size) := by omega
      have q123 : ¬ (9223372036854775807 < S1.size + S2.size + S3.size) := by omega
      have q123' : ¬ (9223372036854775807 < (S1 ++ S2).size + S3.size) := by rw [ByteArray.size_append]; omega
      go_wp2_with fail
      clear f0 f1 f2 f3 f4
      refine wp_region_noPanic ?_
      refine wp_region_held_drew (S := (fun w' : World => w'.cell? ⟨w.heap.size, 0, none⟩ = some (.bool true) ∧ w'.cell? ⟨w.heap.size, 1, none⟩ = some (.int .i64 h) ∧ w'.cell? ⟨w.heap.size, 2, none⟩ = some (.int .i64 m) ∧ w'.cell? ⟨w.heap.size, 3, none⟩ = some (.int .i64 s) ∧ w'.cell? ⟨w.heap.size, 4, none⟩ = some (.int .i64 c))) (by kernel_rfl) ⟨hp.cell 0, hp.cell 1, hp.cell 2, hp.cell 3, hp.cell 4⟩ (fun hHeld => ?_)
      refine (show wpAnyH _ _ _ _ _ 12 _ _ _ from ?_)
      try (simp only [Act.put, List.setIfInBounds_toArray, List.set_cons_zero, List.set_cons_succ])
      replace hp := hp.drew
      replace hb := hb.drew
      generalize w1.drew = V0 at *
      refine tk 0 hHeld ?_
      refine tk 1 hHeld ?_
      refine tk 3 hHeld ?_
      refine tk 4 hHeld ?_
      refine tk 7 hHeld ?_
      refine tk 8 hHeld ?_
      refine rd1 2 (fun K hK => ?_)
      go_simp
      refine (HT1.out _).mono ?_
      rintro e V1 ⟨rfl, b1⟩
      go_wp2_with fail
      replace hp := hp.below b1 hp.lt
      replace hb := hb.trans (b1.mono hb.size)
      clear b1
      refine hK.out _ _ ⟨hp.cell 0, hp.cell 1, hp.cell 2, hp.cell 3, hp.cell 4⟩ (fun hHeld => ?_)
      clear hK K
      try (simp only [Act.put, List.setIfInBounds_toArray, List.set_cons_zero, List.set_cons_succ])
      refine rd1 5 (fun K hK => ?_)
      go_simp
      refine (HT2.out _).mono ?_
      rintro e V2 ⟨rfl, b1⟩
      go_wp2_with fail
      replace hp := hp.below b1 hp.lt
      replace hb := hb.trans (b1.mono hb.size)
      clear b1
      refine hK.out _ _ ⟨hp.cell 0, hp.cell 1, hp.cell 2, hp.cell 3, hp.cell 4⟩ (fun hHeld => ?_)
      clear hK K
      try (simp only [Act.put, List.setIfInBounds_toArray, List.set_cons_zero, List.set_cons_succ])
      refine tk 6 hHeld ?_
      refine rd1 9 (fun K hK => ?_)
      go_simp
      refine (HT3.out _).mono ?_
      rintro e V3 ⟨rfl, b1⟩
      go_wp2_with fail
      replace hp := hp.below b1 hp.lt
      replace hb := hb.trans (b1.mono hb.size)
      clear b1
      refine hK.out _ _ ⟨hp.cell 0, hp.cell 1, hp.cell 2, hp.cell 3, hp.cell 4⟩ (fun hHeld => ?_)
      clear hK K
      try (simp only [Act.put, List.setIfInBounds_toArray, List.set_cons_zero, List.set_cons_succ])
      refine tk 10 hHeld ?_
      refine tk 11 hHeld ?_
      refine wpAnyH_done (by kernel_rfl) ?_ _
      refine NoPanic.normal ?_
      obtain ⟨S, hS⟩ : ∃ S, S1 ++ S2 ++ S3 = S := ⟨_, rfl⟩
      have zS : S.size ≤ 6 := by rw [← hS, ByteArray.size_append, ByteArray.size_append]; omega
      rw [hS] at HV ⊢
      clear hS
      have f0 : (V3).cell? ⟨w.heap.size, 0, none⟩ = some (.bool true) := hp.cell 0
      have f1 : (V3).cell? ⟨w.heap.size, 1, none⟩ = some (.int .i64 h) := hp.cell 1
      have f2 : (V3).cell? ⟨w.heap.size, 2, none⟩ = some (.int .i64 m) := hp.cell 2
      have f3 : (V3).cell? ⟨w.heap.size, 3, none⟩ = some (.int .i64 s) := hp.cell 3
      have f4 : (V3).cell? ⟨w.heap.size, 4, none⟩ = some (.int .i64 c) := hp.cell 4
      by_cases hc : c = 0
      · have HF := hid (HF0.out hc)
        subst hc
        go_wp2
        go_ret2
        exact ⟨by rw [HV.out, HE.out, HF.out, app_nil]; rfl, hb⟩
      · by_cases h10 : c % 10 = 0
        · have HF := hid (HF1.out (by omega) h10)
          have HD2 := hid (HD.out (by omega) h10)
          generalize strOfNums [48 + c / 10] = S5 at *
          go_wp2_with fail
          refine (HD2.out _).mono ?_
          rintro e V4 ⟨rfl, b4⟩
          replace hb := hb.trans (b4.mono hb.size)
          go_wp2
          go_ret2
          exact ⟨by rw [HV.out, HE.out, HF.out, ← ByteArray.append_assoc]; rfl, hb⟩
        · have HF := hid (HF2.out (by omega) h10)
          generalize strOfNums (twoL c) = S4 at *
          go_wp2_with fail
          refine (HT4.out _).mono ?_
          rintro e V4 ⟨rfl, b4⟩
          replace hb := hb.trans (b4.mono hb.size)
          go_wp2
          go_ret2
          exact ⟨by rw [HV.out, HE.out, HF.out, ← ByteArray.append_assoc]; rfl, hb⟩
set_option maxHeartbeats 4000000 in
theorem c_PutDate (i : Bool) (d m y : Int) (w : World) (im : I64 m) (iy : I64 y) : Calls Try.prog 48 #[.agg #[.bool i, .int .i64 d, .int .i64 m, .int .i64 y]] w fun e w' => e = .returned (.tuple #[.string (putDV i d m y), .int .i64 (putDE i d m y)]) ∧ Below w.heap.size w w' := by
  have HM := hid fun w => c_mayDate i d m y w im iy
  cases g : mayDP i d m y
  · have HV : Hid (putDV i d m y = { data := #[] }) := hid (by unfold putDV; rw [g, if_neg (by simp)]; rfl)
    have HE : Hid (putDE i d m y = 5) := hid (by unfold putDE; rw [g]; rfl)
    rw [g] at HM
    clear g
    have hp := Blk.new w 60 #[.bool i, .int .i64 d, .int .i64 m, .int .i64 y]
    have hb := (Below.refl w.heap.size w).alloc (Nat.le_refl _) (.cells #[.bool i, .int .i64 d, .int .i64 m, .int .i64 y] 60)
    have f0 : (w.alloc (.cells #[.bool i, .int .i64 d, .int .i64 m, .int .i64 y] 60)).cell? ⟨w.heap.size, 0, none⟩ = some (.bool i) := hp.cell 0
    have f1 : (w.alloc (.cells #[.bool i, .int .i64 d, .int .i64 m, .int .i64 y] 60)).cell? ⟨w.heap.size, 1, none⟩ = some (.int .i64 d) := hp.cell 1
    have f2 : (w.alloc (.cells #[.bool i, .int .i64 d, .int .i64 m, .int .i64 y] 60)).cell? ⟨w.heap.size, 2, none⟩ = some (.int .i64 m) := hp.cell 2
    have f3 : (w.alloc (.cells #[.bool i, .int .i64 d, .int .i64 m, .int .i64 y] 60)).cell? ⟨w.heap.size, 3, none⟩ = some (.int .i64 y) := hp.cell 3
    go_enter Try.func48, Try.ntmps48
    go_wp2_with fail
    clear f0 f1 f2 f3
    generalize w.alloc (.cells #[.bool i, .int .i64 d, .int .i64 m, .int .i64 y] 60) = W0 at *
    refine (HM.out _).mono ?_
    rintro e w1 ⟨rfl, b1⟩
    replace hp := hp.below b1 hp.lt
    replace hb := hb.trans (b1.mono hb.size)
    clear b1
    have f0 : (w1).cell? ⟨w.heap.size, 0, none⟩ = some (.bool i) := hp.cell 0
    have f1 : (w1).cell? ⟨w.heap.size, 1, none⟩ = some (.int .i64 d) := hp.cell 1
    have f2 : (w1).cell? ⟨w.heap.size, 2, none⟩ = some (.int .i64 m) := hp.cell 2
    have f3 : (w1).cell? ⟨w.heap.size, 3, none⟩ = some (.int .i64 y) := hp.cell 3
    go_wp2
    go_ret2
    exact ⟨by rw [HV.out, HE.out]; rfl, hb⟩
  · have HE : Hid (putDE i d m y = 0) := hid (by unfold putDE; rw [g]; rfl)
    cases i
    · have HV : Hid (putDV false d m y = { data := #[] }) := hid (by unfold putDV; rw [if_neg (by simp)]; rfl)
      rw [g] at HM
      clear g
      have hp := Blk.new w 60 #[.bool false, .int .i64 d, .int .i64 m, .int .i64 y]
      have hb := (Below.refl w.heap.size w).alloc (Nat.le_refl _) (.cells #[.bool false, .int .i64 d, .int .i64 m, .int .i64 y] 60)
      have f0 : (w.alloc (.cells #[.bool false, .int .i64 d, .int .i64 m, .int .i64 y] 60)).cell? ⟨w.heap.size, 0, none⟩ = some (.bool false) := hp.cell 0
      have f1 : (w.alloc (.cells #[.bool false, .int .i64 d, .int .i64 m, .int .i64 y] 60)).cell? ⟨w.heap.size, 1, none⟩ = some (.int .i64 d) := hp.cell 1
      have f2 : (w.alloc (.cells #[.bool false, .int .i64 d, .int .i64 m, .int .i64 y] 60)).cell? ⟨w.heap.size, 2, none⟩ = some (.int .i64 m) := hp.cell 2
      have f3 : (w.alloc (.cells #[.bool false, .int .i64 d, .int .i64 m, .int .i64 y] 60)).cell? ⟨w.heap.size, 3, none⟩ = some (.int .i64 y) := hp.cell 3
      go_enter Try.func48, Try.ntmps48
      go_wp2_with fail
      clear f0 f1 f2 f3
      generalize w.alloc (.cells #[.bool false, .int .i64 d, .int .i64 m, .int .i64 y] 60) = W0 at *
      refine (HM.out _).mono ?_
      rintro e w1 ⟨rfl, b1⟩
      replace hp := hp.below b1 hp.lt
      replace hb := hb.trans (b1.mono hb.size)
      clear b1
      have f0 : (w1).cell? ⟨w.heap.size, 0, none⟩ = some (.bool false) := hp.cell 0
      have f1 : (w1).cell? ⟨w.heap.size, 1, none⟩ = some (.int .i64 d) := hp.cell 1
      have f2 : (w1).cell? ⟨w.heap.size, 2, none⟩ = some (.int .i64 m) := hp.cell 2
      have f3 : (w1).cell? ⟨w.heap.size, 3, none⟩ = some (.int .i64 y) := hp.cell 3
      go_wp2
      go_ret2
      exact ⟨by rw [HV.out, HE.out]; rfl, hb⟩
    · have hday := (isDay_may' d m y).1 g
      have hdb := daysP_bd m y
      have HV : Hid (putDV true d m y = strOfNums (twoL d) ++ strOfNums (twoL m) ++ strOfNums (twoL (y - 2000))) := hid (by unfold putDV; rw [if_pos ⟨rfl, g⟩, str_app, str_app]; rfl)
      rw [g] at HM
      have HT1 := hid fun w => c_two d w (by omega)
      have HT2 := hid fun w => c_two m w (by omega)
      have HT3 := hid fun w => c_two (y - 2000) w (by omega)
      have z1 := two_size d
      have z2 := two_size m
      have z3 := two_size (y - 2000)
      have uy : IntKind.i64.wrap (y - 2000) = y - 2000 := IntWalk.i64_in _ (by omega)
      clear g
      have hp := Blk.new w 60 #[.bool true, .int .i64 d, .int .i64 m, .int .i64 y]
      have hb := (Below.refl w.heap.size w).alloc (Nat.le_refl _) (.cells #[.bool true, .int .i64 d, .int .i64 m, .int .i64 y] 60)
      have f0 : (w.alloc (.cells #[.bool true, .int .i64 d, .int .i64 m, .int .i64 y] 60)).cell? ⟨w.heap.size, 0, none⟩ = some (.bool true) := hp.cell 0
      have f1 : (w.alloc (.cells #[.bool true, .int .i64 d, .int .i64 m, .int .i64 y] 60)).cell? ⟨w.heap.size, 1, none⟩ = some (.int .i64 d) := hp.cell 1
      have f2 : (w.alloc (.cells #[.bool true, .int .i64 d, .int .i64 m, .int .i64 y] 60)).cell? ⟨w.heap.size, 2, none⟩ = some (.int .i64 m) := hp.cell 2
      have f3 : (w.alloc (.cells #[.bool true, .int .i64 d, .int .i64 m, .int .i64 y] 60)).cell? ⟨w.heap.size, 3, none⟩ = some (.int .i64 y) := hp.cell 3
      go_enter Try.func48, Try.ntmps48
      go_wp2_with fail
      clear f0 f1 f2 f3
      generalize w.alloc (.cells #[.bool true, .int .i64 d, .int .i64 m, .int .i64 y] 60) = W0 at *
      refine (HM.out _).mono ?_
      rintro e w1 ⟨rfl, b1⟩
      replace hp := hp.below b1 hp.lt
      replace hb := hb.trans (b1.mono hb.size)
      clear b1
      have f0 : (w1).cell? ⟨w.heap.size, 0, none⟩ = some (.bool true) := hp.cell 0
      have f1 : (w1).cell? ⟨w.heap.size, 1, none⟩ = some (.int .i64 d) := hp.cell 1
      have f2 : (w1).cell? ⟨w.heap.size, 2, none⟩ = some (.int .i64 m) := hp.cell 2
      have f3 : (w1).cell? ⟨w.heap.size, 3, none⟩ = some (.int .i64 y) := hp.cell 3
      generalize strOfNums (twoL d) = S1 at *
      generalize strOfNums (twoL m) = S2 at *
      generalize strOfNums (twoL (y - 2000)) = S3 at *
      have q12 : ¬ (9223372036854775807 < S1.size + S2.size) := by omega
      have q123 : ¬ (9223372036854775807 < S1.size + S2.size + S3.size) := by omega
      have q123' : ¬ (9223372036854775807 < (S1 ++ S2).size + S3.size) := by rw [ByteArray.size_append]; omega
      go_wp2_with fail
      clear f0 f1 f2 f3
      refine wp_region_noPanic ?_
      refine wp_region_held_drew (S := (fun w' : World => w'.cell? ⟨w.heap.size, 0, none⟩ = some (.bool true) ∧ w'.cell? ⟨w.heap.size, 1, none⟩ = some (.int .i64 d) ∧ w'.cell? ⟨w.heap.size, 2, none⟩ = some (.int .i64 m) ∧ w'.cell? ⟨w.heap.size, 3, none⟩ = some (.int .i64 y))) (by kernel_rfl) ⟨hp.cell 0, hp.cell 1, hp.cell 2, hp.cell 3⟩ (fun hHeld => ?_)
      refine (show wpAnyH _ _ _ _ _ 14 _ _ _ from ?_)
      try (simp only [Act.put, List.setIfInBounds_toArray, List.set_cons_zero, List.set_cons_succ])
      replace hp := hp.drew
      replace hb := hb.drew
      generalize w1.drew = V0 at *
      refine tk 0 hHeld ?_
      refine tk 1 hHeld ?_
      refine tk 3 hHeld ?_
      refine tk 4 hHeld ?_
      refine tk 7 hHeld ?_
      refine tk 8 hHeld ?_
      refine tk 9 hHeld ?_
      refine rd1 2 (fun K hK => ?_)
      go_simp
      refine (HT1.out _).mono ?_
      rintro e V1 ⟨rfl, b1⟩
      go_wp2_with fail
      replace hp := hp.below b1 hp.lt
      replace hb := hb.trans (b1.mono hb.size)
      clear b1
      refine hK.out _ _ ⟨hp.cell 0, hp.cell 1, hp.cell 2, hp.cell 3⟩ (fun hHeld => ?_)
      clear hK K
      try (simp only [Act.put, List.setIfInBounds_toArray, List.set_cons_zero, List.set_cons_succ])
      refine rd1 5 (fun K hK => ?_)
      go_simp
      refine (HT2.out _).mono ?_
      rintro e V2 ⟨rfl, b1⟩
      go_wp2_with fail
      replace hp := hp.below b1 hp.lt
      replace hb := hb.trans (b1.mono hb.size)
      clear b1
      refine hK.out _ _ ⟨hp.cell 0, hp.cell 1, hp.cell 2, hp.cell 3⟩ (fun hHeld => ?_)
      clear hK K
      try (simp only [Act.put, List.setIfInBounds_toArray, List.set_cons_zero, List.set_cons_succ])
      refine tk 6 hHeld ?_
      refine rd1 10 (fun K hK => ?_)
      go_simp
      refine (HT3.out _).mono ?_
      rintro e V3 ⟨rfl, b1⟩
      go_wp2_with fail
      replace hp := hp.below b1 hp.lt
      replace hb := hb.trans (b1.mono hb.size)
      clear b1
      refine hK.out _ _ ⟨hp.cell 0, hp.cell 1, hp.cell 2, hp.cell 3⟩ (fun hHeld => ?_)
      clear hK K
      try (simp only [Act.put, List.setIfInBounds_toArray, List.set_cons_zero, List.set_cons_succ])
      refine tk 11 hHeld ?_
      refine tk 12 hHeld ?_
      refine tk 13 hHeld ?_
      refine wpAnyH_done (by kernel_rfl) ?_ _
      refine NoPanic.normal ?_
      go_wp2
      go_ret2
      exact ⟨by rw [HV.out, HE.out]; rfl, hb⟩
set_option maxHeartbeats 4000000 in
theorem r_PutDate (i : Bool) (d m y : Int) (w : World) (im : I64 m) (iy : I64 y) : Calls Try.prog 49 #[.agg #[.bool i, .int .i64 d, .int .i64 m, .int .i64 y]] w fun e w' => e = .returned (.tuple #[.string (putDV i d m y), .int .i64 (putDE i d m y)]) ∧ Below w.heap.size w w' := by
  have HM := hid fun w => r_MayDate i d m y w im iy
  cases g : mayDP i d m y
  · have HV : Hid (putDV i d m y = { data := #[] }) := hid (by unfold putDV; rw [g, if_neg (by simp)]; rfl)
    have HE : Hid (putDE i d m y = 5) := hid (by unfold putDE; rw [g]; rfl)
    rw [g] at HM
    clear g
    have hp := Blk.new w 60 #[.bool i, .int .i64 d, .int .i64 m, .int .i64 y]
    have hb := (Below.refl w.heap.size w).alloc (Nat.le_refl _) (.cells #[.bool i, .int .i64 d, .int .i64 m, .int .i64 y] 60)
    have f0 : (w.alloc (.cells #[.bool i, .int .i64 d, .int .i64 m, .int .i64 y] 60)).cell? ⟨w.heap.size, 0, none⟩ = some (.bool i) := hp.cell 0
    have f1 : (w.alloc (.cells #[.bool i, .int .i64 d, .int .i64 m, .int .i64 y] 60)).cell? ⟨w.heap.size, 1, none⟩ = some (.int .i64 d) := hp.cell 1
    have f2 : (w.alloc (.cells #[.bool i, .int .i64 d, .int .i64 m, .int .i64 y] 60)).cell? ⟨w.heap.size, 2, none⟩ = some (.int .i64 m) := hp.cell 2
    have f3 : (w.alloc (.cells #[.bool i, .int .i64 d, .int .i64 m, .int .i64 y] 60)).cell? ⟨w.heap.size, 3, none⟩ = some (.int .i64 y) := hp.cell 3
    go_enter Try.func49, Try.ntmps49
    go_wp2_with fail
    clear f0 f1 f2 f3
    generalize w.alloc (.cells #[.bool i, .int .i64 d, .int .i64 m, .int .i64 y] 60) = W0 at *
    refine (HM.out _).mono ?_
    rintro e w1 ⟨rfl, b1⟩
    replace hp := hp.below b1 hp.lt
    replace hb := hb.trans (b1.mono hb.size)
    clear b1
    have f0 : (w1).cell? ⟨w.heap.size, 0, none⟩ = some (.bool i) := hp.cell 0
    have f1 : (w1).cell? ⟨w.heap.size, 1, none⟩ = some (.int .i64 d) := hp.cell 1
    have f2 : (w1).cell? ⟨w.heap.size, 2, none⟩ = some (.int .i64 m) := hp.cell 2
    have f3 : (w1).cell? ⟨w.heap.size, 3, none⟩ = some (.int .i64 y) := hp.cell 3
    go_wp2
    go_ret2
    exact ⟨by rw [HV.out, HE.out]; rfl, hb⟩
  · have HE : Hid (putDE i d m y = 0) := hid (by unfold putDE; rw [g]; rfl)
    cases i
    · have HV : Hid (putDV false d m y = { data := #[] }) := hid (by unfold putDV; rw [if_neg (by simp)]; rfl)
      rw [g] at HM
      clear g
      have hp := Blk.new w 60 #[.bool false, .int .i64 d, .int .i64 m, .int .i64 y]
      have hb := (Below.refl w.heap.size w).alloc (Nat.le_refl _) (.cells #[.bool false, .int .i64 d, .int .i64 m, .int .i64 y] 60)
      have f0 : (w.alloc (.cells #[.bool false, .int .i64 d, .int .i64 m, .int .i64 y] 60)).cell? ⟨w.heap.size, 0, none⟩ = some (.bool false) := hp.cell 0
      have f1 : (w.alloc (.cells #[.bool false, .int .i64 d, .int .i64 m, .int .i64 y] 60)).cell? ⟨w.heap.size, 1, none⟩ = some (.int .i64 d) := hp.cell 1
      have f2 : (w.alloc (.cells #[.bool false, .int .i64 d, .int .i64 m, .int .i64 y] 60)).cell? ⟨w.heap.size, 2, none⟩ = some (.int .i64 m) := hp.cell 2
      have f3 : (w.alloc (.cells #[.bool false, .int .i64 d, .int .i64 m, .int .i64 y] 60)).cell? ⟨w.heap.size, 3, none⟩ = some (.int .i64 y) := hp.cell 3
      go_enter Try.func49, Try.ntmps49
      go_wp2_with fail
      clear f0 f1 f2 f3
      generalize w.alloc (.cells #[.bool false, .int .i64 d, .int .i64 m, .int .i64 y] 60) = W0 at *
      refine (HM.out _).mono ?_
      rintro e w1 ⟨rfl, b1⟩
      replace hp := hp.below b1 hp.lt
      replace hb := hb.trans (b1.mono hb.size)
      clear b1
      have f0 : (w1).cell? ⟨w.heap.size, 0, none⟩ = some (.bool false) := hp.cell 0
      have f1 : (w1).cell? ⟨w.heap.size, 1, none⟩ = some (.int .i64 d) := hp.cell 1
      have f2 : (w1).cell? ⟨w.heap.size, 2, none⟩ = some (.int .i64 m) := hp.cell 2
      have f3 : (w1).cell? ⟨w.heap.size, 3, none⟩ = some (.int .i64 y) := hp.cell 3
      go_wp2
      go_ret2
      exact ⟨by rw [HV.out, HE.out]; rfl, hb⟩
    · have hday := (isDay_may' d m y).1 g
      have hdb := daysP_bd m y
      have HV : Hid (putDV true d m y = strOfNums (twoL d) ++ strOfNums (twoL m) ++ strOfNums (twoL (y - 2000))) := hid (by unfold putDV; rw [if_pos ⟨rfl, g⟩, str_app, str_app]; rfl)
      rw [g] at HM
      have HT1 := hid fun w => r_two d w (by omega)
      have HT2 := hid fun w => r_two m w (by omega)
      have HT3 := hid fun w => r_two (y - 2000) w (by omega)
      have z1 := two_size d
      have z2 := two_size m
      have z3 := two_size (y - 2000)
      have uy : IntKind.i64.wrap (y - 2000) = y - 2000 := IntWalk.i64_in _ (by omega)
      clear g
      have hp := Blk.new w 60 #[.bool true, .int .i64 d, .int .i64 m, .int .i64 y]
      have hb := (Below.refl w.heap.size w).alloc (Nat.le_refl _) (.cells #[.bool true, .int .i64 d, .int .i64 m, .int .i64 y] 60)
      have f0 : (w.alloc (.cells #[.bool true, .int .i64 d, .int .i64 m, .int .i64 y] 60)).cell? ⟨w.heap.size, 0, none⟩ = some (.bool true) := hp.cell 0
      have f1 : (w.alloc (.cells #[.bool true, .int .i64 d, .int .i64 m, .int .i64 y] 60)).cell? ⟨w.heap.size, 1, none⟩ = some (.int .i64 d) := hp.cell 1
      have f2 : (w.alloc (.cells #[.bool true, .int .i64 d, .int .i64 m, .int .i64 y] 60)).cell? ⟨w.heap.size, 2, none⟩ = some (.int .i64 m) := hp.cell 2
      have f3 : (w.alloc (.cells #[.bool true, .int .i64 d, .int .i64 m, .int .i64 y] 60)).cell? ⟨w.heap.size, 3, none⟩ = some (.int .i64 y) := hp.cell 3
      go_enter Try.func49, Try.ntmps49
      go_wp2_with fail
      clear f0 f1 f2 f3
      generalize w.alloc (.cells #[.bool true, .int .i64 d, .int .i64 m, .int .i64 y] 60) = W0 at *
      refine (HM.out _).mono ?_
      rintro e w1 ⟨rfl, b1⟩
      replace hp := hp.below b1 hp.lt
      replace hb := hb.trans (b1.mono hb.size)
      clear b1
      have f0 : (w1).cell? ⟨w.heap.size, 0, none⟩ = some (.bool true) := hp.cell 0
      have f1 : (w1).cell? ⟨w.heap.size, 1, none⟩ = some (.int .i64 d) := hp.cell 1
      have f2 : (w1).cell? ⟨w.heap.size, 2, none⟩ = some (.int .i64 m) := hp.cell 2
      have f3 : (w1).cell? ⟨w.heap.size, 3, none⟩ = some (.int .i64 y) := hp.cell 3
      generalize strOfNums (twoL d) = S1 at *
      generalize strOfNums (twoL m) = S2 at *
      generalize strOfNums (twoL (y - 2000)) = S3 at *
      have q12 : ¬ (9223372036854775807 < S1.size + S2.size) := by omega
      have q123 : ¬ (9223372036854775807 < S1.size + S2.size + S3.size) := by omega
      have q123' : ¬ (9223372036854775807 < (S1 ++ S2).size + S3.size) := by rw [ByteArray.size_append]; omega
      go_wp2_with fail
      clear f0 f1 f2 f3
      refine wp_region_noPanic ?_
      refine wp_region_held_drew (S := (fun w' : World => w'.cell? ⟨w.heap.size, 0, none⟩ = some (.bool true) ∧ w'.cell? ⟨w.heap.size, 1, none⟩ = some (.int .i64 d) ∧ w'.cell? ⟨w.heap.size, 2, none⟩ = some (.int .i64 m) ∧ w'.cell? ⟨w.heap.size, 3, none⟩ = some (.int .i64 y))) (by kernel_rfl) ⟨hp.cell 0, hp.cell 1, hp.cell 2, hp.cell 3⟩ (fun hHeld => ?_)
      refine (show wpAnyH _ _ _ _ _ 14 _ _ _ from ?_)
      try (simp only [Act.put, List.setIfInBounds_toArray, List.set_cons_zero, List.set_cons_succ])
      replace hp := hp.drew
      replace hb := hb.drew
      generalize w1.drew = V0 at *
      refine tk 0 hHeld ?_
      refine tk 1 hHeld ?_
      refine tk 3 hHeld ?_
      refine tk 4 hHeld ?_
      refine tk 7 hHeld ?_
      refine tk 8 hHeld ?_
      refine tk 9 hHeld ?_
      refine rd1 2 (fun K hK => ?_)
      go_simp
      refine (HT1.out _).mono ?_
      rintro e V1 ⟨rfl, b1⟩
      go_wp2_with fail
      replace hp := hp.below b1 hp.lt
      replace hb := hb.trans (b1.mono hb.size)
      clear b1
      refine hK.out _ _ ⟨hp.cell 0, hp.cell 1, hp.cell 2, hp.cell 3⟩ (fun hHeld => ?_)
      clear hK K
      try (simp only [Act.put, List.setIfInBounds_toArray, List.set_cons_zero, List.set_cons_succ])
      refine rd1 5 (fun K hK => ?_)
      go_simp
      refine (HT2.out _).mono ?_
      rintro e V2 ⟨rfl, b1⟩
      go_wp2_with fail
      replace hp := hp.below b1 hp.lt
      replace hb := hb.trans (b1.mono hb.size)
      clear b1
      refine hK.out _ _ ⟨hp.cell 0, hp.cell 1, hp.cell 2, hp.cell 3⟩ (fun hHeld => ?_)
      clear hK K
      try (simp only [Act.put, List.setIfInBounds_toArray, List.set_cons_zero, List.set_cons_succ])
      refine tk 6 hHeld ?_
      refine rd1 10 (fun K hK => ?_)
      go_simp
      refine (HT3.out _).mono ?_
      rintro e V3 ⟨rfl, b1⟩
      go_wp2_with fail
      replace hp := hp.below b1 hp.lt
      replace hb := hb.trans (b1.mono hb.size)
      clear b1
      refine hK.out _ _ ⟨hp.cell 0, hp.cell 1, hp.cell 2, hp.cell 3⟩ (fun hHeld => ?_)
      clear hK K
      try (simp only [Act.put, List.setIfInBounds_toArray, List.set_cons_zero, List.set_cons_succ])
      refine tk 11 hHeld ?_
      refine tk 12 hHeld ?_
      refine tk 13 hHeld ?_
      refine wpAnyH_done (by kernel_rfl) ?_ _
      refine NoPanic.normal ?_
      go_wp2
      go_ret2
      exact ⟨by rw [HV.out, HE.out]; rfl, hb⟩
end Go.Proofs.Ytbhfidneijogfaa
