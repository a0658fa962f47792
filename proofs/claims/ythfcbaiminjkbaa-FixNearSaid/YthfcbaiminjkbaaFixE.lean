/- Chapter 01: the reference's sums; what must come. -/
import Derived.Test.YthfcbaiminjkbaaFixD
namespace Go.Proofs.Ythfcbaiminjkbaa
open Go.RowKit

theorem _root_.Go.RowKit.Below.on {w w1 w2 : World} (a : Below w.heap.size w w1) (b : Below w1.heap.size w1 w2) : Below w.heap.size w w2 := a.trans (b.mono a.size)

/-- A number, cut, and whether it was; the world stays. -/
def CutsR (w : World) (v : Int) (e : Ending) (w' : World) : Prop := e = .returned (.tuple #[.int .i32 (clampP v), .bool (clampP v != v)]) ∧ w = w'

theorem fxr_Add (a b : Int) (w : World) (ha : I32 a) (hb : I32 b) :
    Calls Try.prog 38 #[.int .i32 a, .int .i32 b] w (CutsR w (a + b)) := by
  obtain ⟨a1, a2⟩ := ha
  obtain ⟨b1, b2⟩ := hb
  have H := hid (fxr_Clamp (a + b) w (by unfold I64; omega))
  go_enter Try.func38, Try.ntmps38
  go_wp2_with fail
  refine (H.out).mono ?_
  rintro e w' ⟨rfl, rfl⟩
  go_wp2
  go_ret2
  exact ⟨rfl, rfl⟩
theorem fxr_Sub (a b : Int) (w : World) (ha : I32 a) (hb : I32 b) :
    Calls Try.prog 39 #[.int .i32 a, .int .i32 b] w (CutsR w (a - b)) := by
  obtain ⟨a1, a2⟩ := ha
  obtain ⟨b1, b2⟩ := hb
  have H := hid (fxr_Clamp (a - b) w (by unfold I64; omega))
  go_enter Try.func39, Try.ntmps39
  go_wp2_with fail
  refine (H.out).mono ?_
  rintro e w' ⟨rfl, rfl⟩
  go_wp2
  go_ret2
  exact ⟨rfl, rfl⟩
theorem fxr_Neg (a : Int) (w : World) (ha : I32 a) :
    Calls Try.prog 40 #[.int .i32 a] w (CutsR w (-a)) := by
  obtain ⟨a1, a2⟩ := ha
  have H := hid (fxr_Clamp (-a) w (by unfold I64; omega))
  go_enter Try.func40, Try.ntmps40
  go_wp2_with fail
  refine (H.out).mono ?_
  rintro e w' ⟨rfl, rfl⟩
  go_wp2
  go_ret2
  exact ⟨rfl, rfl⟩
theorem fxr_Abs (a : Int) (w : World) (ha : I32 a) :
    Calls Try.prog 41 #[.int .i32 a] w (CutsR w (absP a)) := by
  have HN := hid (fxr_Neg a w ha)
  obtain ⟨a1, a2⟩ := ha
  by_cases g : a < 0
  · have HA : Hid (absP a = -a) := by show _ = _; unfold absP; rw [if_pos g]
    go_enter Try.func41, Try.ntmps41
    go_wp2_with fail
    refine (HN.out).mono ?_
    rintro e w' ⟨rfl, rfl⟩
    go_wp2
    go_ret2
    exact ⟨by rw [HA.out]; rfl, rfl⟩
  · have H : Hid (Ending.returned (.tuple #[.int .i32 a, .bool false]) = Ending.returned (.tuple #[.int .i32 (clampP (absP a)), .bool (clampP (absP a) != absP a)])) := by
      have e0 : absP a = a := by unfold absP; rw [if_neg g]
      have e : clampP a = a := by unfold clampP; omega
      show _ = _; rw [e0, e]; simp
    go_enter Try.func41, Try.ntmps41
    go_wp2
    go_ret2
    exact ⟨H.out, rfl⟩
theorem fxr_Mul (a b f : Int) (w : World) (ha : I32 a) (hb : I32 b) (hf : I64 f) :
    Calls Try.prog 42 #[.int .i32 a, .int .i32 b, .int .i64 f] w (CutsR w (roundP (a * b) (max 0 (min f 30)))) := by
  have hm := mul_bd a b ha hb
  have hR : I64 (roundP (a * b) (max 0 (min f 30))) := over_bd _ _ (by unfold I64; omega) (by have := pow_62 (fracP (max 0 (min f 30)) 62) (by unfold fracP; omega); unfold I64; omega)
  have key : ∀ x : Int, x = max 0 (min f 30) → Calls Try.prog 20 #[.int .i64 (a * b), .int .i64 x] w fun e w' => e = .returned (.int .i64 (roundP (a * b) (max 0 (min f 30)))) ∧ w = w' := fun x hx => by
    have := fxr_Round (a * b) x w (by unfold I64; omega) (by unfold I64 at *; omega)
    rw [hx] at this ⊢
    exact this
  have H2 := hid key
  have H3 := hid (fxr_Clamp _ w hR)
  obtain ⟨a1, a2⟩ := ha
  obtain ⟨b1, b2⟩ := hb
  obtain ⟨f1, f2⟩ := hf
  clear hR key
  generalize roundP (a * b) (max 0 (min f 30)) = R at *
  by_cases g1 : f < 0
  · go_enter Try.func42, Try.ntmps42
    go_wp2_with fail
    all_goals (refine (H2.out _ (by omega)).mono ?_; rintro e w' ⟨rfl, rfl⟩)
    go_wp2_with fail
    all_goals (refine (H3.out).mono ?_; rintro e w' ⟨rfl, rfl⟩)
    all_goals go_wp2
    all_goals go_ret2
    all_goals exact ⟨rfl, rfl⟩
  · by_cases g2 : 30 < f
    all_goals
      go_enter Try.func42, Try.ntmps42
      go_wp2_with fail
      all_goals (refine (H2.out _ (by omega)).mono ?_; rintro e w' ⟨rfl, rfl⟩)
      go_wp2_with fail
      all_goals (refine (H3.out).mono ?_; rintro e w' ⟨rfl, rfl⟩)
      all_goals go_wp2
      all_goals go_ret2
      all_goals exact ⟨rfl, rfl⟩

def DivsR (w : World) (a b f : Int) (e : Ending) (w' : World) : Prop := e = .returned (.tuple #[.int .i32 (divV a b f), .bool (divC a b f)]) ∧ w = w'
theorem divsR_zero {w : World} {a b f v : Int} (hb : b = 0) (hv : v = if 0 < a then 2147483647 else if a < 0 then -2147483648 else 0) : DivsR w a b f (.returned (.tuple #[.int .i32 v, .bool true])) w := by
  subst hv
  unfold DivsR divV divC
  rw [if_pos hb, if_pos hb]
  exact ⟨rfl, rfl⟩
theorem divsR_over {w : World} {a b f V : Int} (hb : b ≠ 0) (hV : V = overP (a * 2 ^ fracP f 30) b) : DivsR w a b f (.returned (.tuple #[.int .i32 (clampP V), .bool (clampP V != V)])) w := by
  subst hV
  unfold DivsR divV divC
  rw [if_neg hb, if_neg hb]
  exact ⟨rfl, rfl⟩
theorem fxr_Div (a b f : Int) (w : World) (ha : I32 a) (hb : I32 b) (hf : I64 f) :
    Calls Try.prog 43 #[.int .i32 a, .int .i32 b, .int .i64 f] w (DivsR w a b f) := by
  by_cases b0 : b = 0
  · have b0' : (b == 0) = true := by simpa using b0
    have H := hid fun v => @divsR_zero w a b f v b0
    obtain ⟨a1, a2⟩ := ha
    clear b0
    by_cases g1 : 0 < a
    · have HV := hid (show (2147483647 : Int) = if 0 < a then 2147483647 else if a < 0 then -2147483648 else 0 by rw [if_pos g1])
      go_enter Try.func43, Try.ntmps43
      go_wp2
      go_ret2
      exact H.out _ HV.out
    · by_cases g2 : a < 0
      · have HV := hid (show (-2147483648 : Int) = if 0 < a then 2147483647 else if a < 0 then -2147483648 else 0 by rw [if_neg g1, if_pos g2])
        go_enter Try.func43, Try.ntmps43
        go_wp2
        go_ret2
        exact H.out _ HV.out
      · have HV := hid (show (0 : Int) = if 0 < a then 2147483647 else if a < 0 then -2147483648 else 0 by rw [if_neg g1, if_neg g2])
        go_enter Try.func43, Try.ntmps43
        go_wp2
        go_ret2
        exact H.out _ HV.out
  · have b0' : (b == 0) = false := by simpa using b0
    have hs := shl_bd a (fracP f 30) ha (by unfold fracP; omega)
    have hb64 : I64 b := by unfold I64 I32 at *; omega
    have key : ∀ x : Int, 0 ≤ x → x ≤ 30 → x = max 0 (min f 30) → Calls Try.prog 61 #[.int .i64 x] w fun e w' => e = .returned (.int .i64 (2 ^ fracP f 30)) ∧ w = w' := fun x h3 h4 h5 => by
      have := fxr_Power x w ⟨h3, by omega⟩
      unfold fracP
      rw [← h5]
      exact this
    have HK := hid key
    have H2 := hid (fxr_Over (a * 2 ^ fracP f 30) b w (by unfold I64; omega) hb64)
    have H3 := hid (fxr_Clamp _ w (over_bd (a * 2 ^ fracP f 30) b (by unfold I64; omega) hb64))
    have H := hid fun V => @divsR_over w a b f V b0
    have hp := pow_62 (fracP f 30) (by unfold fracP; omega)
    clear key
    generalize (2 : Int) ^ fracP f 30 = P at *
    obtain ⟨a1, a2⟩ := ha
    obtain ⟨b1, b2⟩ := hb
    obtain ⟨f1, f2⟩ := hf
    clear b0 hb64
    by_cases g1 : f < 0
    · go_enter Try.func43, Try.ntmps43
      go_wp2_with fail
      all_goals (refine (HK.out _ (by omega) (by omega) (by omega)).mono ?_; rintro e w' ⟨rfl, rfl⟩)
      go_wp2_with fail
      all_goals (refine (H2.out).mono ?_; rintro e w' ⟨rfl, rfl⟩)
      go_wp2_with fail
      all_goals (refine (H3.out).mono ?_; rintro e w' ⟨rfl, rfl⟩)
      all_goals go_wp2
      all_goals go_ret2
      all_goals exact H.out _ rfl
    · by_cases g2 : 30 < f
      all_goals
        go_enter Try.func43, Try.ntmps43
        go_wp2_with fail
        all_goals (refine (HK.out _ (by omega) (by omega) (by omega)).mono ?_; rintro e w' ⟨rfl, rfl⟩)
        go_wp2_with fail
        all_goals (refine (H2.out).mono ?_; rintro e w' ⟨rfl, rfl⟩)
        go_wp2_with fail
        all_goals (refine (H3.out).mono ?_; rintro e w' ⟨rfl, rfl⟩)
        all_goals go_wp2
        all_goals go_ret2
        all_goals exact H.out _ rfl

theorem law01_knows (w : World) :
    Calls Try.prog 21 #[] w fun e w' => e = .returned (.bool true) ∧ Below w.heap.size w w' := by
  have h1 := fun w => fx_Add 2147483647 1 w (by unfold I32; omega) (by unfold I32; omega)
  have h2 := fun w => fx_Mul 65536 98304 16 w (by unfold I32; omega) (by unfold I32; omega) (by unfold I64; omega)
  have h3 := fun w => fx_Over 7 2 w (by unfold I64; omega) (by unfold I64; omega)
  have h4 := fun w => fx_Over (-7) 2 w (by unfold I64; omega) (by unfold I64; omega)
  have e1 : clampP (2147483647 + 1) = 2147483647 := by decide +kernel
  have e1' : ((2147483647 : Int) != 2147483647 + 1) = true := by decide +kernel
  have e2 : clampP (roundP (65536 * 98304) (max 0 (min 16 30))) = 98304 := by decide +kernel
  have e2' : ((98304 : Int) != roundP (65536 * 98304) (max 0 (min 16 30))) = false := by decide +kernel
  have e3 : overP 7 2 = 4 := by decide +kernel
  have e4 : overP (-7) 2 = -4 := by decide +kernel
  unfold Cuts at h1 h2
  simp only [e1, e1'] at h1
  simp only [e2, e2'] at h2
  simp only [e3] at h3
  simp only [e4] at h4
  have H1 := hid h1
  have H2 := hid h2
  have H3 := hid h3
  have H4 := hid h4
  clear h1 h2 h3 h4 e1 e1' e2 e2' e3 e4
  go_enter Try.func21, Try.ntmps21
  go_wp2_with fail
  refine (H1.out _).mono ?_
  rintro e w1 ⟨rfl, b1⟩
  go_wp2_with fail
  refine (H2.out _).mono ?_
  rintro e w2 ⟨rfl, b2⟩
  go_wp2_with fail
  refine (H3.out _).mono ?_
  rintro e w3 ⟨rfl, b3⟩
  go_wp2_with fail
  refine (H4.out _).mono ?_
  rintro e w4 ⟨rfl, b4⟩
  go_wp2
  go_ret
  exact ⟨rfl, ((b1.on b2).on b3).on b4⟩
end Go.Proofs.Ythfcbaiminjkbaa
