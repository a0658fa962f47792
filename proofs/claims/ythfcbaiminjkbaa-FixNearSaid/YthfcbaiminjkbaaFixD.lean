/- Chapter 01: what two numbers come to. -/
import Derived.Test.YthfcbaiminjkbaaFixC
namespace Go.Proofs.Ythfcbaiminjkbaa
open Go.RowKit

/-- A number, cut, and whether it was. -/
def Cuts (w : World) (v : Int) (e : Ending) (w' : World) : Prop := e = .returned (.tuple #[.int .i32 (clampP v), .bool (clampP v != v)]) ∧ Below w.heap.size w w'

def sumL : List Int → Int
  | [] => 0
  | c :: r => c + sumL r
theorem sumL_snoc (xs : List Int) (c : Int) : sumL (xs ++ [c]) = sumL xs + c := by
  induction xs with
  | nil => simp [sumL]
  | cons x r ih => simp only [List.cons_append, sumL, ih]; omega
theorem sumL_bd (xs : List Int) (h : ∀ x ∈ xs, -8589934592 ≤ x ∧ x ≤ 8589934592) : -8589934592 * xs.length ≤ sumL xs ∧ sumL xs ≤ 8589934592 * xs.length := by
  induction xs with
  | nil => simp [sumL]
  | cons c r ih =>
    have h1 := h c (by simp)
    have h2 := ih (fun x hx => h x (by simp [hx]))
    simp only [sumL, List.length_cons]
    omega
theorem take_snoc (xs : List Int) (j : Nat) (h : j < xs.length) : xs.take (j + 1) = xs.take j ++ [xs[j]?.getD 0] := by
  rw [List.take_succ_eq_append_getElem h]; simp [h]

theorem fx_sum (A : Option Addr) (n c : Nat) (xs : List Int) (w : World) (h : Row .i64 w w.heap.size A n xs) (hx : ∀ x ∈ xs, -8589934592 ≤ x ∧ x ≤ 8589934592) (hn : n ≤ 4) :
    Calls Try.prog 62 #[.slice A n c] w (Cuts w (sumL xs)) := by
  have hb := sumL_bd xs hx
  rw [h.1] at hb
  have HC := hid fun w => fx_Clamp (sumL xs) w (by unfold I64; omega)
  have HX := hid hx
  clear hx hb
  go_enter Try.func62, Try.ntmps62
  go_wp2
  go_loop [4, 6, 9] (fun s _ i => ∃ j : Nat, j ≤ n ∧ i = .int .i64 j ∧ s = .int .i64 (sumL (xs.take j))) (fun _ _ i => n - (intOf i).toNat)
  case atStart => exact ⟨0, by omega, rfl, rfl⟩
  case round =>
    obtain ⟨j, hj, rfl, rfl⟩ := hrel
    have hb := sumL_bd (xs.take j) (fun x hx => HX.out x (List.mem_of_mem_take hx))
    have hl : (xs.take j).length ≤ 4 := by simp; omega
    by_cases hlt : j < n
    · obtain ⟨ad, rfl, _, hc⟩ := h.at_ hlt
      have hjl : j < xs.length := by rw [h.1]; exact hlt
      have hx : -8589934592 ≤ xs[j]?.getD 0 ∧ xs[j]?.getD 0 ≤ 8589934592 := by
        have := HX.out xs[j] (List.getElem_mem hjl)
        simpa [hjl] using this
      have HT : Hid (sumL (xs.take (j + 1)) = sumL (xs.take j) + xs[j]?.getD 0) := by show _ = _; rw [take_snoc xs j hjl, sumL_snoc]
      generalize xs[j]?.getD 0 = x at *
      generalize sumL (xs.take j) = s at *
      go_wp2
      go_round
      case rel => exact ⟨j + 1, by omega, by go_num, by rw [HT.out]⟩
      case measure => simp [intOf]; omega
    · obtain rfl : j = n := by omega
      have et : xs.take j = xs := List.take_of_length_le (by rw [h.1]; exact Nat.le_refl _)
      rw [et]
      clear et hb hl
      go_wp2_with fail
      refine (HC.out _).mono ?_
      rintro e w' ⟨rfl, rfl⟩
      go_wp2
      go_ret2
      exact ⟨rfl, Below.refl _ _⟩

theorem fx_two (f : Nat) (a b v : Int) (w : World) (hv : a + b = v) (ha : -8589934592 ≤ a ∧ a ≤ 8589934592) (hb : -8589934592 ≤ b ∧ b ≤ 8589934592) :
    Calls Try.prog 62 #[.slice (some ⟨w.heap.size, 0, none⟩) 2 f] (w.alloc (.cells #[.int .i64 a, .int .i64 b] 2)) (Cuts w v) := by
  have := fx_sum (some ⟨w.heap.size, 0, none⟩) 2 f [a, b] (w.alloc (.cells #[.int .i64 a, .int .i64 b] 2)) (Row.blk (Blk.new _ _ _) rfl (by simp)) (by simp; exact ⟨ha, hb⟩) (by omega)
  refine this.mono fun e w' ⟨he, hb⟩ => ?_
  have e : sumL [a, b] = v := by simp [sumL]; omega
  rw [e] at he
  exact ⟨he, ((Below.refl _ w).alloc (Nat.le_refl _) _).trans (hb.mono (by simp))⟩

theorem fx_Add (a b : Int) (w : World) (ha : I32 a) (hb : I32 b) :
    Calls Try.prog 22 #[.int .i32 a, .int .i32 b] w (Cuts w (a + b)) := by
  obtain ⟨a1, a2⟩ := ha
  obtain ⟨b1, b2⟩ := hb
  have H := hid fun f => fx_two f a b (a + b) w rfl (by omega) (by omega)
  go_enter Try.func22, Try.ntmps22
  go_wp2_with fail
  refine (H.out _).mono ?_
  rintro e w' ⟨rfl, hb⟩
  go_wp2
  go_ret2
  exact ⟨rfl, hb⟩
theorem fx_Sub (a b : Int) (w : World) (ha : I32 a) (hb : I32 b) :
    Calls Try.prog 23 #[.int .i32 a, .int .i32 b] w (Cuts w (a - b)) := by
  obtain ⟨a1, a2⟩ := ha
  obtain ⟨b1, b2⟩ := hb
  have H := hid fun f => fx_two f a (-b) (a - b) w (by omega) (by omega) (by omega)
  go_enter Try.func23, Try.ntmps23
  go_wp2_with fail
  refine (H.out _).mono ?_
  rintro e w' ⟨rfl, hb⟩
  go_wp2
  go_ret2
  exact ⟨rfl, hb⟩
theorem fx_Neg (a : Int) (w : World) (ha : I32 a) :
    Calls Try.prog 35 #[.int .i32 a] w (Cuts w (-a)) := by
  obtain ⟨a1, a2⟩ := ha
  have h1 := fun f => fx_sum (some ⟨w.heap.size, 0, none⟩) 1 f [-a] (w.alloc (.cells #[.int .i64 (-a)] 2)) (Row.blk (Blk.new _ _ _) rfl (by simp)) (by simp; omega) (by omega)
  have e1 : sumL [-a] = -a := by simp [sumL]
  rw [e1] at h1
  have H := hid h1
  clear h1 e1
  go_enter Try.func35, Try.ntmps35
  go_wp2_with fail
  refine (H.out _).mono ?_
  rintro e w' ⟨rfl, hb⟩
  go_wp2
  go_ret2
  exact ⟨rfl, ((Below.refl _ w).alloc (Nat.le_refl _) _).trans (hb.mono (by simp))⟩
theorem fx_Abs (a : Int) (w : World) (ha : I32 a) :
    Calls Try.prog 36 #[.int .i32 a] w (Cuts w (absP a)) := by
  obtain ⟨a1, a2⟩ := ha
  have hb : 0 ≤ absP a ∧ absP a ≤ 2147483648 := by unfold absP; split <;> omega
  have H1 := hid fun w => fx_size a w ⟨by omega, by omega⟩
  have H2 := hid fun w => fx_Clamp (absP a) w (by unfold I64; omega)
  generalize absP a = v at *
  go_enter Try.func36, Try.ntmps36
  go_wp2_with fail
  refine (H1.out _).mono ?_
  rintro e w' ⟨rfl, rfl⟩
  go_wp2_with fail
  refine (H2.out _).mono ?_
  rintro e w' ⟨rfl, rfl⟩
  go_wp2
  go_ret2
  exact ⟨rfl, Below.refl _ _⟩
theorem mul_bd (a b : Int) (ha : I32 a) (hb : I32 b) : -4611686018427387904 ≤ a * b ∧ a * b ≤ 4611686018427387904 := by
  unfold I32 at *
  have h1 : absP a ≤ 2147483648 := by unfold absP; split <;> omega
  have h2 : absP b ≤ 2147483648 := by unfold absP; split <;> omega
  have h3 : 0 ≤ absP a := by unfold absP; split <;> omega
  have h4 : 0 ≤ absP b := by unfold absP; split <;> omega
  have h5 : absP a * absP b ≤ 2147483648 * 2147483648 := Int.mul_le_mul h1 h2 h4 (by omega)
  have h6 : 0 ≤ absP a * absP b := Int.mul_nonneg h3 h4
  have h7 : a * b = absP a * absP b ∨ a * b = -(absP a * absP b) := by
    unfold absP
    split <;> split
    · left; rw [Int.neg_mul_neg]
    · right; rw [Int.neg_mul, Int.neg_neg]
    · right; rw [Int.mul_neg, Int.neg_neg]
    · left; rfl
  omega
theorem fx_Mul (a b f : Int) (w : World) (ha : I32 a) (hb : I32 b) (hf : I64 f) :
    Calls Try.prog 24 #[.int .i32 a, .int .i32 b, .int .i64 f] w (Cuts w (roundP (a * b) (max 0 (min f 30)))) := by
  have hm := mul_bd a b ha hb
  have hR : I64 (roundP (a * b) (max 0 (min f 30))) := over_bd _ _ (by unfold I64; omega) (by have := pow_62 (fracP (max 0 (min f 30)) 62) (by unfold fracP; omega); unfold I64; omega)
  have H1 := hid fun w => fx_within f 0 30 w hf ⟨by omega, by omega⟩ ⟨by omega, by omega⟩
  have H2 := hid fun w => fx_Round (a * b) (max 0 (min f 30)) w (by unfold I64; omega) (by unfold I64 at *; omega)
  have H3 := hid fun w => fx_Clamp _ w hR
  obtain ⟨a1, a2⟩ := ha
  obtain ⟨b1, b2⟩ := hb
  clear hR
  generalize roundP (a * b) (max 0 (min f 30)) = R at *
  go_enter Try.func24, Try.ntmps24
  go_wp2_with fail
  refine (H1.out _).mono ?_
  rintro e w' ⟨rfl, rfl⟩
  generalize max 0 (min f 30) = g at *
  go_wp2_with fail
  refine (H2.out _).mono ?_
  rintro e w1 ⟨rfl, b1⟩
  go_wp2_with fail
  refine (H3.out _).mono ?_
  rintro e w' ⟨rfl, rfl⟩
  go_wp2
  go_ret2
  exact ⟨rfl, b1⟩

/-- A quotient: cut, or, by 0, the greatest, the least, or 0. -/
def divV (a b f : Int) : Int := if b = 0 then (if 0 < a then 2147483647 else if a < 0 then -2147483648 else 0) else clampP (overP (a * 2 ^ fracP f 30) b)
def divC (a b f : Int) : Bool := if b = 0 then true else clampP (overP (a * 2 ^ fracP f 30) b) != overP (a * 2 ^ fracP f 30) b
def Divs (w : World) (a b f : Int) (e : Ending) (w' : World) : Prop := e = .returned (.tuple #[.int .i32 (divV a b f), .bool (divC a b f)]) ∧ Below w.heap.size w w'
theorem divs_zero {w w' : World} {a b f v : Int} (hb : b = 0) (hv : v = if 0 < a then 2147483647 else if a < 0 then -2147483648 else 0) (h : Below w.heap.size w w') : Divs w a b f (.returned (.tuple #[.int .i32 v, .bool true])) w' := by
  subst hv
  unfold Divs divV divC
  rw [if_pos hb, if_pos hb]
  exact ⟨rfl, h⟩
theorem divs_over {w w' : World} {a b f V : Int} (hb : b ≠ 0) (hV : V = overP (a * 2 ^ fracP f 30) b) (h : Below w.heap.size w w') : Divs w a b f (.returned (.tuple #[.int .i32 (clampP V), .bool (clampP V != V)])) w' := by
  subst hV
  unfold Divs divV divC
  rw [if_neg hb, if_neg hb]
  exact ⟨rfl, h⟩
theorem shl_bd (a : Int) (m : Nat) (ha : I32 a) (hm : m ≤ 30) : -2305843009213693952 ≤ a * 2 ^ m ∧ a * 2 ^ m ≤ 2305843009213693952 := by
  have h1 : (1 : Nat) ≤ 2 ^ m := Nat.one_le_two_pow
  have h2 : 2 ^ m ≤ 2 ^ 30 := Nat.pow_le_pow_right (by omega) hm
  have e : (2 : Int) ^ m = ((2 ^ m : Nat) : Int) := by rw [Int.natCast_pow]; rfl
  have h3 := mul_bd a ((2 ^ m : Nat) : Int) ha (by unfold I32; omega)
  rw [e]
  unfold I32 at ha
  have h4 : a * ((2 ^ m : Nat) : Int) ≤ 2147483648 * 1073741824 := by
    rcases Int.lt_or_le a 0 with h | h
    · have : a * ((2 ^ m : Nat) : Int) ≤ 0 := Int.mul_nonpos_of_nonpos_of_nonneg (by omega) (by omega)
      omega
    · exact Int.mul_le_mul (by omega) (by omega) (by omega) (by omega)
  have h5 : -a * ((2 ^ m : Nat) : Int) ≤ 2147483648 * 1073741824 := by
    rcases Int.lt_or_le a 0 with h | h
    · exact Int.mul_le_mul (by omega) (by omega) (by omega) (by omega)
    · have : -a * ((2 ^ m : Nat) : Int) ≤ 0 := Int.mul_nonpos_of_nonpos_of_nonneg (by omega) (by omega)
      omega
  rw [Int.neg_mul] at h5
  omega
theorem fx_Div (a b f : Int) (w : World) (ha : I32 a) (hb : I32 b) (hf : I64 f) :
    Calls Try.prog 37 #[.int .i32 a, .int .i32 b, .int .i64 f] w (Divs w a b f) := by
  by_cases b0 : b = 0
  · have b0' : (b != 0) = false := by simpa using b0
    have H := hid fun v w' => @divs_zero w w' a b f v b0
    obtain ⟨a1, a2⟩ := ha
    clear b0
    by_cases g1 : 0 < a
    · have HV := hid (show (2147483647 : Int) = if 0 < a then 2147483647 else if a < 0 then -2147483648 else 0 by rw [if_pos g1])
      go_enter Try.func37, Try.ntmps37
      go_wp2
      go_ret2
      exact H.out _ _ HV.out (Below.refl _ _)
    · by_cases g2 : a < 0
      · have HV := hid (show (-2147483648 : Int) = if 0 < a then 2147483647 else if a < 0 then -2147483648 else 0 by rw [if_neg g1, if_pos g2])
        go_enter Try.func37, Try.ntmps37
        go_wp2
        go_ret2
        exact H.out _ _ HV.out (Below.refl _ _)
      · have HV := hid (show (0 : Int) = if 0 < a then 2147483647 else if a < 0 then -2147483648 else 0 by rw [if_neg g1, if_neg g2])
        go_enter Try.func37, Try.ntmps37
        go_wp2
        go_ret2
        exact H.out _ _ HV.out (Below.refl _ _)
  · have b0' : (b != 0) = true := by simpa using b0
    have hs := shl_bd a (fracP f 30) ha (by unfold fracP; omega)
    have HM : Hid (max 0 (min f 30) = ((fracP f 30 : Nat) : Int)) := by show _ = _; unfold fracP; omega
    have hm : fracP f 30 ≤ 30 := by unfold fracP; omega
    have hb64 : I64 b := by unfold I64 I32 at *; omega
    have H1 := hid fun w => fx_within f 0 30 w hf ⟨by omega, by omega⟩ ⟨by omega, by omega⟩
    have H2 := hid fun w => fx_Over (a * 2 ^ fracP f 30) b w (by unfold I64; omega) hb64
    have H3 := hid fun w => fx_Clamp _ w (over_bd (a * 2 ^ fracP f 30) b (by unfold I64; omega) hb64)
    have H := hid fun V w' => @divs_over w w' a b f V b0
    generalize fracP f 30 = m at *
    obtain ⟨a1, a2⟩ := ha
    obtain ⟨b1, b2⟩ := hb
    clear b0 hb64
    go_enter Try.func37, Try.ntmps37
    go_wp2_with fail
    refine (H1.out _).mono ?_
    rintro e w' ⟨rfl, rfl⟩
    rw [HM.out]
    go_wp2_with fail
    refine (H2.out _).mono ?_
    rintro e w1 ⟨rfl, b1⟩
    go_wp2_with fail
    refine (H3.out _).mono ?_
    rintro e w' ⟨rfl, rfl⟩
    go_wp2
    go_ret2
    exact H.out _ _ rfl b1
end Go.Proofs.Ythfcbaiminjkbaa
