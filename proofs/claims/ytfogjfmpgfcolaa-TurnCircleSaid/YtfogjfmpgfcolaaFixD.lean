/- Chapter 01: what two numbers come to. -/
import Derived.Test.YtfogjfmpgfcolaaFixC
namespace Go.Proofs.Ytfogjfmpgfcolaa
open Go.RowKit

/-- A number, cut, and whether it was. -/
def Cuts (w : World) (v : Int) (e : Ending) (w' : World) : Prop := e = .returned (.tuple #[.int .i32 (clampP v), .bool (clampP v != v)]) ∧ Below w.heap.size w w'

def sumL : List Int → Int
  | [] => 0
  | c :: r => c + sumL r
theorem sumL_snoc (xs : List Int) (c : Int) : sumL (xs ++ [c]) = sumL xs + c := by
  induction xs with
  | nil => simp [sumL]
  | cons x r ih => simp only [List.cons_append, sumL, ih]; omega
theorem sumL_bd (xs : List Int) (h : ∀ x ∈ xs, -8589934592 ≤ x ∧ x ≤ 8589934592) : -8589934592 * xs.length ≤ sumL xs ∧ sumL xs ≤ 8589934592 * xs.length := by
  induction xs with
  | nil => simp [sumL]
  | cons c r ih =>
    have h1 := h c (by simp)
    have h2 := ih (fun x hx => h x (by simp [hx]))
    simp only [sumL, List.length_cons]
    omega
theorem take_snoc (xs : List Int) (j : Nat) (h : j < xs.length) : xs.take (j + 1) = xs.take j ++ [xs[j]?.getD 0] := by
  rw [List.take_succ_eq_append_getElem h]; simp [h]

theorem mul_bd (a b : Int) (ha : I32 a) (hb : I32 b) : -4611686018427387904 ≤ a * b ∧ a * b ≤ 4611686018427387904 := by
  unfold I32 at *
  have h1 : absP a ≤ 2147483648 := by unfold absP; split <;> omega
  have h2 : absP b ≤ 2147483648 := by unfold absP; split <;> omega
  have h3 : 0 ≤ absP a := by unfold absP; split <;> omega
  have h4 : 0 ≤ absP b := by unfold absP; split <;> omega
  have h5 : absP a * absP b ≤ 2147483648 * 2147483648 := Int.mul_le_mul h1 h2 h4 (by omega)
  have h6 : 0 ≤ absP a * absP b := Int.mul_nonneg h3 h4
  have h7 : a * b = absP a * absP b ∨ a * b = -(absP a * absP b) := by
    unfold absP
    split <;> split
    · left; rw [Int.neg_mul_neg]
    · right; rw [Int.neg_mul, Int.neg_neg]
    · right; rw [Int.mul_neg, Int.neg_neg]
    · left; rfl
  omega
/-- A quotient: cut, or, by 0, the greatest, the least, or 0. -/
def divV (a b f : Int) : Int := if b = 0 then (if 0 < a then 2147483647 else if a < 0 then -2147483648 else 0) else clampP (overP (a * 2 ^ fracP f 30) b)
def divC (a b f : Int) : Bool := if b = 0 then true else clampP (overP (a * 2 ^ fracP f 30) b) != overP (a * 2 ^ fracP f 30) b
def Divs (w : World) (a b f : Int) (e : Ending) (w' : World) : Prop := e = .returned (.tuple #[.int .i32 (divV a b f), .bool (divC a b f)]) ∧ Below w.heap.size w w'
theorem divs_zero {w w' : World} {a b f v : Int} (hb : b = 0) (hv : v = if 0 < a then 2147483647 else if a < 0 then -2147483648 else 0) (h : Below w.heap.size w w') : Divs w a b f (.returned (.tuple #[.int .i32 v, .bool true])) w' := by
  subst hv
  unfold Divs divV divC
  rw [if_pos hb, if_pos hb]
  exact ⟨rfl, h⟩
theorem divs_over {w w' : World} {a b f V : Int} (hb : b ≠ 0) (hV : V = overP (a * 2 ^ fracP f 30) b) (h : Below w.heap.size w w') : Divs w a b f (.returned (.tuple #[.int .i32 (clampP V), .bool (clampP V != V)])) w' := by
  subst hV
  unfold Divs divV divC
  rw [if_neg hb, if_neg hb]
  exact ⟨rfl, h⟩
theorem shl_bd (a : Int) (m : Nat) (ha : I32 a) (hm : m ≤ 30) : -2305843009213693952 ≤ a * 2 ^ m ∧ a * 2 ^ m ≤ 2305843009213693952 := by
  have h1 : (1 : Nat) ≤ 2 ^ m := Nat.one_le_two_pow
  have h2 : 2 ^ m ≤ 2 ^ 30 := Nat.pow_le_pow_right (by omega) hm
  have e : (2 : Int) ^ m = ((2 ^ m : Nat) : Int) := by rw [Int.natCast_pow]; rfl
  have h3 := mul_bd a ((2 ^ m : Nat) : Int) ha (by unfold I32; omega)
  rw [e]
  unfold I32 at ha
  have h4 : a * ((2 ^ m : Nat) : Int) ≤ 2147483648 * 1073741824 := by
    rcases Int.lt_or_le a 0 with h | h
    · have : a * ((2 ^ m : Nat) : Int) ≤ 0 := Int.mul_nonpos_of_nonpos_of_nonneg (by omega) (by omega)
      omega
    · exact Int.mul_le_mul (by omega) (by omega) (by omega) (by omega)
  have h5 : -a * ((2 ^ m : Nat) : Int) ≤ 2147483648 * 1073741824 := by
    rcases Int.lt_or_le a 0 with h | h
    · exact Int.mul_le_mul (by omega) (by omega) (by omega) (by omega)
    · have : -a * ((2 ^ m : Nat) : Int) ≤ 0 := Int.mul_nonpos_of_nonpos_of_nonneg (by omega) (by omega)
      omega
  rw [Int.neg_mul] at h5
  omega
end Go.Proofs.Ytfogjfmpgfcolaa
