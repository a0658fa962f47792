/- Chapter 02: whole roots: the plain words, and two functions of the library. -/
import Derived.Test.YtldoocndhfgjhaaGreatOwn
import Derived.BigQuiet
import Derived.Deep.QuietTactic
import Derived.Outline
import Derived.Handy
import Derived.WalkLawsBesides
import Derived.Shelf.Small.Bits
import Derived.Shelf.Spec.BitsCarry
import Derived.Lib.ItoaNum
import Derived.Test.YtldoocndhfgjhaaGreatProg
import Derived.Test.YtldoocndhfgjhaaGreatFixE
import Derived.Test.YtldoocndhfgjhaaGreatHeld
import Derived.Deep.CutRange
import Derived.Laws.StructEq
import Derived.Laws.BitsLemmas
namespace Go.Proofs
open Go.Shelf
def Tryz.lays25_ren : Go.Shelf.Ren := ⟨fun | 25 => 285 | n => n, fun | 22 => 244 | n => n, fun | n => n⟩
theorem Tryz.lays25 : Go.Proofs.Lays7.n25 Tryz.prog Tryz.lays25_ren := {
  mixed := by kernel_rfl
  f25 := Tryz.func285.trans (congrArg some (by kernel_rfl))
  t22 := Tryz.underlying244
  a22 := Tryz.isAgg244
  z22 := Tryz.sizeOf244
  v22 := Tryz.zeroValue244
  i22 := by kernel_rfl }
end Go.Proofs
namespace Go.Proofs.YtldoocndhfgjhaaGreat
open Go.RowKit Go.Shelf

theorem lib_Add64 (x y : Int) (hx : 0 ≤ x) (hy : 0 ≤ y) (w : World) : (callFunc 285 #[.int .u64 x, .int .u64 y, .int .u64 0]).run Tryz.prog w =
    .ok (.value (.tuple #[.int .u64 ((x + y) % 18446744073709551616), .int .u64 ((x + y) / 18446744073709551616)])) w := by
  obtain ⟨x, rfl⟩ := Int.eq_ofNat_of_zero_le hx
  obtain ⟨y, rfl⟩ := Int.eq_ofNat_of_zero_le hy
  refine (Any7.bits_Add64 Tryz.lays25 x y 0 (by omega) w).trans ?_
  congr 5 <;> omega

/-! ### The plain words -/
theorem sq_le {a b : Int} (h0 : 0 ≤ a) (h : a ≤ b) : a * a ≤ b * b := Int.mul_le_mul h h h0 (by omega)
/-! ### Squares -/
def sqs : List Int → Int
  | [] => 0
  | c :: r => c * c + sqs r
theorem sq_nonneg (x : Int) : 0 ≤ x * x := by
  rcases Int.lt_or_le x 0 with h | h
  · have := Int.mul_nonneg (show 0 ≤ -x by omega) (show 0 ≤ -x by omega)
    rwa [Int.neg_mul_neg] at this
  · exact Int.mul_nonneg h h
theorem sqs_nonneg (xs : List Int) : 0 ≤ sqs xs := by
  induction xs with
  | nil => simp [sqs]
  | cons c r ih => have := sq_nonneg c; simp only [sqs]; omega
theorem sqs_app (xs ys : List Int) : sqs (xs ++ ys) = sqs xs + sqs ys := by
  induction xs with
  | nil => simp [sqs]
  | cons c r ih => simp only [List.cons_append, sqs, ih]; omega
theorem take_one (xs : List Int) (j : Nat) (h : j < xs.length) : xs.take (j + 1) = xs.take j ++ [xs[j]?.getD 0] := by
  rw [List.take_succ_eq_append_getElem h]; simp [h]
theorem sqs_take (xs : List Int) (j : Nat) (h : j < xs.length) : sqs (xs.take (j + 1)) = sqs (xs.take j) + xs[j]?.getD 0 * xs[j]?.getD 0 ∧ sqs (xs.take (j + 1)) ≤ sqs xs := by
  constructor
  · rw [take_one xs j h, sqs_app]; simp [sqs]
  · have := sqs_app (xs.take (j + 1)) (xs.drop (j + 1))
    rw [List.take_append_drop] at this
    have := sqs_nonneg (xs.drop (j + 1))
    omega
/-- The squares together, cut. -/
def sqP (xs : List Int) : Int := min (sqs xs) 18446744073709551615
theorem sqP_bd (xs : List Int) : 0 ≤ sqP xs ∧ sqP xs ≤ 18446744073709551615 := by have := sqs_nonneg xs; unfold sqP; omega
theorem sq32 (x : Int) (h : -2147483648 ≤ x ∧ x ≤ 2147483647) : 0 ≤ x * x ∧ x * x ≤ 4611686018427387904 := by
  refine ⟨sq_nonneg x, ?_⟩
  rcases Int.lt_or_le x 0 with g | g
  · have := sq_le (show 0 ≤ -x by omega) (show -x ≤ 2147483648 by omega)
    rw [Int.neg_mul_neg] at this; omega
  · have := sq_le g (show x ≤ 2147483648 by omega); omega
end Go.Proofs.YtldoocndhfgjhaaGreat
namespace Go.Proofs.YtldoocndhfgjhaaGreat
open Go.RowKit

end Go.Proofs.YtldoocndhfgjhaaGreat
namespace Go.Proofs.YtldoocndhfgjhaaGreat
open Go.RowKit

end Go.Proofs.YtldoocndhfgjhaaGreat
namespace Go.Proofs.YtldoocndhfgjhaaGreat
open Go.RowKit

theorem sqP_is {xs : List Int} {v : Int} (h : v = sqs xs) (hv : v ≤ 18446744073709551615) : Ending.returned (.int .u64 v) = .returned (.int .u64 (sqP xs)) := by
  have : sqP xs = v := by unfold sqP; omega
  rw [this]
theorem sqP_over {xs : List Int} (h : 18446744073709551615 ≤ sqs xs) : Ending.returned (.int .u64 18446744073709551615) = .returned (.int .u64 (sqP xs)) := by
  have : sqP xs = 18446744073709551615 := by unfold sqP; omega
  rw [this]

theorem root_Squares (A : Option Addr) (n c : Nat) (xs : List Int) (w : World) (h : Row .i32 w w.heap.size A n xs) (hx : ∀ x ∈ xs, -2147483648 ≤ x ∧ x ≤ 2147483647) (hn : n ≤ 1000) :
    Calls Tryz.prog 257 #[.slice A n c] w fun e w' => e = .returned (.int .u64 (sqP xs)) ∧ w = w' := by
  have HX := hid hx
  clear hx
  go_enter Tryz.func257, Tryz.ntmps257
  go_wp2
  go_loop [3, 11] (fun s i => ∃ j : Nat, j ≤ n ∧ i = .int .i64 j ∧ s = .int .u64 (sqs (xs.take j)) ∧ sqs (xs.take j) ≤ 18446744073709551615) (fun _ i => n - (intOf i).toNat)
  case atStart => exact ⟨0, by omega, rfl, rfl, by simp [sqs]⟩
  case round =>
    obtain ⟨j, hj, rfl, rfl, hs⟩ := hrel
    have hs0 := sqs_nonneg (xs.take j)
    by_cases hlt : j < n
    · obtain ⟨ad, rfl, _, hc⟩ := h.at_ hlt
      have hjl : j < xs.length := by rw [h.1]; exact hlt
      have hx : -2147483648 ≤ xs[j]?.getD 0 ∧ xs[j]?.getD 0 ≤ 2147483647 := by
        have := HX.out xs[j] (List.getElem_mem hjl)
        simpa [hjl] using this
      have hT := sqs_take xs j hjl
      have hq := sq32 _ hx
      obtain ⟨x1, x2⟩ := hx
      obtain ⟨q1, q2⟩ := hq
      generalize xs[j]?.getD 0 = x at *
      generalize sqs (xs.take j) = s at *
      generalize hQ : x * x = q at *
      have HT := hid hT
      clear hT
      by_cases g : s + q ≤ 18446744073709551615
      · have d1 : (s + q) / 18446744073709551616 = 0 := by omega
        have d2 : (s + q) % 18446744073709551616 = s + q := by omega
        go_wp2_with (simp only [lib_Add64 _ _ hs0 q1])
        go_round
        case rel => exact ⟨j + 1, by omega, by go_num, by rw [HT.out.1], by rw [HT.out.1]; exact g⟩
        case measure => simp [intOf]; omega
      · have d1 : (s + q) / 18446744073709551616 = 1 := by omega
        have HO := hid (sqP_over (xs := xs) (by have := HT.out; omega))
        go_wp2_with (simp only [lib_Add64 _ _ hs0 q1])
        go_ret
        exact ⟨HO.out, rfl⟩
    · obtain rfl : j = n := by omega
      have et : xs.take j = xs := List.take_of_length_le (by rw [h.1]; exact Nat.le_refl _)
      rw [et] at hs hs0 ⊢
      clear et
      have HO := hid (sqP_is (xs := xs) rfl hs)
      go_wp2
      go_ret
      exact ⟨HO.out, rfl⟩

end Go.Proofs.YtldoocndhfgjhaaGreat
namespace Go.Proofs.YtldoocndhfgjhaaGreat
open Go.RowKit

theorem q_list (a b c d : Int) (w : World) :
    Calls Tryz.prog 256 #[.agg #[.int .i32 a, .int .i32 b, .int .i32 c, .int .i32 d]] w fun e w' => e = .returned (.agg #[.int .i32 a, .int .i32 b, .int .i32 c, .int .i32 d]) ∧ Below w.heap.size w w' := by
  go_enter Tryz.func256, Tryz.ntmps256
  go_wp2
  simp [bodyPost, results, Tryz.results256, go_sem]
  exact ((Below.refl _ w).alloc (Nat.le_refl _) _).alloc (by simp) _
theorem q_One (w : World) :
    Calls Tryz.prog 25 #[] w fun e w' => e = .returned (.agg #[.int .i32 1073741824, .int .i32 0, .int .i32 0, .int .i32 0]) ∧ Below w.heap.size w w' := by
  go_enter Tryz.func25, Tryz.ntmps25
  go_wp2
  simp [bodyPost, results, Tryz.results25, go_sem]
  exact (Below.refl _ w).alloc (Nat.le_refl _) _
end Go.Proofs.YtldoocndhfgjhaaGreat
namespace Go.Proofs.YtldoocndhfgjhaaGreat
open Go.RowKit

end Go.Proofs.YtldoocndhfgjhaaGreat
namespace Go.Proofs.YtldoocndhfgjhaaGreat
open Go.RowKit

end Go.Proofs.YtldoocndhfgjhaaGreat
namespace Go.Proofs.YtldoocndhfgjhaaGreat
open Go.RowKit

theorem q_Norm (a b c d : Int) (w : World) (ha : I32 a) (hb : I32 b) (hc : I32 c) (hd : I32 d) :
    Calls Tryz.prog 225 #[.agg #[.int .i32 a, .int .i32 b, .int .i32 c, .int .i32 d]] w fun e w' => e = .returned (.int .u64 (sqP [a, b, c, d])) ∧ Below w.heap.size w w' := by
  have H1 := hid fun w => q_list a b c d w
  have H2 := hid fun (f : Nat) (w : World) (g : Nat) (h : Row .i32 w w.heap.size (some ⟨g, 0, none⟩) 4 [a, b, c, d]) => root_Squares (some ⟨g, 0, none⟩) 4 f [a, b, c, d] w h (by unfold I32 at *; simp; omega) (by omega)
  clear ha hb hc hd
  generalize sqP [a, b, c, d] = n at *
  go_enter Tryz.func225, Tryz.ntmps225
  go_wp2_with fail
  refine (H1.out _).mono ?_
  rintro e w1 ⟨rfl, b1⟩
  have hbe : Below w.heap.size w w1 := ((Below.refl _ w).alloc (Nat.le_refl _) _).trans (b1.mono (by simp))
  clear b1
  go_wp2_with fail
  refine (H2.out _ _ _ (Row.blk (Blk.new _ _ _) rfl (by simp))).mono ?_
  rintro e w2 ⟨rfl, rfl⟩
  go_wp2
  go_ret
  exact ⟨rfl, hbe.alloc hbe.size _⟩
end Go.Proofs.YtldoocndhfgjhaaGreat
namespace Go.Proofs.YtldoocndhfgjhaaGreat
open Go.RowKit

end Go.Proofs.YtldoocndhfgjhaaGreat
namespace Go.Proofs.YtldoocndhfgjhaaGreat
open Go.RowKit
set_option linter.unusedVariables false
set_option linter.unusedSimpArgs false

/-! ### The plain words -/
end Go.Proofs.YtldoocndhfgjhaaGreat
namespace Go.Proofs.YtldoocndhfgjhaaGreat
open Go.RowKit
set_option linter.unusedVariables false

end Go.Proofs.YtldoocndhfgjhaaGreat
namespace Go.Proofs.YtldoocndhfgjhaaGreat
open Go.RowKit

/-! ### The norm of a product -/
end Go.Proofs.YtldoocndhfgjhaaGreat
namespace Go.Proofs.YtldoocndhfgjhaaGreat
open Go.RowKit
set_option linter.unusedVariables false

end Go.Proofs.YtldoocndhfgjhaaGreat
namespace Go.Proofs.YtldoocndhfgjhaaGreat
open Go.RowKit
set_option linter.unusedVariables false
set_option linter.unusedSimpArgs false

end Go.Proofs.YtldoocndhfgjhaaGreat
namespace Go.Proofs.YtldoocndhfgjhaaGreat
open Go.RowKit

end Go.Proofs.YtldoocndhfgjhaaGreat
namespace Go.Proofs.YtldoocndhfgjhaaGreat
open Go.RowKit
set_option linter.unusedVariables false
set_option linter.unusedSimpArgs false

def offP (n : Int) : Int := if 1152921504606846976 < n then n - 1152921504606846976 else 1152921504606846976 - n

theorem u_Off (a0 a1 a2 a3 : Int) (w : World) (ia0 : I32 a0) (ia1 : I32 a1) (ia2 : I32 a2) (ia3 : I32 a3) :
    Calls Tryz.prog 202 #[.agg #[.int .i32 a0, .int .i32 a1, .int .i32 a2, .int .i32 a3]] w fun e w' => e = .returned (.int .u64 (offP (sqP [a0, a1, a2, a3]))) ∧ Below w.heap.size w w' := by
  have H1 := hid fun w => q_Norm a0 a1 a2 a3 w ia0 ia1 ia2 ia3
  obtain ⟨n0, n1⟩ := sqP_bd [a0, a1, a2, a3]
  generalize sqP [a0, a1, a2, a3] = n at *
  clear ia0 ia1 ia2 ia3
  have HO : Hid (max n 1152921504606846976 - min n 1152921504606846976 = offP n) := hid (by unfold offP; split <;> omega)
  have hb : Below w.heap.size w (w.alloc (.cells #[.int .i32 a0, .int .i32 a1, .int .i32 a2, .int .i32 a3] 79)) := (Below.refl _ w).alloc (Nat.le_refl _) _
  go_enter Tryz.func202, Tryz.ntmps202
  go_wp2_with fail
  refine (H1.out _).mono ?_
  rintro e w1 ⟨rfl, b1⟩
  go_wp2
  go_ret
  exact ⟨by rw [← HO.out]; rfl, hb.on b1⟩

def isP (n : Int) : Bool := decide (offP n ≤ 1099511627776)
theorem u_Is (a0 a1 a2 a3 : Int) (w : World) (ia0 : I32 a0) (ia1 : I32 a1) (ia2 : I32 a2) (ia3 : I32 a3) :
    Calls Tryz.prog 170 #[.agg #[.int .i32 a0, .int .i32 a1, .int .i32 a2, .int .i32 a3]] w fun e w' => e = .returned (.bool (isP (sqP [a0, a1, a2, a3]))) ∧ Below w.heap.size w w' := by
  have H1 := hid fun w => u_Off a0 a1 a2 a3 w ia0 ia1 ia2 ia3
  have HI : Hid (isP (sqP [a0, a1, a2, a3]) = decide (offP (sqP [a0, a1, a2, a3]) ≤ 1099511627776)) := rfl
  generalize isP (sqP [a0, a1, a2, a3]) = B at *
  generalize offP (sqP [a0, a1, a2, a3]) = n at *
  clear ia0 ia1 ia2 ia3
  have hb : Below w.heap.size w (w.alloc (.cells #[.int .i32 a0, .int .i32 a1, .int .i32 a2, .int .i32 a3] 79)) := (Below.refl _ w).alloc (Nat.le_refl _) _
  go_enter Tryz.func170, Tryz.ntmps170
  go_wp2_with fail
  refine (H1.out _).mono ?_
  rintro e w1 ⟨rfl, b1⟩
  go_wp2
  go_ret
  exact ⟨by rw [HI.out]; rfl, hb.on b1⟩
end Go.Proofs.YtldoocndhfgjhaaGreat
namespace Go.Proofs.YtldoocndhfgjhaaGreat
open Go.RowKit
set_option linter.unusedVariables false
set_option linter.unusedSimpArgs false

theorem pow_bd (N : Nat) (h : N ≤ 32) : (1 : Int) ≤ 2 ^ N ∧ (2 : Int) ^ N ≤ 4294967296 := by
  have h1 : (0 : Int) < 2 ^ N := Int.pow_pos (by omega)
  have h2 : (2 : Nat) ^ N ≤ 2 ^ 32 := Nat.pow_le_pow_right (by omega) h
  have e : ((2 ^ N : Nat) : Int) = (2 : Int) ^ N := by simp
  omega

def placeB (a n : Int) : Bool := decide (1 ≤ n) && decide (n ≤ 32) && decide (0 ≤ a) && decide (a ≤ 32 - n)
theorem b_place (a n : Int) (w : World) :
    Calls Tryz.prog 226 #[.int .i64 a, .int .i64 n] w fun e w' => e = .returned (.bool (placeB a n)) ∧ w = w' := by
  have HB : Hid (placeB a n = (decide (1 ≤ n) && decide (n ≤ 32) && decide (0 ≤ a) && decide (a ≤ 32 - n))) := rfl
  by_cases g1 : 1 ≤ n
  · have d1 : decide (1 ≤ n) = true := by simpa using g1
    by_cases g2 : n ≤ 32
    · have d2 : decide (n ≤ 32) = true := by simpa using g2
      have u1 : IntKind.i64.wrap (32 - n) = 32 - n := IntWalk.i64_in _ (by omega)
      by_cases g3 : 0 ≤ a
      · have d3 : decide (0 ≤ a) = true := by simpa using g3
        go_enter Tryz.func226, Tryz.ntmps226
        go_wp2
        go_ret
        exact ⟨by rw [HB.out, d1, d2, d3]; simp, rfl⟩
      · have d3 : decide (0 ≤ a) = false := by simpa using g3
        go_enter Tryz.func226, Tryz.ntmps226
        go_wp2
        go_ret
        exact ⟨by rw [HB.out, d1, d2, d3]; simp, rfl⟩
    · have d2 : decide (n ≤ 32) = false := by simpa using g2
      go_enter Tryz.func226, Tryz.ntmps226
      go_wp2
      go_ret
      exact ⟨by rw [HB.out, d1, d2]; simp, rfl⟩
  · have d1 : decide (1 ≤ n) = false := by simpa using g1
    go_enter Tryz.func226, Tryz.ntmps226
    go_wp2
    go_ret
    exact ⟨by rw [HB.out, d1]; simp, rfl⟩

theorem b_mask (N : Nat) (w : World) (hN : N ≤ 32) :
    Calls Tryz.prog 227 #[.int .i64 N] w fun e w' => e = .returned (.int .u32 (2 ^ N - 1)) ∧ w = w' := by
  obtain ⟨p1, p2⟩ := pow_bd N hN
  have e64 : min N 64 = N := by omega
  generalize hP : (2 : Int) ^ N = P at *
  go_enter Tryz.func227, Tryz.ntmps227
  go_wp2
  go_ret
  exact ⟨rfl, rfl⟩
end Go.Proofs.YtldoocndhfgjhaaGreat
