/- Chapter 11: how far a quaternion is from one, and whether it is near enough. -/
import Derived.Test.YtgmepohfkpncmaaUnitC
import Derived.Test.YtgmepohfkpncmaaQuatH
namespace Go.Proofs.Ytgmepohfkpncmaa
open Go.RowKit
set_option linter.unusedVariables false
set_option linter.unusedSimpArgs false

def offP (n : Int) : Int := if 1152921504606846976 < n then n - 1152921504606846976 else 1152921504606846976 - n

theorem u_Off (a0 a1 a2 a3 : Int) (w : World) (ia0 : I32 a0) (ia1 : I32 a1) (ia2 : I32 a2) (ia3 : I32 a3) :
    Calls Try.prog 52 #[.agg #[.int .i32 a0, .int .i32 a1, .int .i32 a2, .int .i32 a3]] w fun e w' => e = .returned (.int .u64 (offP (sqP [a0, a1, a2, a3]))) ∧ Below w.heap.size w w' := by
  have H1 := hid fun w => q_Norm a0 a1 a2 a3 w ia0 ia1 ia2 ia3
  obtain ⟨n0, n1⟩ := sqP_bd [a0, a1, a2, a3]
  generalize sqP [a0, a1, a2, a3] = n at *
  clear ia0 ia1 ia2 ia3
  have HO : Hid (max n 1152921504606846976 - min n 1152921504606846976 = offP n) := hid (by unfold offP; split <;> omega)
  have hb : Below w.heap.size w (w.alloc (.cells #[.int .i32 a0, .int .i32 a1, .int .i32 a2, .int .i32 a3] 23)) := (Below.refl _ w).alloc (Nat.le_refl _) _
  go_enter Try.func52, Try.ntmps52
  go_wp2_with fail
  refine (H1.out _).mono ?_
  rintro e w1 ⟨rfl, b1⟩
  go_wp2
  go_ret
  exact ⟨by rw [← HO.out]; rfl, hb.on b1⟩

theorem r11_Off (a0 a1 a2 a3 : Int) (w : World) (ia0 : I32 a0) (ia1 : I32 a1) (ia2 : I32 a2) (ia3 : I32 a3) :
    Calls Try.prog 8 #[.agg #[.int .i32 a0, .int .i32 a1, .int .i32 a2, .int .i32 a3]] w fun e w' => e = .returned (.int .u64 (offP (sqP [a0, a1, a2, a3]))) ∧ Below w.heap.size w w' := by
  have H1 := hid fun w => r10_Norm a0 a1 a2 a3 w ia0 ia1 ia2 ia3
  obtain ⟨n0, n1⟩ := sqP_bd [a0, a1, a2, a3]
  generalize sqP [a0, a1, a2, a3] = n at *
  clear ia0 ia1 ia2 ia3
  have hb : Below w.heap.size w (w.alloc (.cells #[.int .i32 a0, .int .i32 a1, .int .i32 a2, .int .i32 a3] 23)) := (Below.refl _ w).alloc (Nat.le_refl _) _
  by_cases g : 1152921504606846976 < n
  · have HO : Hid (offP n = n - 1152921504606846976) := hid (by unfold offP; rw [if_pos g])
    have u1 : IntKind.u64.wrap (n - 1152921504606846976) = n - 1152921504606846976 := IntWalk.u64_in _ (by omega)
    go_enter Try.func8, Try.ntmps8
    go_wp2_with fail
    refine (H1.out _).mono ?_
    rintro e w1 ⟨rfl, b1⟩
    go_wp2
    go_ret
    exact ⟨by rw [HO.out]; rfl, hb.on b1⟩
  · have HO : Hid (offP n = 1152921504606846976 - n) := hid (by unfold offP; rw [if_neg g])
    have u1 : IntKind.u64.wrap (1152921504606846976 - n) = 1152921504606846976 - n := IntWalk.u64_in _ (by omega)
    go_enter Try.func8, Try.ntmps8
    go_wp2_with fail
    refine (H1.out _).mono ?_
    rintro e w1 ⟨rfl, b1⟩
    go_wp2
    go_ret
    exact ⟨by rw [HO.out]; rfl, hb.on b1⟩

def isP (n : Int) : Bool := decide (offP n ≤ 1099511627776)
theorem u_Is (a0 a1 a2 a3 : Int) (w : World) (ia0 : I32 a0) (ia1 : I32 a1) (ia2 : I32 a2) (ia3 : I32 a3) :
    Calls Try.prog 29 #[.agg #[.int .i32 a0, .int .i32 a1, .int .i32 a2, .int .i32 a3]] w fun e w' => e = .returned (.bool (isP (sqP [a0, a1, a2, a3]))) ∧ Below w.heap.size w w' := by
  have H1 := hid fun w => u_Off a0 a1 a2 a3 w ia0 ia1 ia2 ia3
  have HI : Hid (isP (sqP [a0, a1, a2, a3]) = decide (offP (sqP [a0, a1, a2, a3]) ≤ 1099511627776)) := rfl
  generalize isP (sqP [a0, a1, a2, a3]) = B at *
  generalize offP (sqP [a0, a1, a2, a3]) = n at *
  clear ia0 ia1 ia2 ia3
  have hb : Below w.heap.size w (w.alloc (.cells #[.int .i32 a0, .int .i32 a1, .int .i32 a2, .int .i32 a3] 23)) := (Below.refl _ w).alloc (Nat.le_refl _) _
  go_enter Try.func29, Try.ntmps29
  go_wp2_with fail
  refine (H1.out _).mono ?_
  rintro e w1 ⟨rfl, b1⟩
  go_wp2
  go_ret
  exact ⟨by rw [HI.out]; rfl, hb.on b1⟩
/-- Is a part at least 2^30 from 0? -/
def farB (x : Int) : Bool := decide (1073741824 ≤ x) || decide (x ≤ -1073741824)
end Go.Proofs.Ytgmepohfkpncmaa
