/- Chapter 39: a window that there is not, or that New did not make. -/
import Derived.Test.YtbhfidneijogfaaWinD
namespace Go.Proofs.Ytbhfidneijogfaa
open Go.RowKit
set_option linter.unusedVariables false
set_option linter.unusedSimpArgs false

theorem w_First_nil (w : World) :
    Calls Try.prog 23 #[.pointer none] w fun e w' => e = .returned (.tuple #[.int .u8 0, .bool false]) ∧ w = w' := by
  have HL := hid (w_Len_nil w)
  go_enter Try.func23, Try.ntmps23
  go_wp2_with fail
  refine (HL.out).mono ?_
  rintro e w' ⟨rfl, rfl⟩
  go_wp2
  go_ret2
  exact ⟨rfl, rfl⟩
theorem w_Put_none (q : Option Addr) (A : Option Addr) (m c : Nat) (w : World) (hR : Calls Try.prog 20 #[.pointer q] w fun e w' => e = .returned (.int .i64 0) ∧ w = w') :
    Calls Try.prog 18 #[.pointer q, .slice A m c] w fun e w' => e = .returned (.int .i64 0) ∧ w = w' := by
  have HR := hid hR
  clear hR
  rcases Nat.eq_zero_or_pos m with rfl | h
  · have hm : (0 : Int) ≤ 0 := by omega
    go_enter Try.func18, Try.ntmps18
    go_wp2_with fail
    refine (HR.out).mono ?_
    rintro e w' ⟨rfl, rfl⟩
    go_wp2
    go_ret
    exact ⟨rfl, rfl⟩
  · have hm : (0 : Int) < (m : Int) := by omega
    go_enter Try.func18, Try.ntmps18
    go_wp2_with fail
    refine (HR.out).mono ?_
    rintro e w' ⟨rfl, rfl⟩
    go_wp2
    go_ret
    exact ⟨rfl, rfl⟩
theorem w_Drop_none (q : Option Addr) (k : Int) (w : World) (hL : Calls Try.prog 19 #[.pointer q] w fun e w' => e = .returned (.int .i64 0) ∧ w = w') :
    Calls Try.prog 17 #[.pointer q, .int .i64 k] w fun e w' => e = .returned (.int .i64 0) ∧ w = w' := by
  have HL := hid hL
  clear hL
  rcases (show k < 0 ∨ k = 0 ∨ 0 < k by omega) with h | rfl | h
  · go_enter Try.func17, Try.ntmps17
    go_wp2_with fail
    refine (HL.out).mono ?_
    rintro e w' ⟨rfl, rfl⟩
    go_wp2
    go_ret
    exact ⟨rfl, rfl⟩
  · go_enter Try.func17, Try.ntmps17
    go_wp2_with fail
    refine (HL.out).mono ?_
    rintro e w' ⟨rfl, rfl⟩
    go_wp2
    go_ret
    exact ⟨rfl, rfl⟩
  · go_enter Try.func17, Try.ntmps17
    go_wp2_with fail
    refine (HL.out).mono ?_
    rintro e w' ⟨rfl, rfl⟩
    go_wp2
    go_ret
    exact ⟨rfl, rfl⟩
theorem w_Peek_none (q : Option Addr) (w : World) (hT : Calls Try.prog 54 #[.pointer q] w fun e w' => e = .returned (.bool false) ∧ w = w') :
    Calls Try.prog 16 #[.pointer q] w fun e w' => e = .returned (.slice none 0 0) ∧ w = w' := by
  have HT := hid hT
  clear hT
  go_enter Try.func16, Try.ntmps16
  go_wp2_with fail
  refine (HT.out).mono ?_
  rintro e w' ⟨rfl, rfl⟩
  go_wp2
  go_ret
  exact ⟨rfl, rfl⟩
end Go.Proofs.Ytbhfidneijogfaa
