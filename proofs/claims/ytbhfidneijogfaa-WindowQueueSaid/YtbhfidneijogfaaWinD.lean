/- Chapter 39: the first one. -/
import Derived.Test.YtbhfidneijogfaaWinC
namespace Go.Proofs.Ytbhfidneijogfaa
open Go.RowKit
set_option linter.unusedVariables false
set_option linter.unusedSimpArgs false

def firstV (md : Bool) (bs : List Int) (P : Nat) (n : Int) : Int := if cntP md n = 0 then 0 else bs[P]?.getD 0
theorem w_First (g : Nat) (md : Bool) (bs : List Int) (P : Nat) (n : Int) (w : World) (h : Win w g md bs P n) (hP : P < 1024) :
    Calls Try.prog 23 #[.pointer (some ⟨g, 0, none⟩)] w fun e w' => e = .returned (.tuple #[.int .u8 (firstV md bs P n), .bool (cntP md n != 0)]) ∧ Below w.heap.size w w' := by
  have HL := hid (w_Len g md bs P n w h)
  have HF : Hid (firstV md bs P n = if cntP md n = 0 then 0 else bs[P]?.getD 0) := rfl
  generalize firstV md bs P n = V at *
  generalize cntP md n = L at *
  by_cases g0 : L = 0
  · subst g0
    have HV : Hid (V = 0) := hid (by rw [HF.out]; rfl)
    clear HF
    go_enter Try.func23, Try.ntmps23
    go_wp2_with fail
    refine (HL.out).mono ?_
    rintro e w' ⟨rfl, rfl⟩
    go_wp2
    go_ret2
    exact ⟨by rw [HV.out]; rfl, Below.refl _ w⟩
  · have HV : Hid (V = bs[P]?.getD 0) := hid (by rw [HF.out, if_neg g0])
    have d1 : (L == 0) = false := by simpa using g0
    have e1 : (L != 0) = true := by simpa using g0
    have c1 := h.place
    have c2 := h.byte P hP
    have c3 : w.cell? ⟨g, 1 + P, none⟩ = some (.int .u8 (bs[P]?.getD 0)) := by rw [Nat.add_comm]; exact c2
    have k1 : (0 : Int) ≤ (P : Int) := by omega
    have k2 : (P : Int) < 1024 := by omega
    clear HF
    generalize bs[P]?.getD 0 = x at *
    go_enter Try.func23, Try.ntmps23
    go_wp2_with fail
    refine (HL.out).mono ?_
    rintro e w' ⟨rfl, rfl⟩
    go_wp2
    go_quiet (fail)
    go_wp2
    go_ret2
    exact ⟨by rw [HV.out, e1]; rfl, (Below.refl _ w).drewN' _⟩
end Go.Proofs.Ytbhfidneijogfaa
