/- Chapter 39: WindowNil. -/
import Derived.Test.YtbhfidneijogfaaWinL
namespace Go.Proofs.Ytbhfidneijogfaa
open Go.RowKit
set_option linter.unusedVariables false
set_option linter.unusedSimpArgs false

/-- A window that is none: there is nothing in it. -/
def Dead (w : World) (q : Option Addr) : Prop :=
  (Calls Try.prog 54 #[.pointer q] w fun e w' => e = .returned (.bool false) ∧ w = w') ∧
  (Calls Try.prog 19 #[.pointer q] w fun e w' => e = .returned (.int .i64 0) ∧ w = w') ∧
  (Calls Try.prog 20 #[.pointer q] w fun e w' => e = .returned (.int .i64 0) ∧ w = w')
theorem dead_nil (w : World) : Dead w none := ⟨w_there_nil w, w_Len_nil w, w_Room_nil w⟩
theorem dead_win (w : World) (g : Nat) (bs : List Int) (h : Win w g false bs 0 0) : Dead w (some ⟨g, 0, none⟩) :=
  ⟨w_there g false bs 0 0 w h, (w_Len g false bs 0 0 w h).mono (fun e w' h => h), (w_Room g false bs 0 0 w h (by omega)).mono (fun e w' h => h)⟩
theorem w_First_none (q : Option Addr) (w : World) (hL : Calls Try.prog 19 #[.pointer q] w fun e w' => e = .returned (.int .i64 0) ∧ w = w') :
    Calls Try.prog 23 #[.pointer q] w fun e w' => e = .returned (.tuple #[.int .u8 0, .bool false]) ∧ w = w' := by
  have HL := hid hL
  clear hL
  go_enter Try.func23, Try.ntmps23
  go_wp2_with fail
  refine (HL.out).mono ?_
  rintro e w' ⟨rfl, rfl⟩
  go_wp2
  go_ret2
  exact ⟨rfl, rfl⟩

theorem windowNil_walk (A : Option Addr) (n c : Nat) (xs : List Int) (a1 : Int) (w : World) (h : In .u8 w A n c xs) (w1 : (Lit.int .i64 a1).wf = true) :
    Calls Try.prog 5 #[.slice A n c, .int .i64 a1] w fun e w' => e = .returned (.bool true) ∧ Below w.heap.size w w' := by
  obtain ⟨hr, hm, hc, hw⟩ := h
  have HK := hid fun w => l_knows w
  clear hr hw w1
  by_cases g : 2000 < n
  · go_enter Try.func5, Try.ntmps5
    go_wp2_with fail
    refine (HK.out _).mono ?_
    rintro e w1 ⟨rfl, b1⟩
    go_wp2
    go_ret
    exact ⟨rfl, b1⟩
  · have g' : ¬ ((2000 : Int) < (n : Int)) := by omega
    go_enter Try.func5, Try.ntmps5
    go_wp2_with fail
    go_loopw [5, 6] (fun p i wr => ∃ (j : Nat) (q : Option Addr), j ≤ 2 ∧ p = .pointer q ∧ i = .int .i64 j ∧ Dead wr q ∧ Below w.heap.size w wr) (fun _ i _ => 2 - (intOf i).toNat)
    case atStart => exact ⟨0, none, by omega, rfl, rfl, dead_nil _, Below.refl _ w⟩
    case round =>
      obtain ⟨j, q, hj, rfl, rfl, hd, hb⟩ := hrel
      by_cases hlt : j < 2
      · have HF := hid (w_First_none q wr hd.2.1)
        have HP := hid (w_Put_none q A n c wr hd.2.2)
        have HD := hid (w_Drop_none q a1 wr hd.2.1)
        have HL := hid hd.2.1
        have HR := hid hd.2.2
        have HE := hid (w_Peek_none q wr hd.1)
        have ej : IntKind.i64.wrap ((j : Int) + 1) = ((j + 1 : Nat) : Int) := (IntWalk.i64_in _ (by omega)).trans (by omega)
        have mj : 2 - (j + 1) < 2 - j := by omega
        have hlt' : (j : Int) < 2 := by omega
        clear hd
        go_wp2_with fail
        refine (HF.out).mono ?_
        rintro e w' ⟨rfl, rfl⟩
        go_wp2_with fail
        refine (HP.out).mono ?_
        rintro e w' ⟨rfl, rfl⟩
        go_wp2_with fail
        refine (HD.out).mono ?_
        rintro e w' ⟨rfl, rfl⟩
        go_wp2_with fail
        refine (HL.out).mono ?_
        rintro e w' ⟨rfl, rfl⟩
        go_wp2_with fail
        refine (HR.out).mono ?_
        rintro e w' ⟨rfl, rfl⟩
        go_wp2_with fail
        refine (HE.out).mono ?_
        rintro e w' ⟨rfl, rfl⟩
        go_wp2
        rw [zero_win]
        go_roundw
        case rel => exact ⟨j + 1, _, by omega, rfl, rfl, dead_win _ _ _ ⟨Blk.new _ _ _, List.length_replicate⟩, hb.alloc hb.size _⟩
        case measure => simpa [intOf] using mj
      · have hlt' : ¬ ((j : Int) < 2) := by omega
        clear hd
        go_wp2_with fail
        refine (HK.out _).mono ?_
        rintro e w1 ⟨rfl, b1⟩
        go_wp2
        go_ret
        exact ⟨rfl, hb.trans (b1.mono hb.size)⟩
end Go.Proofs.Ytbhfidneijogfaa
