/- Chapter 39: a window: its cells, and what only reads. -/
import Derived.Test.YtbhfidneijogfaaMem
import Derived.Test.YtbhfidneijogfaaHeld
import Derived.BigQuiet
import Derived.Deep.QuietTactic
namespace Go.Proofs.Ytbhfidneijogfaa
open Go.RowKit
set_option linter.unusedVariables false
set_option linter.unusedSimpArgs false

/-- The cells of a window: whether New made it, its bytes, from where on, how many. -/
def winC (md : Bool) (bs : List Int) (p n : Int) : Array Value := (Value.bool md :: (bs.map (Value.int .u8) ++ [.int .i64 p, .int .i64 n])).toArray
def Win (w : World) (g : Nat) (md : Bool) (bs : List Int) (p n : Int) : Prop := Blk w g 41 (winC md bs p n) ∧ bs.length = 1024
section
variable {w : World} {g : Nat} {md : Bool} {bs : List Int} {p n : Int}
theorem Win.made (h : Win w g md bs p n) : w.cell? ⟨g, 0, none⟩ = some (.bool md) := (h.1.cell 0).trans (by simp [winC])
theorem Win.byte (h : Win w g md bs p n) (j : Nat) (hj : j < 1024) : w.cell? ⟨g, j + 1, none⟩ = some (.int .u8 (bs[j]?.getD 0)) := (h.1.cell (j + 1)).trans (by
  have := h.2
  simp [winC, List.getElem?_append, show j < bs.length by omega])
theorem Win.place (h : Win w g md bs p n) : w.cell? ⟨g, 1025, none⟩ = some (.int .i64 p) := (h.1.cell 1025).trans (by
  have := h.2
  simp [winC, List.getElem?_append, this])
theorem Win.count (h : Win w g md bs p n) : w.cell? ⟨g, 1026, none⟩ = some (.int .i64 n) := (h.1.cell 1026).trans (by
  have := h.2
  simp [winC, List.getElem?_append, this])
end

theorem w_there (g : Nat) (md : Bool) (bs : List Int) (p n : Int) (w : World) (h : Win w g md bs p n) :
    Calls Try.prog 54 #[.pointer (some ⟨g, 0, none⟩)] w fun e w' => e = .returned (.bool md) ∧ w = w' := by
  have c0 := h.made
  go_enter Try.func54, Try.ntmps54
  go_wp2
  go_ret
  exact ⟨rfl, rfl⟩
theorem w_there_nil (w : World) :
    Calls Try.prog 54 #[.pointer none] w fun e w' => e = .returned (.bool false) ∧ w = w' := by
  go_enter Try.func54, Try.ntmps54
  go_wp2
  go_ret
  exact ⟨rfl, rfl⟩

def cntP (md : Bool) (n : Int) : Int := if md = true then n else 0
theorem w_Len (g : Nat) (md : Bool) (bs : List Int) (p n : Int) (w : World) (h : Win w g md bs p n) :
    Calls Try.prog 19 #[.pointer (some ⟨g, 0, none⟩)] w fun e w' => e = .returned (.int .i64 (cntP md n)) ∧ w = w' := by
  have HT := hid (w_there g md bs p n w h)
  have c3 := h.count
  cases md
  · go_enter Try.func19, Try.ntmps19
    go_wp2_with fail
    refine (HT.out).mono ?_
    rintro e w' ⟨rfl, rfl⟩
    go_wp2
    go_ret
    exact ⟨rfl, rfl⟩
  · go_enter Try.func19, Try.ntmps19
    go_wp2_with fail
    refine (HT.out).mono ?_
    rintro e w' ⟨rfl, rfl⟩
    go_wp2
    go_ret
    exact ⟨rfl, rfl⟩
theorem w_Len_nil (w : World) :
    Calls Try.prog 19 #[.pointer none] w fun e w' => e = .returned (.int .i64 0) ∧ w = w' := by
  have HT := hid (w_there_nil w)
  go_enter Try.func19, Try.ntmps19
  go_wp2_with fail
  refine (HT.out).mono ?_
  rintro e w' ⟨rfl, rfl⟩
  go_wp2
  go_ret
  exact ⟨rfl, rfl⟩
def roomW (md : Bool) (n : Int) : Int := if md = true then 1024 - n else 0
theorem w_Room (g : Nat) (md : Bool) (bs : List Int) (p n : Int) (w : World) (h : Win w g md bs p n) (hn : 0 ≤ n ∧ n ≤ 1024) :
    Calls Try.prog 20 #[.pointer (some ⟨g, 0, none⟩)] w fun e w' => e = .returned (.int .i64 (roomW md n)) ∧ w = w' := by
  have HT := hid (w_there g md bs p n w h)
  have c3 := h.count
  have u1 : IntKind.i64.wrap (1024 - n) = 1024 - n := IntWalk.i64_in _ (by omega)
  cases md
  · go_enter Try.func20, Try.ntmps20
    go_wp2_with fail
    refine (HT.out).mono ?_
    rintro e w' ⟨rfl, rfl⟩
    go_wp2
    go_ret
    exact ⟨rfl, rfl⟩
  · go_enter Try.func20, Try.ntmps20
    go_wp2_with fail
    refine (HT.out).mono ?_
    rintro e w' ⟨rfl, rfl⟩
    go_wp2
    go_ret
    exact ⟨rfl, rfl⟩
theorem w_Room_nil (w : World) :
    Calls Try.prog 20 #[.pointer none] w fun e w' => e = .returned (.int .i64 0) ∧ w = w' := by
  have HT := hid (w_there_nil w)
  go_enter Try.func20, Try.ntmps20
  go_wp2_with fail
  refine (HT.out).mono ?_
  rintro e w' ⟨rfl, rfl⟩
  go_wp2
  go_ret
  exact ⟨rfl, rfl⟩
end Go.Proofs.Ytbhfidneijogfaa
