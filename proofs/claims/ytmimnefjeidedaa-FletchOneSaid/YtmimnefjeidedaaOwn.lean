/- A slice of integers of the call's own: its cells read and written. -/
import Derived.Test.YtmimnefjeidedaaAid
import Derived.Laws.OwnMore
namespace Go.Proofs.Ytmimnefjeidedaa
open Go.RowKit
section
variable {k : IntKind} {w w' : World} {base : Nat} {e : TypeId} {g n c : Nat} {ys : List Int}
theorem Own.pos {A : Option Addr} (h : Own k w base e A n c ys) (hn : 0 < n) : ∃ g, A = some ⟨g, 0, none⟩ ∧ base ≤ g ∧ g < w.heap.size := by
  rcases h.form with ⟨_, h0, _⟩ | ⟨g, h1, h2, h3, _⟩
  · omega
  · exact ⟨g, h1, h2, h3⟩
theorem Own.cell (h : Own k w base e (some ⟨g, 0, none⟩) n c ys) {j : Nat} (hj : j < n) : w.cell? ⟨g, j, none⟩ = some (.int k (ys[j]?.getD 0)) := by
  have := World.ownsRow.cellAt h j (by omega)
  rw [this]
  have hl := h.len
  simp [hl, hj]
theorem Own.free (h : Own k w base e (some ⟨g, 0, none⟩) n c ys) (j : Nat) : w.frozen? ⟨g, j, none⟩ = false := World.ownsRow.frozenAt h j
theorem Own.set_ (h : Own k w base e (some ⟨g, 0, none⟩) n c ys) (j : Nat) (v : Int) : Own k (w.setCell ⟨g, j, none⟩ (.int k v)) base e (some ⟨g, 0, none⟩) n c (ys.set j v) := by
  have := (World.ownsRow.stored h j (.int k v)).1
  unfold Own
  rw [List.map_set]
  exact this
end
end Go.Proofs.Ytmimnefjeidedaa
