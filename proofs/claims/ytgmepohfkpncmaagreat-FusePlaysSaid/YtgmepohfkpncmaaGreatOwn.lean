/- A slice of integers of the call's own: its cells read and written. -/
import Derived.Test.YtgmepohfkpncmaaGreatAid
import Derived.Laws.OwnMore
namespace Go.Proofs.YtgmepohfkpncmaaGreat
open Go.RowKit
section
variable {k : IntKind} {w w' : World} {base : Nat} {e : TypeId} {g n c : Nat} {ys : List Int}
theorem Own.cell (h : Own k w base e (some ⟨g, 0, none⟩) n c ys) {j : Nat} (hj : j < n) : w.cell? ⟨g, j, none⟩ = some (.int k (ys[j]?.getD 0)) := by
  have := World.ownsRow.cellAt h j (by omega)
  rw [this]
  have hl := h.len
  simp [hl, hj]
theorem Own.free (h : Own k w base e (some ⟨g, 0, none⟩) n c ys) (j : Nat) : w.frozen? ⟨g, j, none⟩ = false := World.ownsRow.frozenAt h j
theorem Own.set_ (h : Own k w base e (some ⟨g, 0, none⟩) n c ys) (j : Nat) (v : Int) : Own k (w.setCell ⟨g, j, none⟩ (.int k v)) base e (some ⟨g, 0, none⟩) n c (ys.set j v) := by
  have := (World.ownsRow.stored h j (.int k v)).1
  unfold Own
  rw [List.map_set]
  exact this
theorem Own.ne_ {A : Option Addr} {t : TypeId} {cs : Array Value} (h : Own k w base e A n c ys) (hb : Blk w g t cs) (hne : e ≠ t) : some g ≠ (Value.slice A n c).ownBlock := by
  rcases h.2 with ⟨hv, _⟩ | ⟨g', cap, cur, hv, _, hh, _⟩
  · cases hv; intro e; cases e
  · cases hv
    intro he
    have : g = g' := by simpa [Value.ownBlock] using he
    subst this
    unfold Blk at hb
    rw [hh] at hb
    injection hb with hb
    injection hb with _ ht
    exact hne ht
theorem Own.setFar {A : Option Addr} {t : TypeId} {cs : Array Value} (h : Own k w base e A n c ys) (hb : Blk w g t cs) (hne : e ≠ t) (j : Nat) (u : Value) : Own k (w.setCell ⟨g, j, none⟩ u) base e A n c ys := by
  refine World.ownsRow.kept h (row := some g) (only_set (World.grownBy.refl w _) j u) (Or.inr (Ne.symm (h.ne_ hb hne)))
/-- A block of another type stays where an own slice was appended to. -/
theorem Own.keeps {A : Option Addr} {t : TypeId} {cs : Array Value} (h : Own k w base e A n c ys) (hb : Blk w g t cs) (o : Obj) (hg : (w.alloc o).grownBy w' (Value.slice A n c).ownBlock) (hne : e ≠ t) : Blk w' g t cs :=
  (hb.alloc o).grown hg ((h.alloc o).ne_ (hb.alloc o) hne)
end
theorem own_below_alloc {k : IntKind} {w0 w w' : World} {base : Nat} {e : TypeId} {A : Option Addr} {n c : Nat} {ys : List Int} (hb : Below base w0 w) (h : Own k w base e A n c ys) (o : Obj) (hg : (w.alloc o).grownBy w' (Value.slice A n c).ownBlock) (hbase : base ≤ w.heap.size) : Below base w0 w' :=
  own_below (hb.alloc hbase o) (h.alloc o) hg (by simp; omega)
end Go.Proofs.YtgmepohfkpncmaaGreat
