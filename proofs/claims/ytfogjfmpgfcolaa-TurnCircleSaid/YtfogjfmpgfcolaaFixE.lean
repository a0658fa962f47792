/- Chapter 01: the reference's sums; what must come. -/
import Derived.Test.YtfogjfmpgfcolaaFixD
namespace Go.Proofs.Ytfogjfmpgfcolaa
open Go.RowKit

theorem _root_.Go.RowKit.Below.on {w w1 w2 : World} (a : Below w.heap.size w w1) (b : Below w1.heap.size w1 w2) : Below w.heap.size w w2 := a.trans (b.mono a.size)

/-- A number, cut, and whether it was; the world stays. -/
def CutsR (w : World) (v : Int) (e : Ending) (w' : World) : Prop := e = .returned (.tuple #[.int .i32 (clampP v), .bool (clampP v != v)]) ∧ w = w'

def DivsR (w : World) (a b f : Int) (e : Ending) (w' : World) : Prop := e = .returned (.tuple #[.int .i32 (divV a b f), .bool (divC a b f)]) ∧ w = w'
theorem divsR_zero {w : World} {a b f v : Int} (hb : b = 0) (hv : v = if 0 < a then 2147483647 else if a < 0 then -2147483648 else 0) : DivsR w a b f (.returned (.tuple #[.int .i32 v, .bool true])) w := by
  subst hv
  unfold DivsR divV divC
  rw [if_pos hb, if_pos hb]
  exact ⟨rfl, rfl⟩
theorem divsR_over {w : World} {a b f V : Int} (hb : b ≠ 0) (hV : V = overP (a * 2 ^ fracP f 30) b) : DivsR w a b f (.returned (.tuple #[.int .i32 (clampP V), .bool (clampP V != V)])) w := by
  subst hV
  unfold DivsR divV divC
  rw [if_neg hb, if_neg hb]
  exact ⟨rfl, rfl⟩
end Go.Proofs.Ytfogjfmpgfcolaa
