/- Chapter 13: the closures of Rotate. -/
import Derived.Test.YtgmepohfkpncmaaTurnB
namespace Go.Proofs.Ytgmepohfkpncmaa
open Go.RowKit
set_option linter.unusedVariables false
set_option linter.unusedSimpArgs false

theorem ac_bd (a b c d : Int) (ha : I32 a) (hb : I32 b) (hc : I32 c) (hd : I32 d) : -8589934594 ≤ acP a b c d ∧ acP a b c d ≤ 8589934594 := by
  have h1 := tm_bd a d ha hd
  have h2 := tm_bd b c hb hc
  unfold acP
  omega

end Go.Proofs.Ytgmepohfkpncmaa
namespace Go.Proofs.Ytgmepohfkpncmaa
open Go.RowKit
set_option linter.unusedVariables false
set_option linter.unusedSimpArgs false

/-- Twice what is across the quaternion's axis and the vector, cut; and the vector that was turned, before it is cut. -/
def rtT0 (u0 u1 u2 v0 v1 v2 : Int) : Int := 2 * acP u1 u2 v1 v2
def rtT1 (u0 u1 u2 v0 v1 v2 : Int) : Int := 2 * acP u2 u0 v2 v0
def rtT2 (u0 u1 u2 v0 v1 v2 : Int) : Int := 2 * acP u0 u1 v0 v1
def rtR0 (q0 u0 u1 u2 v0 v1 v2 t0 t1 t2 : Int) : Int := v0 + tmP q0 t0 + acP u1 u2 t1 t2
def rtR1 (q0 u0 u1 u2 v0 v1 v2 t0 t1 t2 : Int) : Int := v1 + tmP q0 t1 + acP u2 u0 t2 t0
def rtR2 (q0 u0 u1 u2 v0 v1 v2 t0 t1 t2 : Int) : Int := v2 + tmP q0 t2 + acP u0 u1 t0 t1
def Rots (q0 u0 u1 u2 v0 v1 v2 : Int) (w : World) (e : Ending) (w' : World) : Prop :=
  e = .returned (.tuple #[.agg #[.int .i32 (clampP (rtR0 q0 u0 u1 u2 v0 v1 v2 (clampP (rtT0 u0 u1 u2 v0 v1 v2)) (clampP (rtT1 u0 u1 u2 v0 v1 v2)) (clampP (rtT2 u0 u1 u2 v0 v1 v2)))), .int .i32 (clampP (rtR1 q0 u0 u1 u2 v0 v1 v2 (clampP (rtT0 u0 u1 u2 v0 v1 v2)) (clampP (rtT1 u0 u1 u2 v0 v1 v2)) (clampP (rtT2 u0 u1 u2 v0 v1 v2)))), .int .i32 (clampP (rtR2 q0 u0 u1 u2 v0 v1 v2 (clampP (rtT0 u0 u1 u2 v0 v1 v2)) (clampP (rtT1 u0 u1 u2 v0 v1 v2)) (clampP (rtT2 u0 u1 u2 v0 v1 v2))))], .int .i64 (cutC (rtT0 u0 u1 u2 v0 v1 v2) + cutC (rtT1 u0 u1 u2 v0 v1 v2) + cutC (rtT2 u0 u1 u2 v0 v1 v2) + (cutC (rtR0 q0 u0 u1 u2 v0 v1 v2 (clampP (rtT0 u0 u1 u2 v0 v1 v2)) (clampP (rtT1 u0 u1 u2 v0 v1 v2)) (clampP (rtT2 u0 u1 u2 v0 v1 v2))) + cutC (rtR1 q0 u0 u1 u2 v0 v1 v2 (clampP (rtT0 u0 u1 u2 v0 v1 v2)) (clampP (rtT1 u0 u1 u2 v0 v1 v2)) (clampP (rtT2 u0 u1 u2 v0 v1 v2))) + cutC (rtR2 q0 u0 u1 u2 v0 v1 v2 (clampP (rtT0 u0 u1 u2 v0 v1 v2)) (clampP (rtT1 u0 u1 u2 v0 v1 v2)) (clampP (rtT2 u0 u1 u2 v0 v1 v2)))))]) ∧ Below w.heap.size w w'
end Go.Proofs.Ytgmepohfkpncmaa
