/- Slices of slices of integers: 's[k:]'. -/
import Derived.Test.YtmimnefjeidedaaAid
namespace Go.Proofs.Ytmimnefjeidedaa
open Go.RowKit

/-- Where 's[k:]' begins. -/
def cutA (A : Option Addr) (cap k : Nat) : Option Addr := if cap = k then A else A.map (·.add k)
theorem run_cut {P : Program} (t e : TypeId) (i : TypeInfo) (ht : P.underlying t = some (.slice e)) (hi : P.info? e = some i) (hs : i.size = 1) (A : Option Addr) (n cap k : Nat) (hk : k ≤ n) (w : World) :
    (Instr.slice t (.slice A n cap) (some (.int .i64 (k : Int))) none none).run P w = .ok (.slice (cutA A cap k) (n - k) (cap - k)) w := by
  have h1 : (0 : Int) ≤ (k : Int) ∧ (k : Int) ≤ (n : Int) := by omega
  simp [Instr.slice, run_underlying ht, Instr.sliceBounds, Instr.sliceBound, asIntOf, hk, sizeOf, typeInfo, hi, hs, cutA]
theorem Row.cut {k : IntKind} {w : World} {B n cap j : Nat} {A : Option Addr} {xs : List Int} (h : Row k w B A n xs) (hj : j ≤ n) (hc : n ≤ cap) : Row k w B (cutA A cap j) (n - j) (xs.drop j) := by
  refine ⟨by simp [h.1], fun e => ?_, fun ad e i hi => ?_⟩
  · unfold cutA at e
    split at e
    · have := h.2.1 e; omega
    · cases A with
      | none => have := h.2.1 rfl; omega
      | some ad => cases e
  · unfold cutA at e
    rw [if_neg (by omega)] at e
    cases A with
    | none => cases e
    | some ad' =>
      cases e
      have := h.2.2 ad' rfl (j + i) (by omega)
      rw [add_block, add_twice]
      simpa using this
end Go.Proofs.Ytmimnefjeidedaa
