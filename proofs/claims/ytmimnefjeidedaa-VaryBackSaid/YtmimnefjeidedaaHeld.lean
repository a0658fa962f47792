/- Regions that draw their order, walked step by step: the condition that the loads rest on may grow on the way. -/
import Derived.Test.YtmimnefjeidedaaMem
import Derived.Deep.RegionHeld3
namespace Go.Proofs.Ytmimnefjeidedaa
open Go.RowKit

theorem wpAnyH_mono {P : Program} {md : Region.Mode} {ops : Array Oper} {Q : Exit → Act → World → Prop} {S S' : World → Prop} (hSS : ∀ w, S' w → S w) :
    ∀ (fuel : Nat) (listed : Array Bool) (a : Act) (w : World), wpAnyH P md ops Q S' fuel listed a w → wpAnyH P md ops Q S fuel listed a w
  | 0, _, _, _, h => h
  | fuel + 1, _, _, _, h => ⟨h.1, fun i hi => wpOp_mono (fun a' w' h' => ⟨hSS _ h'.1, wpAnyH_mono hSS fuel _ a' w' h'.2⟩) (h.2 i hi)⟩

/-- The condition grows. -/
theorem wpAnyH_more {P : Program} {md : Region.Mode} {ops : Array Oper} {Q : Exit → Act → World → Prop} {S : World → Prop} {fuel : Nat} {listed : Array Bool} {a : Act} {w : World} (T : World → Prop) (hT : T w) (hS : S w)
    (h : (S w ∧ T w) → wpAnyH P md ops Q (fun w' => S w' ∧ T w') fuel listed a w) : wpAnyH P md ops Q S fuel listed a w :=
  wpAnyH_mono (fun _ h => h.1) fuel listed a w (h ⟨hS, hT⟩)
end Go.Proofs.Ytmimnefjeidedaa
