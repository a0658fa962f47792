/-
  No cell of these rows narrows 'for every input' (looked for: loops, veiled, ifaces, maps, wideKeys, modest, calm, conditions, laid).
  DERIVED. THE GIVEN ROWS OF THIS SEAT. 12 by the template 'for every input the law returns true; each argument reads behind the call as it read before'; 0 by the template 'total and deterministic' (their statements: YthfcbaiminjkbaaTotals.lean).
  GIVEN WITH THE SEED: the statements are not yours to turn. If you find one false, say at which input.
  Laid BY PROGRAM, IN A SANDBOX (cutbox-rows.mjs): the forced cells as the released guide's own fill.sh prints them over the translation f8bb4f81d39ac73e… (all of the seat's roots in one cut). By AI agents, Wed Nov 11 2026. No macro, syntax, notation, axiom, sorry.
-/
import Derived.Test.YthfcbaiminjkbaaChecked
import GoSem.Claim
import GoSem.ClaimJoined
import GoSem.ClaimMapViews
import Derived.JoinedTies
import Derived.KernelRfl
namespace Go.Proofs.Ythfcbaiminjkbaa
/- THE CELL 'sum', in the pinned program and in every row, IS THE sha256 OF THE DUMP (.gsa) THAT YthfcbaiminjkbaaProg.lean LOADS. Nothing in Lean hashes anything: it is a label: what it is worth is what the hold of that sum in a sandbox is worth. -/
noncomputable def Try.pinned : Pinned := { name := "ythfcbaiminjkbaa", sum := "f8bb4f81d39ac73eabf4b3d780e972950acc0c286a0964e28101f13583bd01a1", checked := Try.checked }
namespace Rows
def none {H : Type} : Left H := { results := [], args := [] }

/-- 'landfalllaw01.FixTells': WHATEVER THE INPUT: true; the input reads as it did. -/
def fixTellsSpec : ChangeSpec := { name := "fixTells", fn := fun _ => fun
  | [d1, d2, d3] => { results := [.lit (.bool true)], args := [d1, d2, d3] }
  | _ => none }
def fixTellsRow : OpenClaim := { program := "ythfcbaiminjkbaa", sum := "f8bb4f81d39ac73eabf4b3d780e972950acc0c286a0964e28101f13583bd01a1", func := "landfall/landfalllaw01.FixTells", spec := "fixTells", apart := false }
def FixTellsSaid : Prop := fixTellsRow.holds Try.pinned (OpenSpec.ofChange fixTellsSpec)

/-- ITS FALSE NEIGHBOUR: 'it returns false'. Refute it at one input. -/
def fixTellsWrong : ChangeSpec := { name := "fixTells", fn := fun _ => fun
  | [d1, d2, d3] => { results := [.lit (.bool false)], args := [d1, d2, d3] }
  | _ => none }
def FixTellsWrongFalsely : Prop := fixTellsRow.holds Try.pinned (OpenSpec.ofChange fixTellsWrong)

/-- 'landfalllaw01.FixNear': WHATEVER THE INPUT: true; the input reads as it did. -/
def fixNearSpec : ChangeSpec := { name := "fixNear", fn := fun _ => fun
  | [d1, d2] => { results := [.lit (.bool true)], args := [d1, d2] }
  | _ => none }
def fixNearRow : OpenClaim := { program := "ythfcbaiminjkbaa", sum := "f8bb4f81d39ac73eabf4b3d780e972950acc0c286a0964e28101f13583bd01a1", func := "landfall/landfalllaw01.FixNear", spec := "fixNear", apart := false }
def FixNearSaid : Prop := fixNearRow.holds Try.pinned (OpenSpec.ofChange fixNearSpec)

/-- ITS FALSE NEIGHBOUR: 'it returns false'. Refute it at one input. -/
def fixNearWrong : ChangeSpec := { name := "fixNear", fn := fun _ => fun
  | [d1, d2] => { results := [.lit (.bool false)], args := [d1, d2] }
  | _ => none }
def FixNearWrongFalsely : Prop := fixNearRow.holds Try.pinned (OpenSpec.ofChange fixNearWrong)

/-- 'landfalllaw01.FixCut': WHATEVER THE INPUT: true; the input reads as it did. -/
def fixCutSpec : ChangeSpec := { name := "fixCut", fn := fun _ => fun
  | [d1, d2] => { results := [.lit (.bool true)], args := [d1, d2] }
  | _ => none }
def fixCutRow : OpenClaim := { program := "ythfcbaiminjkbaa", sum := "f8bb4f81d39ac73eabf4b3d780e972950acc0c286a0964e28101f13583bd01a1", func := "landfall/landfalllaw01.FixCut", spec := "fixCut", apart := false }
def FixCutSaid : Prop := fixCutRow.holds Try.pinned (OpenSpec.ofChange fixCutSpec)

/-- ITS FALSE NEIGHBOUR: 'it returns false'. Refute it at one input. -/
def fixCutWrong : ChangeSpec := { name := "fixCut", fn := fun _ => fun
  | [d1, d2] => { results := [.lit (.bool false)], args := [d1, d2] }
  | _ => none }
def FixCutWrongFalsely : Prop := fixCutRow.holds Try.pinned (OpenSpec.ofChange fixCutWrong)

/-- 'landfalllaw02.RootTells': WHATEVER THE INPUT: true; the input reads as it did. -/
def rootTellsSpec : ChangeSpec := { name := "rootTells", fn := fun _ => fun
  | [d1, d2] => { results := [.lit (.bool true)], args := [d1, d2] }
  | _ => none }
def rootTellsRow : OpenClaim := { program := "ythfcbaiminjkbaa", sum := "f8bb4f81d39ac73eabf4b3d780e972950acc0c286a0964e28101f13583bd01a1", func := "landfall/landfalllaw02.RootTells", spec := "rootTells", inPlace := ["math/bits.Add64"], apart := false }
def RootTellsSaid : Prop := rootTellsRow.holds Try.pinned (OpenSpec.ofChange rootTellsSpec)

/-- ITS FALSE NEIGHBOUR: 'it returns false'. Refute it at one input. -/
def rootTellsWrong : ChangeSpec := { name := "rootTells", fn := fun _ => fun
  | [d1, d2] => { results := [.lit (.bool false)], args := [d1, d2] }
  | _ => none }
def RootTellsWrongFalsely : Prop := rootTellsRow.holds Try.pinned (OpenSpec.ofChange rootTellsWrong)

/-- 'landfalllaw02.RootFloor': WHATEVER THE INPUT: true; the input reads as it did. -/
def rootFloorSpec : ChangeSpec := { name := "rootFloor", fn := fun _ => fun
  | [d] => { results := [.lit (.bool true)], args := [d] }
  | _ => none }
def rootFloorRow : OpenClaim := { program := "ythfcbaiminjkbaa", sum := "f8bb4f81d39ac73eabf4b3d780e972950acc0c286a0964e28101f13583bd01a1", func := "landfall/landfalllaw02.RootFloor", spec := "rootFloor", inPlace := ["math/bits.Add64"], apart := false }
def RootFloorSaid : Prop := rootFloorRow.holds Try.pinned (OpenSpec.ofChange rootFloorSpec)

/-- ITS FALSE NEIGHBOUR: 'it returns false'. Refute it at one input. -/
def rootFloorWrong : ChangeSpec := { name := "rootFloor", fn := fun _ => fun
  | [d] => { results := [.lit (.bool false)], args := [d] }
  | _ => none }
def RootFloorWrongFalsely : Prop := rootFloorRow.holds Try.pinned (OpenSpec.ofChange rootFloorWrong)

/-- 'landfalllaw02.RootNear': WHATEVER THE INPUT: true; the input reads as it did. -/
def rootNearSpec : ChangeSpec := { name := "rootNear", fn := fun _ => fun
  | [d] => { results := [.lit (.bool true)], args := [d] }
  | _ => none }
def rootNearRow : OpenClaim := { program := "ythfcbaiminjkbaa", sum := "f8bb4f81d39ac73eabf4b3d780e972950acc0c286a0964e28101f13583bd01a1", func := "landfall/landfalllaw02.RootNear", spec := "rootNear", inPlace := ["math/bits.Add64"], apart := false }
def RootNearSaid : Prop := rootNearRow.holds Try.pinned (OpenSpec.ofChange rootNearSpec)

/-- ITS FALSE NEIGHBOUR: 'it returns false'. Refute it at one input. -/
def rootNearWrong : ChangeSpec := { name := "rootNear", fn := fun _ => fun
  | [d] => { results := [.lit (.bool false)], args := [d] }
  | _ => none }
def RootNearWrongFalsely : Prop := rootNearRow.holds Try.pinned (OpenSpec.ofChange rootNearWrong)

/-- 'landfalllaw02.RootRises': WHATEVER THE INPUT: true; the input reads as it did. -/
def rootRisesSpec : ChangeSpec := { name := "rootRises", fn := fun _ => fun
  | [d1, d2, d3, d4] => { results := [.lit (.bool true)], args := [d1, d2, d3, d4] }
  | _ => none }
def rootRisesRow : OpenClaim := { program := "ythfcbaiminjkbaa", sum := "f8bb4f81d39ac73eabf4b3d780e972950acc0c286a0964e28101f13583bd01a1", func := "landfall/landfalllaw02.RootRises", spec := "rootRises", inPlace := ["math/bits.Add64"], apart := false }
def RootRisesSaid : Prop := rootRisesRow.holds Try.pinned (OpenSpec.ofChange rootRisesSpec)

/-- ITS FALSE NEIGHBOUR: 'it returns false'. Refute it at one input. -/
def rootRisesWrong : ChangeSpec := { name := "rootRises", fn := fun _ => fun
  | [d1, d2, d3, d4] => { results := [.lit (.bool false)], args := [d1, d2, d3, d4] }
  | _ => none }
def RootRisesWrongFalsely : Prop := rootRisesRow.holds Try.pinned (OpenSpec.ofChange rootRisesWrong)

/-- 'landfalllaw01.FixOps': WHATEVER THE INPUT: true; the input reads as it did. -/
def fixOpsSpec : ChangeSpec := { name := "fixOps", fn := fun _ => fun
  | [d1, d2, d3] => { results := [.lit (.bool true)], args := [d1, d2, d3] }
  | _ => none }
def fixOpsRow : OpenClaim := { program := "ythfcbaiminjkbaa", sum := "f8bb4f81d39ac73eabf4b3d780e972950acc0c286a0964e28101f13583bd01a1", func := "landfall/landfalllaw01.FixOps", spec := "fixOps", apart := false }
def FixOpsSaid : Prop := fixOpsRow.holds Try.pinned (OpenSpec.ofChange fixOpsSpec)

/-- ITS FALSE NEIGHBOUR: 'it returns false'. Refute it at one input. -/
def fixOpsWrong : ChangeSpec := { name := "fixOps", fn := fun _ => fun
  | [d1, d2, d3] => { results := [.lit (.bool false)], args := [d1, d2, d3] }
  | _ => none }
def FixOpsWrongFalsely : Prop := fixOpsRow.holds Try.pinned (OpenSpec.ofChange fixOpsWrong)

/-- 'landfalllaw10.QuatTells': WHATEVER THE INPUT: true; the input reads as it did. -/
def quatTellsSpec : ChangeSpec := { name := "quatTells", fn := fun _ => fun
  | [d1, d2] => { results := [.lit (.bool true)], args := [d1, d2] }
  | _ => none }
def quatTellsRow : OpenClaim := { program := "ythfcbaiminjkbaa", sum := "f8bb4f81d39ac73eabf4b3d780e972950acc0c286a0964e28101f13583bd01a1", func := "landfall/landfalllaw10.QuatTells", spec := "quatTells", apart := false }
def QuatTellsSaid : Prop := quatTellsRow.holds Try.pinned (OpenSpec.ofChange quatTellsSpec)

/-- ITS FALSE NEIGHBOUR: 'it returns false'. Refute it at one input. -/
def quatTellsWrong : ChangeSpec := { name := "quatTells", fn := fun _ => fun
  | [d1, d2] => { results := [.lit (.bool false)], args := [d1, d2] }
  | _ => none }
def QuatTellsWrongFalsely : Prop := quatTellsRow.holds Try.pinned (OpenSpec.ofChange quatTellsWrong)

/-- 'landfalllaw10.QuatOrder': WHATEVER THE INPUT: true; the input reads as it did. -/
def quatOrderSpec : ChangeSpec := { name := "quatOrder", fn := fun _ => fun
  | [d1, d2] => { results := [.lit (.bool true)], args := [d1, d2] }
  | _ => none }
def quatOrderRow : OpenClaim := { program := "ythfcbaiminjkbaa", sum := "f8bb4f81d39ac73eabf4b3d780e972950acc0c286a0964e28101f13583bd01a1", func := "landfall/landfalllaw10.QuatOrder", spec := "quatOrder", apart := false }
def QuatOrderSaid : Prop := quatOrderRow.holds Try.pinned (OpenSpec.ofChange quatOrderSpec)

/-- ITS FALSE NEIGHBOUR: 'it returns false'. Refute it at one input. -/
def quatOrderWrong : ChangeSpec := { name := "quatOrder", fn := fun _ => fun
  | [d1, d2] => { results := [.lit (.bool false)], args := [d1, d2] }
  | _ => none }
def QuatOrderWrongFalsely : Prop := quatOrderRow.holds Try.pinned (OpenSpec.ofChange quatOrderWrong)

/-- 'landfalllaw10.QuatNorm': WHATEVER THE INPUT: true; the input reads as it did. -/
def quatNormSpec : ChangeSpec := { name := "quatNorm", fn := fun _ => fun
  | [d1, d2] => { results := [.lit (.bool true)], args := [d1, d2] }
  | _ => none }
def quatNormRow : OpenClaim := { program := "ythfcbaiminjkbaa", sum := "f8bb4f81d39ac73eabf4b3d780e972950acc0c286a0964e28101f13583bd01a1", func := "landfall/landfalllaw10.QuatNorm", spec := "quatNorm", inPlace := ["math/bits.Add64"], apart := false }
def QuatNormSaid : Prop := quatNormRow.holds Try.pinned (OpenSpec.ofChange quatNormSpec)

/-- ITS FALSE NEIGHBOUR: 'it returns false'. Refute it at one input. -/
def quatNormWrong : ChangeSpec := { name := "quatNorm", fn := fun _ => fun
  | [d1, d2] => { results := [.lit (.bool false)], args := [d1, d2] }
  | _ => none }
def QuatNormWrongFalsely : Prop := quatNormRow.holds Try.pinned (OpenSpec.ofChange quatNormWrong)

/-- 'landfalllaw10.QuatParts': WHATEVER THE INPUT: true; the input reads as it did. -/
def quatPartsSpec : ChangeSpec := { name := "quatParts", fn := fun _ => fun
  | [d] => { results := [.lit (.bool true)], args := [d] }
  | _ => none }
def quatPartsRow : OpenClaim := { program := "ythfcbaiminjkbaa", sum := "f8bb4f81d39ac73eabf4b3d780e972950acc0c286a0964e28101f13583bd01a1", func := "landfall/landfalllaw10.QuatParts", spec := "quatParts", inPlace := ["math/bits.Add64"], apart := false }
def QuatPartsSaid : Prop := quatPartsRow.holds Try.pinned (OpenSpec.ofChange quatPartsSpec)

/-- ITS FALSE NEIGHBOUR: 'it returns false'. Refute it at one input. -/
def quatPartsWrong : ChangeSpec := { name := "quatParts", fn := fun _ => fun
  | [d] => { results := [.lit (.bool false)], args := [d] }
  | _ => none }
def QuatPartsWrongFalsely : Prop := quatPartsRow.holds Try.pinned (OpenSpec.ofChange quatPartsWrong)

/- THE SECOND FORM. 'bulk': how many values and letters a reading holds, each counted each time it is reached (what is shared counts as often as it is met; a slice's spare places count too). A statement '..UptoSaid' is the law's where the arguments, and the package variables that the reading takes, are together of bulk at most 1048576: NARROWER than '..Said'. Prove '..Said' where nothing that the law and all that it calls make is longer than what came in: it says more and counts as full. Else prove '..UptoSaid'. A law counts once. -/
mutual
def uptoBulk {H : Type} : DataW H → Nat
  | .lit (.string bytes) => bytes.length + 1
  | .lit _ => 1
  | .nil => 1
  | .ptr d => uptoBulk d + 1
  | .slice elems spare => uptoBulkAll elems + uptoBulkAll spare + 1
  | .agg parts => uptoBulkAll parts + 1
  | .iface _ d => uptoBulk d + 1
  | .map entries => uptoBulkEntries entries + 1
  | .held _ => 1
def uptoBulkAll {H : Type} : List (DataW H) → Nat
  | [] => 0
  | d :: r => uptoBulk d + uptoBulkAll r
def uptoBulkEntries {H : Type} : List (Lit × DataW H) → Nat
  | [] => 0
  | x :: r => uptoBulkEntry x + uptoBulkEntries r
def uptoBulkEntry {H : Type} : Lit × DataW H → Nat
  | (.string bytes, d) => bytes.length + uptoBulk d + 1
  | (_, d) => uptoBulk d + 1
 end
def uptoSmall : (H : Type) → List (DataW H) → Bool := fun _ ds => decide (uptoBulkAll ds ≤ 1048576)
def OpenSpec.upto (s : _root_.Go.ChangeSpec) : _root_.Go.OpenSpec := { _root_.Go.OpenSpec.ofChange s with cond := some uptoSmall }

/-- 'landfalllaw01.FixTells', WHERE WHAT IT READS IS OF BULK AT MOST 1048576: true; the input reads as it did. -/
def fixTellsUptoRow : OpenClaim := { program := "ythfcbaiminjkbaa", sum := "f8bb4f81d39ac73eabf4b3d780e972950acc0c286a0964e28101f13583bd01a1", func := "landfall/landfalllaw01.FixTells", spec := "fixTells", apart := false, narrowed := true }
def FixTellsUptoSaid : Prop := fixTellsUptoRow.holds Try.pinned (OpenSpec.upto fixTellsSpec)

/-- 'landfalllaw01.FixNear', WHERE WHAT IT READS IS OF BULK AT MOST 1048576: true; the input reads as it did. -/
def fixNearUptoRow : OpenClaim := { program := "ythfcbaiminjkbaa", sum := "f8bb4f81d39ac73eabf4b3d780e972950acc0c286a0964e28101f13583bd01a1", func := "landfall/landfalllaw01.FixNear", spec := "fixNear", apart := false, narrowed := true }
def FixNearUptoSaid : Prop := fixNearUptoRow.holds Try.pinned (OpenSpec.upto fixNearSpec)

/-- 'landfalllaw01.FixCut', WHERE WHAT IT READS IS OF BULK AT MOST 1048576: true; the input reads as it did. -/
def fixCutUptoRow : OpenClaim := { program := "ythfcbaiminjkbaa", sum := "f8bb4f81d39ac73eabf4b3d780e972950acc0c286a0964e28101f13583bd01a1", func := "landfall/landfalllaw01.FixCut", spec := "fixCut", apart := false, narrowed := true }
def FixCutUptoSaid : Prop := fixCutUptoRow.holds Try.pinned (OpenSpec.upto fixCutSpec)

/-- 'landfalllaw02.RootTells', WHERE WHAT IT READS IS OF BULK AT MOST 1048576: true; the input reads as it did. -/
def rootTellsUptoRow : OpenClaim := { program := "ythfcbaiminjkbaa", sum := "f8bb4f81d39ac73eabf4b3d780e972950acc0c286a0964e28101f13583bd01a1", func := "landfall/landfalllaw02.RootTells", spec := "rootTells", inPlace := ["math/bits.Add64"], apart := false, narrowed := true }
def RootTellsUptoSaid : Prop := rootTellsUptoRow.holds Try.pinned (OpenSpec.upto rootTellsSpec)

/-- 'landfalllaw02.RootFloor', WHERE WHAT IT READS IS OF BULK AT MOST 1048576: true; the input reads as it did. -/
def rootFloorUptoRow : OpenClaim := { program := "ythfcbaiminjkbaa", sum := "f8bb4f81d39ac73eabf4b3d780e972950acc0c286a0964e28101f13583bd01a1", func := "landfall/landfalllaw02.RootFloor", spec := "rootFloor", inPlace := ["math/bits.Add64"], apart := false, narrowed := true }
def RootFloorUptoSaid : Prop := rootFloorUptoRow.holds Try.pinned (OpenSpec.upto rootFloorSpec)

/-- 'landfalllaw02.RootNear', WHERE WHAT IT READS IS OF BULK AT MOST 1048576: true; the input reads as it did. -/
def rootNearUptoRow : OpenClaim := { program := "ythfcbaiminjkbaa", sum := "f8bb4f81d39ac73eabf4b3d780e972950acc0c286a0964e28101f13583bd01a1", func := "landfall/landfalllaw02.RootNear", spec := "rootNear", inPlace := ["math/bits.Add64"], apart := false, narrowed := true }
def RootNearUptoSaid : Prop := rootNearUptoRow.holds Try.pinned (OpenSpec.upto rootNearSpec)

/-- 'landfalllaw02.RootRises', WHERE WHAT IT READS IS OF BULK AT MOST 1048576: true; the input reads as it did. -/
def rootRisesUptoRow : OpenClaim := { program := "ythfcbaiminjkbaa", sum := "f8bb4f81d39ac73eabf4b3d780e972950acc0c286a0964e28101f13583bd01a1", func := "landfall/landfalllaw02.RootRises", spec := "rootRises", inPlace := ["math/bits.Add64"], apart := false, narrowed := true }
def RootRisesUptoSaid : Prop := rootRisesUptoRow.holds Try.pinned (OpenSpec.upto rootRisesSpec)

/-- 'landfalllaw01.FixOps', WHERE WHAT IT READS IS OF BULK AT MOST 1048576: true; the input reads as it did. -/
def fixOpsUptoRow : OpenClaim := { program := "ythfcbaiminjkbaa", sum := "f8bb4f81d39ac73eabf4b3d780e972950acc0c286a0964e28101f13583bd01a1", func := "landfall/landfalllaw01.FixOps", spec := "fixOps", apart := false, narrowed := true }
def FixOpsUptoSaid : Prop := fixOpsUptoRow.holds Try.pinned (OpenSpec.upto fixOpsSpec)

/-- 'landfalllaw10.QuatTells', WHERE WHAT IT READS IS OF BULK AT MOST 1048576: true; the input reads as it did. -/
def quatTellsUptoRow : OpenClaim := { program := "ythfcbaiminjkbaa", sum := "f8bb4f81d39ac73eabf4b3d780e972950acc0c286a0964e28101f13583bd01a1", func := "landfall/landfalllaw10.QuatTells", spec := "quatTells", apart := false, narrowed := true }
def QuatTellsUptoSaid : Prop := quatTellsUptoRow.holds Try.pinned (OpenSpec.upto quatTellsSpec)

/-- 'landfalllaw10.QuatOrder', WHERE WHAT IT READS IS OF BULK AT MOST 1048576: true; the input reads as it did. -/
def quatOrderUptoRow : OpenClaim := { program := "ythfcbaiminjkbaa", sum := "f8bb4f81d39ac73eabf4b3d780e972950acc0c286a0964e28101f13583bd01a1", func := "landfall/landfalllaw10.QuatOrder", spec := "quatOrder", apart := false, narrowed := true }
def QuatOrderUptoSaid : Prop := quatOrderUptoRow.holds Try.pinned (OpenSpec.upto quatOrderSpec)

/-- 'landfalllaw10.QuatNorm', WHERE WHAT IT READS IS OF BULK AT MOST 1048576: true; the input reads as it did. -/
def quatNormUptoRow : OpenClaim := { program := "ythfcbaiminjkbaa", sum := "f8bb4f81d39ac73eabf4b3d780e972950acc0c286a0964e28101f13583bd01a1", func := "landfall/landfalllaw10.QuatNorm", spec := "quatNorm", inPlace := ["math/bits.Add64"], apart := false, narrowed := true }
def QuatNormUptoSaid : Prop := quatNormUptoRow.holds Try.pinned (OpenSpec.upto quatNormSpec)

/-- 'landfalllaw10.QuatParts', WHERE WHAT IT READS IS OF BULK AT MOST 1048576: true; the input reads as it did. -/
def quatPartsUptoRow : OpenClaim := { program := "ythfcbaiminjkbaa", sum := "f8bb4f81d39ac73eabf4b3d780e972950acc0c286a0964e28101f13583bd01a1", func := "landfall/landfalllaw10.QuatParts", spec := "quatParts", inPlace := ["math/bits.Add64"], apart := false, narrowed := true }
def QuatPartsUptoSaid : Prop := quatPartsUptoRow.holds Try.pinned (OpenSpec.upto quatPartsSpec)

end Rows
end Go.Proofs.Ythfcbaiminjkbaa
