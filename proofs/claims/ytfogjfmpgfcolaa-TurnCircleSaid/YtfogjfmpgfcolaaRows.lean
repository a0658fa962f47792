/-
  No cell of these rows narrows 'for every input' (looked for: loops, veiled, ifaces, maps, wideKeys, modest, calm, conditions, laid).
  DERIVED. THE GIVEN ROWS OF THIS SEAT. 10 by the template 'for every input the law returns true; each argument reads behind the call as it read before'; 0 by the template 'total and deterministic' (their statements: YtfogjfmpgfcolaaTotals.lean).
  GIVEN WITH THE SEED: the statements are not yours to turn. If you find one false, say at which input.
  Laid BY PROGRAM, IN A SANDBOX (cutbox-rows.mjs): the forced cells as the released guide's own fill.sh prints them over the translation e7082f59c9679c33… (all of the seat's roots in one cut). By AI agents, Wed Nov 11 2026. No macro, syntax, notation, axiom, sorry.
-/
import Derived.Test.YtfogjfmpgfcolaaChecked
import GoSem.Claim
import GoSem.ClaimJoined
import GoSem.ClaimMapViews
import Derived.JoinedTies
import Derived.KernelRfl
namespace Go.Proofs.Ytfogjfmpgfcolaa
/- THE CELL 'sum', in the pinned program and in every row, IS THE sha256 OF THE DUMP (.gsa) THAT YtfogjfmpgfcolaaProg.lean LOADS. Nothing in Lean hashes anything: it is a label: what it is worth is what the hold of that sum in a sandbox is worth. -/
noncomputable def Try.pinned : Pinned := { name := "ytfogjfmpgfcolaa", sum := "e7082f59c9679c33203902a8f8347afbd2127a5b6f9dede9115d9d719e7c0074", checked := Try.checked }
namespace Rows
def none {H : Type} : Left H := { results := [], args := [] }

/-- 'landfalllaw13.TurnRotates': WHATEVER THE INPUT: true; the input reads as it did. -/
def turnRotatesSpec : ChangeSpec := { name := "turnRotates", fn := fun _ => fun
  | [d1, d2] => { results := [.lit (.bool true)], args := [d1, d2] }
  | _ => none }
def turnRotatesRow : OpenClaim := { program := "ytfogjfmpgfcolaa", sum := "e7082f59c9679c33203902a8f8347afbd2127a5b6f9dede9115d9d719e7c0074", func := "landfall/landfalllaw13.TurnRotates", spec := "turnRotates", unfollowed := true, recurses := true, apart := false }
def TurnRotatesSaid : Prop := turnRotatesRow.holds Try.pinned (OpenSpec.ofChange turnRotatesSpec)

/-- ITS FALSE NEIGHBOUR: 'it returns false'. Refute it at one input. -/
def turnRotatesWrong : ChangeSpec := { name := "turnRotates", fn := fun _ => fun
  | [d1, d2] => { results := [.lit (.bool false)], args := [d1, d2] }
  | _ => none }
def TurnRotatesWrongFalsely : Prop := turnRotatesRow.holds Try.pinned (OpenSpec.ofChange turnRotatesWrong)

/-- 'landfalllaw13.TurnLength': WHATEVER THE INPUT: true; the input reads as it did. -/
def turnLengthSpec : ChangeSpec := { name := "turnLength", fn := fun _ => fun
  | [d1, d2] => { results := [.lit (.bool true)], args := [d1, d2] }
  | _ => none }
def turnLengthRow : OpenClaim := { program := "ytfogjfmpgfcolaa", sum := "e7082f59c9679c33203902a8f8347afbd2127a5b6f9dede9115d9d719e7c0074", func := "landfall/landfalllaw13.TurnLength", spec := "turnLength", unfollowed := true, recurses := true, apart := false }
def TurnLengthSaid : Prop := turnLengthRow.holds Try.pinned (OpenSpec.ofChange turnLengthSpec)

/-- ITS FALSE NEIGHBOUR: 'it returns false'. Refute it at one input. -/
def turnLengthWrong : ChangeSpec := { name := "turnLength", fn := fun _ => fun
  | [d1, d2] => { results := [.lit (.bool false)], args := [d1, d2] }
  | _ => none }
def TurnLengthWrongFalsely : Prop := turnLengthRow.holds Try.pinned (OpenSpec.ofChange turnLengthWrong)

/-- 'landfalllaw13.TurnCircle': WHATEVER THE INPUT: true; the input reads as it did. -/
def turnCircleSpec : ChangeSpec := { name := "turnCircle", fn := fun _ => fun
  | [d1, d2, d3] => { results := [.lit (.bool true)], args := [d1, d2, d3] }
  | _ => none }
def turnCircleRow : OpenClaim := { program := "ytfogjfmpgfcolaa", sum := "e7082f59c9679c33203902a8f8347afbd2127a5b6f9dede9115d9d719e7c0074", func := "landfall/landfalllaw13.TurnCircle", spec := "turnCircle", unfollowed := true, recurses := true, apart := false }
def TurnCircleSaid : Prop := turnCircleRow.holds Try.pinned (OpenSpec.ofChange turnCircleSpec)

/-- ITS FALSE NEIGHBOUR: 'it returns false'. Refute it at one input. -/
def turnCircleWrong : ChangeSpec := { name := "turnCircle", fn := fun _ => fun
  | [d1, d2, d3] => { results := [.lit (.bool false)], args := [d1, d2, d3] }
  | _ => none }
def TurnCircleWrongFalsely : Prop := turnCircleRow.holds Try.pinned (OpenSpec.ofChange turnCircleWrong)

/-- 'landfalllaw13.TurnAngles': WHATEVER THE INPUT: true; the input reads as it did. -/
def turnAnglesSpec : ChangeSpec := { name := "turnAngles", fn := fun _ => fun
  | [d1, d2, d3, d4] => { results := [.lit (.bool true)], args := [d1, d2, d3, d4] }
  | _ => none }
def turnAnglesRow : OpenClaim := { program := "ytfogjfmpgfcolaa", sum := "e7082f59c9679c33203902a8f8347afbd2127a5b6f9dede9115d9d719e7c0074", func := "landfall/landfalllaw13.TurnAngles", spec := "turnAngles", inPlace := ["math/bits.Add64"], unfollowed := true, recurses := true, apart := false }
def TurnAnglesSaid : Prop := turnAnglesRow.holds Try.pinned (OpenSpec.ofChange turnAnglesSpec)

/-- ITS FALSE NEIGHBOUR: 'it returns false'. Refute it at one input. -/
def turnAnglesWrong : ChangeSpec := { name := "turnAngles", fn := fun _ => fun
  | [d1, d2, d3, d4] => { results := [.lit (.bool false)], args := [d1, d2, d3, d4] }
  | _ => none }
def TurnAnglesWrongFalsely : Prop := turnAnglesRow.holds Try.pinned (OpenSpec.ofChange turnAnglesWrong)

/-- 'landfalllaw12.SmallPacks': WHATEVER THE INPUT: true; the input reads as it did. -/
def smallPacksSpec : ChangeSpec := { name := "smallPacks", fn := fun _ => fun
  | [d] => { results := [.lit (.bool true)], args := [d] }
  | _ => none }
def smallPacksRow : OpenClaim := { program := "ytfogjfmpgfcolaa", sum := "e7082f59c9679c33203902a8f8347afbd2127a5b6f9dede9115d9d719e7c0074", func := "landfall/landfalllaw12.SmallPacks", spec := "smallPacks", inPlace := ["math/bits.Add64"], unfollowed := true, recurses := true, apart := false }
def SmallPacksSaid : Prop := smallPacksRow.holds Try.pinned (OpenSpec.ofChange smallPacksSpec)

/-- ITS FALSE NEIGHBOUR: 'it returns false'. Refute it at one input. -/
def smallPacksWrong : ChangeSpec := { name := "smallPacks", fn := fun _ => fun
  | [d] => { results := [.lit (.bool false)], args := [d] }
  | _ => none }
def SmallPacksWrongFalsely : Prop := smallPacksRow.holds Try.pinned (OpenSpec.ofChange smallPacksWrong)

/-- 'landfalllaw12.SmallUnpacks': WHATEVER THE INPUT: true; the input reads as it did. -/
def smallUnpacksSpec : ChangeSpec := { name := "smallUnpacks", fn := fun _ => fun
  | [d] => { results := [.lit (.bool true)], args := [d] }
  | _ => none }
def smallUnpacksRow : OpenClaim := { program := "ytfogjfmpgfcolaa", sum := "e7082f59c9679c33203902a8f8347afbd2127a5b6f9dede9115d9d719e7c0074", func := "landfall/landfalllaw12.SmallUnpacks", spec := "smallUnpacks", inPlace := ["math/bits.Add64"], unfollowed := true, recurses := true, apart := false }
def SmallUnpacksSaid : Prop := smallUnpacksRow.holds Try.pinned (OpenSpec.ofChange smallUnpacksSpec)

/-- ITS FALSE NEIGHBOUR: 'it returns false'. Refute it at one input. -/
def smallUnpacksWrong : ChangeSpec := { name := "smallUnpacks", fn := fun _ => fun
  | [d] => { results := [.lit (.bool false)], args := [d] }
  | _ => none }
def SmallUnpacksWrongFalsely : Prop := smallUnpacksRow.holds Try.pinned (OpenSpec.ofChange smallUnpacksWrong)

/-- 'landfalllaw12.SmallClose': WHATEVER THE INPUT: true; the input reads as it did. -/
def smallCloseSpec : ChangeSpec := { name := "smallClose", fn := fun _ => fun
  | [d] => { results := [.lit (.bool true)], args := [d] }
  | _ => none }
def smallCloseRow : OpenClaim := { program := "ytfogjfmpgfcolaa", sum := "e7082f59c9679c33203902a8f8347afbd2127a5b6f9dede9115d9d719e7c0074", func := "landfall/landfalllaw12.SmallClose", spec := "smallClose", inPlace := ["math/bits.Add64"], unfollowed := true, recurses := true, apart := false }
def SmallCloseSaid : Prop := smallCloseRow.holds Try.pinned (OpenSpec.ofChange smallCloseSpec)

/-- ITS FALSE NEIGHBOUR: 'it returns false'. Refute it at one input. -/
def smallCloseWrong : ChangeSpec := { name := "smallClose", fn := fun _ => fun
  | [d] => { results := [.lit (.bool false)], args := [d] }
  | _ => none }
def SmallCloseWrongFalsely : Prop := smallCloseRow.holds Try.pinned (OpenSpec.ofChange smallCloseWrong)

/-- 'landfalllaw12.SmallNorm': WHATEVER THE INPUT: true; the input reads as it did. -/
def smallNormSpec : ChangeSpec := { name := "smallNorm", fn := fun _ => fun
  | [d] => { results := [.lit (.bool true)], args := [d] }
  | _ => none }
def smallNormRow : OpenClaim := { program := "ytfogjfmpgfcolaa", sum := "e7082f59c9679c33203902a8f8347afbd2127a5b6f9dede9115d9d719e7c0074", func := "landfall/landfalllaw12.SmallNorm", spec := "smallNorm", inPlace := ["math/bits.Add64"], unfollowed := true, recurses := true, apart := false }
def SmallNormSaid : Prop := smallNormRow.holds Try.pinned (OpenSpec.ofChange smallNormSpec)

/-- ITS FALSE NEIGHBOUR: 'it returns false'. Refute it at one input. -/
def smallNormWrong : ChangeSpec := { name := "smallNorm", fn := fun _ => fun
  | [d] => { results := [.lit (.bool false)], args := [d] }
  | _ => none }
def SmallNormWrongFalsely : Prop := smallNormRow.holds Try.pinned (OpenSpec.ofChange smallNormWrong)

/-- 'landfalllaw13.TurnSteps': WHATEVER THE INPUT: true; the input reads as it did. -/
def turnStepsSpec : ChangeSpec := { name := "turnSteps", fn := fun _ => fun
  | [d1, d2, d3] => { results := [.lit (.bool true)], args := [d1, d2, d3] }
  | _ => none }
def turnStepsRow : OpenClaim := { program := "ytfogjfmpgfcolaa", sum := "e7082f59c9679c33203902a8f8347afbd2127a5b6f9dede9115d9d719e7c0074", func := "landfall/landfalllaw13.TurnSteps", spec := "turnSteps", inPlace := ["math/bits.Add64"], unfollowed := true, recurses := true, apart := false }
def TurnStepsSaid : Prop := turnStepsRow.holds Try.pinned (OpenSpec.ofChange turnStepsSpec)

/-- ITS FALSE NEIGHBOUR: 'it returns false'. Refute it at one input. -/
def turnStepsWrong : ChangeSpec := { name := "turnSteps", fn := fun _ => fun
  | [d1, d2, d3] => { results := [.lit (.bool false)], args := [d1, d2, d3] }
  | _ => none }
def TurnStepsWrongFalsely : Prop := turnStepsRow.holds Try.pinned (OpenSpec.ofChange turnStepsWrong)

/-- 'landfalllaw13.TurnUnit': WHATEVER THE INPUT: true; the input reads as it did. -/
def turnUnitSpec : ChangeSpec := { name := "turnUnit", fn := fun _ => fun
  | [d1, d2, d3] => { results := [.lit (.bool true)], args := [d1, d2, d3] }
  | _ => none }
def turnUnitRow : OpenClaim := { program := "ytfogjfmpgfcolaa", sum := "e7082f59c9679c33203902a8f8347afbd2127a5b6f9dede9115d9d719e7c0074", func := "landfall/landfalllaw13.TurnUnit", spec := "turnUnit", inPlace := ["math/bits.Add64"], unfollowed := true, recurses := true, apart := false }
def TurnUnitSaid : Prop := turnUnitRow.holds Try.pinned (OpenSpec.ofChange turnUnitSpec)

/-- ITS FALSE NEIGHBOUR: 'it returns false'. Refute it at one input. -/
def turnUnitWrong : ChangeSpec := { name := "turnUnit", fn := fun _ => fun
  | [d1, d2, d3] => { results := [.lit (.bool false)], args := [d1, d2, d3] }
  | _ => none }
def TurnUnitWrongFalsely : Prop := turnUnitRow.holds Try.pinned (OpenSpec.ofChange turnUnitWrong)

/- THE SECOND FORM. 'bulk': how many values and letters a reading holds, each counted each time it is reached (what is shared counts as often as it is met; a slice's spare places count too). A statement '..UptoSaid' is the law's where the arguments, and the package variables that the reading takes, are together of bulk at most 1048576: NARROWER than '..Said'. Prove '..Said' where nothing that the law and all that it calls make is longer than what came in: it says more and counts as full. Else prove '..UptoSaid'. A law counts once. -/
mutual
def uptoBulk {H : Type} : DataW H → Nat
  | .lit (.string bytes) => bytes.length + 1
  | .lit _ => 1
  | .nil => 1
  | .ptr d => uptoBulk d + 1
  | .slice elems spare => uptoBulkAll elems + uptoBulkAll spare + 1
  | .agg parts => uptoBulkAll parts + 1
  | .iface _ d => uptoBulk d + 1
  | .map entries => uptoBulkEntries entries + 1
  | .held _ => 1
def uptoBulkAll {H : Type} : List (DataW H) → Nat
  | [] => 0
  | d :: r => uptoBulk d + uptoBulkAll r
def uptoBulkEntries {H : Type} : List (Lit × DataW H) → Nat
  | [] => 0
  | x :: r => uptoBulkEntry x + uptoBulkEntries r
def uptoBulkEntry {H : Type} : Lit × DataW H → Nat
  | (.string bytes, d) => bytes.length + uptoBulk d + 1
  | (_, d) => uptoBulk d + 1
 end
def uptoSmall : (H : Type) → List (DataW H) → Bool := fun _ ds => decide (uptoBulkAll ds ≤ 1048576)
def OpenSpec.upto (s : _root_.Go.ChangeSpec) : _root_.Go.OpenSpec := { _root_.Go.OpenSpec.ofChange s with cond := some uptoSmall }

/-- 'landfalllaw13.TurnRotates', WHERE WHAT IT READS IS OF BULK AT MOST 1048576: true; the input reads as it did. -/
def turnRotatesUptoRow : OpenClaim := { program := "ytfogjfmpgfcolaa", sum := "e7082f59c9679c33203902a8f8347afbd2127a5b6f9dede9115d9d719e7c0074", func := "landfall/landfalllaw13.TurnRotates", spec := "turnRotates", unfollowed := true, recurses := true, apart := false, narrowed := true }
def TurnRotatesUptoSaid : Prop := turnRotatesUptoRow.holds Try.pinned (OpenSpec.upto turnRotatesSpec)

/-- 'landfalllaw13.TurnLength', WHERE WHAT IT READS IS OF BULK AT MOST 1048576: true; the input reads as it did. -/
def turnLengthUptoRow : OpenClaim := { program := "ytfogjfmpgfcolaa", sum := "e7082f59c9679c33203902a8f8347afbd2127a5b6f9dede9115d9d719e7c0074", func := "landfall/landfalllaw13.TurnLength", spec := "turnLength", unfollowed := true, recurses := true, apart := false, narrowed := true }
def TurnLengthUptoSaid : Prop := turnLengthUptoRow.holds Try.pinned (OpenSpec.upto turnLengthSpec)

/-- 'landfalllaw13.TurnCircle', WHERE WHAT IT READS IS OF BULK AT MOST 1048576: true; the input reads as it did. -/
def turnCircleUptoRow : OpenClaim := { program := "ytfogjfmpgfcolaa", sum := "e7082f59c9679c33203902a8f8347afbd2127a5b6f9dede9115d9d719e7c0074", func := "landfall/landfalllaw13.TurnCircle", spec := "turnCircle", unfollowed := true, recurses := true, apart := false, narrowed := true }
def TurnCircleUptoSaid : Prop := turnCircleUptoRow.holds Try.pinned (OpenSpec.upto turnCircleSpec)

/-- 'landfalllaw13.TurnAngles', WHERE WHAT IT READS IS OF BULK AT MOST 1048576: true; the input reads as it did. -/
def turnAnglesUptoRow : OpenClaim := { program := "ytfogjfmpgfcolaa", sum := "e7082f59c9679c33203902a8f8347afbd2127a5b6f9dede9115d9d719e7c0074", func := "landfall/landfalllaw13.TurnAngles", spec := "turnAngles", inPlace := ["math/bits.Add64"], unfollowed := true, recurses := true, apart := false, narrowed := true }
def TurnAnglesUptoSaid : Prop := turnAnglesUptoRow.holds Try.pinned (OpenSpec.upto turnAnglesSpec)

/-- 'landfalllaw12.SmallPacks', WHERE WHAT IT READS IS OF BULK AT MOST 1048576: true; the input reads as it did. -/
def smallPacksUptoRow : OpenClaim := { program := "ytfogjfmpgfcolaa", sum := "e7082f59c9679c33203902a8f8347afbd2127a5b6f9dede9115d9d719e7c0074", func := "landfall/landfalllaw12.SmallPacks", spec := "smallPacks", inPlace := ["math/bits.Add64"], unfollowed := true, recurses := true, apart := false, narrowed := true }
def SmallPacksUptoSaid : Prop := smallPacksUptoRow.holds Try.pinned (OpenSpec.upto smallPacksSpec)

/-- 'landfalllaw12.SmallUnpacks', WHERE WHAT IT READS IS OF BULK AT MOST 1048576: true; the input reads as it did. -/
def smallUnpacksUptoRow : OpenClaim := { program := "ytfogjfmpgfcolaa", sum := "e7082f59c9679c33203902a8f8347afbd2127a5b6f9dede9115d9d719e7c0074", func := "landfall/landfalllaw12.SmallUnpacks", spec := "smallUnpacks", inPlace := ["math/bits.Add64"], unfollowed := true, recurses := true, apart := false, narrowed := true }
def SmallUnpacksUptoSaid : Prop := smallUnpacksUptoRow.holds Try.pinned (OpenSpec.upto smallUnpacksSpec)

/-- 'landfalllaw12.SmallClose', WHERE WHAT IT READS IS OF BULK AT MOST 1048576: true; the input reads as it did. -/
def smallCloseUptoRow : OpenClaim := { program := "ytfogjfmpgfcolaa", sum := "e7082f59c9679c33203902a8f8347afbd2127a5b6f9dede9115d9d719e7c0074", func := "landfall/landfalllaw12.SmallClose", spec := "smallClose", inPlace := ["math/bits.Add64"], unfollowed := true, recurses := true, apart := false, narrowed := true }
def SmallCloseUptoSaid : Prop := smallCloseUptoRow.holds Try.pinned (OpenSpec.upto smallCloseSpec)

/-- 'landfalllaw12.SmallNorm', WHERE WHAT IT READS IS OF BULK AT MOST 1048576: true; the input reads as it did. -/
def smallNormUptoRow : OpenClaim := { program := "ytfogjfmpgfcolaa", sum := "e7082f59c9679c33203902a8f8347afbd2127a5b6f9dede9115d9d719e7c0074", func := "landfall/landfalllaw12.SmallNorm", spec := "smallNorm", inPlace := ["math/bits.Add64"], unfollowed := true, recurses := true, apart := false, narrowed := true }
def SmallNormUptoSaid : Prop := smallNormUptoRow.holds Try.pinned (OpenSpec.upto smallNormSpec)

/-- 'landfalllaw13.TurnSteps', WHERE WHAT IT READS IS OF BULK AT MOST 1048576: true; the input reads as it did. -/
def turnStepsUptoRow : OpenClaim := { program := "ytfogjfmpgfcolaa", sum := "e7082f59c9679c33203902a8f8347afbd2127a5b6f9dede9115d9d719e7c0074", func := "landfall/landfalllaw13.TurnSteps", spec := "turnSteps", inPlace := ["math/bits.Add64"], unfollowed := true, recurses := true, apart := false, narrowed := true }
def TurnStepsUptoSaid : Prop := turnStepsUptoRow.holds Try.pinned (OpenSpec.upto turnStepsSpec)

/-- 'landfalllaw13.TurnUnit', WHERE WHAT IT READS IS OF BULK AT MOST 1048576: true; the input reads as it did. -/
def turnUnitUptoRow : OpenClaim := { program := "ytfogjfmpgfcolaa", sum := "e7082f59c9679c33203902a8f8347afbd2127a5b6f9dede9115d9d719e7c0074", func := "landfall/landfalllaw13.TurnUnit", spec := "turnUnit", inPlace := ["math/bits.Add64"], unfollowed := true, recurses := true, apart := false, narrowed := true }
def TurnUnitUptoSaid : Prop := turnUnitUptoRow.holds Try.pinned (OpenSpec.upto turnUnitSpec)

end Rows
end Go.Proofs.Ytfogjfmpgfcolaa
