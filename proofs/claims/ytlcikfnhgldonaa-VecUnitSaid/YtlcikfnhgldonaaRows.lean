/-
  No cell of these rows narrows 'for every input' (looked for: loops, veiled, ifaces, maps, wideKeys, modest, calm, conditions, laid).
  DERIVED. THE GIVEN ROWS OF THIS SEAT. 11 by the template 'for every input the law returns true; each argument reads behind the call as it read before'; 0 by the template 'total and deterministic' (their statements: YtlcikfnhgldonaaTotals.lean).
  GIVEN WITH THE SEED: the statements are not yours to turn. If you find one false, say at which input.
  Laid BY PROGRAM, IN A SANDBOX (cutbox-rows.mjs): the forced cells as the released guide's own fill.sh prints them over the translation da4f879e92ab00a8… (all of the seat's roots in one cut). By AI agents, Wed Nov 11 2026. No macro, syntax, notation, axiom, sorry.
-/
import Derived.Test.YtlcikfnhgldonaaChecked
import GoSem.Claim
import GoSem.ClaimJoined
import GoSem.ClaimMapViews
import Derived.JoinedTies
import Derived.KernelRfl
namespace Go.Proofs.Ytlcikfnhgldonaa
/- THE CELL 'sum', in the pinned program and in every row, IS THE sha256 OF THE DUMP (.gsa) THAT YtlcikfnhgldonaaProg.lean LOADS. Nothing in Lean hashes anything: it is a label: what it is worth is what the hold of that sum in a sandbox is worth. -/
noncomputable def Try.pinned : Pinned := { name := "ytlcikfnhgldonaa", sum := "da4f879e92ab00a88c37cc94acd11f92ad86b2f3b577b14792bf15aeeb3b8dc9", checked := Try.checked }
namespace Rows
def none {H : Type} : Left H := { results := [], args := [] }

/-- 'landfalllaw10.QuatTells': WHATEVER THE INPUT: true; the input reads as it did. -/
def quatTellsSpec : ChangeSpec := { name := "quatTells", fn := fun _ => fun
  | [d1, d2] => { results := [.lit (.bool true)], args := [d1, d2] }
  | _ => none }
def quatTellsRow : OpenClaim := { program := "ytlcikfnhgldonaa", sum := "da4f879e92ab00a88c37cc94acd11f92ad86b2f3b577b14792bf15aeeb3b8dc9", func := "landfall/landfalllaw10.QuatTells", spec := "quatTells", apart := false }
def QuatTellsSaid : Prop := quatTellsRow.holds Try.pinned (OpenSpec.ofChange quatTellsSpec)

/-- ITS FALSE NEIGHBOUR: 'it returns false'. Refute it at one input. -/
def quatTellsWrong : ChangeSpec := { name := "quatTells", fn := fun _ => fun
  | [d1, d2] => { results := [.lit (.bool false)], args := [d1, d2] }
  | _ => none }
def QuatTellsWrongFalsely : Prop := quatTellsRow.holds Try.pinned (OpenSpec.ofChange quatTellsWrong)

/-- 'landfalllaw10.QuatOrder': WHATEVER THE INPUT: true; the input reads as it did. -/
def quatOrderSpec : ChangeSpec := { name := "quatOrder", fn := fun _ => fun
  | [d1, d2] => { results := [.lit (.bool true)], args := [d1, d2] }
  | _ => none }
def quatOrderRow : OpenClaim := { program := "ytlcikfnhgldonaa", sum := "da4f879e92ab00a88c37cc94acd11f92ad86b2f3b577b14792bf15aeeb3b8dc9", func := "landfall/landfalllaw10.QuatOrder", spec := "quatOrder", apart := false }
def QuatOrderSaid : Prop := quatOrderRow.holds Try.pinned (OpenSpec.ofChange quatOrderSpec)

/-- ITS FALSE NEIGHBOUR: 'it returns false'. Refute it at one input. -/
def quatOrderWrong : ChangeSpec := { name := "quatOrder", fn := fun _ => fun
  | [d1, d2] => { results := [.lit (.bool false)], args := [d1, d2] }
  | _ => none }
def QuatOrderWrongFalsely : Prop := quatOrderRow.holds Try.pinned (OpenSpec.ofChange quatOrderWrong)

/-- 'landfalllaw10.QuatNorm': WHATEVER THE INPUT: true; the input reads as it did. -/
def quatNormSpec : ChangeSpec := { name := "quatNorm", fn := fun _ => fun
  | [d1, d2] => { results := [.lit (.bool true)], args := [d1, d2] }
  | _ => none }
def quatNormRow : OpenClaim := { program := "ytlcikfnhgldonaa", sum := "da4f879e92ab00a88c37cc94acd11f92ad86b2f3b577b14792bf15aeeb3b8dc9", func := "landfall/landfalllaw10.QuatNorm", spec := "quatNorm", inPlace := ["math/bits.Add64"], apart := false }
def QuatNormSaid : Prop := quatNormRow.holds Try.pinned (OpenSpec.ofChange quatNormSpec)

/-- ITS FALSE NEIGHBOUR: 'it returns false'. Refute it at one input. -/
def quatNormWrong : ChangeSpec := { name := "quatNorm", fn := fun _ => fun
  | [d1, d2] => { results := [.lit (.bool false)], args := [d1, d2] }
  | _ => none }
def QuatNormWrongFalsely : Prop := quatNormRow.holds Try.pinned (OpenSpec.ofChange quatNormWrong)

/-- 'landfalllaw10.QuatParts': WHATEVER THE INPUT: true; the input reads as it did. -/
def quatPartsSpec : ChangeSpec := { name := "quatParts", fn := fun _ => fun
  | [d] => { results := [.lit (.bool true)], args := [d] }
  | _ => none }
def quatPartsRow : OpenClaim := { program := "ytlcikfnhgldonaa", sum := "da4f879e92ab00a88c37cc94acd11f92ad86b2f3b577b14792bf15aeeb3b8dc9", func := "landfall/landfalllaw10.QuatParts", spec := "quatParts", inPlace := ["math/bits.Add64"], apart := false }
def QuatPartsSaid : Prop := quatPartsRow.holds Try.pinned (OpenSpec.ofChange quatPartsSpec)

/-- ITS FALSE NEIGHBOUR: 'it returns false'. Refute it at one input. -/
def quatPartsWrong : ChangeSpec := { name := "quatParts", fn := fun _ => fun
  | [d] => { results := [.lit (.bool false)], args := [d] }
  | _ => none }
def QuatPartsWrongFalsely : Prop := quatPartsRow.holds Try.pinned (OpenSpec.ofChange quatPartsWrong)

/-- 'landfalllaw11.UnitTells': WHATEVER THE INPUT: true; the input reads as it did. -/
def unitTellsSpec : ChangeSpec := { name := "unitTells", fn := fun _ => fun
  | [d] => { results := [.lit (.bool true)], args := [d] }
  | _ => none }
def unitTellsRow : OpenClaim := { program := "ytlcikfnhgldonaa", sum := "da4f879e92ab00a88c37cc94acd11f92ad86b2f3b577b14792bf15aeeb3b8dc9", func := "landfall/landfalllaw11.UnitTells", spec := "unitTells", inPlace := ["math/bits.Add64"], apart := false }
def UnitTellsSaid : Prop := unitTellsRow.holds Try.pinned (OpenSpec.ofChange unitTellsSpec)

/-- ITS FALSE NEIGHBOUR: 'it returns false'. Refute it at one input. -/
def unitTellsWrong : ChangeSpec := { name := "unitTells", fn := fun _ => fun
  | [d] => { results := [.lit (.bool false)], args := [d] }
  | _ => none }
def UnitTellsWrongFalsely : Prop := unitTellsRow.holds Try.pinned (OpenSpec.ofChange unitTellsWrong)

/-- 'landfalllaw11.UnitMade': WHATEVER THE INPUT: true; the input reads as it did. -/
def unitMadeSpec : ChangeSpec := { name := "unitMade", fn := fun _ => fun
  | [d] => { results := [.lit (.bool true)], args := [d] }
  | _ => none }
def unitMadeRow : OpenClaim := { program := "ytlcikfnhgldonaa", sum := "da4f879e92ab00a88c37cc94acd11f92ad86b2f3b577b14792bf15aeeb3b8dc9", func := "landfall/landfalllaw11.UnitMade", spec := "unitMade", inPlace := ["math/bits.Add64"], apart := false }
def UnitMadeSaid : Prop := unitMadeRow.holds Try.pinned (OpenSpec.ofChange unitMadeSpec)

/-- ITS FALSE NEIGHBOUR: 'it returns false'. Refute it at one input. -/
def unitMadeWrong : ChangeSpec := { name := "unitMade", fn := fun _ => fun
  | [d] => { results := [.lit (.bool false)], args := [d] }
  | _ => none }
def UnitMadeWrongFalsely : Prop := unitMadeRow.holds Try.pinned (OpenSpec.ofChange unitMadeWrong)

/-- 'landfalllaw11.UnitKept': WHATEVER THE INPUT: true; the input reads as it did. -/
def unitKeptSpec : ChangeSpec := { name := "unitKept", fn := fun _ => fun
  | [d] => { results := [.lit (.bool true)], args := [d] }
  | _ => none }
def unitKeptRow : OpenClaim := { program := "ytlcikfnhgldonaa", sum := "da4f879e92ab00a88c37cc94acd11f92ad86b2f3b577b14792bf15aeeb3b8dc9", func := "landfall/landfalllaw11.UnitKept", spec := "unitKept", inPlace := ["math/bits.Add64"], apart := false }
def UnitKeptSaid : Prop := unitKeptRow.holds Try.pinned (OpenSpec.ofChange unitKeptSpec)

/-- ITS FALSE NEIGHBOUR: 'it returns false'. Refute it at one input. -/
def unitKeptWrong : ChangeSpec := { name := "unitKept", fn := fun _ => fun
  | [d] => { results := [.lit (.bool false)], args := [d] }
  | _ => none }
def UnitKeptWrongFalsely : Prop := unitKeptRow.holds Try.pinned (OpenSpec.ofChange unitKeptWrong)

/-- 'landfalllaw09.VecUnit': WHATEVER THE INPUT: true; the input reads as it did. -/
def vecUnitSpec : ChangeSpec := { name := "vecUnit", fn := fun _ => fun
  | [d] => { results := [.lit (.bool true)], args := [d] }
  | _ => none }
def vecUnitRow : OpenClaim := { program := "ytlcikfnhgldonaa", sum := "da4f879e92ab00a88c37cc94acd11f92ad86b2f3b577b14792bf15aeeb3b8dc9", func := "landfall/landfalllaw09.VecUnit", spec := "vecUnit", inPlace := ["math/bits.Add64"], unfollowed := true, recurses := true, apart := false }
def VecUnitSaid : Prop := vecUnitRow.holds Try.pinned (OpenSpec.ofChange vecUnitSpec)

/-- ITS FALSE NEIGHBOUR: 'it returns false'. Refute it at one input. -/
def vecUnitWrong : ChangeSpec := { name := "vecUnit", fn := fun _ => fun
  | [d] => { results := [.lit (.bool false)], args := [d] }
  | _ => none }
def VecUnitWrongFalsely : Prop := vecUnitRow.holds Try.pinned (OpenSpec.ofChange vecUnitWrong)

/-- 'landfalllaw09.VecOps': WHATEVER THE INPUT: true; the input reads as it did. -/
def vecOpsSpec : ChangeSpec := { name := "vecOps", fn := fun _ => fun
  | [d1, d2, d3] => { results := [.lit (.bool true)], args := [d1, d2, d3] }
  | _ => none }
def vecOpsRow : OpenClaim := { program := "ytlcikfnhgldonaa", sum := "da4f879e92ab00a88c37cc94acd11f92ad86b2f3b577b14792bf15aeeb3b8dc9", func := "landfall/landfalllaw09.VecOps", spec := "vecOps", inPlace := ["math/bits.Add64"], unfollowed := true, recurses := true, apart := false }
def VecOpsSaid : Prop := vecOpsRow.holds Try.pinned (OpenSpec.ofChange vecOpsSpec)

/-- ITS FALSE NEIGHBOUR: 'it returns false'. Refute it at one input. -/
def vecOpsWrong : ChangeSpec := { name := "vecOps", fn := fun _ => fun
  | [d1, d2, d3] => { results := [.lit (.bool false)], args := [d1, d2, d3] }
  | _ => none }
def VecOpsWrongFalsely : Prop := vecOpsRow.holds Try.pinned (OpenSpec.ofChange vecOpsWrong)

/-- 'landfalllaw09.VecDots': WHATEVER THE INPUT: true; the input reads as it did. -/
def vecDotsSpec : ChangeSpec := { name := "vecDots", fn := fun _ => fun
  | [d1, d2] => { results := [.lit (.bool true)], args := [d1, d2] }
  | _ => none }
def vecDotsRow : OpenClaim := { program := "ytlcikfnhgldonaa", sum := "da4f879e92ab00a88c37cc94acd11f92ad86b2f3b577b14792bf15aeeb3b8dc9", func := "landfall/landfalllaw09.VecDots", spec := "vecDots", inPlace := ["math/bits.Add64"], unfollowed := true, recurses := true, apart := false }
def VecDotsSaid : Prop := vecDotsRow.holds Try.pinned (OpenSpec.ofChange vecDotsSpec)

/-- ITS FALSE NEIGHBOUR: 'it returns false'. Refute it at one input. -/
def vecDotsWrong : ChangeSpec := { name := "vecDots", fn := fun _ => fun
  | [d1, d2] => { results := [.lit (.bool false)], args := [d1, d2] }
  | _ => none }
def VecDotsWrongFalsely : Prop := vecDotsRow.holds Try.pinned (OpenSpec.ofChange vecDotsWrong)

/-- 'landfalllaw09.VecTurned': WHATEVER THE INPUT: true; the input reads as it did. -/
def vecTurnedSpec : ChangeSpec := { name := "vecTurned", fn := fun _ => fun
  | [d1, d2] => { results := [.lit (.bool true)], args := [d1, d2] }
  | _ => none }
def vecTurnedRow : OpenClaim := { program := "ytlcikfnhgldonaa", sum := "da4f879e92ab00a88c37cc94acd11f92ad86b2f3b577b14792bf15aeeb3b8dc9", func := "landfall/landfalllaw09.VecTurned", spec := "vecTurned", inPlace := ["math/bits.Add64"], unfollowed := true, recurses := true, apart := false }
def VecTurnedSaid : Prop := vecTurnedRow.holds Try.pinned (OpenSpec.ofChange vecTurnedSpec)

/-- ITS FALSE NEIGHBOUR: 'it returns false'. Refute it at one input. -/
def vecTurnedWrong : ChangeSpec := { name := "vecTurned", fn := fun _ => fun
  | [d1, d2] => { results := [.lit (.bool false)], args := [d1, d2] }
  | _ => none }
def VecTurnedWrongFalsely : Prop := vecTurnedRow.holds Try.pinned (OpenSpec.ofChange vecTurnedWrong)

/- THE SECOND FORM. 'bulk': how many values and letters a reading holds, each counted each time it is reached (what is shared counts as often as it is met; a slice's spare places count too). A statement '..UptoSaid' is the law's where the arguments, and the package variables that the reading takes, are together of bulk at most 1048576: NARROWER than '..Said'. Prove '..Said' where nothing that the law and all that it calls make is longer than what came in: it says more and counts as full. Else prove '..UptoSaid'. A law counts once. -/
mutual
def uptoBulk {H : Type} : DataW H → Nat
  | .lit (.string bytes) => bytes.length + 1
  | .lit _ => 1
  | .nil => 1
  | .ptr d => uptoBulk d + 1
  | .slice elems spare => uptoBulkAll elems + uptoBulkAll spare + 1
  | .agg parts => uptoBulkAll parts + 1
  | .iface _ d => uptoBulk d + 1
  | .map entries => uptoBulkEntries entries + 1
  | .held _ => 1
def uptoBulkAll {H : Type} : List (DataW H) → Nat
  | [] => 0
  | d :: r => uptoBulk d + uptoBulkAll r
def uptoBulkEntries {H : Type} : List (Lit × DataW H) → Nat
  | [] => 0
  | x :: r => uptoBulkEntry x + uptoBulkEntries r
def uptoBulkEntry {H : Type} : Lit × DataW H → Nat
  | (.string bytes, d) => bytes.length + uptoBulk d + 1
  | (_, d) => uptoBulk d + 1
 end
def uptoSmall : (H : Type) → List (DataW H) → Bool := fun _ ds => decide (uptoBulkAll ds ≤ 1048576)
def OpenSpec.upto (s : _root_.Go.ChangeSpec) : _root_.Go.OpenSpec := { _root_.Go.OpenSpec.ofChange s with cond := some uptoSmall }

/-- 'landfalllaw10.QuatTells', WHERE WHAT IT READS IS OF BULK AT MOST 1048576: true; the input reads as it did. -/
def quatTellsUptoRow : OpenClaim := { program := "ytlcikfnhgldonaa", sum := "da4f879e92ab00a88c37cc94acd11f92ad86b2f3b577b14792bf15aeeb3b8dc9", func := "landfall/landfalllaw10.QuatTells", spec := "quatTells", apart := false, narrowed := true }
def QuatTellsUptoSaid : Prop := quatTellsUptoRow.holds Try.pinned (OpenSpec.upto quatTellsSpec)

/-- 'landfalllaw10.QuatOrder', WHERE WHAT IT READS IS OF BULK AT MOST 1048576: true; the input reads as it did. -/
def quatOrderUptoRow : OpenClaim := { program := "ytlcikfnhgldonaa", sum := "da4f879e92ab00a88c37cc94acd11f92ad86b2f3b577b14792bf15aeeb3b8dc9", func := "landfall/landfalllaw10.QuatOrder", spec := "quatOrder", apart := false, narrowed := true }
def QuatOrderUptoSaid : Prop := quatOrderUptoRow.holds Try.pinned (OpenSpec.upto quatOrderSpec)

/-- 'landfalllaw10.QuatNorm', WHERE WHAT IT READS IS OF BULK AT MOST 1048576: true; the input reads as it did. -/
def quatNormUptoRow : OpenClaim := { program := "ytlcikfnhgldonaa", sum := "da4f879e92ab00a88c37cc94acd11f92ad86b2f3b577b14792bf15aeeb3b8dc9", func := "landfall/landfalllaw10.QuatNorm", spec := "quatNorm", inPlace := ["math/bits.Add64"], apart := false, narrowed := true }
def QuatNormUptoSaid : Prop := quatNormUptoRow.holds Try.pinned (OpenSpec.upto quatNormSpec)

/-- 'landfalllaw10.QuatParts', WHERE WHAT IT READS IS OF BULK AT MOST 1048576: true; the input reads as it did. -/
def quatPartsUptoRow : OpenClaim := { program := "ytlcikfnhgldonaa", sum := "da4f879e92ab00a88c37cc94acd11f92ad86b2f3b577b14792bf15aeeb3b8dc9", func := "landfall/landfalllaw10.QuatParts", spec := "quatParts", inPlace := ["math/bits.Add64"], apart := false, narrowed := true }
def QuatPartsUptoSaid : Prop := quatPartsUptoRow.holds Try.pinned (OpenSpec.upto quatPartsSpec)

/-- 'landfalllaw11.UnitTells', WHERE WHAT IT READS IS OF BULK AT MOST 1048576: true; the input reads as it did. -/
def unitTellsUptoRow : OpenClaim := { program := "ytlcikfnhgldonaa", sum := "da4f879e92ab00a88c37cc94acd11f92ad86b2f3b577b14792bf15aeeb3b8dc9", func := "landfall/landfalllaw11.UnitTells", spec := "unitTells", inPlace := ["math/bits.Add64"], apart := false, narrowed := true }
def UnitTellsUptoSaid : Prop := unitTellsUptoRow.holds Try.pinned (OpenSpec.upto unitTellsSpec)

/-- 'landfalllaw11.UnitMade', WHERE WHAT IT READS IS OF BULK AT MOST 1048576: true; the input reads as it did. -/
def unitMadeUptoRow : OpenClaim := { program := "ytlcikfnhgldonaa", sum := "da4f879e92ab00a88c37cc94acd11f92ad86b2f3b577b14792bf15aeeb3b8dc9", func := "landfall/landfalllaw11.UnitMade", spec := "unitMade", inPlace := ["math/bits.Add64"], apart := false, narrowed := true }
def UnitMadeUptoSaid : Prop := unitMadeUptoRow.holds Try.pinned (OpenSpec.upto unitMadeSpec)

/-- 'landfalllaw11.UnitKept', WHERE WHAT IT READS IS OF BULK AT MOST 1048576: true; the input reads as it did. -/
def unitKeptUptoRow : OpenClaim := { program := "ytlcikfnhgldonaa", sum := "da4f879e92ab00a88c37cc94acd11f92ad86b2f3b577b14792bf15aeeb3b8dc9", func := "landfall/landfalllaw11.UnitKept", spec := "unitKept", inPlace := ["math/bits.Add64"], apart := false, narrowed := true }
def UnitKeptUptoSaid : Prop := unitKeptUptoRow.holds Try.pinned (OpenSpec.upto unitKeptSpec)

/-- 'landfalllaw09.VecUnit', WHERE WHAT IT READS IS OF BULK AT MOST 1048576: true; the input reads as it did. -/
def vecUnitUptoRow : OpenClaim := { program := "ytlcikfnhgldonaa", sum := "da4f879e92ab00a88c37cc94acd11f92ad86b2f3b577b14792bf15aeeb3b8dc9", func := "landfall/landfalllaw09.VecUnit", spec := "vecUnit", inPlace := ["math/bits.Add64"], unfollowed := true, recurses := true, apart := false, narrowed := true }
def VecUnitUptoSaid : Prop := vecUnitUptoRow.holds Try.pinned (OpenSpec.upto vecUnitSpec)

/-- 'landfalllaw09.VecOps', WHERE WHAT IT READS IS OF BULK AT MOST 1048576: true; the input reads as it did. -/
def vecOpsUptoRow : OpenClaim := { program := "ytlcikfnhgldonaa", sum := "da4f879e92ab00a88c37cc94acd11f92ad86b2f3b577b14792bf15aeeb3b8dc9", func := "landfall/landfalllaw09.VecOps", spec := "vecOps", inPlace := ["math/bits.Add64"], unfollowed := true, recurses := true, apart := false, narrowed := true }
def VecOpsUptoSaid : Prop := vecOpsUptoRow.holds Try.pinned (OpenSpec.upto vecOpsSpec)

/-- 'landfalllaw09.VecDots', WHERE WHAT IT READS IS OF BULK AT MOST 1048576: true; the input reads as it did. -/
def vecDotsUptoRow : OpenClaim := { program := "ytlcikfnhgldonaa", sum := "da4f879e92ab00a88c37cc94acd11f92ad86b2f3b577b14792bf15aeeb3b8dc9", func := "landfall/landfalllaw09.VecDots", spec := "vecDots", inPlace := ["math/bits.Add64"], unfollowed := true, recurses := true, apart := false, narrowed := true }
def VecDotsUptoSaid : Prop := vecDotsUptoRow.holds Try.pinned (OpenSpec.upto vecDotsSpec)

/-- 'landfalllaw09.VecTurned', WHERE WHAT IT READS IS OF BULK AT MOST 1048576: true; the input reads as it did. -/
def vecTurnedUptoRow : OpenClaim := { program := "ytlcikfnhgldonaa", sum := "da4f879e92ab00a88c37cc94acd11f92ad86b2f3b577b14792bf15aeeb3b8dc9", func := "landfall/landfalllaw09.VecTurned", spec := "vecTurned", inPlace := ["math/bits.Add64"], unfollowed := true, recurses := true, apart := false, narrowed := true }
def VecTurnedUptoSaid : Prop := vecTurnedUptoRow.holds Try.pinned (OpenSpec.upto vecTurnedSpec)

end Rows
end Go.Proofs.Ytlcikfnhgldonaa
