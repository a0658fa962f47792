/-
  No cell of these rows narrows 'for every input' (looked for: loops, veiled, ifaces, maps, wideKeys, modest, calm, conditions, laid).
  DERIVED. THE GIVEN ROWS OF THIS SEAT. 12 by the template 'for every input the law returns true; each argument reads behind the call as it read before'; 0 by the template 'total and deterministic' (their statements: YtmimnefjeidedaaTotals.lean).
  GIVEN WITH THE SEED: the statements are not yours to turn. If you find one false, say at which input.
  Laid BY PROGRAM, IN A SANDBOX (cutbox-rows.mjs): the forced cells as the released guide's own fill.sh prints them over the translation 3899ce2dcdb8fb2e… (all of the seat's roots in one cut). By AI agents, Wed Nov 11 2026. No macro, syntax, notation, axiom, sorry.
-/
import Derived.Test.YtmimnefjeidedaaChecked
import GoSem.Claim
import GoSem.ClaimJoined
import GoSem.ClaimMapViews
import Derived.JoinedTies
import Derived.KernelRfl
namespace Go.Proofs.Ytmimnefjeidedaa
/- THE CELL 'sum', in the pinned program and in every row, IS THE sha256 OF THE DUMP (.gsa) THAT YtmimnefjeidedaaProg.lean LOADS. Nothing in Lean hashes anything: it is a label: what it is worth is what the hold of that sum in a sandbox is worth. -/
noncomputable def Try.pinned : Pinned := { name := "ytmimnefjeidedaa", sum := "3899ce2dcdb8fb2ef8ab5913523617c818a5bbe29eaa3bd7c9593b35d3645ba7", checked := Try.checked }
namespace Rows
def none {H : Type} : Left H := { results := [], args := [] }

/-- 'landfalllaw06.FletchSums': WHATEVER THE INPUT: true; the input reads as it did. -/
def fletchSumsSpec : ChangeSpec := { name := "fletchSums", fn := fun _ => fun
  | [d1, d2] => { results := [.lit (.bool true)], args := [d1, d2] }
  | _ => none }
def fletchSumsRow : OpenClaim := { program := "ytmimnefjeidedaa", sum := "3899ce2dcdb8fb2ef8ab5913523617c818a5bbe29eaa3bd7c9593b35d3645ba7", func := "landfall/landfalllaw06.FletchSums", spec := "fletchSums", apart := false }
def FletchSumsSaid : Prop := fletchSumsRow.holds Try.pinned (OpenSpec.ofChange fletchSumsSpec)

/-- ITS FALSE NEIGHBOUR: 'it returns false'. Refute it at one input. -/
def fletchSumsWrong : ChangeSpec := { name := "fletchSums", fn := fun _ => fun
  | [d1, d2] => { results := [.lit (.bool false)], args := [d1, d2] }
  | _ => none }
def FletchSumsWrongFalsely : Prop := fletchSumsRow.holds Try.pinned (OpenSpec.ofChange fletchSumsWrong)

/-- 'landfalllaw03.VaryPuts': WHATEVER THE INPUT: true; the input reads as it did. -/
def varyPutsSpec : ChangeSpec := { name := "varyPuts", fn := fun _ => fun
  | [d1, d2] => { results := [.lit (.bool true)], args := [d1, d2] }
  | _ => none }
def varyPutsRow : OpenClaim := { program := "ytmimnefjeidedaa", sum := "3899ce2dcdb8fb2ef8ab5913523617c818a5bbe29eaa3bd7c9593b35d3645ba7", func := "landfall/landfalllaw03.VaryPuts", spec := "varyPuts", apart := false }
def VaryPutsSaid : Prop := varyPutsRow.holds Try.pinned (OpenSpec.ofChange varyPutsSpec)

/-- ITS FALSE NEIGHBOUR: 'it returns false'. Refute it at one input. -/
def varyPutsWrong : ChangeSpec := { name := "varyPuts", fn := fun _ => fun
  | [d1, d2] => { results := [.lit (.bool false)], args := [d1, d2] }
  | _ => none }
def VaryPutsWrongFalsely : Prop := varyPutsRow.holds Try.pinned (OpenSpec.ofChange varyPutsWrong)

/-- 'landfalllaw06.FletchTells': WHATEVER THE INPUT: true; the input reads as it did. -/
def fletchTellsSpec : ChangeSpec := { name := "fletchTells", fn := fun _ => fun
  | [d1, d2, d3] => { results := [.lit (.bool true)], args := [d1, d2, d3] }
  | _ => none }
def fletchTellsRow : OpenClaim := { program := "ytmimnefjeidedaa", sum := "3899ce2dcdb8fb2ef8ab5913523617c818a5bbe29eaa3bd7c9593b35d3645ba7", func := "landfall/landfalllaw06.FletchTells", spec := "fletchTells", apart := false }
def FletchTellsSaid : Prop := fletchTellsRow.holds Try.pinned (OpenSpec.ofChange fletchTellsSpec)

/-- ITS FALSE NEIGHBOUR: 'it returns false'. Refute it at one input. -/
def fletchTellsWrong : ChangeSpec := { name := "fletchTells", fn := fun _ => fun
  | [d1, d2, d3] => { results := [.lit (.bool false)], args := [d1, d2, d3] }
  | _ => none }
def FletchTellsWrongFalsely : Prop := fletchTellsRow.holds Try.pinned (OpenSpec.ofChange fletchTellsWrong)

/-- 'landfalllaw06.FletchOne': WHATEVER THE INPUT: true; the input reads as it did. -/
def fletchOneSpec : ChangeSpec := { name := "fletchOne", fn := fun _ => fun
  | [d1, d2, d3] => { results := [.lit (.bool true)], args := [d1, d2, d3] }
  | _ => none }
def fletchOneRow : OpenClaim := { program := "ytmimnefjeidedaa", sum := "3899ce2dcdb8fb2ef8ab5913523617c818a5bbe29eaa3bd7c9593b35d3645ba7", func := "landfall/landfalllaw06.FletchOne", spec := "fletchOne", apart := false }
def FletchOneSaid : Prop := fletchOneRow.holds Try.pinned (OpenSpec.ofChange fletchOneSpec)

/-- ITS FALSE NEIGHBOUR: 'it returns false'. Refute it at one input. -/
def fletchOneWrong : ChangeSpec := { name := "fletchOne", fn := fun _ => fun
  | [d1, d2, d3] => { results := [.lit (.bool false)], args := [d1, d2, d3] }
  | _ => none }
def FletchOneWrongFalsely : Prop := fletchOneRow.holds Try.pinned (OpenSpec.ofChange fletchOneWrong)

/-- 'landfalllaw39.WindowQueue': WHATEVER THE INPUT: true; the input reads as it did. -/
def windowQueueSpec : ChangeSpec := { name := "windowQueue", fn := fun _ => fun
  | [d] => { results := [.lit (.bool true)], args := [d] }
  | _ => none }
def windowQueueRow : OpenClaim := { program := "ytmimnefjeidedaa", sum := "3899ce2dcdb8fb2ef8ab5913523617c818a5bbe29eaa3bd7c9593b35d3645ba7", func := "landfall/landfalllaw39.WindowQueue", spec := "windowQueue", apart := false }
def WindowQueueSaid : Prop := windowQueueRow.holds Try.pinned (OpenSpec.ofChange windowQueueSpec)

/-- ITS FALSE NEIGHBOUR: 'it returns false'. Refute it at one input. -/
def windowQueueWrong : ChangeSpec := { name := "windowQueue", fn := fun _ => fun
  | [d] => { results := [.lit (.bool false)], args := [d] }
  | _ => none }
def WindowQueueWrongFalsely : Prop := windowQueueRow.holds Try.pinned (OpenSpec.ofChange windowQueueWrong)

/-- 'landfalllaw03.VaryTakes': WHATEVER THE INPUT: true; the input reads as it did. -/
def varyTakesSpec : ChangeSpec := { name := "varyTakes", fn := fun _ => fun
  | [d1, d2] => { results := [.lit (.bool true)], args := [d1, d2] }
  | _ => none }
def varyTakesRow : OpenClaim := { program := "ytmimnefjeidedaa", sum := "3899ce2dcdb8fb2ef8ab5913523617c818a5bbe29eaa3bd7c9593b35d3645ba7", func := "landfall/landfalllaw03.VaryTakes", spec := "varyTakes", apart := false }
def VaryTakesSaid : Prop := varyTakesRow.holds Try.pinned (OpenSpec.ofChange varyTakesSpec)

/-- ITS FALSE NEIGHBOUR: 'it returns false'. Refute it at one input. -/
def varyTakesWrong : ChangeSpec := { name := "varyTakes", fn := fun _ => fun
  | [d1, d2] => { results := [.lit (.bool false)], args := [d1, d2] }
  | _ => none }
def VaryTakesWrongFalsely : Prop := varyTakesRow.holds Try.pinned (OpenSpec.ofChange varyTakesWrong)

/-- 'landfalllaw39.WindowPlays': WHATEVER THE INPUT: true; the input reads as it did. -/
def windowPlaysSpec : ChangeSpec := { name := "windowPlays", fn := fun _ => fun
  | [d] => { results := [.lit (.bool true)], args := [d] }
  | _ => none }
def windowPlaysRow : OpenClaim := { program := "ytmimnefjeidedaa", sum := "3899ce2dcdb8fb2ef8ab5913523617c818a5bbe29eaa3bd7c9593b35d3645ba7", func := "landfall/landfalllaw39.WindowPlays", spec := "windowPlays", apart := false }
def WindowPlaysSaid : Prop := windowPlaysRow.holds Try.pinned (OpenSpec.ofChange windowPlaysSpec)

/-- ITS FALSE NEIGHBOUR: 'it returns false'. Refute it at one input. -/
def windowPlaysWrong : ChangeSpec := { name := "windowPlays", fn := fun _ => fun
  | [d] => { results := [.lit (.bool false)], args := [d] }
  | _ => none }
def WindowPlaysWrongFalsely : Prop := windowPlaysRow.holds Try.pinned (OpenSpec.ofChange windowPlaysWrong)

/-- 'landfalllaw39.WindowNil': WHATEVER THE INPUT: true; the input reads as it did. -/
def windowNilSpec : ChangeSpec := { name := "windowNil", fn := fun _ => fun
  | [d1, d2] => { results := [.lit (.bool true)], args := [d1, d2] }
  | _ => none }
def windowNilRow : OpenClaim := { program := "ytmimnefjeidedaa", sum := "3899ce2dcdb8fb2ef8ab5913523617c818a5bbe29eaa3bd7c9593b35d3645ba7", func := "landfall/landfalllaw39.WindowNil", spec := "windowNil", apart := false }
def WindowNilSaid : Prop := windowNilRow.holds Try.pinned (OpenSpec.ofChange windowNilSpec)

/-- ITS FALSE NEIGHBOUR: 'it returns false'. Refute it at one input. -/
def windowNilWrong : ChangeSpec := { name := "windowNil", fn := fun _ => fun
  | [d1, d2] => { results := [.lit (.bool false)], args := [d1, d2] }
  | _ => none }
def WindowNilWrongFalsely : Prop := windowNilRow.holds Try.pinned (OpenSpec.ofChange windowNilWrong)

/-- 'landfalllaw08.BitsGets': WHATEVER THE INPUT: true; the input reads as it did. -/
def bitsGetsSpec : ChangeSpec := { name := "bitsGets", fn := fun _ => fun
  | [d1, d2, d3, d4, d5] => { results := [.lit (.bool true)], args := [d1, d2, d3, d4, d5] }
  | _ => none }
def bitsGetsRow : OpenClaim := { program := "ytmimnefjeidedaa", sum := "3899ce2dcdb8fb2ef8ab5913523617c818a5bbe29eaa3bd7c9593b35d3645ba7", func := "landfall/landfalllaw08.BitsGets", spec := "bitsGets", unfollowed := true, recurses := true, apart := false }
def BitsGetsSaid : Prop := bitsGetsRow.holds Try.pinned (OpenSpec.ofChange bitsGetsSpec)

/-- ITS FALSE NEIGHBOUR: 'it returns false'. Refute it at one input. -/
def bitsGetsWrong : ChangeSpec := { name := "bitsGets", fn := fun _ => fun
  | [d1, d2, d3, d4, d5] => { results := [.lit (.bool false)], args := [d1, d2, d3, d4, d5] }
  | _ => none }
def BitsGetsWrongFalsely : Prop := bitsGetsRow.holds Try.pinned (OpenSpec.ofChange bitsGetsWrong)

/-- 'landfalllaw03.VaryBack': WHATEVER THE INPUT: true; the input reads as it did. -/
def varyBackSpec : ChangeSpec := { name := "varyBack", fn := fun _ => fun
  | [d1, d2] => { results := [.lit (.bool true)], args := [d1, d2] }
  | _ => none }
def varyBackRow : OpenClaim := { program := "ytmimnefjeidedaa", sum := "3899ce2dcdb8fb2ef8ab5913523617c818a5bbe29eaa3bd7c9593b35d3645ba7", func := "landfall/landfalllaw03.VaryBack", spec := "varyBack", unfollowed := true, recurses := true, apart := false }
def VaryBackSaid : Prop := varyBackRow.holds Try.pinned (OpenSpec.ofChange varyBackSpec)

/-- ITS FALSE NEIGHBOUR: 'it returns false'. Refute it at one input. -/
def varyBackWrong : ChangeSpec := { name := "varyBack", fn := fun _ => fun
  | [d1, d2] => { results := [.lit (.bool false)], args := [d1, d2] }
  | _ => none }
def VaryBackWrongFalsely : Prop := varyBackRow.holds Try.pinned (OpenSpec.ofChange varyBackWrong)

/-- 'landfalllaw08.BitsSplits': WHATEVER THE INPUT: true; the input reads as it did. -/
def bitsSplitsSpec : ChangeSpec := { name := "bitsSplits", fn := fun _ => fun
  | [d1, d2, d3] => { results := [.lit (.bool true)], args := [d1, d2, d3] }
  | _ => none }
def bitsSplitsRow : OpenClaim := { program := "ytmimnefjeidedaa", sum := "3899ce2dcdb8fb2ef8ab5913523617c818a5bbe29eaa3bd7c9593b35d3645ba7", func := "landfall/landfalllaw08.BitsSplits", spec := "bitsSplits", unfollowed := true, recurses := true, apart := false }
def BitsSplitsSaid : Prop := bitsSplitsRow.holds Try.pinned (OpenSpec.ofChange bitsSplitsSpec)

/-- ITS FALSE NEIGHBOUR: 'it returns false'. Refute it at one input. -/
def bitsSplitsWrong : ChangeSpec := { name := "bitsSplits", fn := fun _ => fun
  | [d1, d2, d3] => { results := [.lit (.bool false)], args := [d1, d2, d3] }
  | _ => none }
def BitsSplitsWrongFalsely : Prop := bitsSplitsRow.holds Try.pinned (OpenSpec.ofChange bitsSplitsWrong)

/-- 'landfalllaw08.BitsBack': WHATEVER THE INPUT: true; the input reads as it did. -/
def bitsBackSpec : ChangeSpec := { name := "bitsBack", fn := fun _ => fun
  | [d1, d2, d3, d4, d5] => { results := [.lit (.bool true)], args := [d1, d2, d3, d4, d5] }
  | _ => none }
def bitsBackRow : OpenClaim := { program := "ytmimnefjeidedaa", sum := "3899ce2dcdb8fb2ef8ab5913523617c818a5bbe29eaa3bd7c9593b35d3645ba7", func := "landfall/landfalllaw08.BitsBack", spec := "bitsBack", unfollowed := true, recurses := true, apart := false }
def BitsBackSaid : Prop := bitsBackRow.holds Try.pinned (OpenSpec.ofChange bitsBackSpec)

/-- ITS FALSE NEIGHBOUR: 'it returns false'. Refute it at one input. -/
def bitsBackWrong : ChangeSpec := { name := "bitsBack", fn := fun _ => fun
  | [d1, d2, d3, d4, d5] => { results := [.lit (.bool false)], args := [d1, d2, d3, d4, d5] }
  | _ => none }
def BitsBackWrongFalsely : Prop := bitsBackRow.holds Try.pinned (OpenSpec.ofChange bitsBackWrong)

/- THE SECOND FORM. 'bulk': how many values and letters a reading holds, each counted each time it is reached (what is shared counts as often as it is met; a slice's spare places count too). A statement '..UptoSaid' is the law's where the arguments, and the package variables that the reading takes, are together of bulk at most 1048576: NARROWER than '..Said'. Prove '..Said' where nothing that the law and all that it calls make is longer than what came in: it says more and counts as full. Else prove '..UptoSaid'. A law counts once. -/
mutual
def uptoBulk {H : Type} : DataW H → Nat
  | .lit (.string bytes) => bytes.length + 1
  | .lit _ => 1
  | .nil => 1
  | .ptr d => uptoBulk d + 1
  | .slice elems spare => uptoBulkAll elems + uptoBulkAll spare + 1
  | .agg parts => uptoBulkAll parts + 1
  | .iface _ d => uptoBulk d + 1
  | .map entries => uptoBulkEntries entries + 1
  | .held _ => 1
def uptoBulkAll {H : Type} : List (DataW H) → Nat
  | [] => 0
  | d :: r => uptoBulk d + uptoBulkAll r
def uptoBulkEntries {H : Type} : List (Lit × DataW H) → Nat
  | [] => 0
  | x :: r => uptoBulkEntry x + uptoBulkEntries r
def uptoBulkEntry {H : Type} : Lit × DataW H → Nat
  | (.string bytes, d) => bytes.length + uptoBulk d + 1
  | (_, d) => uptoBulk d + 1
 end
def uptoSmall : (H : Type) → List (DataW H) → Bool := fun _ ds => decide (uptoBulkAll ds ≤ 1048576)
def OpenSpec.upto (s : _root_.Go.ChangeSpec) : _root_.Go.OpenSpec := { _root_.Go.OpenSpec.ofChange s with cond := some uptoSmall }

/-- 'landfalllaw06.FletchSums', WHERE WHAT IT READS IS OF BULK AT MOST 1048576: true; the input reads as it did. -/
def fletchSumsUptoRow : OpenClaim := { program := "ytmimnefjeidedaa", sum := "3899ce2dcdb8fb2ef8ab5913523617c818a5bbe29eaa3bd7c9593b35d3645ba7", func := "landfall/landfalllaw06.FletchSums", spec := "fletchSums", apart := false, narrowed := true }
def FletchSumsUptoSaid : Prop := fletchSumsUptoRow.holds Try.pinned (OpenSpec.upto fletchSumsSpec)

/-- 'landfalllaw03.VaryPuts', WHERE WHAT IT READS IS OF BULK AT MOST 1048576: true; the input reads as it did. -/
def varyPutsUptoRow : OpenClaim := { program := "ytmimnefjeidedaa", sum := "3899ce2dcdb8fb2ef8ab5913523617c818a5bbe29eaa3bd7c9593b35d3645ba7", func := "landfall/landfalllaw03.VaryPuts", spec := "varyPuts", apart := false, narrowed := true }
def VaryPutsUptoSaid : Prop := varyPutsUptoRow.holds Try.pinned (OpenSpec.upto varyPutsSpec)

/-- 'landfalllaw06.FletchTells', WHERE WHAT IT READS IS OF BULK AT MOST 1048576: true; the input reads as it did. -/
def fletchTellsUptoRow : OpenClaim := { program := "ytmimnefjeidedaa", sum := "3899ce2dcdb8fb2ef8ab5913523617c818a5bbe29eaa3bd7c9593b35d3645ba7", func := "landfall/landfalllaw06.FletchTells", spec := "fletchTells", apart := false, narrowed := true }
def FletchTellsUptoSaid : Prop := fletchTellsUptoRow.holds Try.pinned (OpenSpec.upto fletchTellsSpec)

/-- 'landfalllaw06.FletchOne', WHERE WHAT IT READS IS OF BULK AT MOST 1048576: true; the input reads as it did. -/
def fletchOneUptoRow : OpenClaim := { program := "ytmimnefjeidedaa", sum := "3899ce2dcdb8fb2ef8ab5913523617c818a5bbe29eaa3bd7c9593b35d3645ba7", func := "landfall/landfalllaw06.FletchOne", spec := "fletchOne", apart := false, narrowed := true }
def FletchOneUptoSaid : Prop := fletchOneUptoRow.holds Try.pinned (OpenSpec.upto fletchOneSpec)

/-- 'landfalllaw39.WindowQueue', WHERE WHAT IT READS IS OF BULK AT MOST 1048576: true; the input reads as it did. -/
def windowQueueUptoRow : OpenClaim := { program := "ytmimnefjeidedaa", sum := "3899ce2dcdb8fb2ef8ab5913523617c818a5bbe29eaa3bd7c9593b35d3645ba7", func := "landfall/landfalllaw39.WindowQueue", spec := "windowQueue", apart := false, narrowed := true }
def WindowQueueUptoSaid : Prop := windowQueueUptoRow.holds Try.pinned (OpenSpec.upto windowQueueSpec)

/-- 'landfalllaw03.VaryTakes', WHERE WHAT IT READS IS OF BULK AT MOST 1048576: true; the input reads as it did. -/
def varyTakesUptoRow : OpenClaim := { program := "ytmimnefjeidedaa", sum := "3899ce2dcdb8fb2ef8ab5913523617c818a5bbe29eaa3bd7c9593b35d3645ba7", func := "landfall/landfalllaw03.VaryTakes", spec := "varyTakes", apart := false, narrowed := true }
def VaryTakesUptoSaid : Prop := varyTakesUptoRow.holds Try.pinned (OpenSpec.upto varyTakesSpec)

/-- 'landfalllaw39.WindowPlays', WHERE WHAT IT READS IS OF BULK AT MOST 1048576: true; the input reads as it did. -/
def windowPlaysUptoRow : OpenClaim := { program := "ytmimnefjeidedaa", sum := "3899ce2dcdb8fb2ef8ab5913523617c818a5bbe29eaa3bd7c9593b35d3645ba7", func := "landfall/landfalllaw39.WindowPlays", spec := "windowPlays", apart := false, narrowed := true }
def WindowPlaysUptoSaid : Prop := windowPlaysUptoRow.holds Try.pinned (OpenSpec.upto windowPlaysSpec)

/-- 'landfalllaw39.WindowNil', WHERE WHAT IT READS IS OF BULK AT MOST 1048576: true; the input reads as it did. -/
def windowNilUptoRow : OpenClaim := { program := "ytmimnefjeidedaa", sum := "3899ce2dcdb8fb2ef8ab5913523617c818a5bbe29eaa3bd7c9593b35d3645ba7", func := "landfall/landfalllaw39.WindowNil", spec := "windowNil", apart := false, narrowed := true }
def WindowNilUptoSaid : Prop := windowNilUptoRow.holds Try.pinned (OpenSpec.upto windowNilSpec)

/-- 'landfalllaw08.BitsGets', WHERE WHAT IT READS IS OF BULK AT MOST 1048576: true; the input reads as it did. -/
def bitsGetsUptoRow : OpenClaim := { program := "ytmimnefjeidedaa", sum := "3899ce2dcdb8fb2ef8ab5913523617c818a5bbe29eaa3bd7c9593b35d3645ba7", func := "landfall/landfalllaw08.BitsGets", spec := "bitsGets", unfollowed := true, recurses := true, apart := false, narrowed := true }
def BitsGetsUptoSaid : Prop := bitsGetsUptoRow.holds Try.pinned (OpenSpec.upto bitsGetsSpec)

/-- 'landfalllaw03.VaryBack', WHERE WHAT IT READS IS OF BULK AT MOST 1048576: true; the input reads as it did. -/
def varyBackUptoRow : OpenClaim := { program := "ytmimnefjeidedaa", sum := "3899ce2dcdb8fb2ef8ab5913523617c818a5bbe29eaa3bd7c9593b35d3645ba7", func := "landfall/landfalllaw03.VaryBack", spec := "varyBack", unfollowed := true, recurses := true, apart := false, narrowed := true }
def VaryBackUptoSaid : Prop := varyBackUptoRow.holds Try.pinned (OpenSpec.upto varyBackSpec)

/-- 'landfalllaw08.BitsSplits', WHERE WHAT IT READS IS OF BULK AT MOST 1048576: true; the input reads as it did. -/
def bitsSplitsUptoRow : OpenClaim := { program := "ytmimnefjeidedaa", sum := "3899ce2dcdb8fb2ef8ab5913523617c818a5bbe29eaa3bd7c9593b35d3645ba7", func := "landfall/landfalllaw08.BitsSplits", spec := "bitsSplits", unfollowed := true, recurses := true, apart := false, narrowed := true }
def BitsSplitsUptoSaid : Prop := bitsSplitsUptoRow.holds Try.pinned (OpenSpec.upto bitsSplitsSpec)

/-- 'landfalllaw08.BitsBack', WHERE WHAT IT READS IS OF BULK AT MOST 1048576: true; the input reads as it did. -/
def bitsBackUptoRow : OpenClaim := { program := "ytmimnefjeidedaa", sum := "3899ce2dcdb8fb2ef8ab5913523617c818a5bbe29eaa3bd7c9593b35d3645ba7", func := "landfall/landfalllaw08.BitsBack", spec := "bitsBack", unfollowed := true, recurses := true, apart := false, narrowed := true }
def BitsBackUptoSaid : Prop := bitsBackUptoRow.holds Try.pinned (OpenSpec.upto bitsBackSpec)

end Rows
end Go.Proofs.Ytmimnefjeidedaa
