/- Structs of some fields that are all integers: opened and shut. -/
import Derived.Test.YtgmepohfkpncmaaGreatAid
import Derived.Lib.SmallJoins
import Derived.ChangeSame
namespace Go.Proofs.YtgmepohfkpncmaaGreat
open Go.Joins Go.ChangeShapes Go.WideShapes Go.RowKit Go.Deep
section
variable {H : Type} {enc : TypeId × Value → H} {P : Program} {w : World} {base : Nat} {spare : Nat → Bool} {held : Bool}
end
end Go.Proofs.YtgmepohfkpncmaaGreat
