/- Chapter 12: the word of four numbers. -/
import Derived.Test.YtgmepohfkpncmaaGreatSmallD
namespace Go.Proofs.YtgmepohfkpncmaaGreat
open Go.RowKit
set_option linter.unusedVariables false
set_option linter.unusedSimpArgs false

end Go.Proofs.YtgmepohfkpncmaaGreat
