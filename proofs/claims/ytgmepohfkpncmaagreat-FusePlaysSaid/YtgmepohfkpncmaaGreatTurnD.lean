/- Chapter 13: the closures of Rotate. -/
import Derived.Test.YtgmepohfkpncmaaGreatTurnB
namespace Go.Proofs.YtgmepohfkpncmaaGreat
open Go.RowKit
set_option linter.unusedVariables false
set_option linter.unusedSimpArgs false

end Go.Proofs.YtgmepohfkpncmaaGreat
namespace Go.Proofs.YtgmepohfkpncmaaGreat
open Go.RowKit
set_option linter.unusedVariables false
set_option linter.unusedSimpArgs false

end Go.Proofs.YtgmepohfkpncmaaGreat
