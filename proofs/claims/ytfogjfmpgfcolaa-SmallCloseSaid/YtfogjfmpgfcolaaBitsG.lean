/- Chapter 08: what the reference says of bits: put, with a sign, does it fit. -/
import Derived.Test.YtfogjfmpgfcolaaBitsF
import Derived.Deep.CutRange
namespace Go.Proofs.Ytfogjfmpgfcolaa
open Go.RowKit
set_option linter.unusedVariables false
set_option linter.unusedSimpArgs false

end Go.Proofs.Ytfogjfmpgfcolaa
