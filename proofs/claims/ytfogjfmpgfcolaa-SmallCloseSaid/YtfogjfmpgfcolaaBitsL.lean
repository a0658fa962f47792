/- Chapter 08: what must come; the walk of BitsGets. -/
import Derived.Test.YtfogjfmpgfcolaaBitsK
namespace Go.Proofs.Ytfogjfmpgfcolaa
open Go.RowKit
set_option linter.unusedVariables false
set_option linter.unusedSimpArgs false

end Go.Proofs.Ytfogjfmpgfcolaa
