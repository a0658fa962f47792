/- Chapter 10: quaternions: the reference's products. -/
import Derived.Test.YtfogjfmpgfcolaaQuatF
namespace Go.Proofs.Ytfogjfmpgfcolaa
open Go.RowKit
set_option linter.unusedVariables false

def dotP (a0 a1 a2 a3 b0 b1 b2 b3 : Int) : Int := tmP a0 b0 + tmP a1 b1 + tmP a2 b2 + tmP a3 b3
end Go.Proofs.Ytfogjfmpgfcolaa
