/- The kinds of the arguments of FnExactRimOf, and the plain statement that is left. -/
import Derived.Test.YtfmkbcmoibhffaaPRx6
import Derived.Test.YtfmkbcmoibhffaaOpen
import Derived.KernelRfl
namespace Go.Proofs.Ytfmkbcmoibhffaa.PR
open Go.ChangeShapes Go.WideShapes Go.ChangeAt Go.RowKit Go.Proofs.YtfmkbcmoibhffaaW.PrintWords Go.Proofs.Ytfmkbcmoibhffaa.Open Go.Proofs.Ytfmkbcmoibhffaa.PR
set_option maxRecDepth 100000
def FnExactRimOf.Stat : Prop := ∀ (a0 : List (ByteArray)), (a0.length ≤ maxLen ∧ ∀ y ∈ a0, y.size ≤ maxLen) → ∃ k, laws_FnExactRimOf.f k a0 = some true
end Go.Proofs.Ytfmkbcmoibhffaa.PR
