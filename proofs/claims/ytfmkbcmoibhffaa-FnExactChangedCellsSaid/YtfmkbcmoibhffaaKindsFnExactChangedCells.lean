/- The kinds of the arguments of FnExactChangedCells, and the plain statement that is left. -/
import Derived.Test.YtfmkbcmoibhffaaPAx6
import Derived.Test.YtfmkbcmoibhffaaOpen
import Derived.KernelRfl
namespace Go.Proofs.Ytfmkbcmoibhffaa.PA
open Go.ChangeShapes Go.WideShapes Go.ChangeAt Go.RowKit Go.Proofs.YtfmkbcmoibhffaaW.PrintWords Go.Proofs.Ytfmkbcmoibhffaa.Open Go.Proofs.Ytfmkbcmoibhffaa.PA
set_option maxRecDepth 100000
def FnExactChangedCells.Stat : Prop := ∀ (a0 : List (ByteArray)) (a1 : List (ByteArray)), (a0.length ≤ maxLen ∧ ∀ y ∈ a0, y.size ≤ maxLen) → (a1.length ≤ maxLen ∧ ∀ y ∈ a1, y.size ≤ maxLen) → ∃ k, laws_FnExactChangedCells.f k a0 a1 = some true
end Go.Proofs.Ytfmkbcmoibhffaa.PA
