/- The kinds of the arguments of FnPrograms, and the plain statement that is left. -/
import Derived.Test.YteadienaeapaeaaDoorZprPWx23
import Derived.Test.YteadienaeapaeaaDoorZprOpen
import Derived.KernelRfl
namespace Go.Proofs.YteadienaeapaeaaDoor.PW
open Go.ChangeShapes Go.WideShapes Go.ChangeAt Go.RowKit Go.Proofs.YteadienaeapaeaaDoorW.PrintWords Go.Proofs.YteadienaeapaeaaDoor.Open Go.Proofs.YteadienaeapaeaaDoor.PW
set_option maxRecDepth 100000
def FnPrograms.Stat : Prop := ∀ (a0 : List (Int)) (a1 : List (Int)), (a0.length ≤ maxLen ∧ ∀ y ∈ a0, (Lit.int .u8 y).wf = true) → (a1.length ≤ maxLen ∧ ∀ y ∈ a1, (Lit.int .u8 y).wf = true) → ∃ k, laws_FnPrograms.f k a0 a1 = some true
end Go.Proofs.YteadienaeapaeaaDoor.PW
