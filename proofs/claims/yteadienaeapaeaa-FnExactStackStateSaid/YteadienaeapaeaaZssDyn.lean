/- Calls through a function value, as the printed words tell calls of a named function. -/
import Derived.Test.YteadienaeapaeaaZssW
namespace Go.Proofs.Yteadienaeapaeaa.Dyn
open Go Go.RowKit Go.Proofs.YteadienaeapaeaaW.PrintWords Go.Proofs.YteadienaeapaeaaW.PrintLast Go.Proofs.YteadienaeapaeaaW.PrintMore
section
variable {P : Program} {ops : Array Oper} {Q : Exit → Act → World → Prop}
end
end Go.Proofs.Yteadienaeapaeaa.Dyn
