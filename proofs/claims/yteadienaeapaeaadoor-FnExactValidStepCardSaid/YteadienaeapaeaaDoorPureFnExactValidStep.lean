/- ValidStep of the program returns what ValidStep of the reference returns, for every step; steps whose name the statement passes over (more than 2^20 bytes) are passed over here, too. -/
import Derived.Test.YteadienaeapaeaaDoorKindsFnExactValidStep
import Derived.Test.YteadienaeapaeaaDoorStepV
namespace Go.Proofs.YteadienaeapaeaaDoor.Pure
open Go Go.RowKit Go.Proofs.YteadienaeapaeaaDoorW.PrintWords Go.Proofs.YteadienaeapaeaaDoorW.PrintLast Go.Proofs.YteadienaeapaeaaDoorW.PrintMore Go.Proofs.YteadienaeapaeaaDoor.Base Go.Proofs.YteadienaeapaeaaDoor.NameV Go.Proofs.YteadienaeapaeaaDoor.StepV Go.Proofs.YteadienaeapaeaaDoor.PV
theorem FnExactValidStep : FnExactValidStep.Stat := by
  intro x hx
  have hn : x.f1.size ≤ 9223372036854775807 := by
    have := hx.2.1
    unfold maxLen at this
    omega
  refine Ev.rounds (g := fun k => laws_FnExactValidStep.f k x.f0 x.f1 x.f2.f0 x.f2.f1.f0 x.f2.f1.f1 x.f2.f1.f2 x.f3 x.f4 x.f5) (r := true) ?_
  unfold laws_FnExactValidStep.f laws_szStep.f laws_toStep.f laws_toLine.f laws_toNum.f
  have h1 := step_spec x.f0 x.f1 hn x.f2.f0 x.f2.f1.f0 x.f2.f1.f1 x.f2.f1.f2 x.f3 x.f4 x.f5
  have h2 := step_impl x.f0 x.f1 hn x.f2.f0 x.f2.f1.f0 x.f2.f1.f1 x.f2.f1.f2 x.f3 x.f4 x.f5
  have rest : Ev (fun k => (spec_ValidStep.f k x.f0 x.f1 x.f2.f0 x.f2.f1.f0 x.f2.f1.f1 x.f2.f1.f2 x.f3 x.f4 x.f5).bind fun t173 => ((impl_ValidStep.f k x.f0 x.f1 x.f2.f0 x.f2.f1.f0 x.f2.f1.f1 x.f2.f1.f2 x.f3 x.f4 x.f5).bind fun t183 => (if (t183 != t173) = true then (some false) else (some true)))) true := ev_bind h1 (ev_bind h2 (ev_neg (by simp) (ev_some _)))
  by_cases hz : (wrap64 (1048576 - (x.f1.size : Int))) < 0
  · simp only [if_pos hz, Option.bind_some]
    exact ev_pos (by decide) (ev_some _)
  · simp only [if_neg hz, Option.bind_some]
    first | exact rest | exact ev_neg hz rest
end Go.Proofs.YteadienaeapaeaaDoor.Pure
