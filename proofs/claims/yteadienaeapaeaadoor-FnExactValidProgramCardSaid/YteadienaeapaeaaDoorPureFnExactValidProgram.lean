/- ValidProgram of the program returns what ValidProgram of the reference returns and leaves its argument alone, for every list of steps; lists that the statement passes over (more than 2^20 in all) are passed over here, too. -/
import Derived.Test.YteadienaeapaeaaDoorKindsFnExactValidProgram
import Derived.Test.YteadienaeapaeaaDoorProgV
namespace Go.Proofs.YteadienaeapaeaaDoor.Pure
open Go Go.RowKit Go.Proofs.YteadienaeapaeaaDoorW.PrintWords Go.Proofs.YteadienaeapaeaaDoorW.PrintLast Go.Proofs.YteadienaeapaeaaDoorW.PrintMore Go.Proofs.YteadienaeapaeaaDoor.Base Go.Proofs.YteadienaeapaeaaDoor.ProgV Go.Proofs.YteadienaeapaeaaDoor.PV
theorem FnExactValidProgram : FnExactValidProgram.Stat := by
  intro l hx
  have hlen : l.length ≤ 9223372036854775807 := by have := hx.1; unfold maxLen at this; omega
  have hs : ∀ y ∈ l, y.f1.size ≤ 9223372036854775807 := fun y hy => by
    have := (hx.2 y hy).2.1
    unfold maxLen at this
    omega
  refine Ev.rounds (g := fun k => laws_FnExactValidProgram.f k l) (r := true) ?_
  unfold laws_FnExactValidProgram.f
  obtain ⟨r1, e1, s1⟩ := sz_tells l hlen hs
  refine ev_bind e1 ?_
  by_cases h1 : r1 < 0
  · exact ev_pos h1 (ev_some _)
  · have la := s1 (by omega)
    have lc : (l.map conv).length ≤ 1048576 := by simpa using la
    have hn := names_conv l hs
    exact ev_neg h1 (ev_bind (to_conv l la) (ev_bind (prog_spec _ lc hn) (ev_bind (to_conv l la) (ev_bind (prog_impl _ hn) (ev_neg (by simp) (ev_bind (to_conv l la) (ev_bind (eq_self _ lc) (ev_pos rfl (ev_some _)))))))))
end Go.Proofs.YteadienaeapaeaaDoor.Pure
