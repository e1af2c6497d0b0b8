/- Which texts are names: the program's test (strings.Trim, strings.IndexByte) and the reference's loop say the same. -/
import Derived.Test.YteadienaeapaeaaDoorZprBase
import Derived.Lib.Strings
import Derived.Test.YteadienaeapaeaaDoorZprPWx5
import Derived.Test.YteadienaeapaeaaDoorZprPWx8
namespace Go.Proofs.YteadienaeapaeaaDoor.NameW
open Go Go.RowKit Go.Proofs.YteadienaeapaeaaDoorW.PrintWords Go.Proofs.YteadienaeapaeaaDoorW.PrintLast Go.Proofs.YteadienaeapaeaaDoorW.PrintMore Go.Proofs.YteadienaeapaeaaDoor.Base Go.Proofs.YteadienaeapaeaaDoor.PW
theorem keeps {α : Type} (p : α → Bool) {x : α} : ∀ {l : List α}, x ∈ l → p x = false → x ∈ l.dropWhile p
  | [], h, _ => by simp at h
  | y :: l, h, hp => by
    rw [List.dropWhile_cons]
    by_cases hy : p y = true
    · rw [if_pos hy]
      rcases List.mem_cons.1 h with rfl | h
      · rw [hp] at hy; cases hy
      · exact keeps p h hp
    · rw [if_neg hy]; exact h
theorem name_impl (s : ByteArray) (hs : s.size ≤ 9223372036854775807) : Ev (fun k => impl_IsName.f k s) (nameB s) := by
  unfold impl_IsName.f
  exact ev_pos hs (ev_some _)
end Go.Proofs.YteadienaeapaeaaDoor.NameW
