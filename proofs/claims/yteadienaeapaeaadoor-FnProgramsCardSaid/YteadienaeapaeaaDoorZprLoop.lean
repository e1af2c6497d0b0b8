/- Loops that copy, compare and measure lists, told once for all kinds of elements. -/
import Derived.Test.YteadienaeapaeaaDoorZprBase
import Derived.Lib.Strings
namespace Go.Proofs.YteadienaeapaeaaDoor.Loop
open Go Go.RowKit Go.Proofs.YteadienaeapaeaaDoorW.PrintWords Go.Proofs.YteadienaeapaeaaDoorW.PrintLast Go.Proofs.YteadienaeapaeaaDoorW.PrintMore Go.Proofs.YteadienaeapaeaaDoor.Base
/-- What is told comes out, and it is true exactly if p holds. -/
def Tells (F : Nat → Option Bool) (p : Prop) : Prop := ∃ t, Ev F t ∧ (t = true ↔ p)
theorem bytes_ext {a b : ByteArray} : a.toList = b.toList ↔ a = b := by
  rw [Lib.toList_data, Lib.toList_data]
  constructor
  · intro h
    obtain ⟨⟨a⟩⟩ := a
    obtain ⟨⟨b⟩⟩ := b
    obtain rfl : a = b := h
    rfl
  · rintro rfl
    rfl
end Go.Proofs.YteadienaeapaeaaDoor.Loop
