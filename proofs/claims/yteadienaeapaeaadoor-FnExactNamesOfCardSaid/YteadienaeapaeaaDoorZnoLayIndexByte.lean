/- The library's contract at this program's functions: the tables of the numbers, and that each body is the library's own. -/
import Derived.Shelf.Lays
import Derived.Test.YteadienaeapaeaaDoorProg
namespace Go.Proofs.YteadienaeapaeaaDoor.Lay
open Go.Proofs Go.Shelf
set_option maxRecDepth 100000
def IndexByte_ren : Go.Shelf.Ren := ⟨fun | 137 => 86 | 217 => 131 | 266 => 175 | n => n, fun | 9 => 9 | 5 => 5 | 3 => 3 | n => n, fun | n => n⟩
theorem IndexByte : Go.Proofs.Lays.n137 Tryd.prog IndexByte_ren := {
  mixed := by kernel_rfl,
  f137 := Tryd.func86.trans (congrArg some (by kernel_rfl)),
  f217 := Tryd.func131.trans (congrArg some (by kernel_rfl)),
  f266 := Tryd.func175.trans (congrArg some (by kernel_rfl)),
  t3 := Tryd.underlying3,
  a3 := Tryd.isAgg3,
  z3 := Tryd.sizeOf3,
  v3 := Tryd.zeroValue3,
  t5 := Tryd.underlying5,
  a5 := Tryd.isAgg5,
  z5 := Tryd.sizeOf5,
  v5 := Tryd.zeroValue5,
  t9 := Tryd.underlying9,
  a9 := Tryd.isAgg9,
  z9 := Tryd.sizeOf9,
  v9 := Tryd.zeroValue9 }
end Go.Proofs.YteadienaeapaeaaDoor.Lay
