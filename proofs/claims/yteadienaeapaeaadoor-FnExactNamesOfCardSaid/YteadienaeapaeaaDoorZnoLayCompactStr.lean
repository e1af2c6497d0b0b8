/- The library's contract at this program's functions: the tables of the numbers, and that each body is the library's own. -/
import Derived.Shelf.SlLaysN
import Derived.Test.YteadienaeapaeaaDoorProg
namespace Go.Proofs.YteadienaeapaeaaDoor.Lay
open Go.Proofs Go.Shelf
set_option maxRecDepth 100000
def CompactStr_ren : Go.Shelf.Ren := ⟨fun | 44 => 74 | n => n, fun | 25 => 63 | 26 => 9 | 3 => 3 | 4 => 4 | 0 => 0 | n => n, fun | n => n⟩
theorem CompactStr : Go.Proofs.SlLaysN.n44 Tryd.prog CompactStr_ren := {
  mixed := by kernel_rfl,
  f44 := ⟨Tryd.f74.name, by decide, Tryd.func74.trans (congrArg some (by kernel_rfl))⟩,
  t0 := Tryd.underlying0,
  a0 := Tryd.isAgg0,
  z0 := Tryd.sizeOf0,
  v0 := Tryd.zeroValue0,
  t3 := Tryd.underlying3,
  a3 := Tryd.isAgg3,
  z3 := Tryd.sizeOf3,
  v3 := Tryd.zeroValue3,
  t4 := Tryd.underlying4,
  a4 := Tryd.isAgg4,
  z4 := Tryd.sizeOf4,
  v4 := Tryd.zeroValue4,
  t25 := Tryd.underlying63,
  a25 := Tryd.isAgg63,
  z25 := Tryd.sizeOf63,
  v25 := Tryd.zeroValue63,
  t26 := Tryd.underlying9,
  a26 := Tryd.isAgg9,
  z26 := Tryd.sizeOf9,
  v26 := Tryd.zeroValue9,
  i26 := by kernel_rfl }
end Go.Proofs.YteadienaeapaeaaDoor.Lay
