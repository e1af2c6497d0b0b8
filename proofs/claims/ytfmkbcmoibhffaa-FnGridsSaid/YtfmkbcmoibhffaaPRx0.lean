-- Made by a program of this session (myprint.py) out of the translation.
import Derived.Test.YtfmkbcmoibhffaaProg
import Derived.Below
import Derived.Deep.Draws
import Derived.Deep.AppendLies
import Derived.Maps.AppendAt
import Derived.OwnWalk
import Derived.Laws.BytesArg
import Derived.Laws.MakeOwn
import Derived.Laws.OwnMore
import Derived.Deep.OwnRows
import Derived.Tactics
import Derived.Lib.ConvBytes
import Derived.Laws.Slices
import Derived.WalkKit
import Derived.KernelRfl
import Derived.RowKit3
import Derived.Deep.LoopGhost
import Derived.Deep.QuietTactic
import Derived.BigQuiet
import Derived.WideLaws
import Derived.Deep.DeepCutAuto
import Derived.Deep.CutBlock
import Derived.Deep.RegionHeld3
import Derived.Laws.Rows
import Derived.Lib.AppendStr
import Derived.ArgAppend
import Derived.Laws.IdiomCopy
import Derived.OrdersHeld
import Derived.Laws.BitsLemmas
import Derived.RowKit
import Derived.Test.YtfmkbcmoibhffaaDyn
import Derived.Test.YtfmkbcmoibhffaaWWords
import Derived.Test.YtfmkbcmoibhffaaWLast
import Derived.Test.YtfmkbcmoibhffaaWTab
import Derived.Test.YtfmkbcmoibhffaaWFour
import Derived.Test.YtfmkbcmoibhffaaWQPut
import Derived.Test.YtfmkbcmoibhffaaWApart
import Derived.Test.YtfmkbcmoibhffaaWArr
import Derived.Test.YtfmkbcmoibhffaaWZeros
import Derived.Test.YtfmkbcmoibhffaaWFoot
import Derived.Test.YtfmkbcmoibhffaaWKept
import Derived.Test.YtfmkbcmoibhffaaWShare
import Derived.Test.YtfmkbcmoibhffaaWN
import Derived.Test.YtfmkbcmoibhffaaWFootNe
import Derived.Test.YtfmkbcmoibhffaaWAt
import Derived.Test.YtfmkbcmoibhffaaWEqStruct
import Derived.Test.YtfmkbcmoibhffaaWRepsOne
import Derived.Test.YtfmkbcmoibhffaaWInv
import Derived.Test.YtfmkbcmoibhffaaWInvWords
import Derived.Test.YtfmkbcmoibhffaaWGuard
import Derived.Test.YtfmkbcmoibhffaaWNEv
import Derived.Test.YtfmkbcmoibhffaaWMore
namespace Go.Proofs.Ytfmkbcmoibhffaa.PR
open Go.Proofs.Ytfmkbcmoibhffaa.Dyn
open Go.RowKit Go.Proofs.YtfmkbcmoibhffaaW.PrintWords Go.Proofs.YtfmkbcmoibhffaaW.PrintLast Go.Proofs.YtfmkbcmoibhffaaW.PrintMore
attribute [local go_sem] max2_int min2_int max_two min_two max_three min_three max_four min_four   -- for this text's walks alone
set_option linter.unusedVariables false
set_option linter.unusedSimpArgs false



def errW : Option Int → Value
  | none => .nilIface
  | some c => .iface 0 (.int .i64 c)
theorem errW_none : errW none = .nilIface := rfl
theorem errW_some (c : Int) : errW (some c) = .iface 0 (.int .i64 c) := rfl

theorem info5 : (Try.prog.info? 5).map (fun i => (i.zero, i.size, i.bytes)) = some (some (.int .u8 0), 1, 1) := by kernel_rfl
theorem info9 : (Try.prog.info? 9).map (fun i => (i.zero, i.size, i.bytes)) = some (some (.string ⟨#[]⟩), 1, 16) := by kernel_rfl
-- the values' own types

end Go.Proofs.Ytfmkbcmoibhffaa.PR
