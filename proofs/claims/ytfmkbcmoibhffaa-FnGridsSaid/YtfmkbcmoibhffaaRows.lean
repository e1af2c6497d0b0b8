/-
  No cell of these rows narrows 'for every input' (looked for: loops, veiled, ifaces, maps, wideKeys, modest, calm, conditions, laid).
  DERIVED. THE GIVEN ROWS OF THIS SEAT. 7 by the template 'for every input the law returns true; each argument reads behind the call as it read before'; 0 by the template 'total and deterministic' (their statements: YtfmkbcmoibhffaaTotals.lean).
  GIVEN WITH THE SEED: the statements are not yours to turn. If you find one false, say at which input.
  Laid BY PROGRAM, IN A SANDBOX (cutbox-rows.mjs): the forced cells as the released guide's own fill.sh prints them over the translation 066ebccc0d414f3e… (all of the seat's roots in one cut). By AI agents, Wed Nov 11 2026. No macro, syntax, notation, axiom, sorry.
-/
import Derived.Test.YtfmkbcmoibhffaaChecked
import GoSem.Claim
import GoSem.ClaimJoined
import GoSem.ClaimMapViews
import Derived.JoinedTies
import Derived.KernelRfl
namespace Go.Proofs.Ytfmkbcmoibhffaa
/- THE CELL 'sum', in the pinned program and in every row, IS THE sha256 OF THE DUMP (.gsa) THAT YtfmkbcmoibhffaaProg.lean LOADS. Nothing in Lean hashes anything: it is a label: what it is worth is what the hold of that sum in a sandbox is worth. -/
noncomputable def Try.pinned : Pinned := { name := "ytfmkbcmoibhffaa", sum := "066ebccc0d414f3ef5c31b87677c9257f02bc1243736b31aaa2e56b35ed5bab2", checked := Try.checked }
namespace Rows
def none {H : Type} : Left H := { results := [], args := [] }

/-- 'laws.FnExactValidMap': WHATEVER THE INPUT: true; the input reads as it did. -/
def fnExactValidMapSpec : ChangeSpec := { name := "fnExactValidMap", fn := fun _ => fun
  | [d1, d2] => { results := [.lit (.bool true)], args := [d1, d2] }
  | _ => none }
def fnExactValidMapRow : OpenClaim := { program := "ytfmkbcmoibhffaa", sum := "066ebccc0d414f3ef5c31b87677c9257f02bc1243736b31aaa2e56b35ed5bab2", func := "loop.example/g00857/laws.FnExactValidMap", spec := "fnExactValidMap", apart := false }
def FnExactValidMapSaid : Prop := fnExactValidMapRow.holds Try.pinned (OpenSpec.ofChange fnExactValidMapSpec)

/-- ITS FALSE NEIGHBOUR: 'it returns false'. Refute it at one input. -/
def fnExactValidMapWrong : ChangeSpec := { name := "fnExactValidMap", fn := fun _ => fun
  | [d1, d2] => { results := [.lit (.bool false)], args := [d1, d2] }
  | _ => none }
def FnExactValidMapWrongFalsely : Prop := fnExactValidMapRow.holds Try.pinned (OpenSpec.ofChange fnExactValidMapWrong)

/-- 'laws.FnExactValidFrame': WHATEVER THE INPUT: true; the input reads as it did. -/
def fnExactValidFrameSpec : ChangeSpec := { name := "fnExactValidFrame", fn := fun _ => fun
  | [d] => { results := [.lit (.bool true)], args := [d] }
  | _ => none }
def fnExactValidFrameRow : OpenClaim := { program := "ytfmkbcmoibhffaa", sum := "066ebccc0d414f3ef5c31b87677c9257f02bc1243736b31aaa2e56b35ed5bab2", func := "loop.example/g00857/laws.FnExactValidFrame", spec := "fnExactValidFrame", apart := false }
def FnExactValidFrameSaid : Prop := fnExactValidFrameRow.holds Try.pinned (OpenSpec.ofChange fnExactValidFrameSpec)

/-- ITS FALSE NEIGHBOUR: 'it returns false'. Refute it at one input. -/
def fnExactValidFrameWrong : ChangeSpec := { name := "fnExactValidFrame", fn := fun _ => fun
  | [d] => { results := [.lit (.bool false)], args := [d] }
  | _ => none }
def FnExactValidFrameWrongFalsely : Prop := fnExactValidFrameRow.holds Try.pinned (OpenSpec.ofChange fnExactValidFrameWrong)

/-- 'laws.FnExactCellCenter': WHATEVER THE INPUT: true; the input reads as it did. -/
def fnExactCellCenterSpec : ChangeSpec := { name := "fnExactCellCenter", fn := fun _ => fun
  | [d1, d2, d3] => { results := [.lit (.bool true)], args := [d1, d2, d3] }
  | _ => none }
def fnExactCellCenterRow : OpenClaim := { program := "ytfmkbcmoibhffaa", sum := "066ebccc0d414f3ef5c31b87677c9257f02bc1243736b31aaa2e56b35ed5bab2", func := "loop.example/g00857/laws.FnExactCellCenter", spec := "fnExactCellCenter", unfollowed := true, recurses := true, apart := false }
def FnExactCellCenterSaid : Prop := fnExactCellCenterRow.holds Try.pinned (OpenSpec.ofChange fnExactCellCenterSpec)

/-- ITS FALSE NEIGHBOUR: 'it returns false'. Refute it at one input. -/
def fnExactCellCenterWrong : ChangeSpec := { name := "fnExactCellCenter", fn := fun _ => fun
  | [d1, d2, d3] => { results := [.lit (.bool false)], args := [d1, d2, d3] }
  | _ => none }
def FnExactCellCenterWrongFalsely : Prop := fnExactCellCenterRow.holds Try.pinned (OpenSpec.ofChange fnExactCellCenterWrong)

/-- 'laws.FnExactChangedCells': WHATEVER THE INPUT: true; the input reads as it did. -/
def fnExactChangedCellsSpec : ChangeSpec := { name := "fnExactChangedCells", fn := fun _ => fun
  | [d1, d2] => { results := [.lit (.bool true)], args := [d1, d2] }
  | _ => none }
def fnExactChangedCellsRow : OpenClaim := { program := "ytfmkbcmoibhffaa", sum := "066ebccc0d414f3ef5c31b87677c9257f02bc1243736b31aaa2e56b35ed5bab2", func := "loop.example/g00857/laws.FnExactChangedCells", spec := "fnExactChangedCells", unfollowed := true, recurses := true, apart := false }
def FnExactChangedCellsSaid : Prop := fnExactChangedCellsRow.holds Try.pinned (OpenSpec.ofChange fnExactChangedCellsSpec)

/-- ITS FALSE NEIGHBOUR: 'it returns false'. Refute it at one input. -/
def fnExactChangedCellsWrong : ChangeSpec := { name := "fnExactChangedCells", fn := fun _ => fun
  | [d1, d2] => { results := [.lit (.bool false)], args := [d1, d2] }
  | _ => none }
def FnExactChangedCellsWrongFalsely : Prop := fnExactChangedCellsRow.holds Try.pinned (OpenSpec.ofChange fnExactChangedCellsWrong)

/-- 'laws.FnExactPairsAt': WHATEVER THE INPUT: true; the input reads as it did. -/
def fnExactPairsAtSpec : ChangeSpec := { name := "fnExactPairsAt", fn := fun _ => fun
  | [d1, d2, d3] => { results := [.lit (.bool true)], args := [d1, d2, d3] }
  | _ => none }
def fnExactPairsAtRow : OpenClaim := { program := "ytfmkbcmoibhffaa", sum := "066ebccc0d414f3ef5c31b87677c9257f02bc1243736b31aaa2e56b35ed5bab2", func := "loop.example/g00857/laws.FnExactPairsAt", spec := "fnExactPairsAt", apart := false }
def FnExactPairsAtSaid : Prop := fnExactPairsAtRow.holds Try.pinned (OpenSpec.ofChange fnExactPairsAtSpec)

/-- ITS FALSE NEIGHBOUR: 'it returns false'. Refute it at one input. -/
def fnExactPairsAtWrong : ChangeSpec := { name := "fnExactPairsAt", fn := fun _ => fun
  | [d1, d2, d3] => { results := [.lit (.bool false)], args := [d1, d2, d3] }
  | _ => none }
def FnExactPairsAtWrongFalsely : Prop := fnExactPairsAtRow.holds Try.pinned (OpenSpec.ofChange fnExactPairsAtWrong)

/-- 'laws.FnExactRimOf': WHATEVER THE INPUT: true; the input reads as it did. -/
def fnExactRimOfSpec : ChangeSpec := { name := "fnExactRimOf", fn := fun _ => fun
  | [d] => { results := [.lit (.bool true)], args := [d] }
  | _ => none }
def fnExactRimOfRow : OpenClaim := { program := "ytfmkbcmoibhffaa", sum := "066ebccc0d414f3ef5c31b87677c9257f02bc1243736b31aaa2e56b35ed5bab2", func := "loop.example/g00857/laws.FnExactRimOf", spec := "fnExactRimOf", unfollowed := true, recurses := true, apart := false }
def FnExactRimOfSaid : Prop := fnExactRimOfRow.holds Try.pinned (OpenSpec.ofChange fnExactRimOfSpec)

/-- ITS FALSE NEIGHBOUR: 'it returns false'. Refute it at one input. -/
def fnExactRimOfWrong : ChangeSpec := { name := "fnExactRimOf", fn := fun _ => fun
  | [d] => { results := [.lit (.bool false)], args := [d] }
  | _ => none }
def FnExactRimOfWrongFalsely : Prop := fnExactRimOfRow.holds Try.pinned (OpenSpec.ofChange fnExactRimOfWrong)

/-- 'laws.FnGrids': WHATEVER THE INPUT: true; the input reads as it did. -/
def fnGridsSpec : ChangeSpec := { name := "fnGrids", fn := fun _ => fun
  | [d] => { results := [.lit (.bool true)], args := [d] }
  | _ => none }
def fnGridsRow : OpenClaim := { program := "ytfmkbcmoibhffaa", sum := "066ebccc0d414f3ef5c31b87677c9257f02bc1243736b31aaa2e56b35ed5bab2", func := "loop.example/g00857/laws.FnGrids", spec := "fnGrids", unfollowed := true, recurses := true, apart := false }
def FnGridsSaid : Prop := fnGridsRow.holds Try.pinned (OpenSpec.ofChange fnGridsSpec)

/-- ITS FALSE NEIGHBOUR: 'it returns false'. Refute it at one input. -/
def fnGridsWrong : ChangeSpec := { name := "fnGrids", fn := fun _ => fun
  | [d] => { results := [.lit (.bool false)], args := [d] }
  | _ => none }
def FnGridsWrongFalsely : Prop := fnGridsRow.holds Try.pinned (OpenSpec.ofChange fnGridsWrong)

/- THE SECOND FORM. 'bulk': how many values and letters a reading holds, each counted each time it is reached (what is shared counts as often as it is met; a slice's spare places count too). A statement '..UptoSaid' is the law's where the arguments, and the package variables that the reading takes, are together of bulk at most 1048576: NARROWER than '..Said'. Prove '..Said' where nothing that the law and all that it calls make is longer than what came in: it says more and counts as full. Else prove '..UptoSaid'. A law counts once. -/
mutual
def uptoBulk {H : Type} : DataW H → Nat
  | .lit (.string bytes) => bytes.length + 1
  | .lit _ => 1
  | .nil => 1
  | .ptr d => uptoBulk d + 1
  | .slice elems spare => uptoBulkAll elems + uptoBulkAll spare + 1
  | .agg parts => uptoBulkAll parts + 1
  | .iface _ d => uptoBulk d + 1
  | .map entries => uptoBulkEntries entries + 1
  | .held _ => 1
def uptoBulkAll {H : Type} : List (DataW H) → Nat
  | [] => 0
  | d :: r => uptoBulk d + uptoBulkAll r
def uptoBulkEntries {H : Type} : List (Lit × DataW H) → Nat
  | [] => 0
  | x :: r => uptoBulkEntry x + uptoBulkEntries r
def uptoBulkEntry {H : Type} : Lit × DataW H → Nat
  | (.string bytes, d) => bytes.length + uptoBulk d + 1
  | (_, d) => uptoBulk d + 1
 end
def uptoSmall : (H : Type) → List (DataW H) → Bool := fun _ ds => decide (uptoBulkAll ds ≤ 1048576)
def OpenSpec.upto (s : _root_.Go.ChangeSpec) : _root_.Go.OpenSpec := { _root_.Go.OpenSpec.ofChange s with cond := some uptoSmall }

/-- 'laws.FnExactValidMap', WHERE WHAT IT READS IS OF BULK AT MOST 1048576: true; the input reads as it did. -/
def fnExactValidMapUptoRow : OpenClaim := { program := "ytfmkbcmoibhffaa", sum := "066ebccc0d414f3ef5c31b87677c9257f02bc1243736b31aaa2e56b35ed5bab2", func := "loop.example/g00857/laws.FnExactValidMap", spec := "fnExactValidMap", apart := false, narrowed := true }
def FnExactValidMapUptoSaid : Prop := fnExactValidMapUptoRow.holds Try.pinned (OpenSpec.upto fnExactValidMapSpec)

/-- 'laws.FnExactValidFrame', WHERE WHAT IT READS IS OF BULK AT MOST 1048576: true; the input reads as it did. -/
def fnExactValidFrameUptoRow : OpenClaim := { program := "ytfmkbcmoibhffaa", sum := "066ebccc0d414f3ef5c31b87677c9257f02bc1243736b31aaa2e56b35ed5bab2", func := "loop.example/g00857/laws.FnExactValidFrame", spec := "fnExactValidFrame", apart := false, narrowed := true }
def FnExactValidFrameUptoSaid : Prop := fnExactValidFrameUptoRow.holds Try.pinned (OpenSpec.upto fnExactValidFrameSpec)

/-- 'laws.FnExactCellCenter', WHERE WHAT IT READS IS OF BULK AT MOST 1048576: true; the input reads as it did. -/
def fnExactCellCenterUptoRow : OpenClaim := { program := "ytfmkbcmoibhffaa", sum := "066ebccc0d414f3ef5c31b87677c9257f02bc1243736b31aaa2e56b35ed5bab2", func := "loop.example/g00857/laws.FnExactCellCenter", spec := "fnExactCellCenter", unfollowed := true, recurses := true, apart := false, narrowed := true }
def FnExactCellCenterUptoSaid : Prop := fnExactCellCenterUptoRow.holds Try.pinned (OpenSpec.upto fnExactCellCenterSpec)

/-- 'laws.FnExactChangedCells', WHERE WHAT IT READS IS OF BULK AT MOST 1048576: true; the input reads as it did. -/
def fnExactChangedCellsUptoRow : OpenClaim := { program := "ytfmkbcmoibhffaa", sum := "066ebccc0d414f3ef5c31b87677c9257f02bc1243736b31aaa2e56b35ed5bab2", func := "loop.example/g00857/laws.FnExactChangedCells", spec := "fnExactChangedCells", unfollowed := true, recurses := true, apart := false, narrowed := true }
def FnExactChangedCellsUptoSaid : Prop := fnExactChangedCellsUptoRow.holds Try.pinned (OpenSpec.upto fnExactChangedCellsSpec)

/-- 'laws.FnExactPairsAt', WHERE WHAT IT READS IS OF BULK AT MOST 1048576: true; the input reads as it did. -/
def fnExactPairsAtUptoRow : OpenClaim := { program := "ytfmkbcmoibhffaa", sum := "066ebccc0d414f3ef5c31b87677c9257f02bc1243736b31aaa2e56b35ed5bab2", func := "loop.example/g00857/laws.FnExactPairsAt", spec := "fnExactPairsAt", apart := false, narrowed := true }
def FnExactPairsAtUptoSaid : Prop := fnExactPairsAtUptoRow.holds Try.pinned (OpenSpec.upto fnExactPairsAtSpec)

/-- 'laws.FnExactRimOf', WHERE WHAT IT READS IS OF BULK AT MOST 1048576: true; the input reads as it did. -/
def fnExactRimOfUptoRow : OpenClaim := { program := "ytfmkbcmoibhffaa", sum := "066ebccc0d414f3ef5c31b87677c9257f02bc1243736b31aaa2e56b35ed5bab2", func := "loop.example/g00857/laws.FnExactRimOf", spec := "fnExactRimOf", unfollowed := true, recurses := true, apart := false, narrowed := true }
def FnExactRimOfUptoSaid : Prop := fnExactRimOfUptoRow.holds Try.pinned (OpenSpec.upto fnExactRimOfSpec)

/-- 'laws.FnGrids', WHERE WHAT IT READS IS OF BULK AT MOST 1048576: true; the input reads as it did. -/
def fnGridsUptoRow : OpenClaim := { program := "ytfmkbcmoibhffaa", sum := "066ebccc0d414f3ef5c31b87677c9257f02bc1243736b31aaa2e56b35ed5bab2", func := "loop.example/g00857/laws.FnGrids", spec := "fnGrids", unfollowed := true, recurses := true, apart := false, narrowed := true }
def FnGridsUptoSaid : Prop := fnGridsUptoRow.holds Try.pinned (OpenSpec.upto fnGridsSpec)

end Rows
end Go.Proofs.Ytfmkbcmoibhffaa
