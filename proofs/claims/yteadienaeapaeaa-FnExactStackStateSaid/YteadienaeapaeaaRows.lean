/-
  No cell of these rows narrows 'for every input' (looked for: loops, veiled, ifaces, maps, wideKeys, modest, calm, conditions, laid).
  DERIVED. THE GIVEN ROWS OF THIS SEAT. 8 by the template 'for every input the law returns true; each argument reads behind the call as it read before'; 0 by the template 'total and deterministic' (their statements: YteadienaeapaeaaTotals.lean).
  GIVEN WITH THE SEED: the statements are not yours to turn. If you find one false, say at which input.
  Laid BY PROGRAM, IN A SANDBOX (cutbox-rows.mjs): the forced cells as the released guide's own fill.sh prints them over the translation 563a8d8431d46fde… (all of the seat's roots in one cut). By AI agents, Wed Nov 11 2026. No macro, syntax, notation, axiom, sorry.
-/
import Derived.Test.YteadienaeapaeaaChecked
import GoSem.Claim
import GoSem.ClaimJoined
import GoSem.ClaimMapViews
import Derived.JoinedTies
import Derived.KernelRfl
namespace Go.Proofs.Yteadienaeapaeaa
/- THE CELL 'sum', in the pinned program and in every row, IS THE sha256 OF THE DUMP (.gsa) THAT YteadienaeapaeaaProg.lean LOADS. Nothing in Lean hashes anything: it is a label: what it is worth is what the hold of that sum in a sandbox is worth. -/
noncomputable def Try.pinned : Pinned := { name := "yteadienaeapaeaa", sum := "563a8d8431d46fde5670113e865dd9ebfa8f478073715d5946bfe7e4d73d7d78", checked := Try.checked }
namespace Rows
def none {H : Type} : Left H := { results := [], args := [] }

/-- 'laws.FnStripBrute': WHATEVER THE INPUT: true; the input reads as it did. -/
def fnStripBruteSpec : ChangeSpec := { name := "fnStripBrute", fn := fun _ => fun
  | [d] => { results := [.lit (.bool true)], args := [d] }
  | _ => none }
def fnStripBruteRow : OpenClaim := { program := "yteadienaeapaeaa", sum := "563a8d8431d46fde5670113e865dd9ebfa8f478073715d5946bfe7e4d73d7d78", func := "loop.example/g00857/laws.FnStripBrute", spec := "fnStripBrute", inPlace := ["slices.overlaps[int64]"], unfollowed := true, recurses := true, apart := false }
def FnStripBruteSaid : Prop := fnStripBruteRow.holds Try.pinned (OpenSpec.ofChange fnStripBruteSpec)

/-- ITS FALSE NEIGHBOUR: 'it returns false'. Refute it at one input. -/
def fnStripBruteWrong : ChangeSpec := { name := "fnStripBrute", fn := fun _ => fun
  | [d] => { results := [.lit (.bool false)], args := [d] }
  | _ => none }
def FnStripBruteWrongFalsely : Prop := fnStripBruteRow.holds Try.pinned (OpenSpec.ofChange fnStripBruteWrong)

/-- 'laws.FnExactSameRun': WHATEVER THE INPUT: true; the input reads as it did. -/
def fnExactSameRunSpec : ChangeSpec := { name := "fnExactSameRun", fn := fun _ => fun
  | [d1, d2] => { results := [.lit (.bool true)], args := [d1, d2] }
  | _ => none }
def fnExactSameRunRow : OpenClaim := { program := "yteadienaeapaeaa", sum := "563a8d8431d46fde5670113e865dd9ebfa8f478073715d5946bfe7e4d73d7d78", func := "loop.example/g00857/laws.FnExactSameRun", spec := "fnExactSameRun", unfollowed := true, recurses := true, apart := false }
def FnExactSameRunSaid : Prop := fnExactSameRunRow.holds Try.pinned (OpenSpec.ofChange fnExactSameRunSpec)

/-- ITS FALSE NEIGHBOUR: 'it returns false'. Refute it at one input. -/
def fnExactSameRunWrong : ChangeSpec := { name := "fnExactSameRun", fn := fun _ => fun
  | [d1, d2] => { results := [.lit (.bool false)], args := [d1, d2] }
  | _ => none }
def FnExactSameRunWrongFalsely : Prop := fnExactSameRunRow.holds Try.pinned (OpenSpec.ofChange fnExactSameRunWrong)

/-- 'laws.FnExactCheckStack': WHATEVER THE INPUT: true; the input reads as it did. -/
def fnExactCheckStackSpec : ChangeSpec := { name := "fnExactCheckStack", fn := fun _ => fun
  | [d1, d2, d3] => { results := [.lit (.bool true)], args := [d1, d2, d3] }
  | _ => none }
def fnExactCheckStackRow : OpenClaim := { program := "yteadienaeapaeaa", sum := "563a8d8431d46fde5670113e865dd9ebfa8f478073715d5946bfe7e4d73d7d78", func := "loop.example/g00857/laws.FnExactCheckStack", spec := "fnExactCheckStack", recurses := true, apart := false }
def FnExactCheckStackSaid : Prop := fnExactCheckStackRow.holds Try.pinned (OpenSpec.ofChange fnExactCheckStackSpec)

/-- ITS FALSE NEIGHBOUR: 'it returns false'. Refute it at one input. -/
def fnExactCheckStackWrong : ChangeSpec := { name := "fnExactCheckStack", fn := fun _ => fun
  | [d1, d2, d3] => { results := [.lit (.bool false)], args := [d1, d2, d3] }
  | _ => none }
def FnExactCheckStackWrongFalsely : Prop := fnExactCheckStackRow.holds Try.pinned (OpenSpec.ofChange fnExactCheckStackWrong)

/-- 'laws.FnMapStacks': WHATEVER THE INPUT: true; the input reads as it did. -/
def fnMapStacksSpec : ChangeSpec := { name := "fnMapStacks", fn := fun _ => fun
  | [d] => { results := [.lit (.bool true)], args := [d] }
  | _ => none }
def fnMapStacksRow : OpenClaim := { program := "yteadienaeapaeaa", sum := "563a8d8431d46fde5670113e865dd9ebfa8f478073715d5946bfe7e4d73d7d78", func := "loop.example/g00857/laws.FnMapStacks", spec := "fnMapStacks", unfollowed := true, recurses := true, apart := false }
def FnMapStacksSaid : Prop := fnMapStacksRow.holds Try.pinned (OpenSpec.ofChange fnMapStacksSpec)

/-- ITS FALSE NEIGHBOUR: 'it returns false'. Refute it at one input. -/
def fnMapStacksWrong : ChangeSpec := { name := "fnMapStacks", fn := fun _ => fun
  | [d] => { results := [.lit (.bool false)], args := [d] }
  | _ => none }
def FnMapStacksWrongFalsely : Prop := fnMapStacksRow.holds Try.pinned (OpenSpec.ofChange fnMapStacksWrong)

/-- 'laws.FnExactCrossingOf': WHATEVER THE INPUT: true; the input reads as it did. -/
def fnExactCrossingOfSpec : ChangeSpec := { name := "fnExactCrossingOf", fn := fun _ => fun
  | [d1, d2, d3] => { results := [.lit (.bool true)], args := [d1, d2, d3] }
  | _ => none }
def fnExactCrossingOfRow : OpenClaim := { program := "yteadienaeapaeaa", sum := "563a8d8431d46fde5670113e865dd9ebfa8f478073715d5946bfe7e4d73d7d78", func := "loop.example/g00857/laws.FnExactCrossingOf", spec := "fnExactCrossingOf", recurses := true, apart := false }
def FnExactCrossingOfSaid : Prop := fnExactCrossingOfRow.holds Try.pinned (OpenSpec.ofChange fnExactCrossingOfSpec)

/-- ITS FALSE NEIGHBOUR: 'it returns false'. Refute it at one input. -/
def fnExactCrossingOfWrong : ChangeSpec := { name := "fnExactCrossingOf", fn := fun _ => fun
  | [d1, d2, d3] => { results := [.lit (.bool false)], args := [d1, d2, d3] }
  | _ => none }
def FnExactCrossingOfWrongFalsely : Prop := fnExactCrossingOfRow.holds Try.pinned (OpenSpec.ofChange fnExactCrossingOfWrong)

/-- 'laws.FnExactStackKinds': WHATEVER THE INPUT: true; the input reads as it did. -/
def fnExactStackKindsSpec : ChangeSpec := { name := "fnExactStackKinds", fn := fun _ => fun
  | [d1, d2, d3] => { results := [.lit (.bool true)], args := [d1, d2, d3] }
  | _ => none }
def fnExactStackKindsRow : OpenClaim := { program := "yteadienaeapaeaa", sum := "563a8d8431d46fde5670113e865dd9ebfa8f478073715d5946bfe7e4d73d7d78", func := "loop.example/g00857/laws.FnExactStackKinds", spec := "fnExactStackKinds", unfollowed := true, recurses := true, apart := false }
def FnExactStackKindsSaid : Prop := fnExactStackKindsRow.holds Try.pinned (OpenSpec.ofChange fnExactStackKindsSpec)

/-- ITS FALSE NEIGHBOUR: 'it returns false'. Refute it at one input. -/
def fnExactStackKindsWrong : ChangeSpec := { name := "fnExactStackKinds", fn := fun _ => fun
  | [d1, d2, d3] => { results := [.lit (.bool false)], args := [d1, d2, d3] }
  | _ => none }
def FnExactStackKindsWrongFalsely : Prop := fnExactStackKindsRow.holds Try.pinned (OpenSpec.ofChange fnExactStackKindsWrong)

/-- 'laws.FnExactStackState': WHATEVER THE INPUT: true; the input reads as it did. -/
def fnExactStackStateSpec : ChangeSpec := { name := "fnExactStackState", fn := fun _ => fun
  | [d1, d2, d3] => { results := [.lit (.bool true)], args := [d1, d2, d3] }
  | _ => none }
def fnExactStackStateRow : OpenClaim := { program := "yteadienaeapaeaa", sum := "563a8d8431d46fde5670113e865dd9ebfa8f478073715d5946bfe7e4d73d7d78", func := "loop.example/g00857/laws.FnExactStackState", spec := "fnExactStackState", recurses := true, apart := false }
def FnExactStackStateSaid : Prop := fnExactStackStateRow.holds Try.pinned (OpenSpec.ofChange fnExactStackStateSpec)

/-- ITS FALSE NEIGHBOUR: 'it returns false'. Refute it at one input. -/
def fnExactStackStateWrong : ChangeSpec := { name := "fnExactStackState", fn := fun _ => fun
  | [d1, d2, d3] => { results := [.lit (.bool false)], args := [d1, d2, d3] }
  | _ => none }
def FnExactStackStateWrongFalsely : Prop := fnExactStackStateRow.holds Try.pinned (OpenSpec.ofChange fnExactStackStateWrong)

/-- 'laws.FnExactMapPattern': WHATEVER THE INPUT: true; the input reads as it did. -/
def fnExactMapPatternSpec : ChangeSpec := { name := "fnExactMapPattern", fn := fun _ => fun
  | [d1, d2] => { results := [.lit (.bool true)], args := [d1, d2] }
  | _ => none }
def fnExactMapPatternRow : OpenClaim := { program := "yteadienaeapaeaa", sum := "563a8d8431d46fde5670113e865dd9ebfa8f478073715d5946bfe7e4d73d7d78", func := "loop.example/g00857/laws.FnExactMapPattern", spec := "fnExactMapPattern", unfollowed := true, recurses := true, apart := false }
def FnExactMapPatternSaid : Prop := fnExactMapPatternRow.holds Try.pinned (OpenSpec.ofChange fnExactMapPatternSpec)

/-- ITS FALSE NEIGHBOUR: 'it returns false'. Refute it at one input. -/
def fnExactMapPatternWrong : ChangeSpec := { name := "fnExactMapPattern", fn := fun _ => fun
  | [d1, d2] => { results := [.lit (.bool false)], args := [d1, d2] }
  | _ => none }
def FnExactMapPatternWrongFalsely : Prop := fnExactMapPatternRow.holds Try.pinned (OpenSpec.ofChange fnExactMapPatternWrong)

/- THE SECOND FORM. 'bulk': how many values and letters a reading holds, each counted each time it is reached (what is shared counts as often as it is met; a slice's spare places count too). A statement '..UptoSaid' is the law's where the arguments, and the package variables that the reading takes, are together of bulk at most 1048576: NARROWER than '..Said'. Prove '..Said' where nothing that the law and all that it calls make is longer than what came in: it says more and counts as full. Else prove '..UptoSaid'. A law counts once. -/
mutual
def uptoBulk {H : Type} : DataW H → Nat
  | .lit (.string bytes) => bytes.length + 1
  | .lit _ => 1
  | .nil => 1
  | .ptr d => uptoBulk d + 1
  | .slice elems spare => uptoBulkAll elems + uptoBulkAll spare + 1
  | .agg parts => uptoBulkAll parts + 1
  | .iface _ d => uptoBulk d + 1
  | .map entries => uptoBulkEntries entries + 1
  | .held _ => 1
def uptoBulkAll {H : Type} : List (DataW H) → Nat
  | [] => 0
  | d :: r => uptoBulk d + uptoBulkAll r
def uptoBulkEntries {H : Type} : List (Lit × DataW H) → Nat
  | [] => 0
  | x :: r => uptoBulkEntry x + uptoBulkEntries r
def uptoBulkEntry {H : Type} : Lit × DataW H → Nat
  | (.string bytes, d) => bytes.length + uptoBulk d + 1
  | (_, d) => uptoBulk d + 1
 end
def uptoSmall : (H : Type) → List (DataW H) → Bool := fun _ ds => decide (uptoBulkAll ds ≤ 1048576)
def OpenSpec.upto (s : _root_.Go.ChangeSpec) : _root_.Go.OpenSpec := { _root_.Go.OpenSpec.ofChange s with cond := some uptoSmall }

/-- 'laws.FnStripBrute', WHERE WHAT IT READS IS OF BULK AT MOST 1048576: true; the input reads as it did. -/
def fnStripBruteUptoRow : OpenClaim := { program := "yteadienaeapaeaa", sum := "563a8d8431d46fde5670113e865dd9ebfa8f478073715d5946bfe7e4d73d7d78", func := "loop.example/g00857/laws.FnStripBrute", spec := "fnStripBrute", inPlace := ["slices.overlaps[int64]"], unfollowed := true, recurses := true, apart := false, narrowed := true }
def FnStripBruteUptoSaid : Prop := fnStripBruteUptoRow.holds Try.pinned (OpenSpec.upto fnStripBruteSpec)

/-- 'laws.FnExactSameRun', WHERE WHAT IT READS IS OF BULK AT MOST 1048576: true; the input reads as it did. -/
def fnExactSameRunUptoRow : OpenClaim := { program := "yteadienaeapaeaa", sum := "563a8d8431d46fde5670113e865dd9ebfa8f478073715d5946bfe7e4d73d7d78", func := "loop.example/g00857/laws.FnExactSameRun", spec := "fnExactSameRun", unfollowed := true, recurses := true, apart := false, narrowed := true }
def FnExactSameRunUptoSaid : Prop := fnExactSameRunUptoRow.holds Try.pinned (OpenSpec.upto fnExactSameRunSpec)

/-- 'laws.FnExactCheckStack', WHERE WHAT IT READS IS OF BULK AT MOST 1048576: true; the input reads as it did. -/
def fnExactCheckStackUptoRow : OpenClaim := { program := "yteadienaeapaeaa", sum := "563a8d8431d46fde5670113e865dd9ebfa8f478073715d5946bfe7e4d73d7d78", func := "loop.example/g00857/laws.FnExactCheckStack", spec := "fnExactCheckStack", recurses := true, apart := false, narrowed := true }
def FnExactCheckStackUptoSaid : Prop := fnExactCheckStackUptoRow.holds Try.pinned (OpenSpec.upto fnExactCheckStackSpec)

/-- 'laws.FnMapStacks', WHERE WHAT IT READS IS OF BULK AT MOST 1048576: true; the input reads as it did. -/
def fnMapStacksUptoRow : OpenClaim := { program := "yteadienaeapaeaa", sum := "563a8d8431d46fde5670113e865dd9ebfa8f478073715d5946bfe7e4d73d7d78", func := "loop.example/g00857/laws.FnMapStacks", spec := "fnMapStacks", unfollowed := true, recurses := true, apart := false, narrowed := true }
def FnMapStacksUptoSaid : Prop := fnMapStacksUptoRow.holds Try.pinned (OpenSpec.upto fnMapStacksSpec)

/-- 'laws.FnExactCrossingOf', WHERE WHAT IT READS IS OF BULK AT MOST 1048576: true; the input reads as it did. -/
def fnExactCrossingOfUptoRow : OpenClaim := { program := "yteadienaeapaeaa", sum := "563a8d8431d46fde5670113e865dd9ebfa8f478073715d5946bfe7e4d73d7d78", func := "loop.example/g00857/laws.FnExactCrossingOf", spec := "fnExactCrossingOf", recurses := true, apart := false, narrowed := true }
def FnExactCrossingOfUptoSaid : Prop := fnExactCrossingOfUptoRow.holds Try.pinned (OpenSpec.upto fnExactCrossingOfSpec)

/-- 'laws.FnExactStackKinds', WHERE WHAT IT READS IS OF BULK AT MOST 1048576: true; the input reads as it did. -/
def fnExactStackKindsUptoRow : OpenClaim := { program := "yteadienaeapaeaa", sum := "563a8d8431d46fde5670113e865dd9ebfa8f478073715d5946bfe7e4d73d7d78", func := "loop.example/g00857/laws.FnExactStackKinds", spec := "fnExactStackKinds", unfollowed := true, recurses := true, apart := false, narrowed := true }
def FnExactStackKindsUptoSaid : Prop := fnExactStackKindsUptoRow.holds Try.pinned (OpenSpec.upto fnExactStackKindsSpec)

/-- 'laws.FnExactStackState', WHERE WHAT IT READS IS OF BULK AT MOST 1048576: true; the input reads as it did. -/
def fnExactStackStateUptoRow : OpenClaim := { program := "yteadienaeapaeaa", sum := "563a8d8431d46fde5670113e865dd9ebfa8f478073715d5946bfe7e4d73d7d78", func := "loop.example/g00857/laws.FnExactStackState", spec := "fnExactStackState", recurses := true, apart := false, narrowed := true }
def FnExactStackStateUptoSaid : Prop := fnExactStackStateUptoRow.holds Try.pinned (OpenSpec.upto fnExactStackStateSpec)

/-- 'laws.FnExactMapPattern', WHERE WHAT IT READS IS OF BULK AT MOST 1048576: true; the input reads as it did. -/
def fnExactMapPatternUptoRow : OpenClaim := { program := "yteadienaeapaeaa", sum := "563a8d8431d46fde5670113e865dd9ebfa8f478073715d5946bfe7e4d73d7d78", func := "loop.example/g00857/laws.FnExactMapPattern", spec := "fnExactMapPattern", unfollowed := true, recurses := true, apart := false, narrowed := true }
def FnExactMapPatternUptoSaid : Prop := fnExactMapPatternUptoRow.holds Try.pinned (OpenSpec.upto fnExactMapPatternSpec)

end Rows
end Go.Proofs.Yteadienaeapaeaa
