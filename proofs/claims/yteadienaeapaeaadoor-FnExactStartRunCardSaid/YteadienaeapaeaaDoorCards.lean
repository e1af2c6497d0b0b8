/-
  DERIVED. GIVEN WITH THE SEED: THE CARDS: each row of YteadienaeapaeaaDoorRows.lean that lists a variable, with what it lists TIED to the program's text (the seventh form; the later family's looks); each row that meets fmt, with fmt's text TOLD by the authors' own Lean function (tested against real Go, not proved from fmt's source: count such statements apart). THE CARD IS WHAT COUNTS. Prove the row's statement (the work); the ties are given (YteadienaeapaeaaDoorTie.lean); close each card by the builder's one call (the guide's Derived/Test/ToyasCard.lean, 'card_holds'). Laid BY PROGRAM, IN A SANDBOX (cutbox-door.mjs). By AI agents, Wed Nov 11 2026. No macro, syntax, notation, axiom, sorry.
-/
import Derived.Test.YteadienaeapaeaaDoorRows
import GoSem.ClaimSeven
namespace Go.Proofs.YteadienaeapaeaaDoor
namespace Rows

/-- THE TIED CARD OF 'laws.FnExactValidStep'. -/
def fnExactValidStepCard : Claim7 := { stood := { row := fnExactValidStepRow, standIns := [], harness := (true, "43177b245779c98fe7c0afcb8212df7d7fb064b3933621a0e83aabe142a2b548"), looks := true }, kinds := [], alts := [], laidByText := true, laidKinds := [.data, .pinned], laidTests := true, laidLooks := .later }
def FnExactValidStepCardSaid : Prop := Claim7.holds Tryd.pinned (.plain (OpenSpec.ofChange fnExactValidStepSpec)) fnExactValidStepCard

/-- THE TIED CARD OF 'laws.FnExactValidProgram'. -/
def fnExactValidProgramCard : Claim7 := { stood := { row := fnExactValidProgramRow, standIns := [], harness := (true, "43177b245779c98fe7c0afcb8212df7d7fb064b3933621a0e83aabe142a2b548"), looks := true }, kinds := [], alts := [], laidByText := true, laidKinds := [.data, .pinned], laidTests := true, laidLooks := .later }
def FnExactValidProgramCardSaid : Prop := Claim7.holds Tryd.pinned (.plain (OpenSpec.ofChange fnExactValidProgramSpec)) fnExactValidProgramCard

/-- THE TIED CARD OF 'laws.FnExactFoldCount'. -/
def fnExactFoldCountCard : Claim7 := { stood := { row := fnExactFoldCountRow, standIns := [], harness := (true, "43177b245779c98fe7c0afcb8212df7d7fb064b3933621a0e83aabe142a2b548"), looks := true }, kinds := [], alts := [], laidByText := true, laidKinds := [.data, .pinned], laidTests := true, laidLooks := .later }
def FnExactFoldCountCardSaid : Prop := Claim7.holds Tryd.pinned (.plain (OpenSpec.ofChange fnExactFoldCountSpec)) fnExactFoldCountCard

/-- THE TIED CARD OF 'laws.FnExactStartRun'. -/
def fnExactStartRunCard : Claim7 := { stood := { row := fnExactStartRunRow, standIns := [], harness := (true, "43177b245779c98fe7c0afcb8212df7d7fb064b3933621a0e83aabe142a2b548"), looks := true }, kinds := [], alts := [], laidByText := true, laidKinds := [.data], laidTests := true, laidLooks := .later }
def FnExactStartRunCardSaid : Prop := Claim7.holds Tryd.pinned (.plain (OpenSpec.ofChange fnExactStartRunSpec)) fnExactStartRunCard

/-- THE TIED CARD OF 'laws.FnPrograms'. -/
def fnProgramsCard : Claim7 := { stood := { row := fnProgramsRow, standIns := [], harness := (true, "43177b245779c98fe7c0afcb8212df7d7fb064b3933621a0e83aabe142a2b548"), looks := true }, kinds := [], alts := [], laidByText := true, laidKinds := [.data, .pinned], laidTests := true, laidLooks := .later }
def FnProgramsCardSaid : Prop := Claim7.holds Tryd.pinned (.plain (OpenSpec.ofChange fnProgramsSpec)) fnProgramsCard

/-- THE TIED CARD OF 'laws.FnExactFirstUnnamed'. -/
def fnExactFirstUnnamedCard : Claim7 := { stood := { row := fnExactFirstUnnamedRow, standIns := [], harness := (true, "43177b245779c98fe7c0afcb8212df7d7fb064b3933621a0e83aabe142a2b548"), looks := true }, kinds := [], alts := [], laidByText := true, laidKinds := [.data, .pinned], laidTests := true, laidLooks := .later }
def FnExactFirstUnnamedCardSaid : Prop := Claim7.holds Tryd.pinned (.plain (OpenSpec.ofChange fnExactFirstUnnamedSpec)) fnExactFirstUnnamedCard

/-- THE TIED CARD OF 'laws.FnExactNamesOf'. -/
def fnExactNamesOfCard : Claim7 := { stood := { row := fnExactNamesOfRow, standIns := [], harness := (true, "43177b245779c98fe7c0afcb8212df7d7fb064b3933621a0e83aabe142a2b548"), looks := true }, kinds := [], alts := [], laidByText := true, laidKinds := [.data, .pinned], laidTests := true, laidLooks := .later }
def FnExactNamesOfCardSaid : Prop := Claim7.holds Tryd.pinned (.plain (OpenSpec.ofChange fnExactNamesOfSpec)) fnExactNamesOfCard

/-- THE TIED CARD OF 'laws.FnStripCount'. -/
def fnStripCountCard : Claim7 := { stood := { row := fnStripCountRow, standIns := [], harness := (true, "43177b245779c98fe7c0afcb8212df7d7fb064b3933621a0e83aabe142a2b548"), looks := true }, kinds := [], alts := [], laidByText := true, laidKinds := [.data, .data, .data, .sentinel, .sentinel], laidTests := true, laidLooks := .later }
def FnStripCountCardSaid : Prop := Claim7.holds Tryd.pinned (.plain (OpenSpec.ofChange fnStripCountSpec)) fnStripCountCard

/-- THE SECOND FORM's CARD OF 'laws.FnExactValidStep'. -/
def fnExactValidStepUptoCard : Claim7 := { stood := { row := fnExactValidStepUptoRow, standIns := [], harness := (true, "43177b245779c98fe7c0afcb8212df7d7fb064b3933621a0e83aabe142a2b548"), looks := true }, kinds := [], alts := [], laidByText := true, laidKinds := [.data, .pinned], laidTests := true, laidLooks := .later }
def FnExactValidStepUptoCardSaid : Prop := Claim7.holds Tryd.pinned (.plain (OpenSpec.upto fnExactValidStepSpec)) fnExactValidStepUptoCard

/-- THE SECOND FORM's CARD OF 'laws.FnExactValidProgram'. -/
def fnExactValidProgramUptoCard : Claim7 := { stood := { row := fnExactValidProgramUptoRow, standIns := [], harness := (true, "43177b245779c98fe7c0afcb8212df7d7fb064b3933621a0e83aabe142a2b548"), looks := true }, kinds := [], alts := [], laidByText := true, laidKinds := [.data, .pinned], laidTests := true, laidLooks := .later }
def FnExactValidProgramUptoCardSaid : Prop := Claim7.holds Tryd.pinned (.plain (OpenSpec.upto fnExactValidProgramSpec)) fnExactValidProgramUptoCard

/-- THE SECOND FORM's CARD OF 'laws.FnExactFoldCount'. -/
def fnExactFoldCountUptoCard : Claim7 := { stood := { row := fnExactFoldCountUptoRow, standIns := [], harness := (true, "43177b245779c98fe7c0afcb8212df7d7fb064b3933621a0e83aabe142a2b548"), looks := true }, kinds := [], alts := [], laidByText := true, laidKinds := [.data, .pinned], laidTests := true, laidLooks := .later }
def FnExactFoldCountUptoCardSaid : Prop := Claim7.holds Tryd.pinned (.plain (OpenSpec.upto fnExactFoldCountSpec)) fnExactFoldCountUptoCard

/-- THE SECOND FORM's CARD OF 'laws.FnExactStartRun'. -/
def fnExactStartRunUptoCard : Claim7 := { stood := { row := fnExactStartRunUptoRow, standIns := [], harness := (true, "43177b245779c98fe7c0afcb8212df7d7fb064b3933621a0e83aabe142a2b548"), looks := true }, kinds := [], alts := [], laidByText := true, laidKinds := [.data], laidTests := true, laidLooks := .later }
def FnExactStartRunUptoCardSaid : Prop := Claim7.holds Tryd.pinned (.plain (OpenSpec.upto fnExactStartRunSpec)) fnExactStartRunUptoCard

/-- THE SECOND FORM's CARD OF 'laws.FnPrograms'. -/
def fnProgramsUptoCard : Claim7 := { stood := { row := fnProgramsUptoRow, standIns := [], harness := (true, "43177b245779c98fe7c0afcb8212df7d7fb064b3933621a0e83aabe142a2b548"), looks := true }, kinds := [], alts := [], laidByText := true, laidKinds := [.data, .pinned], laidTests := true, laidLooks := .later }
def FnProgramsUptoCardSaid : Prop := Claim7.holds Tryd.pinned (.plain (OpenSpec.upto fnProgramsSpec)) fnProgramsUptoCard

/-- THE SECOND FORM's CARD OF 'laws.FnExactFirstUnnamed'. -/
def fnExactFirstUnnamedUptoCard : Claim7 := { stood := { row := fnExactFirstUnnamedUptoRow, standIns := [], harness := (true, "43177b245779c98fe7c0afcb8212df7d7fb064b3933621a0e83aabe142a2b548"), looks := true }, kinds := [], alts := [], laidByText := true, laidKinds := [.data, .pinned], laidTests := true, laidLooks := .later }
def FnExactFirstUnnamedUptoCardSaid : Prop := Claim7.holds Tryd.pinned (.plain (OpenSpec.upto fnExactFirstUnnamedSpec)) fnExactFirstUnnamedUptoCard

/-- THE SECOND FORM's CARD OF 'laws.FnExactNamesOf'. -/
def fnExactNamesOfUptoCard : Claim7 := { stood := { row := fnExactNamesOfUptoRow, standIns := [], harness := (true, "43177b245779c98fe7c0afcb8212df7d7fb064b3933621a0e83aabe142a2b548"), looks := true }, kinds := [], alts := [], laidByText := true, laidKinds := [.data, .pinned], laidTests := true, laidLooks := .later }
def FnExactNamesOfUptoCardSaid : Prop := Claim7.holds Tryd.pinned (.plain (OpenSpec.upto fnExactNamesOfSpec)) fnExactNamesOfUptoCard

/-- THE SECOND FORM's CARD OF 'laws.FnStripCount'. -/
def fnStripCountUptoCard : Claim7 := { stood := { row := fnStripCountUptoRow, standIns := [], harness := (true, "43177b245779c98fe7c0afcb8212df7d7fb064b3933621a0e83aabe142a2b548"), looks := true }, kinds := [], alts := [], laidByText := true, laidKinds := [.data, .data, .data, .sentinel, .sentinel], laidTests := true, laidLooks := .later }
def FnStripCountUptoCardSaid : Prop := Claim7.holds Tryd.pinned (.plain (OpenSpec.upto fnStripCountSpec)) fnStripCountUptoCard
end Rows
end Go.Proofs.YteadienaeapaeaaDoor
