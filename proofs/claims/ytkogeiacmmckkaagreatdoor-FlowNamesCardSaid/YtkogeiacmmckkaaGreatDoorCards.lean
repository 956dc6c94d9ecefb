/-
  DERIVED. GIVEN WITH THE SEED: THE CARDS: each row of YtkogeiacmmckkaaGreatDoorRows.lean that lists a variable, with what it lists TIED to the program's text (the seventh form; the later family's looks); each row that meets fmt, with fmt's text TOLD by the authors' own Lean function (tested against real Go, not proved from fmt's source: count such statements apart). THE CARD IS WHAT COUNTS. Prove the row's statement (the work); the ties are given (YtkogeiacmmckkaaGreatDoorTie.lean); close each card by the builder's one call (the guide's Derived/Test/ToyasCard.lean, 'card_holds'). Laid BY PROGRAM, IN A SANDBOX (cutbox-door.mjs). By AI agents, Wed Nov 11 2026. No macro, syntax, notation, axiom, sorry.
-/
import Derived.Test.YtkogeiacmmckkaaGreatDoorRows
import GoSem.ClaimSeven
namespace Go.Proofs.YtkogeiacmmckkaaGreatDoor
namespace Rows

/-- THE TIED CARD OF 'arguslaw08.FlowChecks'. -/
def flowChecksCard : Claim7 := { stood := { row := flowChecksRow, standIns := [], harness := (true, "50c3ce7dc696c71ef8a4ed887c2289f09903b060a54006b3442a8d4cd7a9db5b"), looks := true }, kinds := [], alts := [], laidByText := true, laidKinds := [.data, .data, .data], laidTests := true, laidLooks := .later }
def FlowChecksCardSaid : Prop := Claim7.holds Tryz.pinned (.plain (OpenSpec.ofChange flowChecksSpec)) flowChecksCard

/-- THE TIED CARD OF 'arguslaw08.FlowLists'. -/
def flowListsCard : Claim7 := { stood := { row := flowListsRow, standIns := [], harness := (true, "50c3ce7dc696c71ef8a4ed887c2289f09903b060a54006b3442a8d4cd7a9db5b"), looks := true }, kinds := [], alts := [], laidByText := true, laidKinds := [.data, .data, .data], laidTests := true, laidLooks := .later }
def FlowListsCardSaid : Prop := Claim7.holds Tryz.pinned (.plain (OpenSpec.ofChange flowListsSpec)) flowListsCard

/-- THE TIED CARD OF 'arguslaw08.FlowRuns'. -/
def flowRunsCard : Claim7 := { stood := { row := flowRunsRow, standIns := [], harness := (true, "50c3ce7dc696c71ef8a4ed887c2289f09903b060a54006b3442a8d4cd7a9db5b"), looks := true }, kinds := [], alts := [], laidByText := true, laidKinds := [.data, .data, .data], laidTests := true, laidLooks := .later }
def FlowRunsCardSaid : Prop := Claim7.holds Tryz.pinned (.plain (OpenSpec.ofChange flowRunsSpec)) flowRunsCard

/-- THE TIED CARD OF 'arguslaw08.FlowReads'. -/
def flowReadsCard : Claim7 := { stood := { row := flowReadsRow, standIns := [], harness := (true, "50c3ce7dc696c71ef8a4ed887c2289f09903b060a54006b3442a8d4cd7a9db5b"), looks := true }, kinds := [], alts := [], laidByText := true, laidKinds := [.data, .data, .data], laidTests := true, laidLooks := .later }
def FlowReadsCardSaid : Prop := Claim7.holds Tryz.pinned (.plain (OpenSpec.ofChange flowReadsSpec)) flowReadsCard

/-- THE TIED CARD OF 'arguslaw08.FlowSteps'. -/
def flowStepsCard : Claim7 := { stood := { row := flowStepsRow, standIns := [], harness := (true, "50c3ce7dc696c71ef8a4ed887c2289f09903b060a54006b3442a8d4cd7a9db5b"), looks := true }, kinds := [], alts := [], laidByText := true, laidKinds := [.data, .data, .data], laidTests := true, laidLooks := .later }
def FlowStepsCardSaid : Prop := Claim7.holds Tryz.pinned (.plain (OpenSpec.ofChange flowStepsSpec)) flowStepsCard

/-- THE TIED CARD OF 'arguslaw08.FlowBlocks'. -/
def flowBlocksCard : Claim7 := { stood := { row := flowBlocksRow, standIns := [], harness := (true, "50c3ce7dc696c71ef8a4ed887c2289f09903b060a54006b3442a8d4cd7a9db5b"), looks := true }, kinds := [], alts := [], laidByText := true, laidKinds := [.data, .data, .data], laidTests := true, laidLooks := .later }
def FlowBlocksCardSaid : Prop := Claim7.holds Tryz.pinned (.plain (OpenSpec.ofChange flowBlocksSpec)) flowBlocksCard

/-- THE TIED CARD OF 'arguslaw08.FlowDead'. -/
def flowDeadCard : Claim7 := { stood := { row := flowDeadRow, standIns := [], harness := (true, "50c3ce7dc696c71ef8a4ed887c2289f09903b060a54006b3442a8d4cd7a9db5b"), looks := true }, kinds := [], alts := [], laidByText := true, laidKinds := [.data, .data, .data], laidTests := true, laidLooks := .later }
def FlowDeadCardSaid : Prop := Claim7.holds Tryz.pinned (.plain (OpenSpec.ofChange flowDeadSpec)) flowDeadCard

/-- THE TIED CARD OF 'arguslaw08.FlowMemory'. -/
def flowMemoryCard : Claim7 := { stood := { row := flowMemoryRow, standIns := [], harness := (true, "50c3ce7dc696c71ef8a4ed887c2289f09903b060a54006b3442a8d4cd7a9db5b"), looks := true }, kinds := [], alts := [], laidByText := true, laidKinds := [.data, .data, .data], laidTests := true, laidLooks := .later }
def FlowMemoryCardSaid : Prop := Claim7.holds Tryz.pinned (.plain (OpenSpec.ofChange flowMemorySpec)) flowMemoryCard

/-- THE TIED CARD OF 'arguslaw08.FlowNames'. -/
def flowNamesCard : Claim7 := { stood := { row := flowNamesRow, standIns := [], harness := (true, "50c3ce7dc696c71ef8a4ed887c2289f09903b060a54006b3442a8d4cd7a9db5b"), looks := true }, kinds := [], alts := [], laidByText := true, laidKinds := [.data, .data, .data], laidTests := true, laidLooks := .later }
def FlowNamesCardSaid : Prop := Claim7.holds Tryz.pinned (.plain (OpenSpec.ofChange flowNamesSpec)) flowNamesCard

/-- THE TIED CARD OF 'arguslaw08.FlowSame'. -/
def flowSameCard : Claim7 := { stood := { row := flowSameRow, standIns := [], harness := (true, "50c3ce7dc696c71ef8a4ed887c2289f09903b060a54006b3442a8d4cd7a9db5b"), looks := true }, kinds := [], alts := [], laidByText := true, laidKinds := [.data, .data, .data], laidTests := true, laidLooks := .later }
def FlowSameCardSaid : Prop := Claim7.holds Tryz.pinned (.plain (OpenSpec.ofChange flowSameSpec)) flowSameCard

/-- THE TIED CARD OF 'arguslaw08.FlowTexts'. -/
def flowTextsCard : Claim7 := { stood := { row := flowTextsRow, standIns := [], harness := (true, "50c3ce7dc696c71ef8a4ed887c2289f09903b060a54006b3442a8d4cd7a9db5b"), looks := true }, kinds := [], alts := [], laidByText := true, laidKinds := [.data, .data, .data, .data, .sentinel, .sentinel, .pinned], laidTests := true, laidLooks := .later }
def FlowTextsCardSaid : Prop := Claim7.holds Tryz.pinned (.plain (OpenSpec.ofChange flowTextsSpec)) flowTextsCard

/-- THE SECOND FORM's CARD OF 'arguslaw08.FlowChecks'. -/
def flowChecksUptoCard : Claim7 := { stood := { row := flowChecksUptoRow, standIns := [], harness := (true, "50c3ce7dc696c71ef8a4ed887c2289f09903b060a54006b3442a8d4cd7a9db5b"), looks := true }, kinds := [], alts := [], laidByText := true, laidKinds := [.data, .data, .data], laidTests := true, laidLooks := .later }
def FlowChecksUptoCardSaid : Prop := Claim7.holds Tryz.pinned (.plain (OpenSpec.upto flowChecksSpec)) flowChecksUptoCard

/-- THE SECOND FORM's CARD OF 'arguslaw08.FlowLists'. -/
def flowListsUptoCard : Claim7 := { stood := { row := flowListsUptoRow, standIns := [], harness := (true, "50c3ce7dc696c71ef8a4ed887c2289f09903b060a54006b3442a8d4cd7a9db5b"), looks := true }, kinds := [], alts := [], laidByText := true, laidKinds := [.data, .data, .data], laidTests := true, laidLooks := .later }
def FlowListsUptoCardSaid : Prop := Claim7.holds Tryz.pinned (.plain (OpenSpec.upto flowListsSpec)) flowListsUptoCard

/-- THE SECOND FORM's CARD OF 'arguslaw08.FlowRuns'. -/
def flowRunsUptoCard : Claim7 := { stood := { row := flowRunsUptoRow, standIns := [], harness := (true, "50c3ce7dc696c71ef8a4ed887c2289f09903b060a54006b3442a8d4cd7a9db5b"), looks := true }, kinds := [], alts := [], laidByText := true, laidKinds := [.data, .data, .data], laidTests := true, laidLooks := .later }
def FlowRunsUptoCardSaid : Prop := Claim7.holds Tryz.pinned (.plain (OpenSpec.upto flowRunsSpec)) flowRunsUptoCard

/-- THE SECOND FORM's CARD OF 'arguslaw08.FlowReads'. -/
def flowReadsUptoCard : Claim7 := { stood := { row := flowReadsUptoRow, standIns := [], harness := (true, "50c3ce7dc696c71ef8a4ed887c2289f09903b060a54006b3442a8d4cd7a9db5b"), looks := true }, kinds := [], alts := [], laidByText := true, laidKinds := [.data, .data, .data], laidTests := true, laidLooks := .later }
def FlowReadsUptoCardSaid : Prop := Claim7.holds Tryz.pinned (.plain (OpenSpec.upto flowReadsSpec)) flowReadsUptoCard

/-- THE SECOND FORM's CARD OF 'arguslaw08.FlowSteps'. -/
def flowStepsUptoCard : Claim7 := { stood := { row := flowStepsUptoRow, standIns := [], harness := (true, "50c3ce7dc696c71ef8a4ed887c2289f09903b060a54006b3442a8d4cd7a9db5b"), looks := true }, kinds := [], alts := [], laidByText := true, laidKinds := [.data, .data, .data], laidTests := true, laidLooks := .later }
def FlowStepsUptoCardSaid : Prop := Claim7.holds Tryz.pinned (.plain (OpenSpec.upto flowStepsSpec)) flowStepsUptoCard

/-- THE SECOND FORM's CARD OF 'arguslaw08.FlowBlocks'. -/
def flowBlocksUptoCard : Claim7 := { stood := { row := flowBlocksUptoRow, standIns := [], harness := (true, "50c3ce7dc696c71ef8a4ed887c2289f09903b060a54006b3442a8d4cd7a9db5b"), looks := true }, kinds := [], alts := [], laidByText := true, laidKinds := [.data, .data, .data], laidTests := true, laidLooks := .later }
def FlowBlocksUptoCardSaid : Prop := Claim7.holds Tryz.pinned (.plain (OpenSpec.upto flowBlocksSpec)) flowBlocksUptoCard

/-- THE SECOND FORM's CARD OF 'arguslaw08.FlowDead'. -/
def flowDeadUptoCard : Claim7 := { stood := { row := flowDeadUptoRow, standIns := [], harness := (true, "50c3ce7dc696c71ef8a4ed887c2289f09903b060a54006b3442a8d4cd7a9db5b"), looks := true }, kinds := [], alts := [], laidByText := true, laidKinds := [.data, .data, .data], laidTests := true, laidLooks := .later }
def FlowDeadUptoCardSaid : Prop := Claim7.holds Tryz.pinned (.plain (OpenSpec.upto flowDeadSpec)) flowDeadUptoCard

/-- THE SECOND FORM's CARD OF 'arguslaw08.FlowMemory'. -/
def flowMemoryUptoCard : Claim7 := { stood := { row := flowMemoryUptoRow, standIns := [], harness := (true, "50c3ce7dc696c71ef8a4ed887c2289f09903b060a54006b3442a8d4cd7a9db5b"), looks := true }, kinds := [], alts := [], laidByText := true, laidKinds := [.data, .data, .data], laidTests := true, laidLooks := .later }
def FlowMemoryUptoCardSaid : Prop := Claim7.holds Tryz.pinned (.plain (OpenSpec.upto flowMemorySpec)) flowMemoryUptoCard

/-- THE SECOND FORM's CARD OF 'arguslaw08.FlowNames'. -/
def flowNamesUptoCard : Claim7 := { stood := { row := flowNamesUptoRow, standIns := [], harness := (true, "50c3ce7dc696c71ef8a4ed887c2289f09903b060a54006b3442a8d4cd7a9db5b"), looks := true }, kinds := [], alts := [], laidByText := true, laidKinds := [.data, .data, .data], laidTests := true, laidLooks := .later }
def FlowNamesUptoCardSaid : Prop := Claim7.holds Tryz.pinned (.plain (OpenSpec.upto flowNamesSpec)) flowNamesUptoCard

/-- THE SECOND FORM's CARD OF 'arguslaw08.FlowSame'. -/
def flowSameUptoCard : Claim7 := { stood := { row := flowSameUptoRow, standIns := [], harness := (true, "50c3ce7dc696c71ef8a4ed887c2289f09903b060a54006b3442a8d4cd7a9db5b"), looks := true }, kinds := [], alts := [], laidByText := true, laidKinds := [.data, .data, .data], laidTests := true, laidLooks := .later }
def FlowSameUptoCardSaid : Prop := Claim7.holds Tryz.pinned (.plain (OpenSpec.upto flowSameSpec)) flowSameUptoCard

/-- THE SECOND FORM's CARD OF 'arguslaw08.FlowTexts'. -/
def flowTextsUptoCard : Claim7 := { stood := { row := flowTextsUptoRow, standIns := [], harness := (true, "50c3ce7dc696c71ef8a4ed887c2289f09903b060a54006b3442a8d4cd7a9db5b"), looks := true }, kinds := [], alts := [], laidByText := true, laidKinds := [.data, .data, .data, .data, .sentinel, .sentinel, .pinned], laidTests := true, laidLooks := .later }
def FlowTextsUptoCardSaid : Prop := Claim7.holds Tryz.pinned (.plain (OpenSpec.upto flowTextsSpec)) flowTextsUptoCard
end Rows
end Go.Proofs.YtkogeiacmmckkaaGreatDoor
