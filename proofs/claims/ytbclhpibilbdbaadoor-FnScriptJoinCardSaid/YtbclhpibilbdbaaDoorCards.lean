/-
  DERIVED. GIVEN WITH THE SEED: THE CARDS: each row of YtbclhpibilbdbaaDoorRows.lean that lists a variable, with what it lists TIED to the program's text (the seventh form; the later family's looks); each row that meets fmt, with fmt's text TOLD by the authors' own Lean function (tested against real Go, not proved from fmt's source: count such statements apart). THE CARD IS WHAT COUNTS. Prove the row's statement (the work); the ties are given (YtbclhpibilbdbaaDoorTie.lean); close each card by the builder's one call (the guide's Derived/Test/ToyasCard.lean, 'card_holds'). Laid BY PROGRAM, IN A SANDBOX (cutbox-door.mjs). By AI agents, Wed Nov 11 2026. No macro, syntax, notation, axiom, sorry.
-/
import Derived.Test.YtbclhpibilbdbaaDoorRows
import GoSem.ClaimSeven
namespace Go.Proofs.YtbclhpibilbdbaaDoor
namespace Rows

/-- THE TIED CARD OF 'laws.FnScriptTake'. -/
def fnScriptTakeCard : Claim7 := { stood := { row := fnScriptTakeRow, standIns := [], harness := (true, "ec55175844c97dae0c39525c3cbd76e574cbb08ce04efcc70f7a43a288ebd1c2"), looks := true }, kinds := [], alts := [], laidByText := true, laidKinds := [.data, .data, .data, .data, .sentinel, .sentinel, .pinned], laidTests := true, laidLooks := .later }
def FnScriptTakeCardSaid : Prop := Claim7.holds Tryd.pinned (.plain (OpenSpec.ofChange fnScriptTakeSpec)) fnScriptTakeCard

/-- THE TIED CARD OF 'laws.FnScriptCut'. -/
def fnScriptCutCard : Claim7 := { stood := { row := fnScriptCutRow, standIns := [], harness := (true, "ec55175844c97dae0c39525c3cbd76e574cbb08ce04efcc70f7a43a288ebd1c2"), looks := true }, kinds := [], alts := [], laidByText := true, laidKinds := [.data, .data, .data, .data, .sentinel, .sentinel, .pinned], laidTests := true, laidLooks := .later }
def FnScriptCutCardSaid : Prop := Claim7.holds Tryd.pinned (.plain (OpenSpec.ofChange fnScriptCutSpec)) fnScriptCutCard

/-- THE TIED CARD OF 'laws.FnScriptWhat'. -/
def fnScriptWhatCard : Claim7 := { stood := { row := fnScriptWhatRow, standIns := [], harness := (true, "ec55175844c97dae0c39525c3cbd76e574cbb08ce04efcc70f7a43a288ebd1c2"), looks := true }, kinds := [], alts := [], laidByText := true, laidKinds := [.data, .data, .data, .data, .sentinel, .sentinel, .pinned], laidTests := true, laidLooks := .later }
def FnScriptWhatCardSaid : Prop := Claim7.holds Tryd.pinned (.plain (OpenSpec.ofChange fnScriptWhatSpec)) fnScriptWhatCard

/-- THE TIED CARD OF 'laws.FnExactExecute'. -/
def fnExactExecuteCard : Claim7 := { stood := { row := fnExactExecuteRow, standIns := [], harness := (true, "ec55175844c97dae0c39525c3cbd76e574cbb08ce04efcc70f7a43a288ebd1c2"), looks := true }, kinds := [], alts := [], laidByText := true, laidKinds := [.data, .data, .data, .data, .sentinel, .sentinel, .pinned], laidTests := true, laidLooks := .later }
def FnExactExecuteCardSaid : Prop := Claim7.holds Tryd.pinned (.plain (OpenSpec.ofChange fnExactExecuteSpec)) fnExactExecuteCard

/-- THE TIED CARD OF 'laws.FnScript'. -/
def fnScriptCard : Claim7 := { stood := { row := fnScriptRow, standIns := [], harness := (true, "ec55175844c97dae0c39525c3cbd76e574cbb08ce04efcc70f7a43a288ebd1c2"), looks := true }, kinds := [], alts := [], laidByText := true, laidKinds := [.data, .data, .data, .data, .sentinel, .sentinel, .pinned], laidTests := true, laidLooks := .later }
def FnScriptCardSaid : Prop := Claim7.holds Tryd.pinned (.plain (OpenSpec.ofChange fnScriptSpec)) fnScriptCard

/-- THE TIED CARD OF 'laws.FnScriptBad'. -/
def fnScriptBadCard : Claim7 := { stood := { row := fnScriptBadRow, standIns := [], harness := (true, "ec55175844c97dae0c39525c3cbd76e574cbb08ce04efcc70f7a43a288ebd1c2"), looks := true }, kinds := [], alts := [], laidByText := true, laidKinds := [.data, .data, .data, .data, .sentinel, .sentinel, .pinned], laidTests := true, laidLooks := .later }
def FnScriptBadCardSaid : Prop := Claim7.holds Tryd.pinned (.plain (OpenSpec.ofChange fnScriptBadSpec)) fnScriptBadCard

/-- THE TIED CARD OF 'laws.FnScriptDrop'. -/
def fnScriptDropCard : Claim7 := { stood := { row := fnScriptDropRow, standIns := [], harness := (true, "ec55175844c97dae0c39525c3cbd76e574cbb08ce04efcc70f7a43a288ebd1c2"), looks := true }, kinds := [], alts := [], laidByText := true, laidKinds := [.data, .data, .data, .data, .sentinel, .sentinel, .pinned], laidTests := true, laidLooks := .later }
def FnScriptDropCardSaid : Prop := Claim7.holds Tryd.pinned (.plain (OpenSpec.ofChange fnScriptDropSpec)) fnScriptDropCard

/-- THE TIED CARD OF 'laws.FnScriptJoin'. -/
def fnScriptJoinCard : Claim7 := { stood := { row := fnScriptJoinRow, standIns := [], harness := (true, "ec55175844c97dae0c39525c3cbd76e574cbb08ce04efcc70f7a43a288ebd1c2"), looks := true }, kinds := [], alts := [], laidByText := true, laidKinds := [.data, .data, .data, .data, .sentinel, .sentinel, .pinned], laidTests := true, laidLooks := .later }
def FnScriptJoinCardSaid : Prop := Claim7.holds Tryd.pinned (.plain (OpenSpec.ofChange fnScriptJoinSpec)) fnScriptJoinCard

/-- THE TIED CARD OF 'laws.FnScriptNo'. -/
def fnScriptNoCard : Claim7 := { stood := { row := fnScriptNoRow, standIns := [], harness := (true, "ec55175844c97dae0c39525c3cbd76e574cbb08ce04efcc70f7a43a288ebd1c2"), looks := true }, kinds := [], alts := [], laidByText := true, laidKinds := [.data, .data, .data, .data, .sentinel, .sentinel, .pinned], laidTests := true, laidLooks := .later }
def FnScriptNoCardSaid : Prop := Claim7.holds Tryd.pinned (.plain (OpenSpec.ofChange fnScriptNoSpec)) fnScriptNoCard

/-- THE SECOND FORM's CARD OF 'laws.FnScriptTake'. -/
def fnScriptTakeUptoCard : Claim7 := { stood := { row := fnScriptTakeUptoRow, standIns := [], harness := (true, "ec55175844c97dae0c39525c3cbd76e574cbb08ce04efcc70f7a43a288ebd1c2"), looks := true }, kinds := [], alts := [], laidByText := true, laidKinds := [.data, .data, .data, .data, .sentinel, .sentinel, .pinned], laidTests := true, laidLooks := .later }
def FnScriptTakeUptoCardSaid : Prop := Claim7.holds Tryd.pinned (.plain (OpenSpec.upto fnScriptTakeSpec)) fnScriptTakeUptoCard

/-- THE SECOND FORM's CARD OF 'laws.FnScriptCut'. -/
def fnScriptCutUptoCard : Claim7 := { stood := { row := fnScriptCutUptoRow, standIns := [], harness := (true, "ec55175844c97dae0c39525c3cbd76e574cbb08ce04efcc70f7a43a288ebd1c2"), looks := true }, kinds := [], alts := [], laidByText := true, laidKinds := [.data, .data, .data, .data, .sentinel, .sentinel, .pinned], laidTests := true, laidLooks := .later }
def FnScriptCutUptoCardSaid : Prop := Claim7.holds Tryd.pinned (.plain (OpenSpec.upto fnScriptCutSpec)) fnScriptCutUptoCard

/-- THE SECOND FORM's CARD OF 'laws.FnScriptWhat'. -/
def fnScriptWhatUptoCard : Claim7 := { stood := { row := fnScriptWhatUptoRow, standIns := [], harness := (true, "ec55175844c97dae0c39525c3cbd76e574cbb08ce04efcc70f7a43a288ebd1c2"), looks := true }, kinds := [], alts := [], laidByText := true, laidKinds := [.data, .data, .data, .data, .sentinel, .sentinel, .pinned], laidTests := true, laidLooks := .later }
def FnScriptWhatUptoCardSaid : Prop := Claim7.holds Tryd.pinned (.plain (OpenSpec.upto fnScriptWhatSpec)) fnScriptWhatUptoCard

/-- THE SECOND FORM's CARD OF 'laws.FnExactExecute'. -/
def fnExactExecuteUptoCard : Claim7 := { stood := { row := fnExactExecuteUptoRow, standIns := [], harness := (true, "ec55175844c97dae0c39525c3cbd76e574cbb08ce04efcc70f7a43a288ebd1c2"), looks := true }, kinds := [], alts := [], laidByText := true, laidKinds := [.data, .data, .data, .data, .sentinel, .sentinel, .pinned], laidTests := true, laidLooks := .later }
def FnExactExecuteUptoCardSaid : Prop := Claim7.holds Tryd.pinned (.plain (OpenSpec.upto fnExactExecuteSpec)) fnExactExecuteUptoCard

/-- THE SECOND FORM's CARD OF 'laws.FnScript'. -/
def fnScriptUptoCard : Claim7 := { stood := { row := fnScriptUptoRow, standIns := [], harness := (true, "ec55175844c97dae0c39525c3cbd76e574cbb08ce04efcc70f7a43a288ebd1c2"), looks := true }, kinds := [], alts := [], laidByText := true, laidKinds := [.data, .data, .data, .data, .sentinel, .sentinel, .pinned], laidTests := true, laidLooks := .later }
def FnScriptUptoCardSaid : Prop := Claim7.holds Tryd.pinned (.plain (OpenSpec.upto fnScriptSpec)) fnScriptUptoCard

/-- THE SECOND FORM's CARD OF 'laws.FnScriptBad'. -/
def fnScriptBadUptoCard : Claim7 := { stood := { row := fnScriptBadUptoRow, standIns := [], harness := (true, "ec55175844c97dae0c39525c3cbd76e574cbb08ce04efcc70f7a43a288ebd1c2"), looks := true }, kinds := [], alts := [], laidByText := true, laidKinds := [.data, .data, .data, .data, .sentinel, .sentinel, .pinned], laidTests := true, laidLooks := .later }
def FnScriptBadUptoCardSaid : Prop := Claim7.holds Tryd.pinned (.plain (OpenSpec.upto fnScriptBadSpec)) fnScriptBadUptoCard

/-- THE SECOND FORM's CARD OF 'laws.FnScriptDrop'. -/
def fnScriptDropUptoCard : Claim7 := { stood := { row := fnScriptDropUptoRow, standIns := [], harness := (true, "ec55175844c97dae0c39525c3cbd76e574cbb08ce04efcc70f7a43a288ebd1c2"), looks := true }, kinds := [], alts := [], laidByText := true, laidKinds := [.data, .data, .data, .data, .sentinel, .sentinel, .pinned], laidTests := true, laidLooks := .later }
def FnScriptDropUptoCardSaid : Prop := Claim7.holds Tryd.pinned (.plain (OpenSpec.upto fnScriptDropSpec)) fnScriptDropUptoCard

/-- THE SECOND FORM's CARD OF 'laws.FnScriptJoin'. -/
def fnScriptJoinUptoCard : Claim7 := { stood := { row := fnScriptJoinUptoRow, standIns := [], harness := (true, "ec55175844c97dae0c39525c3cbd76e574cbb08ce04efcc70f7a43a288ebd1c2"), looks := true }, kinds := [], alts := [], laidByText := true, laidKinds := [.data, .data, .data, .data, .sentinel, .sentinel, .pinned], laidTests := true, laidLooks := .later }
def FnScriptJoinUptoCardSaid : Prop := Claim7.holds Tryd.pinned (.plain (OpenSpec.upto fnScriptJoinSpec)) fnScriptJoinUptoCard

/-- THE SECOND FORM's CARD OF 'laws.FnScriptNo'. -/
def fnScriptNoUptoCard : Claim7 := { stood := { row := fnScriptNoUptoRow, standIns := [], harness := (true, "ec55175844c97dae0c39525c3cbd76e574cbb08ce04efcc70f7a43a288ebd1c2"), looks := true }, kinds := [], alts := [], laidByText := true, laidKinds := [.data, .data, .data, .data, .sentinel, .sentinel, .pinned], laidTests := true, laidLooks := .later }
def FnScriptNoUptoCardSaid : Prop := Claim7.holds Tryd.pinned (.plain (OpenSpec.upto fnScriptNoSpec)) fnScriptNoUptoCard
end Rows
end Go.Proofs.YtbclhpibilbdbaaDoor
