/-
  DERIVED. GIVEN WITH THE SEED: THE CARDS: each row of YtflfkbnklncilaaGreatDoorRows.lean that lists a variable, with what it lists TIED to the program's text (the seventh form; the later family's looks); each row that meets fmt, with fmt's text TOLD by the authors' own Lean function (tested against real Go, not proved from fmt's source: count such statements apart). THE CARD IS WHAT COUNTS. Prove the row's statement (the work); the ties are given (YtflfkbnklncilaaGreatDoorTie.lean); close each card by the builder's one call (the guide's Derived/Test/ToyasCard.lean, 'card_holds'). Laid BY PROGRAM, IN A SANDBOX (cutbox-door.mjs). By AI agents, Wed Nov 11 2026. No macro, syntax, notation, axiom, sorry.
-/
import Derived.Test.YtflfkbnklncilaaGreatDoorRows
import GoSem.ClaimSeven
namespace Go.Proofs.YtflfkbnklncilaaGreatDoor
namespace Rows

/-- THE TIED CARD OF 'dragomanlaw15.CompilePrints'. -/
def compilePrintsCard : Claim7 := { stood := { row := compilePrintsRow, standIns := [], harness := (true, "d42af95e141ced16d6cc0db79b826c28491e332cee1cec6ef869e9bbf7727a61"), looks := true }, kinds := [], alts := [], laidByText := true, laidKinds := [.data, .data, .data], laidTests := true, laidLooks := .later }
def CompilePrintsCardSaid : Prop := Claim7.holds Tryz.pinned (.plain (OpenSpec.ofChange compilePrintsSpec)) compilePrintsCard

/-- THE TIED CARD OF 'dragomanlaw15.CompileBack'. -/
def compileBackCard : Claim7 := { stood := { row := compileBackRow, standIns := [], harness := (true, "d42af95e141ced16d6cc0db79b826c28491e332cee1cec6ef869e9bbf7727a61"), looks := true }, kinds := [], alts := [], laidByText := true, laidKinds := [.data, .data, .data], laidTests := true, laidLooks := .later }
def CompileBackCardSaid : Prop := Claim7.holds Tryz.pinned (.plain (OpenSpec.ofChange compileBackSpec)) compileBackCard

/-- THE TIED CARD OF 'dragomanlaw15.CompileNames'. -/
def compileNamesCard : Claim7 := { stood := { row := compileNamesRow, standIns := [], harness := (true, "d42af95e141ced16d6cc0db79b826c28491e332cee1cec6ef869e9bbf7727a61"), looks := true }, kinds := [], alts := [], laidByText := true, laidKinds := [.data, .data, .data], laidTests := true, laidLooks := .later }
def CompileNamesCardSaid : Prop := Claim7.holds Tryz.pinned (.plain (OpenSpec.ofChange compileNamesSpec)) compileNamesCard

/-- THE TIED CARD OF 'dragomanlaw15.CompileLines'. -/
def compileLinesCard : Claim7 := { stood := { row := compileLinesRow, standIns := [], harness := (true, "d42af95e141ced16d6cc0db79b826c28491e332cee1cec6ef869e9bbf7727a61"), looks := true }, kinds := [], alts := [], laidByText := true, laidKinds := [.data, .data, .data], laidTests := true, laidLooks := .later }
def CompileLinesCardSaid : Prop := Claim7.holds Tryz.pinned (.plain (OpenSpec.ofChange compileLinesSpec)) compileLinesCard

/-- THE TIED CARD OF 'dragomanlaw15.CompileLimits'. -/
def compileLimitsCard : Claim7 := { stood := { row := compileLimitsRow, standIns := [], harness := (true, "d42af95e141ced16d6cc0db79b826c28491e332cee1cec6ef869e9bbf7727a61"), looks := true }, kinds := [], alts := [], laidByText := true, laidKinds := [.data, .data, .data], laidTests := true, laidLooks := .later }
def CompileLimitsCardSaid : Prop := Claim7.holds Tryz.pinned (.plain (OpenSpec.ofChange compileLimitsSpec)) compileLimitsCard

/-- THE TIED CARD OF 'dragomanlaw16.RunBegins'. -/
def runBeginsCard : Claim7 := { stood := { row := runBeginsRow, standIns := [], harness := (true, "d42af95e141ced16d6cc0db79b826c28491e332cee1cec6ef869e9bbf7727a61"), looks := true }, kinds := [], alts := [], laidByText := true, laidKinds := [.data, .data, .data], laidTests := true, laidLooks := .later }
def RunBeginsCardSaid : Prop := Claim7.holds Tryz.pinned (.plain (OpenSpec.ofChange runBeginsSpec)) runBeginsCard

/-- THE TIED CARD OF 'dragomanlaw16.RunPieces'. -/
def runPiecesCard : Claim7 := { stood := { row := runPiecesRow, standIns := [], harness := (true, "d42af95e141ced16d6cc0db79b826c28491e332cee1cec6ef869e9bbf7727a61"), looks := true }, kinds := [], alts := [], laidByText := true, laidKinds := [.data, .data, .data], laidTests := true, laidLooks := .later }
def RunPiecesCardSaid : Prop := Claim7.holds Tryz.pinned (.plain (OpenSpec.ofChange runPiecesSpec)) runPiecesCard

/-- THE TIED CARD OF 'dragomanlaw16.RunMatches'. -/
def runMatchesCard : Claim7 := { stood := { row := runMatchesRow, standIns := [], harness := (true, "d42af95e141ced16d6cc0db79b826c28491e332cee1cec6ef869e9bbf7727a61"), looks := true }, kinds := [], alts := [], laidByText := true, laidKinds := [.data, .data, .data], laidTests := true, laidLooks := .later }
def RunMatchesCardSaid : Prop := Claim7.holds Tryz.pinned (.plain (OpenSpec.ofChange runMatchesSpec)) runMatchesCard

/-- THE TIED CARD OF 'dragomanlaw16.RunLimits'. -/
def runLimitsCard : Claim7 := { stood := { row := runLimitsRow, standIns := [], harness := (true, "d42af95e141ced16d6cc0db79b826c28491e332cee1cec6ef869e9bbf7727a61"), looks := true }, kinds := [], alts := [], laidByText := true, laidKinds := [.data, .data, .data], laidTests := true, laidLooks := .later }
def RunLimitsCardSaid : Prop := Claim7.holds Tryz.pinned (.plain (OpenSpec.ofChange runLimitsSpec)) runLimitsCard

/-- THE TIED CARD OF 'dragomanlaw16.RunTaken'. -/
def runTakenCard : Claim7 := { stood := { row := runTakenRow, standIns := [], harness := (true, "d42af95e141ced16d6cc0db79b826c28491e332cee1cec6ef869e9bbf7727a61"), looks := true }, kinds := [], alts := [], laidByText := true, laidKinds := [.data, .data, .data], laidTests := true, laidLooks := .later }
def RunTakenCardSaid : Prop := Claim7.holds Tryz.pinned (.plain (OpenSpec.ofChange runTakenSpec)) runTakenCard

/-- THE TIED CARD OF 'dragomanlaw16.RunNumbers'. -/
def runNumbersCard : Claim7 := { stood := { row := runNumbersRow, standIns := [], harness := (true, "d42af95e141ced16d6cc0db79b826c28491e332cee1cec6ef869e9bbf7727a61"), looks := true }, kinds := [], alts := [], laidByText := true, laidKinds := [.data, .data, .data], laidTests := true, laidLooks := .later }
def RunNumbersCardSaid : Prop := Claim7.holds Tryz.pinned (.plain (OpenSpec.ofChange runNumbersSpec)) runNumbersCard

/-- THE TIED CARD OF 'dragomanlaw16.RunEnds'. -/
def runEndsCard : Claim7 := { stood := { row := runEndsRow, standIns := [], harness := (true, "d42af95e141ced16d6cc0db79b826c28491e332cee1cec6ef869e9bbf7727a61"), looks := true }, kinds := [], alts := [], laidByText := true, laidKinds := [.data, .data, .data], laidTests := true, laidLooks := .later }
def RunEndsCardSaid : Prop := Claim7.holds Tryz.pinned (.plain (OpenSpec.ofChange runEndsSpec)) runEndsCard

/-- THE SECOND FORM's CARD OF 'dragomanlaw15.CompilePrints'. -/
def compilePrintsUptoCard : Claim7 := { stood := { row := compilePrintsUptoRow, standIns := [], harness := (true, "d42af95e141ced16d6cc0db79b826c28491e332cee1cec6ef869e9bbf7727a61"), looks := true }, kinds := [], alts := [], laidByText := true, laidKinds := [.data, .data, .data], laidTests := true, laidLooks := .later }
def CompilePrintsUptoCardSaid : Prop := Claim7.holds Tryz.pinned (.plain (OpenSpec.upto compilePrintsSpec)) compilePrintsUptoCard

/-- THE SECOND FORM's CARD OF 'dragomanlaw15.CompileBack'. -/
def compileBackUptoCard : Claim7 := { stood := { row := compileBackUptoRow, standIns := [], harness := (true, "d42af95e141ced16d6cc0db79b826c28491e332cee1cec6ef869e9bbf7727a61"), looks := true }, kinds := [], alts := [], laidByText := true, laidKinds := [.data, .data, .data], laidTests := true, laidLooks := .later }
def CompileBackUptoCardSaid : Prop := Claim7.holds Tryz.pinned (.plain (OpenSpec.upto compileBackSpec)) compileBackUptoCard

/-- THE SECOND FORM's CARD OF 'dragomanlaw15.CompileNames'. -/
def compileNamesUptoCard : Claim7 := { stood := { row := compileNamesUptoRow, standIns := [], harness := (true, "d42af95e141ced16d6cc0db79b826c28491e332cee1cec6ef869e9bbf7727a61"), looks := true }, kinds := [], alts := [], laidByText := true, laidKinds := [.data, .data, .data], laidTests := true, laidLooks := .later }
def CompileNamesUptoCardSaid : Prop := Claim7.holds Tryz.pinned (.plain (OpenSpec.upto compileNamesSpec)) compileNamesUptoCard

/-- THE SECOND FORM's CARD OF 'dragomanlaw15.CompileLines'. -/
def compileLinesUptoCard : Claim7 := { stood := { row := compileLinesUptoRow, standIns := [], harness := (true, "d42af95e141ced16d6cc0db79b826c28491e332cee1cec6ef869e9bbf7727a61"), looks := true }, kinds := [], alts := [], laidByText := true, laidKinds := [.data, .data, .data], laidTests := true, laidLooks := .later }
def CompileLinesUptoCardSaid : Prop := Claim7.holds Tryz.pinned (.plain (OpenSpec.upto compileLinesSpec)) compileLinesUptoCard

/-- THE SECOND FORM's CARD OF 'dragomanlaw15.CompileLimits'. -/
def compileLimitsUptoCard : Claim7 := { stood := { row := compileLimitsUptoRow, standIns := [], harness := (true, "d42af95e141ced16d6cc0db79b826c28491e332cee1cec6ef869e9bbf7727a61"), looks := true }, kinds := [], alts := [], laidByText := true, laidKinds := [.data, .data, .data], laidTests := true, laidLooks := .later }
def CompileLimitsUptoCardSaid : Prop := Claim7.holds Tryz.pinned (.plain (OpenSpec.upto compileLimitsSpec)) compileLimitsUptoCard

/-- THE SECOND FORM's CARD OF 'dragomanlaw16.RunBegins'. -/
def runBeginsUptoCard : Claim7 := { stood := { row := runBeginsUptoRow, standIns := [], harness := (true, "d42af95e141ced16d6cc0db79b826c28491e332cee1cec6ef869e9bbf7727a61"), looks := true }, kinds := [], alts := [], laidByText := true, laidKinds := [.data, .data, .data], laidTests := true, laidLooks := .later }
def RunBeginsUptoCardSaid : Prop := Claim7.holds Tryz.pinned (.plain (OpenSpec.upto runBeginsSpec)) runBeginsUptoCard

/-- THE SECOND FORM's CARD OF 'dragomanlaw16.RunPieces'. -/
def runPiecesUptoCard : Claim7 := { stood := { row := runPiecesUptoRow, standIns := [], harness := (true, "d42af95e141ced16d6cc0db79b826c28491e332cee1cec6ef869e9bbf7727a61"), looks := true }, kinds := [], alts := [], laidByText := true, laidKinds := [.data, .data, .data], laidTests := true, laidLooks := .later }
def RunPiecesUptoCardSaid : Prop := Claim7.holds Tryz.pinned (.plain (OpenSpec.upto runPiecesSpec)) runPiecesUptoCard

/-- THE SECOND FORM's CARD OF 'dragomanlaw16.RunMatches'. -/
def runMatchesUptoCard : Claim7 := { stood := { row := runMatchesUptoRow, standIns := [], harness := (true, "d42af95e141ced16d6cc0db79b826c28491e332cee1cec6ef869e9bbf7727a61"), looks := true }, kinds := [], alts := [], laidByText := true, laidKinds := [.data, .data, .data], laidTests := true, laidLooks := .later }
def RunMatchesUptoCardSaid : Prop := Claim7.holds Tryz.pinned (.plain (OpenSpec.upto runMatchesSpec)) runMatchesUptoCard

/-- THE SECOND FORM's CARD OF 'dragomanlaw16.RunLimits'. -/
def runLimitsUptoCard : Claim7 := { stood := { row := runLimitsUptoRow, standIns := [], harness := (true, "d42af95e141ced16d6cc0db79b826c28491e332cee1cec6ef869e9bbf7727a61"), looks := true }, kinds := [], alts := [], laidByText := true, laidKinds := [.data, .data, .data], laidTests := true, laidLooks := .later }
def RunLimitsUptoCardSaid : Prop := Claim7.holds Tryz.pinned (.plain (OpenSpec.upto runLimitsSpec)) runLimitsUptoCard

/-- THE SECOND FORM's CARD OF 'dragomanlaw16.RunTaken'. -/
def runTakenUptoCard : Claim7 := { stood := { row := runTakenUptoRow, standIns := [], harness := (true, "d42af95e141ced16d6cc0db79b826c28491e332cee1cec6ef869e9bbf7727a61"), looks := true }, kinds := [], alts := [], laidByText := true, laidKinds := [.data, .data, .data], laidTests := true, laidLooks := .later }
def RunTakenUptoCardSaid : Prop := Claim7.holds Tryz.pinned (.plain (OpenSpec.upto runTakenSpec)) runTakenUptoCard

/-- THE SECOND FORM's CARD OF 'dragomanlaw16.RunNumbers'. -/
def runNumbersUptoCard : Claim7 := { stood := { row := runNumbersUptoRow, standIns := [], harness := (true, "d42af95e141ced16d6cc0db79b826c28491e332cee1cec6ef869e9bbf7727a61"), looks := true }, kinds := [], alts := [], laidByText := true, laidKinds := [.data, .data, .data], laidTests := true, laidLooks := .later }
def RunNumbersUptoCardSaid : Prop := Claim7.holds Tryz.pinned (.plain (OpenSpec.upto runNumbersSpec)) runNumbersUptoCard

/-- THE SECOND FORM's CARD OF 'dragomanlaw16.RunEnds'. -/
def runEndsUptoCard : Claim7 := { stood := { row := runEndsUptoRow, standIns := [], harness := (true, "d42af95e141ced16d6cc0db79b826c28491e332cee1cec6ef869e9bbf7727a61"), looks := true }, kinds := [], alts := [], laidByText := true, laidKinds := [.data, .data, .data], laidTests := true, laidLooks := .later }
def RunEndsUptoCardSaid : Prop := Claim7.holds Tryz.pinned (.plain (OpenSpec.upto runEndsSpec)) runEndsUptoCard
end Rows
end Go.Proofs.YtflfkbnklncilaaGreatDoor
