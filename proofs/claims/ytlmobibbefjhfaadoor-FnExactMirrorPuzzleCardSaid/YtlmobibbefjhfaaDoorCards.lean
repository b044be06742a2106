/-
  DERIVED. GIVEN WITH THE SEED: THE CARDS: each row of YtlmobibbefjhfaaDoorRows.lean that lists a variable, with what it lists TIED to the program's text (the seventh form; the later family's looks); each row that meets fmt, with fmt's text TOLD by the authors' own Lean function (tested against real Go, not proved from fmt's source: count such statements apart). THE CARD IS WHAT COUNTS. Prove the row's statement (the work); the ties are given (YtlmobibbefjhfaaDoorTie.lean); close each card by the builder's one call (the guide's Derived/Test/ToyasCard.lean, 'card_holds'). Laid BY PROGRAM, IN A SANDBOX (cutbox-door.mjs). By AI agents, Wed Nov 11 2026. No macro, syntax, notation, axiom, sorry.
-/
import Derived.Test.YtlmobibbefjhfaaDoorRows
import GoSem.ClaimSeven
namespace Go.Proofs.YtlmobibbefjhfaaDoor
namespace Rows

/-- THE TIED CARD OF 'laws.FnExactMirrorPuzzle'. -/
def fnExactMirrorPuzzleCard : Claim7 := { stood := { row := fnExactMirrorPuzzleRow, standIns := [], harness := (true, "d527db9a2d7a1e24f5ff20bd88fc114fa29d5bd56545b9ae659f397f5d2c9e5c"), looks := false }, kinds := [], alts := [], laidByText := true, laidKinds := [.data], laidTests := true, laidLooks := .later }
def FnExactMirrorPuzzleCardSaid : Prop := Claim7.holds Tryd.pinned (.plain (OpenSpec.ofChange fnExactMirrorPuzzleSpec)) fnExactMirrorPuzzleCard

/-- THE TIED CARD OF 'laws.FnExactTidyCuts'. -/
def fnExactTidyCutsCard : Claim7 := { stood := { row := fnExactTidyCutsRow, standIns := [], harness := (true, "d527db9a2d7a1e24f5ff20bd88fc114fa29d5bd56545b9ae659f397f5d2c9e5c"), looks := false }, kinds := [], alts := [], laidByText := true, laidKinds := [.data], laidTests := true, laidLooks := .later }
def FnExactTidyCutsCardSaid : Prop := Claim7.holds Tryd.pinned (.plain (OpenSpec.ofChange fnExactTidyCutsSpec)) fnExactTidyCutsCard

/-- THE TIED CARD OF 'laws.FnExactTurnPuzzle'. -/
def fnExactTurnPuzzleCard : Claim7 := { stood := { row := fnExactTurnPuzzleRow, standIns := [], harness := (true, "d527db9a2d7a1e24f5ff20bd88fc114fa29d5bd56545b9ae659f397f5d2c9e5c"), looks := false }, kinds := [], alts := [], laidByText := true, laidKinds := [.data], laidTests := true, laidLooks := .later }
def FnExactTurnPuzzleCardSaid : Prop := Claim7.holds Tryd.pinned (.plain (OpenSpec.ofChange fnExactTurnPuzzleSpec)) fnExactTurnPuzzleCard

/-- THE TIED CARD OF 'laws.FnFiguresAsSets'. -/
def fnFiguresAsSetsCard : Claim7 := { stood := { row := fnFiguresAsSetsRow, standIns := [], harness := (true, "d527db9a2d7a1e24f5ff20bd88fc114fa29d5bd56545b9ae659f397f5d2c9e5c"), looks := false }, kinds := [], alts := [], laidByText := true, laidKinds := [.data], laidTests := true, laidLooks := .later }
def FnFiguresAsSetsCardSaid : Prop := Claim7.holds Tryd.pinned (.plain (OpenSpec.ofChange fnFiguresAsSetsSpec)) fnFiguresAsSetsCard

/-- THE TIED CARD OF 'laws.FnFiguresTurned'. -/
def fnFiguresTurnedCard : Claim7 := { stood := { row := fnFiguresTurnedRow, standIns := [], harness := (true, "d527db9a2d7a1e24f5ff20bd88fc114fa29d5bd56545b9ae659f397f5d2c9e5c"), looks := false }, kinds := [], alts := [], laidByText := true, laidKinds := [.data], laidTests := true, laidLooks := .later }
def FnFiguresTurnedCardSaid : Prop := Claim7.holds Tryd.pinned (.plain (OpenSpec.ofChange fnFiguresTurnedSpec)) fnFiguresTurnedCard

/-- THE SECOND FORM's CARD OF 'laws.FnExactMirrorPuzzle'. -/
def fnExactMirrorPuzzleUptoCard : Claim7 := { stood := { row := fnExactMirrorPuzzleUptoRow, standIns := [], harness := (true, "d527db9a2d7a1e24f5ff20bd88fc114fa29d5bd56545b9ae659f397f5d2c9e5c"), looks := false }, kinds := [], alts := [], laidByText := true, laidKinds := [.data], laidTests := true, laidLooks := .later }
def FnExactMirrorPuzzleUptoCardSaid : Prop := Claim7.holds Tryd.pinned (.plain (OpenSpec.upto fnExactMirrorPuzzleSpec)) fnExactMirrorPuzzleUptoCard

/-- THE SECOND FORM's CARD OF 'laws.FnExactTidyCuts'. -/
def fnExactTidyCutsUptoCard : Claim7 := { stood := { row := fnExactTidyCutsUptoRow, standIns := [], harness := (true, "d527db9a2d7a1e24f5ff20bd88fc114fa29d5bd56545b9ae659f397f5d2c9e5c"), looks := false }, kinds := [], alts := [], laidByText := true, laidKinds := [.data], laidTests := true, laidLooks := .later }
def FnExactTidyCutsUptoCardSaid : Prop := Claim7.holds Tryd.pinned (.plain (OpenSpec.upto fnExactTidyCutsSpec)) fnExactTidyCutsUptoCard

/-- THE SECOND FORM's CARD OF 'laws.FnExactTurnPuzzle'. -/
def fnExactTurnPuzzleUptoCard : Claim7 := { stood := { row := fnExactTurnPuzzleUptoRow, standIns := [], harness := (true, "d527db9a2d7a1e24f5ff20bd88fc114fa29d5bd56545b9ae659f397f5d2c9e5c"), looks := false }, kinds := [], alts := [], laidByText := true, laidKinds := [.data], laidTests := true, laidLooks := .later }
def FnExactTurnPuzzleUptoCardSaid : Prop := Claim7.holds Tryd.pinned (.plain (OpenSpec.upto fnExactTurnPuzzleSpec)) fnExactTurnPuzzleUptoCard

/-- THE SECOND FORM's CARD OF 'laws.FnFiguresAsSets'. -/
def fnFiguresAsSetsUptoCard : Claim7 := { stood := { row := fnFiguresAsSetsUptoRow, standIns := [], harness := (true, "d527db9a2d7a1e24f5ff20bd88fc114fa29d5bd56545b9ae659f397f5d2c9e5c"), looks := false }, kinds := [], alts := [], laidByText := true, laidKinds := [.data], laidTests := true, laidLooks := .later }
def FnFiguresAsSetsUptoCardSaid : Prop := Claim7.holds Tryd.pinned (.plain (OpenSpec.upto fnFiguresAsSetsSpec)) fnFiguresAsSetsUptoCard

/-- THE SECOND FORM's CARD OF 'laws.FnFiguresTurned'. -/
def fnFiguresTurnedUptoCard : Claim7 := { stood := { row := fnFiguresTurnedUptoRow, standIns := [], harness := (true, "d527db9a2d7a1e24f5ff20bd88fc114fa29d5bd56545b9ae659f397f5d2c9e5c"), looks := false }, kinds := [], alts := [], laidByText := true, laidKinds := [.data], laidTests := true, laidLooks := .later }
def FnFiguresTurnedUptoCardSaid : Prop := Claim7.holds Tryd.pinned (.plain (OpenSpec.upto fnFiguresTurnedSpec)) fnFiguresTurnedUptoCard
end Rows
end Go.Proofs.YtlmobibbefjhfaaDoor
