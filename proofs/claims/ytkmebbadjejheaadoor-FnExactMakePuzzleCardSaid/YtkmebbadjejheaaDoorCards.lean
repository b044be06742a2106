/-
  DERIVED. GIVEN WITH THE SEED: THE CARDS: each row of YtkmebbadjejheaaDoorRows.lean that lists a variable, with what it lists TIED to the program's text (the seventh form; the later family's looks); each row that meets fmt, with fmt's text TOLD by the authors' own Lean function (tested against real Go, not proved from fmt's source: count such statements apart). THE CARD IS WHAT COUNTS. Prove the row's statement (the work); the ties are given (YtkmebbadjejheaaDoorTie.lean); close each card by the builder's one call (the guide's Derived/Test/ToyasCard.lean, 'card_holds'). Laid BY PROGRAM, IN A SANDBOX (cutbox-door.mjs). By AI agents, Wed Nov 11 2026. No macro, syntax, notation, axiom, sorry.
-/
import Derived.Test.YtkmebbadjejheaaDoorRows
import GoSem.ClaimSeven
namespace Go.Proofs.YtkmebbadjejheaaDoor
namespace Rows

/-- THE TIED CARD OF 'laws.FnExactFirstDesk'. -/
def fnExactFirstDeskCard : Claim7 := { stood := { row := fnExactFirstDeskRow, standIns := [], harness := (true, "cb09cc3963aea7a3a6cae219bae116f4ac8d6d41a3569e759464a4017e6ba215"), looks := false }, kinds := [], alts := [], laidByText := true, laidKinds := [.data], laidTests := true, laidLooks := .later }
def FnExactFirstDeskCardSaid : Prop := Claim7.holds Tryd.pinned (.plain (OpenSpec.ofChange fnExactFirstDeskSpec)) fnExactFirstDeskCard

/-- THE TIED CARD OF 'laws.FnExactMakePuzzle'. -/
def fnExactMakePuzzleCard : Claim7 := { stood := { row := fnExactMakePuzzleRow, standIns := [], harness := (true, "cb09cc3963aea7a3a6cae219bae116f4ac8d6d41a3569e759464a4017e6ba215"), looks := false }, kinds := [], alts := [], laidByText := true, laidKinds := [.data], laidTests := true, laidLooks := .later }
def FnExactMakePuzzleCardSaid : Prop := Claim7.holds Tryd.pinned (.plain (OpenSpec.ofChange fnExactMakePuzzleSpec)) fnExactMakePuzzleCard

/-- THE SECOND FORM's CARD OF 'laws.FnExactFirstDesk'. -/
def fnExactFirstDeskUptoCard : Claim7 := { stood := { row := fnExactFirstDeskUptoRow, standIns := [], harness := (true, "cb09cc3963aea7a3a6cae219bae116f4ac8d6d41a3569e759464a4017e6ba215"), looks := false }, kinds := [], alts := [], laidByText := true, laidKinds := [.data], laidTests := true, laidLooks := .later }
def FnExactFirstDeskUptoCardSaid : Prop := Claim7.holds Tryd.pinned (.plain (OpenSpec.upto fnExactFirstDeskSpec)) fnExactFirstDeskUptoCard

/-- THE SECOND FORM's CARD OF 'laws.FnExactMakePuzzle'. -/
def fnExactMakePuzzleUptoCard : Claim7 := { stood := { row := fnExactMakePuzzleUptoRow, standIns := [], harness := (true, "cb09cc3963aea7a3a6cae219bae116f4ac8d6d41a3569e759464a4017e6ba215"), looks := false }, kinds := [], alts := [], laidByText := true, laidKinds := [.data], laidTests := true, laidLooks := .later }
def FnExactMakePuzzleUptoCardSaid : Prop := Claim7.holds Tryd.pinned (.plain (OpenSpec.upto fnExactMakePuzzleSpec)) fnExactMakePuzzleUptoCard
end Rows
end Go.Proofs.YtkmebbadjejheaaDoor
