/-
  DERIVED. GIVEN WITH THE SEED: THE CARDS: each row of YtopifdmaaibcnaaDoorRows.lean that lists a variable, with what it lists TIED to the program's text (the seventh form; the later family's looks); each row that meets fmt, with fmt's text TOLD by the authors' own Lean function (tested against real Go, not proved from fmt's source: count such statements apart). THE CARD IS WHAT COUNTS. Prove the row's statement (the work); the ties are given (YtopifdmaaibcnaaDoorTie.lean); close each card by the builder's one call (the guide's Derived/Test/ToyasCard.lean, 'card_holds'). Laid BY PROGRAM, IN A SANDBOX (cutbox-door.mjs). By AI agents, Wed Nov 11 2026. No macro, syntax, notation, axiom, sorry.
-/
import Derived.Test.YtopifdmaaibcnaaDoorRows
import GoSem.ClaimSeven
namespace Go.Proofs.YtopifdmaaibcnaaDoor
namespace Rows

/-- THE TIED CARD OF 'laws.FnExactTakePuzzle'. -/
def fnExactTakePuzzleCard : Claim7 := { stood := { row := fnExactTakePuzzleRow, standIns := [], harness := (true, "3ca9b9a06bb7d2832fb6f08f025a4b98fbffa2255fd709b0a076cfd9a0d36f20"), looks := false }, kinds := [], alts := [], laidByText := true, laidKinds := [.data], laidTests := true, laidLooks := .later }
def FnExactTakePuzzleCardSaid : Prop := Claim7.holds Tryd.pinned (.plain (OpenSpec.ofChange fnExactTakePuzzleSpec)) fnExactTakePuzzleCard

/-- THE SECOND FORM's CARD OF 'laws.FnExactTakePuzzle'. -/
def fnExactTakePuzzleUptoCard : Claim7 := { stood := { row := fnExactTakePuzzleUptoRow, standIns := [], harness := (true, "3ca9b9a06bb7d2832fb6f08f025a4b98fbffa2255fd709b0a076cfd9a0d36f20"), looks := false }, kinds := [], alts := [], laidByText := true, laidKinds := [.data], laidTests := true, laidLooks := .later }
def FnExactTakePuzzleUptoCardSaid : Prop := Claim7.holds Tryd.pinned (.plain (OpenSpec.upto fnExactTakePuzzleSpec)) fnExactTakePuzzleUptoCard
end Rows
end Go.Proofs.YtopifdmaaibcnaaDoor
