/-
  DERIVED. GIVEN WITH THE SEED: THE CARDS: each row of YtdjecdghfmadoaaDoorRows.lean that lists a variable, with what it lists TIED to the program's text (the seventh form; the later family's looks); each row that meets fmt, with fmt's text TOLD by the authors' own Lean function (tested against real Go, not proved from fmt's source: count such statements apart). THE CARD IS WHAT COUNTS. Prove the row's statement (the work); the ties are given (YtdjecdghfmadoaaDoorTie.lean); close each card by the builder's one call (the guide's Derived/Test/ToyasCard.lean, 'card_holds'). Laid BY PROGRAM, IN A SANDBOX (cutbox-door.mjs). By AI agents, Wed Nov 11 2026. No macro, syntax, notation, axiom, sorry.
-/
import Derived.Test.YtdjecdghfmadoaaDoorRows
import GoSem.ClaimSeven
namespace Go.Proofs.YtdjecdghfmadoaaDoor
namespace Rows

/-- THE TIED CARD OF 'laws.FnExactTakePuzzle'. -/
def fnExactTakePuzzleCard : Claim7 := { stood := { row := fnExactTakePuzzleRow, standIns := [], harness := (true, "2bc61eda075730672dd659df7005063bb9b2a9fe2bfc52eaf279a426d7d19532"), looks := false }, kinds := [], alts := [], laidByText := true, laidKinds := [.data], laidTests := true, laidLooks := .later }
def FnExactTakePuzzleCardSaid : Prop := Claim7.holds Tryd.pinned (.plain (OpenSpec.ofChange fnExactTakePuzzleSpec)) fnExactTakePuzzleCard

/-- THE TIED CARD OF 'laws.FnExactIsSymmetric'. -/
def fnExactIsSymmetricCard : Claim7 := { stood := { row := fnExactIsSymmetricRow, standIns := [], harness := (true, "2bc61eda075730672dd659df7005063bb9b2a9fe2bfc52eaf279a426d7d19532"), looks := false }, kinds := [], alts := [], laidByText := true, laidKinds := [.data], laidTests := true, laidLooks := .later }
def FnExactIsSymmetricCardSaid : Prop := Claim7.holds Tryd.pinned (.plain (OpenSpec.ofChange fnExactIsSymmetricSpec)) fnExactIsSymmetricCard

/-- THE TIED CARD OF 'laws.FnExactIsShapeText'. -/
def fnExactIsShapeTextCard : Claim7 := { stood := { row := fnExactIsShapeTextRow, standIns := [], harness := (true, "2bc61eda075730672dd659df7005063bb9b2a9fe2bfc52eaf279a426d7d19532"), looks := false }, kinds := [], alts := [], laidByText := true, laidKinds := [.data, .pinned], laidTests := true, laidLooks := .later }
def FnExactIsShapeTextCardSaid : Prop := Claim7.holds Tryd.pinned (.plain (OpenSpec.ofChange fnExactIsShapeTextSpec)) fnExactIsShapeTextCard

/-- THE TIED CARD OF 'laws.FnExactPuzzleText'. -/
def fnExactPuzzleTextCard : Claim7 := { stood := { row := fnExactPuzzleTextRow, standIns := [], harness := (true, "2bc61eda075730672dd659df7005063bb9b2a9fe2bfc52eaf279a426d7d19532"), looks := false }, kinds := [], alts := [], laidByText := true, laidKinds := [.data, .data, .data], laidTests := true, laidLooks := .later }
def FnExactPuzzleTextCardSaid : Prop := Claim7.holds Tryd.pinned (.plain (OpenSpec.ofChange fnExactPuzzleTextSpec)) fnExactPuzzleTextCard

/-- THE TIED CARD OF 'laws.FnExactTurnShape'. -/
def fnExactTurnShapeCard : Claim7 := { stood := { row := fnExactTurnShapeRow, standIns := [], harness := (true, "2bc61eda075730672dd659df7005063bb9b2a9fe2bfc52eaf279a426d7d19532"), looks := false }, kinds := [], alts := [], laidByText := true, laidKinds := [.data, .pinned], laidTests := true, laidLooks := .later }
def FnExactTurnShapeCardSaid : Prop := Claim7.holds Tryd.pinned (.plain (OpenSpec.ofChange fnExactTurnShapeSpec)) fnExactTurnShapeCard

/-- THE SECOND FORM's CARD OF 'laws.FnExactTakePuzzle'. -/
def fnExactTakePuzzleUptoCard : Claim7 := { stood := { row := fnExactTakePuzzleUptoRow, standIns := [], harness := (true, "2bc61eda075730672dd659df7005063bb9b2a9fe2bfc52eaf279a426d7d19532"), looks := false }, kinds := [], alts := [], laidByText := true, laidKinds := [.data], laidTests := true, laidLooks := .later }
def FnExactTakePuzzleUptoCardSaid : Prop := Claim7.holds Tryd.pinned (.plain (OpenSpec.upto fnExactTakePuzzleSpec)) fnExactTakePuzzleUptoCard

/-- THE SECOND FORM's CARD OF 'laws.FnExactIsSymmetric'. -/
def fnExactIsSymmetricUptoCard : Claim7 := { stood := { row := fnExactIsSymmetricUptoRow, standIns := [], harness := (true, "2bc61eda075730672dd659df7005063bb9b2a9fe2bfc52eaf279a426d7d19532"), looks := false }, kinds := [], alts := [], laidByText := true, laidKinds := [.data], laidTests := true, laidLooks := .later }
def FnExactIsSymmetricUptoCardSaid : Prop := Claim7.holds Tryd.pinned (.plain (OpenSpec.upto fnExactIsSymmetricSpec)) fnExactIsSymmetricUptoCard

/-- THE SECOND FORM's CARD OF 'laws.FnExactIsShapeText'. -/
def fnExactIsShapeTextUptoCard : Claim7 := { stood := { row := fnExactIsShapeTextUptoRow, standIns := [], harness := (true, "2bc61eda075730672dd659df7005063bb9b2a9fe2bfc52eaf279a426d7d19532"), looks := false }, kinds := [], alts := [], laidByText := true, laidKinds := [.data, .pinned], laidTests := true, laidLooks := .later }
def FnExactIsShapeTextUptoCardSaid : Prop := Claim7.holds Tryd.pinned (.plain (OpenSpec.upto fnExactIsShapeTextSpec)) fnExactIsShapeTextUptoCard

/-- THE SECOND FORM's CARD OF 'laws.FnExactPuzzleText'. -/
def fnExactPuzzleTextUptoCard : Claim7 := { stood := { row := fnExactPuzzleTextUptoRow, standIns := [], harness := (true, "2bc61eda075730672dd659df7005063bb9b2a9fe2bfc52eaf279a426d7d19532"), looks := false }, kinds := [], alts := [], laidByText := true, laidKinds := [.data, .data, .data], laidTests := true, laidLooks := .later }
def FnExactPuzzleTextUptoCardSaid : Prop := Claim7.holds Tryd.pinned (.plain (OpenSpec.upto fnExactPuzzleTextSpec)) fnExactPuzzleTextUptoCard

/-- THE SECOND FORM's CARD OF 'laws.FnExactTurnShape'. -/
def fnExactTurnShapeUptoCard : Claim7 := { stood := { row := fnExactTurnShapeUptoRow, standIns := [], harness := (true, "2bc61eda075730672dd659df7005063bb9b2a9fe2bfc52eaf279a426d7d19532"), looks := false }, kinds := [], alts := [], laidByText := true, laidKinds := [.data, .pinned], laidTests := true, laidLooks := .later }
def FnExactTurnShapeUptoCardSaid : Prop := Claim7.holds Tryd.pinned (.plain (OpenSpec.upto fnExactTurnShapeSpec)) fnExactTurnShapeUptoCard
end Rows
end Go.Proofs.YtdjecdghfmadoaaDoor
