/-
  DERIVED. GIVEN WITH THE SEED: THE CARDS: each row of YtopifdmaaibcnaaGreatDoorRows.lean that lists a variable, with what it lists TIED to the program's text (the seventh form; the later family's looks); each row that meets fmt, with fmt's text TOLD by the authors' own Lean function (tested against real Go, not proved from fmt's source: count such statements apart). THE CARD IS WHAT COUNTS. Prove the row's statement (the work); the ties are given (YtopifdmaaibcnaaGreatDoorTie.lean); close each card by the builder's one call (the guide's Derived/Test/ToyasCard.lean, 'card_holds'). Laid BY PROGRAM, IN A SANDBOX (cutbox-door.mjs). By AI agents, Wed Nov 11 2026. No macro, syntax, notation, axiom, sorry.
-/
import Derived.Test.YtopifdmaaibcnaaGreatDoorRows
import GoSem.ClaimSeven
namespace Go.Proofs.YtopifdmaaibcnaaGreatDoor
namespace Rows

/-- THE TIED CARD OF 'laws.FnExactCountSolutions'. -/
def fnExactCountSolutionsCard : Claim7 := { stood := { row := fnExactCountSolutionsRow, standIns := [], harness := (true, "39ef3938e9328ee8eab3d59ddd5fb3c60070efc6c047d39546cbc96d7b751623"), looks := false }, kinds := [], alts := [], laidByText := true, laidKinds := [.data], laidTests := true, laidLooks := .later }
def FnExactCountSolutionsCardSaid : Prop := Claim7.holds Tryz.pinned (.plain (OpenSpec.ofChange fnExactCountSolutionsSpec)) fnExactCountSolutionsCard

/-- THE TIED CARD OF 'laws.FnExactHintOf'. -/
def fnExactHintOfCard : Claim7 := { stood := { row := fnExactHintOfRow, standIns := [], harness := (true, "39ef3938e9328ee8eab3d59ddd5fb3c60070efc6c047d39546cbc96d7b751623"), looks := false }, kinds := [], alts := [], laidByText := true, laidKinds := [.data], laidTests := true, laidLooks := .later }
def FnExactHintOfCardSaid : Prop := Claim7.holds Tryz.pinned (.plain (OpenSpec.ofChange fnExactHintOfSpec)) fnExactHintOfCard

/-- THE TIED CARD OF 'laws.FnExactSureMatches'. -/
def fnExactSureMatchesCard : Claim7 := { stood := { row := fnExactSureMatchesRow, standIns := [], harness := (true, "39ef3938e9328ee8eab3d59ddd5fb3c60070efc6c047d39546cbc96d7b751623"), looks := false }, kinds := [], alts := [], laidByText := true, laidKinds := [.data], laidTests := true, laidLooks := .later }
def FnExactSureMatchesCardSaid : Prop := Claim7.holds Tryz.pinned (.plain (OpenSpec.ofChange fnExactSureMatchesSpec)) fnExactSureMatchesCard

/-- THE TIED CARD OF 'laws.FnExactSureTaken'. -/
def fnExactSureTakenCard : Claim7 := { stood := { row := fnExactSureTakenRow, standIns := [], harness := (true, "39ef3938e9328ee8eab3d59ddd5fb3c60070efc6c047d39546cbc96d7b751623"), looks := false }, kinds := [], alts := [], laidByText := true, laidKinds := [.data], laidTests := true, laidLooks := .later }
def FnExactSureTakenCardSaid : Prop := Claim7.holds Tryz.pinned (.plain (OpenSpec.ofChange fnExactSureTakenSpec)) fnExactSureTakenCard

/-- THE TIED CARD OF 'laws.FnExactFirstSolution'. -/
def fnExactFirstSolutionCard : Claim7 := { stood := { row := fnExactFirstSolutionRow, standIns := [], harness := (true, "39ef3938e9328ee8eab3d59ddd5fb3c60070efc6c047d39546cbc96d7b751623"), looks := false }, kinds := [], alts := [], laidByText := true, laidKinds := [.data], laidTests := true, laidLooks := .later }
def FnExactFirstSolutionCardSaid : Prop := Claim7.holds Tryz.pinned (.plain (OpenSpec.ofChange fnExactFirstSolutionSpec)) fnExactFirstSolutionCard

/-- THE TIED CARD OF 'laws.FnExactSolutions'. -/
def fnExactSolutionsCard : Claim7 := { stood := { row := fnExactSolutionsRow, standIns := [], harness := (true, "39ef3938e9328ee8eab3d59ddd5fb3c60070efc6c047d39546cbc96d7b751623"), looks := false }, kinds := [], alts := [], laidByText := true, laidKinds := [.data], laidTests := true, laidLooks := .later }
def FnExactSolutionsCardSaid : Prop := Claim7.holds Tryz.pinned (.plain (OpenSpec.ofChange fnExactSolutionsSpec)) fnExactSolutionsCard

/-- THE TIED CARD OF 'laws.FnExactCountTruly'. -/
def fnExactCountTrulyCard : Claim7 := { stood := { row := fnExactCountTrulyRow, standIns := [], harness := (true, "39ef3938e9328ee8eab3d59ddd5fb3c60070efc6c047d39546cbc96d7b751623"), looks := false }, kinds := [], alts := [], laidByText := true, laidKinds := [.data], laidTests := true, laidLooks := .later }
def FnExactCountTrulyCardSaid : Prop := Claim7.holds Tryz.pinned (.plain (OpenSpec.ofChange fnExactCountTrulySpec)) fnExactCountTrulyCard

/-- THE SECOND FORM's CARD OF 'laws.FnExactCountSolutions'. -/
def fnExactCountSolutionsUptoCard : Claim7 := { stood := { row := fnExactCountSolutionsUptoRow, standIns := [], harness := (true, "39ef3938e9328ee8eab3d59ddd5fb3c60070efc6c047d39546cbc96d7b751623"), looks := false }, kinds := [], alts := [], laidByText := true, laidKinds := [.data], laidTests := true, laidLooks := .later }
def FnExactCountSolutionsUptoCardSaid : Prop := Claim7.holds Tryz.pinned (.plain (OpenSpec.upto fnExactCountSolutionsSpec)) fnExactCountSolutionsUptoCard

/-- THE SECOND FORM's CARD OF 'laws.FnExactHintOf'. -/
def fnExactHintOfUptoCard : Claim7 := { stood := { row := fnExactHintOfUptoRow, standIns := [], harness := (true, "39ef3938e9328ee8eab3d59ddd5fb3c60070efc6c047d39546cbc96d7b751623"), looks := false }, kinds := [], alts := [], laidByText := true, laidKinds := [.data], laidTests := true, laidLooks := .later }
def FnExactHintOfUptoCardSaid : Prop := Claim7.holds Tryz.pinned (.plain (OpenSpec.upto fnExactHintOfSpec)) fnExactHintOfUptoCard

/-- THE SECOND FORM's CARD OF 'laws.FnExactSureMatches'. -/
def fnExactSureMatchesUptoCard : Claim7 := { stood := { row := fnExactSureMatchesUptoRow, standIns := [], harness := (true, "39ef3938e9328ee8eab3d59ddd5fb3c60070efc6c047d39546cbc96d7b751623"), looks := false }, kinds := [], alts := [], laidByText := true, laidKinds := [.data], laidTests := true, laidLooks := .later }
def FnExactSureMatchesUptoCardSaid : Prop := Claim7.holds Tryz.pinned (.plain (OpenSpec.upto fnExactSureMatchesSpec)) fnExactSureMatchesUptoCard

/-- THE SECOND FORM's CARD OF 'laws.FnExactSureTaken'. -/
def fnExactSureTakenUptoCard : Claim7 := { stood := { row := fnExactSureTakenUptoRow, standIns := [], harness := (true, "39ef3938e9328ee8eab3d59ddd5fb3c60070efc6c047d39546cbc96d7b751623"), looks := false }, kinds := [], alts := [], laidByText := true, laidKinds := [.data], laidTests := true, laidLooks := .later }
def FnExactSureTakenUptoCardSaid : Prop := Claim7.holds Tryz.pinned (.plain (OpenSpec.upto fnExactSureTakenSpec)) fnExactSureTakenUptoCard

/-- THE SECOND FORM's CARD OF 'laws.FnExactFirstSolution'. -/
def fnExactFirstSolutionUptoCard : Claim7 := { stood := { row := fnExactFirstSolutionUptoRow, standIns := [], harness := (true, "39ef3938e9328ee8eab3d59ddd5fb3c60070efc6c047d39546cbc96d7b751623"), looks := false }, kinds := [], alts := [], laidByText := true, laidKinds := [.data], laidTests := true, laidLooks := .later }
def FnExactFirstSolutionUptoCardSaid : Prop := Claim7.holds Tryz.pinned (.plain (OpenSpec.upto fnExactFirstSolutionSpec)) fnExactFirstSolutionUptoCard

/-- THE SECOND FORM's CARD OF 'laws.FnExactSolutions'. -/
def fnExactSolutionsUptoCard : Claim7 := { stood := { row := fnExactSolutionsUptoRow, standIns := [], harness := (true, "39ef3938e9328ee8eab3d59ddd5fb3c60070efc6c047d39546cbc96d7b751623"), looks := false }, kinds := [], alts := [], laidByText := true, laidKinds := [.data], laidTests := true, laidLooks := .later }
def FnExactSolutionsUptoCardSaid : Prop := Claim7.holds Tryz.pinned (.plain (OpenSpec.upto fnExactSolutionsSpec)) fnExactSolutionsUptoCard

/-- THE SECOND FORM's CARD OF 'laws.FnExactCountTruly'. -/
def fnExactCountTrulyUptoCard : Claim7 := { stood := { row := fnExactCountTrulyUptoRow, standIns := [], harness := (true, "39ef3938e9328ee8eab3d59ddd5fb3c60070efc6c047d39546cbc96d7b751623"), looks := false }, kinds := [], alts := [], laidByText := true, laidKinds := [.data], laidTests := true, laidLooks := .later }
def FnExactCountTrulyUptoCardSaid : Prop := Claim7.holds Tryz.pinned (.plain (OpenSpec.upto fnExactCountTrulySpec)) fnExactCountTrulyUptoCard
end Rows
end Go.Proofs.YtopifdmaaibcnaaGreatDoor
