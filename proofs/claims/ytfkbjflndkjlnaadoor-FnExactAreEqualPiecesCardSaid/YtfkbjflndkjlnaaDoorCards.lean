/-
  DERIVED. GIVEN WITH THE SEED: THE CARDS: each row of YtfkbjflndkjlnaaDoorRows.lean that lists a variable, with what it lists TIED to the program's text (the seventh form; the later family's looks); each row that meets fmt, with fmt's text TOLD by the authors' own Lean function (tested against real Go, not proved from fmt's source: count such statements apart). THE CARD IS WHAT COUNTS. Prove the row's statement (the work); the ties are given (YtfkbjflndkjlnaaDoorTie.lean); close each card by the builder's one call (the guide's Derived/Test/ToyasCard.lean, 'card_holds'). Laid BY PROGRAM, IN A SANDBOX (cutbox-door.mjs). By AI agents, Wed Nov 11 2026. No macro, syntax, notation, axiom, sorry.
-/
import Derived.Test.YtfkbjflndkjlnaaDoorRows
import GoSem.ClaimSeven
namespace Go.Proofs.YtfkbjflndkjlnaaDoor
namespace Rows

/-- THE TIED CARD OF 'laws.FnExactIsShapeText'. -/
def fnExactIsShapeTextCard : Claim7 := { stood := { row := fnExactIsShapeTextRow, standIns := [], harness := (true, "7acb72b89605b83a3a829b0a1b3267de01cf6e9a9e9f58503a4215a8e28491dc"), looks := false }, kinds := [], alts := [], laidByText := true, laidKinds := [.data, .pinned], laidTests := true, laidLooks := .later }
def FnExactIsShapeTextCardSaid : Prop := Claim7.holds Tryd.pinned (.plain (OpenSpec.ofChange fnExactIsShapeTextSpec)) fnExactIsShapeTextCard

/-- THE TIED CARD OF 'laws.FnExactTurnShape'. -/
def fnExactTurnShapeCard : Claim7 := { stood := { row := fnExactTurnShapeRow, standIns := [], harness := (true, "7acb72b89605b83a3a829b0a1b3267de01cf6e9a9e9f58503a4215a8e28491dc"), looks := false }, kinds := [], alts := [], laidByText := true, laidKinds := [.data, .pinned], laidTests := true, laidLooks := .later }
def FnExactTurnShapeCardSaid : Prop := Claim7.holds Tryd.pinned (.plain (OpenSpec.ofChange fnExactTurnShapeSpec)) fnExactTurnShapeCard

/-- THE TIED CARD OF 'laws.FnExactLeastShape'. -/
def fnExactLeastShapeCard : Claim7 := { stood := { row := fnExactLeastShapeRow, standIns := [], harness := (true, "7acb72b89605b83a3a829b0a1b3267de01cf6e9a9e9f58503a4215a8e28491dc"), looks := false }, kinds := [], alts := [], laidByText := true, laidKinds := [.data, .pinned], laidTests := true, laidLooks := .later }
def FnExactLeastShapeCardSaid : Prop := Claim7.holds Tryd.pinned (.plain (OpenSpec.ofChange fnExactLeastShapeSpec)) fnExactLeastShapeCard

/-- THE TIED CARD OF 'laws.FnExactPieceShape'. -/
def fnExactPieceShapeCard : Claim7 := { stood := { row := fnExactPieceShapeRow, standIns := [], harness := (true, "7acb72b89605b83a3a829b0a1b3267de01cf6e9a9e9f58503a4215a8e28491dc"), looks := false }, kinds := [], alts := [], laidByText := true, laidKinds := [.data, .pinned], laidTests := true, laidLooks := .later }
def FnExactPieceShapeCardSaid : Prop := Claim7.holds Tryd.pinned (.plain (OpenSpec.ofChange fnExactPieceShapeSpec)) fnExactPieceShapeCard

/-- THE TIED CARD OF 'laws.FnExactAreEqualPieces'. -/
def fnExactAreEqualPiecesCard : Claim7 := { stood := { row := fnExactAreEqualPiecesRow, standIns := [], harness := (true, "7acb72b89605b83a3a829b0a1b3267de01cf6e9a9e9f58503a4215a8e28491dc"), looks := false }, kinds := [], alts := [], laidByText := true, laidKinds := [.data, .pinned], laidTests := true, laidLooks := .later }
def FnExactAreEqualPiecesCardSaid : Prop := Claim7.holds Tryd.pinned (.plain (OpenSpec.ofChange fnExactAreEqualPiecesSpec)) fnExactAreEqualPiecesCard

/-- THE SECOND FORM's CARD OF 'laws.FnExactIsShapeText'. -/
def fnExactIsShapeTextUptoCard : Claim7 := { stood := { row := fnExactIsShapeTextUptoRow, standIns := [], harness := (true, "7acb72b89605b83a3a829b0a1b3267de01cf6e9a9e9f58503a4215a8e28491dc"), looks := false }, kinds := [], alts := [], laidByText := true, laidKinds := [.data, .pinned], laidTests := true, laidLooks := .later }
def FnExactIsShapeTextUptoCardSaid : Prop := Claim7.holds Tryd.pinned (.plain (OpenSpec.upto fnExactIsShapeTextSpec)) fnExactIsShapeTextUptoCard

/-- THE SECOND FORM's CARD OF 'laws.FnExactTurnShape'. -/
def fnExactTurnShapeUptoCard : Claim7 := { stood := { row := fnExactTurnShapeUptoRow, standIns := [], harness := (true, "7acb72b89605b83a3a829b0a1b3267de01cf6e9a9e9f58503a4215a8e28491dc"), looks := false }, kinds := [], alts := [], laidByText := true, laidKinds := [.data, .pinned], laidTests := true, laidLooks := .later }
def FnExactTurnShapeUptoCardSaid : Prop := Claim7.holds Tryd.pinned (.plain (OpenSpec.upto fnExactTurnShapeSpec)) fnExactTurnShapeUptoCard

/-- THE SECOND FORM's CARD OF 'laws.FnExactLeastShape'. -/
def fnExactLeastShapeUptoCard : Claim7 := { stood := { row := fnExactLeastShapeUptoRow, standIns := [], harness := (true, "7acb72b89605b83a3a829b0a1b3267de01cf6e9a9e9f58503a4215a8e28491dc"), looks := false }, kinds := [], alts := [], laidByText := true, laidKinds := [.data, .pinned], laidTests := true, laidLooks := .later }
def FnExactLeastShapeUptoCardSaid : Prop := Claim7.holds Tryd.pinned (.plain (OpenSpec.upto fnExactLeastShapeSpec)) fnExactLeastShapeUptoCard

/-- THE SECOND FORM's CARD OF 'laws.FnExactPieceShape'. -/
def fnExactPieceShapeUptoCard : Claim7 := { stood := { row := fnExactPieceShapeUptoRow, standIns := [], harness := (true, "7acb72b89605b83a3a829b0a1b3267de01cf6e9a9e9f58503a4215a8e28491dc"), looks := false }, kinds := [], alts := [], laidByText := true, laidKinds := [.data, .pinned], laidTests := true, laidLooks := .later }
def FnExactPieceShapeUptoCardSaid : Prop := Claim7.holds Tryd.pinned (.plain (OpenSpec.upto fnExactPieceShapeSpec)) fnExactPieceShapeUptoCard

/-- THE SECOND FORM's CARD OF 'laws.FnExactAreEqualPieces'. -/
def fnExactAreEqualPiecesUptoCard : Claim7 := { stood := { row := fnExactAreEqualPiecesUptoRow, standIns := [], harness := (true, "7acb72b89605b83a3a829b0a1b3267de01cf6e9a9e9f58503a4215a8e28491dc"), looks := false }, kinds := [], alts := [], laidByText := true, laidKinds := [.data, .pinned], laidTests := true, laidLooks := .later }
def FnExactAreEqualPiecesUptoCardSaid : Prop := Claim7.holds Tryd.pinned (.plain (OpenSpec.upto fnExactAreEqualPiecesSpec)) fnExactAreEqualPiecesUptoCard
end Rows
end Go.Proofs.YtfkbjflndkjlnaaDoor
