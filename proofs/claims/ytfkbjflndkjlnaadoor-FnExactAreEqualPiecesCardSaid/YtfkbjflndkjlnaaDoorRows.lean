/-
  NARROWER THAN 'FOR EVERY INPUT', by the rows' own cells (each row's printed sentence says how): FnExactIsShapeText: laid · FnExactTurnShape: laid · FnExactLeastShape: laid · FnExactPieceShape: laid · FnExactAreEqualPieces: laid.
  DERIVED. THE GIVEN ROWS OF THIS SEAT. 5 by the template 'for every input the law returns true; each argument reads behind the call as it read before'; 0 by the template 'total and deterministic' (their statements: YtfkbjflndkjlnaaDoorTotals.lean).
  GIVEN WITH THE SEED: the statements are not yours to turn. If you find one false, say at which input.
  Laid BY PROGRAM, IN A SANDBOX (cutbox-rows.mjs): the forced cells as the released guide's own fill.sh prints them over the translation def2a9306c62fa8f… (all of the seat's roots in one cut). By AI agents, Wed Nov 11 2026. No macro, syntax, notation, axiom, sorry.
-/
import Derived.Test.YtfkbjflndkjlnaaDoorChecked
import GoSem.PinnedTables
import GoSem.Claim
import GoSem.ClaimJoined
import GoSem.ClaimMapViews
import Derived.JoinedTies
import Derived.KernelRfl
namespace Go.Proofs.YtfkbjflndkjlnaaDoor
/- THE CELL 'sum', in the pinned program and in every row, IS THE sha256 OF THE DUMP (.gsa) THAT YtfkbjflndkjlnaaDoorProg.lean LOADS. Nothing in Lean hashes anything: it is a label: what it is worth is what the hold of that sum in a sandbox is worth. -/
noncomputable def Tryd.pinned : Pinned := { name := "ytfkbjflndkjlnaadoor", sum := "def2a9306c62fa8f70d83f84f0ef668d4d5c8a7d000663d4e3d6492b0e0e6abc", checked := Tryd.checked }
namespace Rows
def none {H : Type} : Left H := { results := [], args := [] }

/- WHAT THE LISTED PACKAGE-LEVEL VARIABLES READ AS WHEN THE CALL BEGINS. Each datum BY PROGRAM (the guide's laid-datum.mjs) off the statement by which the dump's own 'gosem.cut.vars' lays the variable. In a bare row this is a premise. The card (YtfkbjflndkjlnaaDoorCards.lean) ties it to the program's text. -/
def laid_unicode_utf8_acceptRanges {H : Type} : DataW H := .agg [.agg [.lit (.int .u8 128), .lit (.int .u8 191)], .agg [.lit (.int .u8 160), .lit (.int .u8 191)], .agg [.lit (.int .u8 128), .lit (.int .u8 159)], .agg [.lit (.int .u8 144), .lit (.int .u8 191)], .agg [.lit (.int .u8 128), .lit (.int .u8 143)], .agg [.lit (.int .u8 0), .lit (.int .u8 0)], .agg [.lit (.int .u8 0), .lit (.int .u8 0)], .agg [.lit (.int .u8 0), .lit (.int .u8 0)], .agg [.lit (.int .u8 0), .lit (.int .u8 0)], .agg [.lit (.int .u8 0), .lit (.int .u8 0)], .agg [.lit (.int .u8 0), .lit (.int .u8 0)], .agg [.lit (.int .u8 0), .lit (.int .u8 0)], .agg [.lit (.int .u8 0), .lit (.int .u8 0)], .agg [.lit (.int .u8 0), .lit (.int .u8 0)], .agg [.lit (.int .u8 0), .lit (.int .u8 0)], .agg [.lit (.int .u8 0), .lit (.int .u8 0)]]
/-- One of Go's own tables, pinned by name: the form's constant. -/
def laid_unicode_utf8_first : DataW Unit := Go.Pinned.utf8First

/-- 'laws.FnExactIsShapeText': WHATEVER THE INPUT: true; the input reads as it did. -/
def fnExactIsShapeTextSpec : ChangeSpec := { name := "fnExactIsShapeText", fn := fun _ => fun
  | [d] => { results := [.lit (.bool true)], args := [d] }
  | _ => none }
def fnExactIsShapeTextRow : OpenClaim := { program := "ytfkbjflndkjlnaadoor", sum := "def2a9306c62fa8f70d83f84f0ef668d4d5c8a7d000663d4e3d6492b0e0e6abc", func := "loop.example/g01233/laws.FnExactIsShapeText", spec := "fnExactIsShapeText", inPlace := ["internal/bytealg.CountString", "internal/bytealg.IndexByteString", "internal/bytealg.IndexString"], named := ["unicode/utf8.first", "unicode/utf8.acceptRanges", "internal/bytealg.MaxLen"], apart := false, laid := [("unicode/utf8.acceptRanges", laid_unicode_utf8_acceptRanges), ("unicode/utf8.first", laid_unicode_utf8_first)] }
def FnExactIsShapeTextSaid : Prop := fnExactIsShapeTextRow.holds Tryd.pinned (OpenSpec.ofChange fnExactIsShapeTextSpec)

/-- ITS FALSE NEIGHBOUR: 'it returns false'. Refute it at one input. -/
def fnExactIsShapeTextWrong : ChangeSpec := { name := "fnExactIsShapeText", fn := fun _ => fun
  | [d] => { results := [.lit (.bool false)], args := [d] }
  | _ => none }
def FnExactIsShapeTextWrongFalsely : Prop := fnExactIsShapeTextRow.holds Tryd.pinned (OpenSpec.ofChange fnExactIsShapeTextWrong)

/-- 'laws.FnExactTurnShape': WHATEVER THE INPUT: true; the input reads as it did. -/
def fnExactTurnShapeSpec : ChangeSpec := { name := "fnExactTurnShape", fn := fun _ => fun
  | [d] => { results := [.lit (.bool true)], args := [d] }
  | _ => none }
def fnExactTurnShapeRow : OpenClaim := { program := "ytfkbjflndkjlnaadoor", sum := "def2a9306c62fa8f70d83f84f0ef668d4d5c8a7d000663d4e3d6492b0e0e6abc", func := "loop.example/g01233/laws.FnExactTurnShape", spec := "fnExactTurnShape", inPlace := ["internal/bytealg.CountString", "internal/bytealg.IndexByteString", "internal/bytealg.IndexString", "internal/abi.NoEscape", "internal/bytealg.MakeNoZero"], unfollowed := true, recurses := true, named := ["unicode/utf8.first", "unicode/utf8.acceptRanges", "internal/bytealg.MaxLen"], apart := false, laid := [("unicode/utf8.acceptRanges", laid_unicode_utf8_acceptRanges), ("unicode/utf8.first", laid_unicode_utf8_first)] }
def FnExactTurnShapeSaid : Prop := fnExactTurnShapeRow.holds Tryd.pinned (OpenSpec.ofChange fnExactTurnShapeSpec)

/-- ITS FALSE NEIGHBOUR: 'it returns false'. Refute it at one input. -/
def fnExactTurnShapeWrong : ChangeSpec := { name := "fnExactTurnShape", fn := fun _ => fun
  | [d] => { results := [.lit (.bool false)], args := [d] }
  | _ => none }
def FnExactTurnShapeWrongFalsely : Prop := fnExactTurnShapeRow.holds Tryd.pinned (OpenSpec.ofChange fnExactTurnShapeWrong)

/-- 'laws.FnExactLeastShape': WHATEVER THE INPUT: true; the input reads as it did. -/
def fnExactLeastShapeSpec : ChangeSpec := { name := "fnExactLeastShape", fn := fun _ => fun
  | [d] => { results := [.lit (.bool true)], args := [d] }
  | _ => none }
def fnExactLeastShapeRow : OpenClaim := { program := "ytfkbjflndkjlnaadoor", sum := "def2a9306c62fa8f70d83f84f0ef668d4d5c8a7d000663d4e3d6492b0e0e6abc", func := "loop.example/g01233/laws.FnExactLeastShape", spec := "fnExactLeastShape", inPlace := ["internal/bytealg.CountString", "internal/bytealg.IndexByteString", "internal/bytealg.IndexString", "internal/abi.NoEscape", "internal/bytealg.MakeNoZero"], unfollowed := true, recurses := true, named := ["unicode/utf8.first", "unicode/utf8.acceptRanges", "internal/bytealg.MaxLen"], apart := false, laid := [("unicode/utf8.acceptRanges", laid_unicode_utf8_acceptRanges), ("unicode/utf8.first", laid_unicode_utf8_first)] }
def FnExactLeastShapeSaid : Prop := fnExactLeastShapeRow.holds Tryd.pinned (OpenSpec.ofChange fnExactLeastShapeSpec)

/-- ITS FALSE NEIGHBOUR: 'it returns false'. Refute it at one input. -/
def fnExactLeastShapeWrong : ChangeSpec := { name := "fnExactLeastShape", fn := fun _ => fun
  | [d] => { results := [.lit (.bool false)], args := [d] }
  | _ => none }
def FnExactLeastShapeWrongFalsely : Prop := fnExactLeastShapeRow.holds Tryd.pinned (OpenSpec.ofChange fnExactLeastShapeWrong)

/-- 'laws.FnExactPieceShape': WHATEVER THE INPUT: true; the input reads as it did. -/
def fnExactPieceShapeSpec : ChangeSpec := { name := "fnExactPieceShape", fn := fun _ => fun
  | [d1, d2] => { results := [.lit (.bool true)], args := [d1, d2] }
  | _ => none }
def fnExactPieceShapeRow : OpenClaim := { program := "ytfkbjflndkjlnaadoor", sum := "def2a9306c62fa8f70d83f84f0ef668d4d5c8a7d000663d4e3d6492b0e0e6abc", func := "loop.example/g01233/laws.FnExactPieceShape", spec := "fnExactPieceShape", inPlace := ["internal/abi.NoEscape", "internal/bytealg.MakeNoZero", "internal/bytealg.CountString", "internal/bytealg.IndexByteString", "internal/bytealg.IndexString"], unfollowed := true, recurses := true, named := ["unicode/utf8.first", "unicode/utf8.acceptRanges", "internal/bytealg.MaxLen"], apart := false, laid := [("unicode/utf8.acceptRanges", laid_unicode_utf8_acceptRanges), ("unicode/utf8.first", laid_unicode_utf8_first)] }
def FnExactPieceShapeSaid : Prop := fnExactPieceShapeRow.holds Tryd.pinned (OpenSpec.ofChange fnExactPieceShapeSpec)

/-- ITS FALSE NEIGHBOUR: 'it returns false'. Refute it at one input. -/
def fnExactPieceShapeWrong : ChangeSpec := { name := "fnExactPieceShape", fn := fun _ => fun
  | [d1, d2] => { results := [.lit (.bool false)], args := [d1, d2] }
  | _ => none }
def FnExactPieceShapeWrongFalsely : Prop := fnExactPieceShapeRow.holds Tryd.pinned (OpenSpec.ofChange fnExactPieceShapeWrong)

/-- 'laws.FnExactAreEqualPieces': WHATEVER THE INPUT: true; the input reads as it did. -/
def fnExactAreEqualPiecesSpec : ChangeSpec := { name := "fnExactAreEqualPieces", fn := fun _ => fun
  | [d] => { results := [.lit (.bool true)], args := [d] }
  | _ => none }
def fnExactAreEqualPiecesRow : OpenClaim := { program := "ytfkbjflndkjlnaadoor", sum := "def2a9306c62fa8f70d83f84f0ef668d4d5c8a7d000663d4e3d6492b0e0e6abc", func := "loop.example/g01233/laws.FnExactAreEqualPieces", spec := "fnExactAreEqualPieces", inPlace := ["internal/abi.NoEscape", "internal/bytealg.MakeNoZero", "internal/bytealg.CountString", "internal/bytealg.IndexByteString", "internal/bytealg.IndexString"], unfollowed := true, recurses := true, named := ["unicode/utf8.first", "unicode/utf8.acceptRanges", "internal/bytealg.MaxLen"], apart := false, laid := [("unicode/utf8.acceptRanges", laid_unicode_utf8_acceptRanges), ("unicode/utf8.first", laid_unicode_utf8_first)] }
def FnExactAreEqualPiecesSaid : Prop := fnExactAreEqualPiecesRow.holds Tryd.pinned (OpenSpec.ofChange fnExactAreEqualPiecesSpec)

/-- ITS FALSE NEIGHBOUR: 'it returns false'. Refute it at one input. -/
def fnExactAreEqualPiecesWrong : ChangeSpec := { name := "fnExactAreEqualPieces", fn := fun _ => fun
  | [d] => { results := [.lit (.bool false)], args := [d] }
  | _ => none }
def FnExactAreEqualPiecesWrongFalsely : Prop := fnExactAreEqualPiecesRow.holds Tryd.pinned (OpenSpec.ofChange fnExactAreEqualPiecesWrong)

/- THE SECOND FORM. 'bulk': how many values and letters a reading holds, each counted each time it is reached (what is shared counts as often as it is met; a slice's spare places count too). A statement '..UptoSaid' is the law's where the arguments, and the package variables that the reading takes, are together of bulk at most 1048576: NARROWER than '..Said'. Prove '..Said' where nothing that the law and all that it calls make is longer than what came in: it says more and counts as full. Else prove '..UptoSaid'. A law counts once. -/
mutual
def uptoBulk {H : Type} : DataW H → Nat
  | .lit (.string bytes) => bytes.length + 1
  | .lit _ => 1
  | .nil => 1
  | .ptr d => uptoBulk d + 1
  | .slice elems spare => uptoBulkAll elems + uptoBulkAll spare + 1
  | .agg parts => uptoBulkAll parts + 1
  | .iface _ d => uptoBulk d + 1
  | .map entries => uptoBulkEntries entries + 1
  | .held _ => 1
def uptoBulkAll {H : Type} : List (DataW H) → Nat
  | [] => 0
  | d :: r => uptoBulk d + uptoBulkAll r
def uptoBulkEntries {H : Type} : List (Lit × DataW H) → Nat
  | [] => 0
  | x :: r => uptoBulkEntry x + uptoBulkEntries r
def uptoBulkEntry {H : Type} : Lit × DataW H → Nat
  | (.string bytes, d) => bytes.length + uptoBulk d + 1
  | (_, d) => uptoBulk d + 1
 end
def uptoSmall : (H : Type) → List (DataW H) → Bool := fun _ ds => decide (uptoBulkAll ds ≤ 1048576)
def OpenSpec.upto (s : _root_.Go.ChangeSpec) : _root_.Go.OpenSpec := { _root_.Go.OpenSpec.ofChange s with cond := some uptoSmall }

/-- 'laws.FnExactIsShapeText', WHERE WHAT IT READS IS OF BULK AT MOST 1048576: true; the input reads as it did. -/
def fnExactIsShapeTextUptoRow : OpenClaim := { program := "ytfkbjflndkjlnaadoor", sum := "def2a9306c62fa8f70d83f84f0ef668d4d5c8a7d000663d4e3d6492b0e0e6abc", func := "loop.example/g01233/laws.FnExactIsShapeText", spec := "fnExactIsShapeText", inPlace := ["internal/bytealg.CountString", "internal/bytealg.IndexByteString", "internal/bytealg.IndexString"], named := ["unicode/utf8.first", "unicode/utf8.acceptRanges", "internal/bytealg.MaxLen"], apart := false, laid := [("unicode/utf8.acceptRanges", laid_unicode_utf8_acceptRanges), ("unicode/utf8.first", laid_unicode_utf8_first)], narrowed := true }
def FnExactIsShapeTextUptoSaid : Prop := fnExactIsShapeTextUptoRow.holds Tryd.pinned (OpenSpec.upto fnExactIsShapeTextSpec)

/-- 'laws.FnExactTurnShape', WHERE WHAT IT READS IS OF BULK AT MOST 1048576: true; the input reads as it did. -/
def fnExactTurnShapeUptoRow : OpenClaim := { program := "ytfkbjflndkjlnaadoor", sum := "def2a9306c62fa8f70d83f84f0ef668d4d5c8a7d000663d4e3d6492b0e0e6abc", func := "loop.example/g01233/laws.FnExactTurnShape", spec := "fnExactTurnShape", inPlace := ["internal/bytealg.CountString", "internal/bytealg.IndexByteString", "internal/bytealg.IndexString", "internal/abi.NoEscape", "internal/bytealg.MakeNoZero"], unfollowed := true, recurses := true, named := ["unicode/utf8.first", "unicode/utf8.acceptRanges", "internal/bytealg.MaxLen"], apart := false, laid := [("unicode/utf8.acceptRanges", laid_unicode_utf8_acceptRanges), ("unicode/utf8.first", laid_unicode_utf8_first)], narrowed := true }
def FnExactTurnShapeUptoSaid : Prop := fnExactTurnShapeUptoRow.holds Tryd.pinned (OpenSpec.upto fnExactTurnShapeSpec)

/-- 'laws.FnExactLeastShape', WHERE WHAT IT READS IS OF BULK AT MOST 1048576: true; the input reads as it did. -/
def fnExactLeastShapeUptoRow : OpenClaim := { program := "ytfkbjflndkjlnaadoor", sum := "def2a9306c62fa8f70d83f84f0ef668d4d5c8a7d000663d4e3d6492b0e0e6abc", func := "loop.example/g01233/laws.FnExactLeastShape", spec := "fnExactLeastShape", inPlace := ["internal/bytealg.CountString", "internal/bytealg.IndexByteString", "internal/bytealg.IndexString", "internal/abi.NoEscape", "internal/bytealg.MakeNoZero"], unfollowed := true, recurses := true, named := ["unicode/utf8.first", "unicode/utf8.acceptRanges", "internal/bytealg.MaxLen"], apart := false, laid := [("unicode/utf8.acceptRanges", laid_unicode_utf8_acceptRanges), ("unicode/utf8.first", laid_unicode_utf8_first)], narrowed := true }
def FnExactLeastShapeUptoSaid : Prop := fnExactLeastShapeUptoRow.holds Tryd.pinned (OpenSpec.upto fnExactLeastShapeSpec)

/-- 'laws.FnExactPieceShape', WHERE WHAT IT READS IS OF BULK AT MOST 1048576: true; the input reads as it did. -/
def fnExactPieceShapeUptoRow : OpenClaim := { program := "ytfkbjflndkjlnaadoor", sum := "def2a9306c62fa8f70d83f84f0ef668d4d5c8a7d000663d4e3d6492b0e0e6abc", func := "loop.example/g01233/laws.FnExactPieceShape", spec := "fnExactPieceShape", inPlace := ["internal/abi.NoEscape", "internal/bytealg.MakeNoZero", "internal/bytealg.CountString", "internal/bytealg.IndexByteString", "internal/bytealg.IndexString"], unfollowed := true, recurses := true, named := ["unicode/utf8.first", "unicode/utf8.acceptRanges", "internal/bytealg.MaxLen"], apart := false, laid := [("unicode/utf8.acceptRanges", laid_unicode_utf8_acceptRanges), ("unicode/utf8.first", laid_unicode_utf8_first)], narrowed := true }
def FnExactPieceShapeUptoSaid : Prop := fnExactPieceShapeUptoRow.holds Tryd.pinned (OpenSpec.upto fnExactPieceShapeSpec)

/-- 'laws.FnExactAreEqualPieces', WHERE WHAT IT READS IS OF BULK AT MOST 1048576: true; the input reads as it did. -/
def fnExactAreEqualPiecesUptoRow : OpenClaim := { program := "ytfkbjflndkjlnaadoor", sum := "def2a9306c62fa8f70d83f84f0ef668d4d5c8a7d000663d4e3d6492b0e0e6abc", func := "loop.example/g01233/laws.FnExactAreEqualPieces", spec := "fnExactAreEqualPieces", inPlace := ["internal/abi.NoEscape", "internal/bytealg.MakeNoZero", "internal/bytealg.CountString", "internal/bytealg.IndexByteString", "internal/bytealg.IndexString"], unfollowed := true, recurses := true, named := ["unicode/utf8.first", "unicode/utf8.acceptRanges", "internal/bytealg.MaxLen"], apart := false, laid := [("unicode/utf8.acceptRanges", laid_unicode_utf8_acceptRanges), ("unicode/utf8.first", laid_unicode_utf8_first)], narrowed := true }
def FnExactAreEqualPiecesUptoSaid : Prop := fnExactAreEqualPiecesUptoRow.holds Tryd.pinned (OpenSpec.upto fnExactAreEqualPiecesSpec)

end Rows
end Go.Proofs.YtfkbjflndkjlnaaDoor
