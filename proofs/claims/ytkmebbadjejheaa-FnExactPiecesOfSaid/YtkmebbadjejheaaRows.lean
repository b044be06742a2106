/-
  No cell of these rows narrows 'for every input' (looked for: loops, veiled, ifaces, maps, wideKeys, modest, calm, conditions, laid).
  DERIVED. THE GIVEN ROWS OF THIS SEAT. 4 by the template 'for every input the law returns true; each argument reads behind the call as it read before'; 0 by the template 'total and deterministic' (their statements: YtkmebbadjejheaaTotals.lean).
  GIVEN WITH THE SEED: the statements are not yours to turn. If you find one false, say at which input.
  Laid BY PROGRAM, IN A SANDBOX (cutbox-rows.mjs): the forced cells as the released guide's own fill.sh prints them over the translation 034e292f7a9823e3… (all of the seat's roots in one cut). By AI agents, Wed Nov 11 2026. No macro, syntax, notation, axiom, sorry.
-/
import Derived.Test.YtkmebbadjejheaaChecked
import GoSem.Claim
import GoSem.ClaimJoined
import GoSem.ClaimMapViews
import Derived.JoinedTies
import Derived.KernelRfl
namespace Go.Proofs.Ytkmebbadjejheaa
/- THE CELL 'sum', in the pinned program and in every row, IS THE sha256 OF THE DUMP (.gsa) THAT YtkmebbadjejheaaProg.lean LOADS. Nothing in Lean hashes anything: it is a label: what it is worth is what the hold of that sum in a sandbox is worth. -/
noncomputable def Try.pinned : Pinned := { name := "ytkmebbadjejheaa", sum := "034e292f7a9823e36bdafd8c4b8931f8596d1c2347bacb3d505f78817331fb9d", checked := Try.checked }
namespace Rows
def none {H : Type} : Left H := { results := [], args := [] }

/-- 'laws.FnExactIsDesk': WHATEVER THE INPUT: true; the input reads as it did. -/
def fnExactIsDeskSpec : ChangeSpec := { name := "fnExactIsDesk", fn := fun _ => fun
  | [d] => { results := [.lit (.bool true)], args := [d] }
  | _ => none }
def fnExactIsDeskRow : OpenClaim := { program := "ytkmebbadjejheaa", sum := "034e292f7a9823e36bdafd8c4b8931f8596d1c2347bacb3d505f78817331fb9d", func := "loop.example/g01233/laws.FnExactIsDesk", spec := "fnExactIsDesk", unfollowed := true, recurses := true, apart := false }
def FnExactIsDeskSaid : Prop := fnExactIsDeskRow.holds Try.pinned (OpenSpec.ofChange fnExactIsDeskSpec)

/-- ITS FALSE NEIGHBOUR: 'it returns false'. Refute it at one input. -/
def fnExactIsDeskWrong : ChangeSpec := { name := "fnExactIsDesk", fn := fun _ => fun
  | [d] => { results := [.lit (.bool false)], args := [d] }
  | _ => none }
def FnExactIsDeskWrongFalsely : Prop := fnExactIsDeskRow.holds Try.pinned (OpenSpec.ofChange fnExactIsDeskWrong)

/-- 'laws.FnExactIsPuzzle': WHATEVER THE INPUT: true; the input reads as it did. -/
def fnExactIsPuzzleSpec : ChangeSpec := { name := "fnExactIsPuzzle", fn := fun _ => fun
  | [d] => { results := [.lit (.bool true)], args := [d] }
  | _ => none }
def fnExactIsPuzzleRow : OpenClaim := { program := "ytkmebbadjejheaa", sum := "034e292f7a9823e36bdafd8c4b8931f8596d1c2347bacb3d505f78817331fb9d", func := "loop.example/g01233/laws.FnExactIsPuzzle", spec := "fnExactIsPuzzle", unfollowed := true, recurses := true, apart := false }
def FnExactIsPuzzleSaid : Prop := fnExactIsPuzzleRow.holds Try.pinned (OpenSpec.ofChange fnExactIsPuzzleSpec)

/-- ITS FALSE NEIGHBOUR: 'it returns false'. Refute it at one input. -/
def fnExactIsPuzzleWrong : ChangeSpec := { name := "fnExactIsPuzzle", fn := fun _ => fun
  | [d] => { results := [.lit (.bool false)], args := [d] }
  | _ => none }
def FnExactIsPuzzleWrongFalsely : Prop := fnExactIsPuzzleRow.holds Try.pinned (OpenSpec.ofChange fnExactIsPuzzleWrong)

/-- 'laws.FnExactPiecesOf': WHATEVER THE INPUT: true; the input reads as it did. -/
def fnExactPiecesOfSpec : ChangeSpec := { name := "fnExactPiecesOf", fn := fun _ => fun
  | [d] => { results := [.lit (.bool true)], args := [d] }
  | _ => none }
def fnExactPiecesOfRow : OpenClaim := { program := "ytkmebbadjejheaa", sum := "034e292f7a9823e36bdafd8c4b8931f8596d1c2347bacb3d505f78817331fb9d", func := "loop.example/g01233/laws.FnExactPiecesOf", spec := "fnExactPiecesOf", unfollowed := true, recurses := true, apart := false }
def FnExactPiecesOfSaid : Prop := fnExactPiecesOfRow.holds Try.pinned (OpenSpec.ofChange fnExactPiecesOfSpec)

/-- ITS FALSE NEIGHBOUR: 'it returns false'. Refute it at one input. -/
def fnExactPiecesOfWrong : ChangeSpec := { name := "fnExactPiecesOf", fn := fun _ => fun
  | [d] => { results := [.lit (.bool false)], args := [d] }
  | _ => none }
def FnExactPiecesOfWrongFalsely : Prop := fnExactPiecesOfRow.holds Try.pinned (OpenSpec.ofChange fnExactPiecesOfWrong)

/-- 'laws.FnExactAreWholeCuts': WHATEVER THE INPUT: true; the input reads as it did. -/
def fnExactAreWholeCutsSpec : ChangeSpec := { name := "fnExactAreWholeCuts", fn := fun _ => fun
  | [d] => { results := [.lit (.bool true)], args := [d] }
  | _ => none }
def fnExactAreWholeCutsRow : OpenClaim := { program := "ytkmebbadjejheaa", sum := "034e292f7a9823e36bdafd8c4b8931f8596d1c2347bacb3d505f78817331fb9d", func := "loop.example/g01233/laws.FnExactAreWholeCuts", spec := "fnExactAreWholeCuts", unfollowed := true, recurses := true, apart := false }
def FnExactAreWholeCutsSaid : Prop := fnExactAreWholeCutsRow.holds Try.pinned (OpenSpec.ofChange fnExactAreWholeCutsSpec)

/-- ITS FALSE NEIGHBOUR: 'it returns false'. Refute it at one input. -/
def fnExactAreWholeCutsWrong : ChangeSpec := { name := "fnExactAreWholeCuts", fn := fun _ => fun
  | [d] => { results := [.lit (.bool false)], args := [d] }
  | _ => none }
def FnExactAreWholeCutsWrongFalsely : Prop := fnExactAreWholeCutsRow.holds Try.pinned (OpenSpec.ofChange fnExactAreWholeCutsWrong)

/- THE SECOND FORM. 'bulk': how many values and letters a reading holds, each counted each time it is reached (what is shared counts as often as it is met; a slice's spare places count too). A statement '..UptoSaid' is the law's where the arguments, and the package variables that the reading takes, are together of bulk at most 1048576: NARROWER than '..Said'. Prove '..Said' where nothing that the law and all that it calls make is longer than what came in: it says more and counts as full. Else prove '..UptoSaid'. A law counts once. -/
mutual
def uptoBulk {H : Type} : DataW H → Nat
  | .lit (.string bytes) => bytes.length + 1
  | .lit _ => 1
  | .nil => 1
  | .ptr d => uptoBulk d + 1
  | .slice elems spare => uptoBulkAll elems + uptoBulkAll spare + 1
  | .agg parts => uptoBulkAll parts + 1
  | .iface _ d => uptoBulk d + 1
  | .map entries => uptoBulkEntries entries + 1
  | .held _ => 1
def uptoBulkAll {H : Type} : List (DataW H) → Nat
  | [] => 0
  | d :: r => uptoBulk d + uptoBulkAll r
def uptoBulkEntries {H : Type} : List (Lit × DataW H) → Nat
  | [] => 0
  | x :: r => uptoBulkEntry x + uptoBulkEntries r
def uptoBulkEntry {H : Type} : Lit × DataW H → Nat
  | (.string bytes, d) => bytes.length + uptoBulk d + 1
  | (_, d) => uptoBulk d + 1
 end
def uptoSmall : (H : Type) → List (DataW H) → Bool := fun _ ds => decide (uptoBulkAll ds ≤ 1048576)
def OpenSpec.upto (s : _root_.Go.ChangeSpec) : _root_.Go.OpenSpec := { _root_.Go.OpenSpec.ofChange s with cond := some uptoSmall }

/-- 'laws.FnExactIsDesk', WHERE WHAT IT READS IS OF BULK AT MOST 1048576: true; the input reads as it did. -/
def fnExactIsDeskUptoRow : OpenClaim := { program := "ytkmebbadjejheaa", sum := "034e292f7a9823e36bdafd8c4b8931f8596d1c2347bacb3d505f78817331fb9d", func := "loop.example/g01233/laws.FnExactIsDesk", spec := "fnExactIsDesk", unfollowed := true, recurses := true, apart := false, narrowed := true }
def FnExactIsDeskUptoSaid : Prop := fnExactIsDeskUptoRow.holds Try.pinned (OpenSpec.upto fnExactIsDeskSpec)

/-- 'laws.FnExactIsPuzzle', WHERE WHAT IT READS IS OF BULK AT MOST 1048576: true; the input reads as it did. -/
def fnExactIsPuzzleUptoRow : OpenClaim := { program := "ytkmebbadjejheaa", sum := "034e292f7a9823e36bdafd8c4b8931f8596d1c2347bacb3d505f78817331fb9d", func := "loop.example/g01233/laws.FnExactIsPuzzle", spec := "fnExactIsPuzzle", unfollowed := true, recurses := true, apart := false, narrowed := true }
def FnExactIsPuzzleUptoSaid : Prop := fnExactIsPuzzleUptoRow.holds Try.pinned (OpenSpec.upto fnExactIsPuzzleSpec)

/-- 'laws.FnExactPiecesOf', WHERE WHAT IT READS IS OF BULK AT MOST 1048576: true; the input reads as it did. -/
def fnExactPiecesOfUptoRow : OpenClaim := { program := "ytkmebbadjejheaa", sum := "034e292f7a9823e36bdafd8c4b8931f8596d1c2347bacb3d505f78817331fb9d", func := "loop.example/g01233/laws.FnExactPiecesOf", spec := "fnExactPiecesOf", unfollowed := true, recurses := true, apart := false, narrowed := true }
def FnExactPiecesOfUptoSaid : Prop := fnExactPiecesOfUptoRow.holds Try.pinned (OpenSpec.upto fnExactPiecesOfSpec)

/-- 'laws.FnExactAreWholeCuts', WHERE WHAT IT READS IS OF BULK AT MOST 1048576: true; the input reads as it did. -/
def fnExactAreWholeCutsUptoRow : OpenClaim := { program := "ytkmebbadjejheaa", sum := "034e292f7a9823e36bdafd8c4b8931f8596d1c2347bacb3d505f78817331fb9d", func := "loop.example/g01233/laws.FnExactAreWholeCuts", spec := "fnExactAreWholeCuts", unfollowed := true, recurses := true, apart := false, narrowed := true }
def FnExactAreWholeCutsUptoSaid : Prop := fnExactAreWholeCutsUptoRow.holds Try.pinned (OpenSpec.upto fnExactAreWholeCutsSpec)

end Rows
end Go.Proofs.Ytkmebbadjejheaa
