/-
  NARROWER THAN 'FOR EVERY INPUT', by the rows' own cells (each row's printed sentence says how): FnExactCountSolutions: laid · FnExactHintOf: laid · FnExactSureMatches: laid · FnExactSureTaken: laid · FnExactFirstSolution: laid · FnExactSolutions: laid · FnExactCountTruly: laid.
  DERIVED. THE GIVEN ROWS OF THIS SEAT. 7 by the template 'for every input the law returns true; each argument reads behind the call as it read before'; 0 by the template 'total and deterministic' (their statements: YtopifdmaaibcnaaGreatDoorTotals.lean).
  GIVEN WITH THE SEED: the statements are not yours to turn. If you find one false, say at which input.
  Laid BY PROGRAM, IN A SANDBOX (cutbox-rows.mjs): the forced cells as the released guide's own fill.sh prints them over the translation f415203b3683bf25… (all of the seat's roots in one cut). By AI agents, Wed Nov 11 2026. No macro, syntax, notation, axiom, sorry.
-/
import Derived.Test.YtopifdmaaibcnaaGreatDoorChecked
import GoSem.Claim
import GoSem.ClaimJoined
import GoSem.ClaimMapViews
import Derived.JoinedTies
import Derived.KernelRfl
namespace Go.Proofs.YtopifdmaaibcnaaGreatDoor
/- THE CELL 'sum', in the pinned program and in every row, IS THE sha256 OF THE DUMP (.gsa) THAT YtopifdmaaibcnaaGreatDoorProg.lean LOADS. Nothing in Lean hashes anything: it is a label: what it is worth is what the hold of that sum in a sandbox is worth. -/
noncomputable def Tryz.pinned : Pinned := { name := "ytopifdmaaibcnaagreatdoor", sum := "f415203b3683bf257fbd8f4b891815b496fc3e785bf324fc05dcb5aad7962c9f", checked := Tryz.checked }
namespace Rows
def none {H : Type} : Left H := { results := [], args := [] }

/- WHAT THE LISTED PACKAGE-LEVEL VARIABLES READ AS WHEN THE CALL BEGINS. Each datum BY PROGRAM (the guide's laid-datum.mjs) off the statement by which the dump's own 'gosem.cut.vars' lays the variable. In a bare row this is a premise. The card (YtopifdmaaibcnaaGreatDoorCards.lean) ties it to the program's text. -/
def laid_math_bits_deBruijn64tab {H : Type} : DataW H := .agg [.lit (.int .u8 0), .lit (.int .u8 1), .lit (.int .u8 56), .lit (.int .u8 2), .lit (.int .u8 57), .lit (.int .u8 49), .lit (.int .u8 28), .lit (.int .u8 3), .lit (.int .u8 61), .lit (.int .u8 58), .lit (.int .u8 42), .lit (.int .u8 50), .lit (.int .u8 38), .lit (.int .u8 29), .lit (.int .u8 17), .lit (.int .u8 4), .lit (.int .u8 62), .lit (.int .u8 47), .lit (.int .u8 59), .lit (.int .u8 36), .lit (.int .u8 45), .lit (.int .u8 43), .lit (.int .u8 51), .lit (.int .u8 22), .lit (.int .u8 53), .lit (.int .u8 39), .lit (.int .u8 33), .lit (.int .u8 30), .lit (.int .u8 24), .lit (.int .u8 18), .lit (.int .u8 12), .lit (.int .u8 5), .lit (.int .u8 63), .lit (.int .u8 55), .lit (.int .u8 48), .lit (.int .u8 27), .lit (.int .u8 60), .lit (.int .u8 41), .lit (.int .u8 37), .lit (.int .u8 16), .lit (.int .u8 46), .lit (.int .u8 35), .lit (.int .u8 44), .lit (.int .u8 21), .lit (.int .u8 52), .lit (.int .u8 32), .lit (.int .u8 23), .lit (.int .u8 11), .lit (.int .u8 54), .lit (.int .u8 26), .lit (.int .u8 40), .lit (.int .u8 15), .lit (.int .u8 34), .lit (.int .u8 20), .lit (.int .u8 31), .lit (.int .u8 10), .lit (.int .u8 25), .lit (.int .u8 14), .lit (.int .u8 19), .lit (.int .u8 9), .lit (.int .u8 13), .lit (.int .u8 8), .lit (.int .u8 7), .lit (.int .u8 6)]

/-- 'laws.FnExactCountSolutions': WHATEVER THE INPUT: true; the input reads as it did. -/
def fnExactCountSolutionsSpec : ChangeSpec := { name := "fnExactCountSolutions", fn := fun _ => fun
  | [d] => { results := [.lit (.bool true)], args := [d] }
  | _ => none }
def fnExactCountSolutionsRow : OpenClaim := { program := "ytopifdmaaibcnaagreatdoor", sum := "f415203b3683bf257fbd8f4b891815b496fc3e785bf324fc05dcb5aad7962c9f", func := "loop.example/g01233/laws.FnExactCountSolutions", spec := "fnExactCountSolutions", inPlace := ["internal/abi.NoEscape", "internal/bytealg.MakeNoZero", "internal/bytealg.abigen_runtime_cmpstring"], unfollowed := true, recurses := true, named := ["math/bits.deBruijn64tab"], apart := false, laid := [("math/bits.deBruijn64tab", laid_math_bits_deBruijn64tab)] }
def FnExactCountSolutionsSaid : Prop := fnExactCountSolutionsRow.holds Tryz.pinned (OpenSpec.ofChange fnExactCountSolutionsSpec)

/-- ITS FALSE NEIGHBOUR: 'it returns false'. Refute it at one input. -/
def fnExactCountSolutionsWrong : ChangeSpec := { name := "fnExactCountSolutions", fn := fun _ => fun
  | [d] => { results := [.lit (.bool false)], args := [d] }
  | _ => none }
def FnExactCountSolutionsWrongFalsely : Prop := fnExactCountSolutionsRow.holds Tryz.pinned (OpenSpec.ofChange fnExactCountSolutionsWrong)

/-- 'laws.FnExactHintOf': WHATEVER THE INPUT: true; the input reads as it did. -/
def fnExactHintOfSpec : ChangeSpec := { name := "fnExactHintOf", fn := fun _ => fun
  | [d] => { results := [.lit (.bool true)], args := [d] }
  | _ => none }
def fnExactHintOfRow : OpenClaim := { program := "ytopifdmaaibcnaagreatdoor", sum := "f415203b3683bf257fbd8f4b891815b496fc3e785bf324fc05dcb5aad7962c9f", func := "loop.example/g01233/laws.FnExactHintOf", spec := "fnExactHintOf", inPlace := ["internal/abi.NoEscape", "internal/bytealg.MakeNoZero", "internal/bytealg.abigen_runtime_cmpstring"], unfollowed := true, recurses := true, named := ["math/bits.deBruijn64tab"], apart := false, laid := [("math/bits.deBruijn64tab", laid_math_bits_deBruijn64tab)] }
def FnExactHintOfSaid : Prop := fnExactHintOfRow.holds Tryz.pinned (OpenSpec.ofChange fnExactHintOfSpec)

/-- ITS FALSE NEIGHBOUR: 'it returns false'. Refute it at one input. -/
def fnExactHintOfWrong : ChangeSpec := { name := "fnExactHintOf", fn := fun _ => fun
  | [d] => { results := [.lit (.bool false)], args := [d] }
  | _ => none }
def FnExactHintOfWrongFalsely : Prop := fnExactHintOfRow.holds Tryz.pinned (OpenSpec.ofChange fnExactHintOfWrong)

/-- 'laws.FnExactSureMatches': WHATEVER THE INPUT: true; the input reads as it did. -/
def fnExactSureMatchesSpec : ChangeSpec := { name := "fnExactSureMatches", fn := fun _ => fun
  | [d] => { results := [.lit (.bool true)], args := [d] }
  | _ => none }
def fnExactSureMatchesRow : OpenClaim := { program := "ytopifdmaaibcnaagreatdoor", sum := "f415203b3683bf257fbd8f4b891815b496fc3e785bf324fc05dcb5aad7962c9f", func := "loop.example/g01233/laws.FnExactSureMatches", spec := "fnExactSureMatches", inPlace := ["internal/abi.NoEscape", "internal/bytealg.MakeNoZero", "internal/bytealg.abigen_runtime_cmpstring"], unfollowed := true, recurses := true, named := ["math/bits.deBruijn64tab"], apart := false, laid := [("math/bits.deBruijn64tab", laid_math_bits_deBruijn64tab)] }
def FnExactSureMatchesSaid : Prop := fnExactSureMatchesRow.holds Tryz.pinned (OpenSpec.ofChange fnExactSureMatchesSpec)

/-- ITS FALSE NEIGHBOUR: 'it returns false'. Refute it at one input. -/
def fnExactSureMatchesWrong : ChangeSpec := { name := "fnExactSureMatches", fn := fun _ => fun
  | [d] => { results := [.lit (.bool false)], args := [d] }
  | _ => none }
def FnExactSureMatchesWrongFalsely : Prop := fnExactSureMatchesRow.holds Tryz.pinned (OpenSpec.ofChange fnExactSureMatchesWrong)

/-- 'laws.FnExactSureTaken': WHATEVER THE INPUT: true; the input reads as it did. -/
def fnExactSureTakenSpec : ChangeSpec := { name := "fnExactSureTaken", fn := fun _ => fun
  | [d] => { results := [.lit (.bool true)], args := [d] }
  | _ => none }
def fnExactSureTakenRow : OpenClaim := { program := "ytopifdmaaibcnaagreatdoor", sum := "f415203b3683bf257fbd8f4b891815b496fc3e785bf324fc05dcb5aad7962c9f", func := "loop.example/g01233/laws.FnExactSureTaken", spec := "fnExactSureTaken", inPlace := ["internal/abi.NoEscape", "internal/bytealg.MakeNoZero", "internal/bytealg.abigen_runtime_cmpstring"], unfollowed := true, recurses := true, named := ["math/bits.deBruijn64tab"], apart := false, laid := [("math/bits.deBruijn64tab", laid_math_bits_deBruijn64tab)] }
def FnExactSureTakenSaid : Prop := fnExactSureTakenRow.holds Tryz.pinned (OpenSpec.ofChange fnExactSureTakenSpec)

/-- ITS FALSE NEIGHBOUR: 'it returns false'. Refute it at one input. -/
def fnExactSureTakenWrong : ChangeSpec := { name := "fnExactSureTaken", fn := fun _ => fun
  | [d] => { results := [.lit (.bool false)], args := [d] }
  | _ => none }
def FnExactSureTakenWrongFalsely : Prop := fnExactSureTakenRow.holds Tryz.pinned (OpenSpec.ofChange fnExactSureTakenWrong)

/-- 'laws.FnExactFirstSolution': WHATEVER THE INPUT: true; the input reads as it did. -/
def fnExactFirstSolutionSpec : ChangeSpec := { name := "fnExactFirstSolution", fn := fun _ => fun
  | [d] => { results := [.lit (.bool true)], args := [d] }
  | _ => none }
def fnExactFirstSolutionRow : OpenClaim := { program := "ytopifdmaaibcnaagreatdoor", sum := "f415203b3683bf257fbd8f4b891815b496fc3e785bf324fc05dcb5aad7962c9f", func := "loop.example/g01233/laws.FnExactFirstSolution", spec := "fnExactFirstSolution", inPlace := ["internal/abi.NoEscape", "internal/bytealg.MakeNoZero", "internal/bytealg.abigen_runtime_cmpstring"], unfollowed := true, recurses := true, named := ["math/bits.deBruijn64tab"], apart := false, laid := [("math/bits.deBruijn64tab", laid_math_bits_deBruijn64tab)] }
def FnExactFirstSolutionSaid : Prop := fnExactFirstSolutionRow.holds Tryz.pinned (OpenSpec.ofChange fnExactFirstSolutionSpec)

/-- ITS FALSE NEIGHBOUR: 'it returns false'. Refute it at one input. -/
def fnExactFirstSolutionWrong : ChangeSpec := { name := "fnExactFirstSolution", fn := fun _ => fun
  | [d] => { results := [.lit (.bool false)], args := [d] }
  | _ => none }
def FnExactFirstSolutionWrongFalsely : Prop := fnExactFirstSolutionRow.holds Tryz.pinned (OpenSpec.ofChange fnExactFirstSolutionWrong)

/-- 'laws.FnExactSolutions': WHATEVER THE INPUT: true; the input reads as it did. -/
def fnExactSolutionsSpec : ChangeSpec := { name := "fnExactSolutions", fn := fun _ => fun
  | [d] => { results := [.lit (.bool true)], args := [d] }
  | _ => none }
def fnExactSolutionsRow : OpenClaim := { program := "ytopifdmaaibcnaagreatdoor", sum := "f415203b3683bf257fbd8f4b891815b496fc3e785bf324fc05dcb5aad7962c9f", func := "loop.example/g01233/laws.FnExactSolutions", spec := "fnExactSolutions", inPlace := ["internal/abi.NoEscape", "internal/bytealg.MakeNoZero", "internal/bytealg.abigen_runtime_cmpstring"], unfollowed := true, recurses := true, named := ["math/bits.deBruijn64tab"], apart := false, laid := [("math/bits.deBruijn64tab", laid_math_bits_deBruijn64tab)] }
def FnExactSolutionsSaid : Prop := fnExactSolutionsRow.holds Tryz.pinned (OpenSpec.ofChange fnExactSolutionsSpec)

/-- ITS FALSE NEIGHBOUR: 'it returns false'. Refute it at one input. -/
def fnExactSolutionsWrong : ChangeSpec := { name := "fnExactSolutions", fn := fun _ => fun
  | [d] => { results := [.lit (.bool false)], args := [d] }
  | _ => none }
def FnExactSolutionsWrongFalsely : Prop := fnExactSolutionsRow.holds Tryz.pinned (OpenSpec.ofChange fnExactSolutionsWrong)

/-- 'laws.FnExactCountTruly': WHATEVER THE INPUT: true; the input reads as it did. -/
def fnExactCountTrulySpec : ChangeSpec := { name := "fnExactCountTruly", fn := fun _ => fun
  | [d] => { results := [.lit (.bool true)], args := [d] }
  | _ => none }
def fnExactCountTrulyRow : OpenClaim := { program := "ytopifdmaaibcnaagreatdoor", sum := "f415203b3683bf257fbd8f4b891815b496fc3e785bf324fc05dcb5aad7962c9f", func := "loop.example/g01233/laws.FnExactCountTruly", spec := "fnExactCountTruly", inPlace := ["internal/abi.NoEscape", "internal/bytealg.MakeNoZero", "internal/bytealg.abigen_runtime_cmpstring"], unfollowed := true, recurses := true, named := ["math/bits.deBruijn64tab"], apart := false, laid := [("math/bits.deBruijn64tab", laid_math_bits_deBruijn64tab)] }
def FnExactCountTrulySaid : Prop := fnExactCountTrulyRow.holds Tryz.pinned (OpenSpec.ofChange fnExactCountTrulySpec)

/-- ITS FALSE NEIGHBOUR: 'it returns false'. Refute it at one input. -/
def fnExactCountTrulyWrong : ChangeSpec := { name := "fnExactCountTruly", fn := fun _ => fun
  | [d] => { results := [.lit (.bool false)], args := [d] }
  | _ => none }
def FnExactCountTrulyWrongFalsely : Prop := fnExactCountTrulyRow.holds Tryz.pinned (OpenSpec.ofChange fnExactCountTrulyWrong)

/- THE SECOND FORM. 'bulk': how many values and letters a reading holds, each counted each time it is reached (what is shared counts as often as it is met; a slice's spare places count too). A statement '..UptoSaid' is the law's where the arguments, and the package variables that the reading takes, are together of bulk at most 1048576: NARROWER than '..Said'. Prove '..Said' where nothing that the law and all that it calls make is longer than what came in: it says more and counts as full. Else prove '..UptoSaid'. A law counts once. -/
mutual
def uptoBulk {H : Type} : DataW H → Nat
  | .lit (.string bytes) => bytes.length + 1
  | .lit _ => 1
  | .nil => 1
  | .ptr d => uptoBulk d + 1
  | .slice elems spare => uptoBulkAll elems + uptoBulkAll spare + 1
  | .agg parts => uptoBulkAll parts + 1
  | .iface _ d => uptoBulk d + 1
  | .map entries => uptoBulkEntries entries + 1
  | .held _ => 1
def uptoBulkAll {H : Type} : List (DataW H) → Nat
  | [] => 0
  | d :: r => uptoBulk d + uptoBulkAll r
def uptoBulkEntries {H : Type} : List (Lit × DataW H) → Nat
  | [] => 0
  | x :: r => uptoBulkEntry x + uptoBulkEntries r
def uptoBulkEntry {H : Type} : Lit × DataW H → Nat
  | (.string bytes, d) => bytes.length + uptoBulk d + 1
  | (_, d) => uptoBulk d + 1
 end
def uptoSmall : (H : Type) → List (DataW H) → Bool := fun _ ds => decide (uptoBulkAll ds ≤ 1048576)
def OpenSpec.upto (s : _root_.Go.ChangeSpec) : _root_.Go.OpenSpec := { _root_.Go.OpenSpec.ofChange s with cond := some uptoSmall }

/-- 'laws.FnExactCountSolutions', WHERE WHAT IT READS IS OF BULK AT MOST 1048576: true; the input reads as it did. -/
def fnExactCountSolutionsUptoRow : OpenClaim := { program := "ytopifdmaaibcnaagreatdoor", sum := "f415203b3683bf257fbd8f4b891815b496fc3e785bf324fc05dcb5aad7962c9f", func := "loop.example/g01233/laws.FnExactCountSolutions", spec := "fnExactCountSolutions", inPlace := ["internal/abi.NoEscape", "internal/bytealg.MakeNoZero", "internal/bytealg.abigen_runtime_cmpstring"], unfollowed := true, recurses := true, named := ["math/bits.deBruijn64tab"], apart := false, laid := [("math/bits.deBruijn64tab", laid_math_bits_deBruijn64tab)], narrowed := true }
def FnExactCountSolutionsUptoSaid : Prop := fnExactCountSolutionsUptoRow.holds Tryz.pinned (OpenSpec.upto fnExactCountSolutionsSpec)

/-- 'laws.FnExactHintOf', WHERE WHAT IT READS IS OF BULK AT MOST 1048576: true; the input reads as it did. -/
def fnExactHintOfUptoRow : OpenClaim := { program := "ytopifdmaaibcnaagreatdoor", sum := "f415203b3683bf257fbd8f4b891815b496fc3e785bf324fc05dcb5aad7962c9f", func := "loop.example/g01233/laws.FnExactHintOf", spec := "fnExactHintOf", inPlace := ["internal/abi.NoEscape", "internal/bytealg.MakeNoZero", "internal/bytealg.abigen_runtime_cmpstring"], unfollowed := true, recurses := true, named := ["math/bits.deBruijn64tab"], apart := false, laid := [("math/bits.deBruijn64tab", laid_math_bits_deBruijn64tab)], narrowed := true }
def FnExactHintOfUptoSaid : Prop := fnExactHintOfUptoRow.holds Tryz.pinned (OpenSpec.upto fnExactHintOfSpec)

/-- 'laws.FnExactSureMatches', WHERE WHAT IT READS IS OF BULK AT MOST 1048576: true; the input reads as it did. -/
def fnExactSureMatchesUptoRow : OpenClaim := { program := "ytopifdmaaibcnaagreatdoor", sum := "f415203b3683bf257fbd8f4b891815b496fc3e785bf324fc05dcb5aad7962c9f", func := "loop.example/g01233/laws.FnExactSureMatches", spec := "fnExactSureMatches", inPlace := ["internal/abi.NoEscape", "internal/bytealg.MakeNoZero", "internal/bytealg.abigen_runtime_cmpstring"], unfollowed := true, recurses := true, named := ["math/bits.deBruijn64tab"], apart := false, laid := [("math/bits.deBruijn64tab", laid_math_bits_deBruijn64tab)], narrowed := true }
def FnExactSureMatchesUptoSaid : Prop := fnExactSureMatchesUptoRow.holds Tryz.pinned (OpenSpec.upto fnExactSureMatchesSpec)

/-- 'laws.FnExactSureTaken', WHERE WHAT IT READS IS OF BULK AT MOST 1048576: true; the input reads as it did. -/
def fnExactSureTakenUptoRow : OpenClaim := { program := "ytopifdmaaibcnaagreatdoor", sum := "f415203b3683bf257fbd8f4b891815b496fc3e785bf324fc05dcb5aad7962c9f", func := "loop.example/g01233/laws.FnExactSureTaken", spec := "fnExactSureTaken", inPlace := ["internal/abi.NoEscape", "internal/bytealg.MakeNoZero", "internal/bytealg.abigen_runtime_cmpstring"], unfollowed := true, recurses := true, named := ["math/bits.deBruijn64tab"], apart := false, laid := [("math/bits.deBruijn64tab", laid_math_bits_deBruijn64tab)], narrowed := true }
def FnExactSureTakenUptoSaid : Prop := fnExactSureTakenUptoRow.holds Tryz.pinned (OpenSpec.upto fnExactSureTakenSpec)

/-- 'laws.FnExactFirstSolution', WHERE WHAT IT READS IS OF BULK AT MOST 1048576: true; the input reads as it did. -/
def fnExactFirstSolutionUptoRow : OpenClaim := { program := "ytopifdmaaibcnaagreatdoor", sum := "f415203b3683bf257fbd8f4b891815b496fc3e785bf324fc05dcb5aad7962c9f", func := "loop.example/g01233/laws.FnExactFirstSolution", spec := "fnExactFirstSolution", inPlace := ["internal/abi.NoEscape", "internal/bytealg.MakeNoZero", "internal/bytealg.abigen_runtime_cmpstring"], unfollowed := true, recurses := true, named := ["math/bits.deBruijn64tab"], apart := false, laid := [("math/bits.deBruijn64tab", laid_math_bits_deBruijn64tab)], narrowed := true }
def FnExactFirstSolutionUptoSaid : Prop := fnExactFirstSolutionUptoRow.holds Tryz.pinned (OpenSpec.upto fnExactFirstSolutionSpec)

/-- 'laws.FnExactSolutions', WHERE WHAT IT READS IS OF BULK AT MOST 1048576: true; the input reads as it did. -/
def fnExactSolutionsUptoRow : OpenClaim := { program := "ytopifdmaaibcnaagreatdoor", sum := "f415203b3683bf257fbd8f4b891815b496fc3e785bf324fc05dcb5aad7962c9f", func := "loop.example/g01233/laws.FnExactSolutions", spec := "fnExactSolutions", inPlace := ["internal/abi.NoEscape", "internal/bytealg.MakeNoZero", "internal/bytealg.abigen_runtime_cmpstring"], unfollowed := true, recurses := true, named := ["math/bits.deBruijn64tab"], apart := false, laid := [("math/bits.deBruijn64tab", laid_math_bits_deBruijn64tab)], narrowed := true }
def FnExactSolutionsUptoSaid : Prop := fnExactSolutionsUptoRow.holds Tryz.pinned (OpenSpec.upto fnExactSolutionsSpec)

/-- 'laws.FnExactCountTruly', WHERE WHAT IT READS IS OF BULK AT MOST 1048576: true; the input reads as it did. -/
def fnExactCountTrulyUptoRow : OpenClaim := { program := "ytopifdmaaibcnaagreatdoor", sum := "f415203b3683bf257fbd8f4b891815b496fc3e785bf324fc05dcb5aad7962c9f", func := "loop.example/g01233/laws.FnExactCountTruly", spec := "fnExactCountTruly", inPlace := ["internal/abi.NoEscape", "internal/bytealg.MakeNoZero", "internal/bytealg.abigen_runtime_cmpstring"], unfollowed := true, recurses := true, named := ["math/bits.deBruijn64tab"], apart := false, laid := [("math/bits.deBruijn64tab", laid_math_bits_deBruijn64tab)], narrowed := true }
def FnExactCountTrulyUptoSaid : Prop := fnExactCountTrulyUptoRow.holds Tryz.pinned (OpenSpec.upto fnExactCountTrulySpec)

end Rows
end Go.Proofs.YtopifdmaaibcnaaGreatDoor
