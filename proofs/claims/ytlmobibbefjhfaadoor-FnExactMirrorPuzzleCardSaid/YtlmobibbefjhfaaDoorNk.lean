import Derived.Test.YtlmobibbefjhfaaDoorProg
import Derived.Below
import Derived.Deep.Draws
import Derived.Deep.AppendLies
import Derived.Maps.AppendAt
import Derived.OwnWalk
import Derived.Laws.BytesArg
import Derived.Laws.MakeOwn
import Derived.Laws.OwnMore
import Derived.Deep.OwnRows
import Derived.Tactics
import Derived.Lib.ConvBytes
import Derived.Laws.Slices
import Derived.WalkKit
import Derived.KernelRfl
import Derived.RowKit3
import Derived.Deep.LoopGhost
import Derived.Deep.QuietTactic
import Derived.BigQuiet
import Derived.WideLaws
import Derived.Deep.DeepCutAuto
import Derived.Deep.CutBlock
import Derived.Deep.RegionHeld3
import Derived.Laws.Rows
import Derived.Lib.AppendStr
import Derived.ArgAppend
import Derived.Laws.IdiomCopy
import Derived.OrdersHeld
import Derived.Laws.BitsLemmas
import Derived.RowKit
import Derived.Test.YtlmobibbefjhfaaDoorVN
import Derived.Deep.LoopGhost
import Derived.Deep.Draws
import Derived.Laws.BitsAllLaws
import Derived.Lib.TrailingZeros
import Derived.Laws.Bits64b
namespace Go.Proofs.YtlmobibbefjhfaaDoor.N
open Go.RowKit Go.Proofs.YtlmobibbefjhfaaDoorW.PrintWords Go.Proofs.YtlmobibbefjhfaaDoorW.PrintLast Go.Proofs.YtlmobibbefjhfaaDoorW.PrintMore
attribute [local go_sem] max2_int min2_int max_two min_two max_three min_three max_four min_four
set_option linter.unusedVariables false
set_option linter.unusedSimpArgs false



def errW : Option Int → Value
  | none => .nilIface
  | some c => .iface 0 (.int .i64 c)
theorem errW_none : errW none = .nilIface := rfl
theorem errW_some (c : Int) : errW (some c) = .iface 0 (.int .i64 c) := rfl

theorem info3 : (Tryd.prog.info? 3).map (fun i => (i.zero, i.size, i.bytes)) = some (some (.int .i64 0), 1, 8) := by kernel_rfl
-- the values' own types

/-- the library's table, as its text lays it -/
def TzTab (w : World) : Prop := ∀ j, j < Lib.deBruijn64tab.length → w.cell? ⟨0, j, none⟩ = some (.int .u8 (Lib.deBruijn64tab.getD j 0 : Nat))
theorem tz_below {w W : World} (h : TzTab w) (hb : Below w.heap.size w W) : TzTab W := fun j hj => pw_cell_below hb (h j hj)
theorem tz_drawn {w : World} (h : TzTab w) (n : Nat) : TzTab (w.drewN n) := h
/-- n flags out of a number's bits -/
def flL : Nat → Nat → List Bool
  | 0, _ => []
  | n + 1, s => (s % 2 == 1) :: flL n (s / 2)
def fl (n s : Nat) : Array Bool := (flL n s).toArray

end Go.Proofs.YtlmobibbefjhfaaDoor.N
