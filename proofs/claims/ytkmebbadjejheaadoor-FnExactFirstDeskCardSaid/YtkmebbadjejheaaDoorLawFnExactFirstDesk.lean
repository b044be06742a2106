/- The law FnExactFirstDesk returns true: the program's first desk is the reference's. Conditions: none beyond the row's own; the table that it reads is tied to the program's text. -/
import Derived.Test.YtkmebbadjejheaaDoorRows
import Derived.Test.YtkmebbadjejheaaDoorAd
import Derived.Test.YtkmebbadjejheaaDoorAc5
import Derived.Test.YtkmebbadjejheaaDoorCards
import Derived.Test.YtkmebbadjejheaaDoorTie
import Derived.WalkKit
import Derived.ProofKit
import Derived.OpenShut
import Derived.ShutString
import Derived.ChangeOld
import Derived.Below
import Derived.SizedLaws
import Derived.Lib.SmallJoins
import Derived.Deep.LoopGhost
import Derived.Deep.Draws
import Derived.Deep.RegionHeld3
import Derived.Lib.LaidIn
import Derived.Lib.LaidTab
import Derived.Deep.DeepHandedRow
import Derived.SevenTiedAt
namespace Go.Proofs.YtkmebbadjejheaaDoor.A
open Go.ChangeShapes Go.WideShapes Go.ChangeAt Go.RowKit Go.Joins
open Go.ChangeMaps (open_string shut_string)
open Go.Proofs.YtkmebbadjejheaaDoorW.PrintWords Go.Proofs.YtkmebbadjejheaaDoorW.PrintLast Go.Proofs.YtkmebbadjejheaaDoorW.PrintMore
attribute [local go_sem] max2_int min2_int max_two min_two max_three min_three max_four min_four
set_option linter.unusedVariables false
set_option linter.unusedSimpArgs false
set_option linter.unnecessarySimpa false
theorem FirstDesk_pure : laws_FnExactFirstDesk.f 300 = some true := by kernel_rfl

/-! The table that the row lists, and a start that fits. -/
abbrev LAID : List (String × DataW Unit) := [("math/bits.deBruijn64tab", Rows.laid_math_bits_deBruijn64tab)]
theorem tz_of_laid {W : World} (hL : laidMet Tryd.prog LAID W) : TzTab W := by
  have hg : Tryd.prog.globalNamed "math/bits.deBruijn64tab" = some 0 := by kernel_rfl
  have hT : Lib.TabIs Tryd.prog W "math/bits.deBruijn64tab" .u8 (Lib.deBruijn64tab.map fun n : Nat => (n : Int)) :=
    Lib.tabIs_of_head (rest := []) (n := 64) hg (t := 61) (by kernel_rfl) (e := 5) Tryd.underlying61 Tryd.underlying5 (by kernel_rfl) (by kernel_rfl) hL
  intro j hj
  have h := hT.cell hg j (by simpa using hj)
  rw [h]
  congr 2
  simp [List.getD, hj]
noncomputable def laidWorld (os : Os) : World :=
  { World.holding Tryd.prog os ⟨#[], #[], []⟩ with heap := (World.holding Tryd.prog os ⟨#[], #[], []⟩).heap.modify 0 fun
      | .cells _ t frozen => .cells (Lib.deBruijn64tab.map fun z : Nat => Value.int .u8 (z : Int)).toArray t frozen
      | o => o }
theorem laid_met (os : Os) (args : Array Value) : laidMet Tryd.prog LAID ((laidWorld os).forCall (fun _ _ => 0) ⟨#[], args, []⟩).memory :=
  (LaidIn.of_run [0] 8 (by kernel_rfl) (by kernel_rfl) (by kernel_rfl) (by kernel_rfl)).met
theorem own : ownKnob Tryd.prog.godebug = none := by kernel_rfl
theorem laidOut : laidOutB Tryd.prog = true := by kernel_rfl

theorem fnExactFirstDesk_call {W : World} (hT : TzTab W) :
    Calls Tryd.prog 3 #[] W fun e W' => e = .returned (.bool true) ∧ Below W.heap.size W W' :=
  laws_FnExactFirstDesk.calls 300 W hT FirstDesk_pure

set_option maxRecDepth 100000 in
theorem lifted (os : Os) (started : os.Started) (H : Type) (enc : TypeId × Value → H) (F : Stop.Interp) :
    ReturnsInHanded {} Tryd.checked os 3 .any ((OpenSpec.ofChange Rows.fnExactFirstDeskSpec).preRow enc Tryd.prog Tryd.f3 Rows.fnExactFirstDeskRow.domain false LAID) (((OpenSpec.ofChange Rows.fnExactFirstDeskSpec).at F).post enc Tryd.prog Tryd.f3 false true false false) := by
  refine returnsInHanded_of_row (C := Tryd.checked) (s := OpenSpec.ofChange Rows.fnExactFirstDeskSpec) own started (by kernel_rfl) Tryd.func3
    (witness_row_at (enc := enc) (C := Tryd.checked) false (laidWorld os) #[] rfl (by kernel_rfl) (by kernel_rfl) (by kernel_rfl)
      (OpenSpec.preRow_of_B rfl 8 (by kernel_rfl) (by kernel_rfl) (laid_met os _))) ?_
  intro W base args ds gs before hval0 hW _ _ _ hL _ _
  have hW' := hW
  obtain ⟨p, q, hA0, hV, rfl, hfz, hnd⟩ := hW
  have hA : DataW.TrodAll enc Tryd.prog W 0 (fun _ => true) true Tryd.f3.params.toList args.toList ds p := hA0
  rw [Tryd.params3] at hA
  obtain ⟨hargs, rfl, rfl⟩ := trodAll_nil hA
  obtain rfl : args = #[] := by cases args; simp_all
  obtain ⟨rfl, rfl⟩ := trodVars_none hV
  clear hA0 hval0
  refine (fnExactFirstDesk_call (tz_of_laid hL)).mono fun e W' ⟨he, bel⟩ => ?_
  subst he
  exact ⟨_, rfl, _, _, _, [], _, [], hW', trodAll_mk1 (shut_bool Tryd.underlying4 _), trodAll_mk0, rfl, bel.frame _, fun h => by cases h⟩
theorem over : Rows.fnExactFirstDeskRow.holds Tryd.pinned (OpenSpec.ofChange Rows.fnExactFirstDeskSpec) :=
  OpenClaim.holds_of_wide 3 Tryd.f3 rfl rfl rfl rfl rfl rfl rfl ⟨rfl, rfl, rfl, rfl, rfl⟩ rfl rfl rfl rfl rfl (by kernel_rfl) Tryd.func3 (by kernel_rfl)
    (of_decide_eq_true (by kernel_rfl)) (by unfold Func.isWrapper; first | (rw [if_pos (by decide +kernel)]; kernel_rfl) | (rw [if_neg (by decide +kernel)]; exact ⟨rfl, rfl⟩))
    (fun os started H enc _ => lifted os started H enc (fun _ _ _ => 0))
theorem proved : Rows.FnExactFirstDeskCardSaid :=
  Claim7.holds_tied_plain_at .later [] [.data] true (true, "cb09cc3963aea7a3a6cae219bae116f4ac8d6d41a3569e759464a4017e6ba215") false
    over (fun _ h => by cases h) (by kernel_rfl) (fun _ h => by cases h) fnExactFirstDesk_row_tie rfl ⟨rfl, rfl⟩ (by kernel_rfl) rfl
    (fun f fn hf hfn => by
      obtain rfl : f = 3 := Option.some.inj ((show Tryd.prog.funcNamed "loop.example/g01233/laws.FnExactFirstDesk" = some 3 by kernel_rfl).symm.trans hf) |>.symm
      obtain rfl : fn = Tryd.f3 := (Option.some.inj (Tryd.func3.symm.trans hfn)).symm
      exact ⟨by kernel_rfl, fun j t ht => by
        rw [Tryd.params3] at ht
        simp at ht⟩)
    (by kernel_rfl)

end Go.Proofs.YtkmebbadjejheaaDoor.A
namespace Go.Proofs.YtkmebbadjejheaaDoor
/-- The row, under a short name, for the claim. -/
theorem fnExactFirstDesk_holds : Rows.FnExactFirstDeskCardSaid := A.proved
#print axioms fnExactFirstDesk_holds
end Go.Proofs.YtkmebbadjejheaaDoor
