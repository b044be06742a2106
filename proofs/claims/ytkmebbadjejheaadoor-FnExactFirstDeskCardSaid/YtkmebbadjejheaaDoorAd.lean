import Derived.Test.YtkmebbadjejheaaDoorAk
namespace Go.Proofs.YtkmebbadjejheaaDoor.A
open Go.RowKit Go.Proofs.YtkmebbadjejheaaDoorW.PrintWords Go.Proofs.YtkmebbadjejheaaDoorW.PrintLast Go.Proofs.YtkmebbadjejheaaDoorW.PrintMore
attribute [local go_sem] max2_int min2_int max_two min_two max_three min_three max_four min_four
set_option linter.unusedVariables false
set_option linter.unusedSimpArgs false

/-! ### spec_fiUpTo: function 31 -/
def spec_fiUpTo.l0 : Nat → Int → List Int → Int → Option (List Int)
  | 0, _, _, _ => none
  | k + 1, x0, x3, x4 => if x4 < x0 then (if x3.length < 17592186044416 then (spec_fiUpTo.l0 k x0 (x3 ++ [x4]) (wrap64 (x4 + 1))) else (none)) else (some x3)
def spec_fiUpTo.f (k : Nat) (a0 : Int) : Option (List Int) := spec_fiUpTo.l0 k a0 ([] : List Int) 0
theorem spec_fiUpTo.mono_l : ∀ k, (∀ y0 y1 y2, LeO (spec_fiUpTo.l0 k y0 y1 y2) (spec_fiUpTo.l0 (k + 1) y0 y1 y2))
  | 0 => fun _ _ _ r h => by simp [spec_fiUpTo.l0] at h
  | k + 1 => by
    have ih0 := spec_fiUpTo.mono_l k
    · intro y0 y1 y2
      unfold spec_fiUpTo.l0
      repeat' first
      | (with_reducible exact ih0 _ _ _)
      | (with_reducible exact LeO.refl _)
      | (with_reducible exact LeO.none _)
      | (with_reducible refine LeO.ite ?_ ?_)
      | (with_reducible refine LeO.bind ?_ (fun _ => ?_))
      | exact ih0 _ _ _
      | exact LeO.none _
      | refine LeO.ite ?_ ?_
      | refine LeO.bind ?_ (fun _ => ?_)
theorem spec_fiUpTo.mono : ∀ a0 k, LeO (spec_fiUpTo.f k a0) (spec_fiUpTo.f (k + 1) a0) := by
  intro a0 k
  have ih0 := spec_fiUpTo.mono_l k
  unfold spec_fiUpTo.f
  repeat' first
      | (with_reducible exact ih0 _ _ _)
      | (with_reducible exact LeO.refl _)
      | (with_reducible exact LeO.none _)
      | (with_reducible refine LeO.ite ?_ ?_)
      | (with_reducible refine LeO.bind ?_ (fun _ => ?_))
      | exact ih0 _ _ _
      | exact LeO.none _
      | refine LeO.ite ?_ ?_
      | refine LeO.bind ?_ (fun _ => ?_)

/-! ### spec_fiFull: function 15 -/
def spec_fiFull.f (k : Nat) (a0 : Int) (a1 : Int) : Option (Int × Int × List Int × List Int) := (spec_fiUpTo.f k (wrap64 (a0 * (wrap64 (a1 + 1))))).bind fun t105 => ((spec_fiUpTo.f k (wrap64 ((wrap64 (a0 + 1)) * a1))).bind fun t108 => (some (a0, a1, t105, t108)))
theorem spec_fiFull.mono : ∀ a0 a1 k, LeO (spec_fiFull.f k a0 a1) (spec_fiFull.f (k + 1) a0 a1) := by
  intro a0 a1 k
  unfold spec_fiFull.f
  repeat' first
      | (with_reducible exact spec_fiUpTo.mono _ _)
      | (with_reducible exact LeO.refl _)
      | (with_reducible exact LeO.none _)
      | (with_reducible refine LeO.ite ?_ ?_)
      | (with_reducible refine LeO.bind ?_ (fun _ => ?_))
      | exact spec_fiUpTo.mono _ _
      | exact LeO.none _
      | refine LeO.ite ?_ ?_
      | refine LeO.bind ?_ (fun _ => ?_)

/-! ### spec_FirstDesk: function 5 -/
def spec_FirstDesk.f (k : Nat)  : Option (Int × Int × List Int × List Int × Int) := (spec_fiFull.f k 2 2).bind fun bt112 => (some (bt112.1, bt112.2.1, bt112.2.2.1, bt112.2.2.2, 3))
theorem spec_FirstDesk.mono : ∀ k, LeO (spec_FirstDesk.f k ) (spec_FirstDesk.f (k + 1) ) := by
  intro  k
  unfold spec_FirstDesk.f
  repeat' first
      | (with_reducible exact spec_fiFull.mono _ _ _)
      | (with_reducible exact LeO.refl _)
      | (with_reducible exact LeO.none _)
      | (with_reducible refine LeO.ite ?_ ?_)
      | (with_reducible refine LeO.bind ?_ (fun _ => ?_))
      | exact spec_fiFull.mono _ _ _
      | exact LeO.none _
      | refine LeO.ite ?_ ?_
      | refine LeO.bind ?_ (fun _ => ?_)

/-! ### impl_grid_levels: function 37 -/
def impl_grid_levels.f (a0_0 : Int) (a0_1 : Int) : Option (Int) := some (wrap64 (a0_0 * (wrap64 (a0_1 + 1))))

/-! ### impl_grid_uprights: function 38 -/
def impl_grid_uprights.f (a0_0 : Int) (a0_1 : Int) : Option (Int) := some (wrap64 (a0_1 * (wrap64 (a0_0 + 1))))

/-! ### impl_grid_all: function 27 -/
def impl_grid_all.f (a0_0 : Int) (a0_1 : Int) : Option (Int) := (impl_grid_levels.f a0_0 a0_1).bind fun t123 => ((impl_grid_uprights.f a0_0 a0_1).bind fun t124 => (if 0 ≤ (wrap64 (t123 + t124)) then (some (IntKind.u64.wrap ((shl .u64 1 (wrap64 (t123 + t124))) - 1))) else (none)))

/-! ### bits_TrailingZeros64: function 39 -/
def bits_TrailingZeros64.f (a0 : Int) : Option (Int) := if 0 ≤ a0 ∧ a0 < 18446744073709551616 then some ((Lib.ctz 64 a0.toNat : Nat) : Int) else none

/-! ### impl_set_listed: function 28 -/
def impl_set_listed.l0 : Nat → Int → List Int → Option (List Int)
  | 0, _, _ => none
  | k + 1, x0, x3 => if x0 > 0 then ((bits_TrailingZeros64.f x0).bind fun t128 => (if x3.length < 17592186044416 then (impl_set_listed.l0 k (Go.bits .and .u64 x0 (IntKind.u64.wrap (x0 - 1))) (x3 ++ [t128])) else (none))) else (some x3)
def impl_set_listed.f (k : Nat) (a0 : Int) : Option (List Int) := impl_set_listed.l0 k a0 (([] : List Int))
theorem impl_set_listed.mono_l : ∀ k, (∀ y0 y1, LeO (impl_set_listed.l0 k y0 y1) (impl_set_listed.l0 (k + 1) y0 y1))
  | 0 => fun _ _ r h => by simp [impl_set_listed.l0] at h
  | k + 1 => by
    have ih0 := impl_set_listed.mono_l k
    · intro y0 y1
      unfold impl_set_listed.l0
      repeat' first
      | (with_reducible exact ih0 _ _)
      | (with_reducible exact LeO.refl _)
      | (with_reducible exact LeO.none _)
      | (with_reducible refine LeO.ite ?_ ?_)
      | (with_reducible refine LeO.bind ?_ (fun _ => ?_))
      | exact ih0 _ _
      | exact LeO.none _
      | refine LeO.ite ?_ ?_
      | refine LeO.bind ?_ (fun _ => ?_)
theorem impl_set_listed.mono : ∀ a0 k, LeO (impl_set_listed.f k a0) (impl_set_listed.f (k + 1) a0) := by
  intro a0 k
  have ih0 := impl_set_listed.mono_l k
  unfold impl_set_listed.f
  repeat' first
      | (with_reducible exact ih0 _ _)
      | (with_reducible exact LeO.refl _)
      | (with_reducible exact LeO.none _)
      | (with_reducible refine LeO.ite ?_ ?_)
      | (with_reducible refine LeO.bind ?_ (fun _ => ?_))
      | exact ih0 _ _
      | exact LeO.none _
      | refine LeO.ite ?_ ?_
      | refine LeO.bind ?_ (fun _ => ?_)

/-! ### impl_grid_figure: function 30 -/
def impl_grid_figure.f (k : Nat) (a0_0 : Int) (a0_1 : Int) (a1 : Int) : Option (Int × Int × List Int × List Int) := (impl_grid_levels.f a0_0 a0_1).bind fun t134 => (if 0 ≤ t134 then ((impl_set_listed.f k (Go.bits .and .u64 a1 (IntKind.u64.wrap ((shl .u64 1 t134) - 1)))).bind fun t135 => ((impl_grid_levels.f a0_0 a0_1).bind fun t138 => (if 0 ≤ t138 then ((impl_set_listed.f k (shr .u64 a1 t138)).bind fun t139 => (some (a0_0, a0_1, t135, t139))) else (none)))) else (none))
theorem impl_grid_figure.mono : ∀ a0 a1 a2 k, LeO (impl_grid_figure.f k a0 a1 a2) (impl_grid_figure.f (k + 1) a0 a1 a2) := by
  intro a0 a1 a2 k
  unfold impl_grid_figure.f
  repeat' first
      | (with_reducible exact impl_set_listed.mono _ _)
      | (with_reducible exact LeO.refl _)
      | (with_reducible exact LeO.none _)
      | (with_reducible refine LeO.ite ?_ ?_)
      | (with_reducible refine LeO.bind ?_ (fun _ => ?_))
      | exact impl_set_listed.mono _ _
      | exact LeO.none _
      | refine LeO.ite ?_ ?_
      | refine LeO.bind ?_ (fun _ => ?_)

/-! ### impl_within: function 25 -/
def impl_within.f (a0 : Int) (a1 : Int) (a2 : Int) : Option (Bool) := if a1 ≤ a0 then (some (decide (a0 ≤ a2))) else (some false)

/-! ### impl_isGrid: function 32 -/
def impl_isGrid.f (a0 : Int) (a1 : Int) : Option (Bool) := (impl_within.f a0 1 4).bind fun t142 => (if t142 = true then ((impl_within.f a1 1 4).bind fun t143 => (some t143)) else (some false))

/-! ### impl_FullFigure: function 16 -/
def impl_FullFigure.f (k : Nat) (a0 : Int) (a1 : Int) : Option (Int × Int × List Int × List Int × Bool) := (impl_isGrid.f a0 a1).bind fun t145 => (if t145 = true then ((impl_grid_all.f a0 a1).bind fun t146 => ((impl_grid_figure.f k a0 a1 t146).bind fun bt147 => (some (bt147.1, bt147.2.1, bt147.2.2.1, bt147.2.2.2, true)))) else (some (0, 0, ([] : List Int), ([] : List Int), false)))
theorem impl_FullFigure.mono : ∀ a0 a1 k, LeO (impl_FullFigure.f k a0 a1) (impl_FullFigure.f (k + 1) a0 a1) := by
  intro a0 a1 k
  unfold impl_FullFigure.f
  repeat' first
      | (with_reducible exact impl_grid_figure.mono _ _ _ _)
      | (with_reducible exact LeO.refl _)
      | (with_reducible exact LeO.none _)
      | (with_reducible refine LeO.ite ?_ ?_)
      | (with_reducible refine LeO.bind ?_ (fun _ => ?_))
      | exact impl_grid_figure.mono _ _ _ _
      | exact LeO.none _
      | refine LeO.ite ?_ ?_
      | refine LeO.bind ?_ (fun _ => ?_)

/-! ### impl_FirstDesk: function 6 -/
def impl_FirstDesk.f (k : Nat)  : Option (Int × Int × List Int × List Int × Int) := (impl_FullFigure.f k 2 2).bind fun bt156 => (some (bt156.1, bt156.2.1, bt156.2.2.1, bt156.2.2.2.1, 3))
theorem impl_FirstDesk.mono : ∀ k, LeO (impl_FirstDesk.f k ) (impl_FirstDesk.f (k + 1) ) := by
  intro  k
  unfold impl_FirstDesk.f
  repeat' first
      | (with_reducible exact impl_FullFigure.mono _ _ _)
      | (with_reducible exact LeO.refl _)
      | (with_reducible exact LeO.none _)
      | (with_reducible refine LeO.ite ?_ ?_)
      | (with_reducible refine LeO.bind ?_ (fun _ => ?_))
      | exact impl_FullFigure.mono _ _ _
      | exact LeO.none _
      | refine LeO.ite ?_ ?_
      | refine LeO.bind ?_ (fun _ => ?_)

/-! ### laws_eqIntS: function 33 -/
def laws_eqIntS.l0 : Nat → List Int → List Int → Int → Option (Bool)
  | 0, _, _, _ => none
  | k + 1, x0, x1, x5 => if x5 < (x0.length : Int) then (if 0 ≤ x5 then (if x5 < (x1.length : Int) then (if (rd x0 x5) = (rd x1 x5) then (laws_eqIntS.l0 k x0 x1 (wrap64 (x5 + 1))) else (some false)) else (none)) else (none)) else (some true)
def laws_eqIntS.f (k : Nat) (l0 : List Int) (l1 : List Int) : Option (Bool) := if (l0.length : Int) = (l1.length : Int) then (laws_eqIntS.l0 k l0 l1 0) else (some false)
theorem laws_eqIntS.mono_l : ∀ k, (∀ y0 y1 y2, LeO (laws_eqIntS.l0 k y0 y1 y2) (laws_eqIntS.l0 (k + 1) y0 y1 y2))
  | 0 => fun _ _ _ r h => by simp [laws_eqIntS.l0] at h
  | k + 1 => by
    have ih0 := laws_eqIntS.mono_l k
    · intro y0 y1 y2
      unfold laws_eqIntS.l0
      repeat' first
      | (with_reducible exact ih0 _ _ _)
      | (with_reducible exact LeO.refl _)
      | (with_reducible exact LeO.none _)
      | (with_reducible refine LeO.ite ?_ ?_)
      | (with_reducible refine LeO.bind ?_ (fun _ => ?_))
      | exact ih0 _ _ _
      | exact LeO.none _
      | refine LeO.ite ?_ ?_
      | refine LeO.bind ?_ (fun _ => ?_)
theorem laws_eqIntS.mono : ∀ a0 a1 k, LeO (laws_eqIntS.f k a0 a1) (laws_eqIntS.f (k + 1) a0 a1) := by
  intro a0 a1 k
  have ih0 := laws_eqIntS.mono_l k
  unfold laws_eqIntS.f
  repeat' first
      | (with_reducible exact ih0 _ _ _)
      | (with_reducible exact LeO.refl _)
      | (with_reducible exact LeO.none _)
      | (with_reducible refine LeO.ite ?_ ?_)
      | (with_reducible refine LeO.bind ?_ (fun _ => ?_))
      | exact ih0 _ _ _
      | exact LeO.none _
      | refine LeO.ite ?_ ?_
      | refine LeO.bind ?_ (fun _ => ?_)

/-! ### laws_eqFigure: function 17 -/
def laws_eqFigure.f (k : Nat) (a0_0 : Int) (a0_1 : Int) (l0_2 : List Int) (l0_3 : List Int) (a1_0 : Int) (a1_1 : Int) (l1_2 : List Int) (l1_3 : List Int) : Option (Bool) := if a0_0 = a1_0 then (if a0_1 = a1_1 then ((laws_eqIntS.f k l0_2 l1_2).bind fun t170 => (if t170 = true then ((laws_eqIntS.f k l0_3 l1_3).bind fun t171 => (if t171 = true then (some true) else (some false))) else (some false))) else (some false)) else (some false)
theorem laws_eqFigure.mono : ∀ a0 a1 a2 a3 a4 a5 a6 a7 k, LeO (laws_eqFigure.f k a0 a1 a2 a3 a4 a5 a6 a7) (laws_eqFigure.f (k + 1) a0 a1 a2 a3 a4 a5 a6 a7) := by
  intro a0 a1 a2 a3 a4 a5 a6 a7 k
  unfold laws_eqFigure.f
  repeat' first
      | (with_reducible exact laws_eqIntS.mono _ _ _)
      | (with_reducible exact LeO.refl _)
      | (with_reducible exact LeO.none _)
      | (with_reducible refine LeO.ite ?_ ?_)
      | (with_reducible refine LeO.bind ?_ (fun _ => ?_))
      | exact laws_eqIntS.mono _ _ _
      | exact LeO.none _
      | refine LeO.ite ?_ ?_
      | refine LeO.bind ?_ (fun _ => ?_)

/-! ### laws_eqDesk: function 7 -/
def laws_eqDesk.f (k : Nat) (a0_0 : Int) (a0_1 : Int) (l0_2 : List Int) (l0_3 : List Int) (a0_4 : Int) (a1_0 : Int) (a1_1 : Int) (l1_2 : List Int) (l1_3 : List Int) (a1_4 : Int) : Option (Bool) := (laws_eqFigure.f k a0_0 a0_1 l0_2 l0_3 a1_0 a1_1 l1_2 l1_3).bind fun t174 => (if t174 = true then (if a0_4 = a1_4 then (some true) else (some false)) else (some false))
theorem laws_eqDesk.mono : ∀ a0 a1 a2 a3 a4 a5 a6 a7 a8 a9 k, LeO (laws_eqDesk.f k a0 a1 a2 a3 a4 a5 a6 a7 a8 a9) (laws_eqDesk.f (k + 1) a0 a1 a2 a3 a4 a5 a6 a7 a8 a9) := by
  intro a0 a1 a2 a3 a4 a5 a6 a7 a8 a9 k
  unfold laws_eqDesk.f
  repeat' first
      | (with_reducible exact laws_eqFigure.mono _ _ _ _ _ _ _ _ _)
      | (with_reducible exact LeO.refl _)
      | (with_reducible exact LeO.none _)
      | (with_reducible refine LeO.ite ?_ ?_)
      | (with_reducible refine LeO.bind ?_ (fun _ => ?_))
      | exact laws_eqFigure.mono _ _ _ _ _ _ _ _ _
      | exact LeO.none _
      | refine LeO.ite ?_ ?_
      | refine LeO.bind ?_ (fun _ => ?_)

/-! ### laws_markIntS: function 34 -/
def laws_markIntS.l0 : Nat → List Int → Int → Int → Option (Int × List Int)
  | 0, _, _, _ => none
  | k + 1, x0, x1, x5 => if x5 < (x0.length : Int) then (if 0 ≤ x5 then (laws_markIntS.l0 k (x0.set (x5 : Int).toNat x1) (wrap64 (x1 + 1)) (wrap64 (x5 + 1))) else (none)) else (some (x1, x0))
def laws_markIntS.f (k : Nat) (l0 : List Int) (a1 : Int) : Option (Int × List Int) := laws_markIntS.l0 k l0 a1 0
theorem laws_markIntS.mono_l : ∀ k, (∀ y0 y1 y2, LeO (laws_markIntS.l0 k y0 y1 y2) (laws_markIntS.l0 (k + 1) y0 y1 y2))
  | 0 => fun _ _ _ r h => by simp [laws_markIntS.l0] at h
  | k + 1 => by
    have ih0 := laws_markIntS.mono_l k
    · intro y0 y1 y2
      unfold laws_markIntS.l0
      repeat' first
      | (with_reducible exact ih0 _ _ _)
      | (with_reducible exact LeO.refl _)
      | (with_reducible exact LeO.none _)
      | (with_reducible refine LeO.ite ?_ ?_)
      | (with_reducible refine LeO.bind ?_ (fun _ => ?_))
      | exact ih0 _ _ _
      | exact LeO.none _
      | refine LeO.ite ?_ ?_
      | refine LeO.bind ?_ (fun _ => ?_)
theorem laws_markIntS.mono : ∀ a0 a1 k, LeO (laws_markIntS.f k a0 a1) (laws_markIntS.f (k + 1) a0 a1) := by
  intro a0 a1 k
  have ih0 := laws_markIntS.mono_l k
  unfold laws_markIntS.f
  repeat' first
      | (with_reducible exact ih0 _ _ _)
      | (with_reducible exact LeO.refl _)
      | (with_reducible exact LeO.none _)
      | (with_reducible refine LeO.ite ?_ ?_)
      | (with_reducible refine LeO.bind ?_ (fun _ => ?_))
      | exact ih0 _ _ _
      | exact LeO.none _
      | refine LeO.ite ?_ ?_
      | refine LeO.bind ?_ (fun _ => ?_)

/-! ### laws_markFigure: function 18 -/
def laws_markFigure.f (k : Nat) (a0_0 : Int) (a0_1 : Int) (l0_2 : List Int) (l0_3 : List Int) (a1 : Int) : Option (Int × List Int × List Int) := (laws_markIntS.f k l0_2 a1).bind fun bt177 => ((laws_markIntS.f k l0_3 bt177.1).bind fun bt179 => (some (bt179.1, bt177.2, bt179.2)))
theorem laws_markFigure.mono : ∀ a0 a1 a2 a3 a4 k, LeO (laws_markFigure.f k a0 a1 a2 a3 a4) (laws_markFigure.f (k + 1) a0 a1 a2 a3 a4) := by
  intro a0 a1 a2 a3 a4 k
  unfold laws_markFigure.f
  repeat' first
      | (with_reducible exact laws_markIntS.mono _ _ _)
      | (with_reducible exact LeO.refl _)
      | (with_reducible exact LeO.none _)
      | (with_reducible refine LeO.ite ?_ ?_)
      | (with_reducible refine LeO.bind ?_ (fun _ => ?_))
      | exact laws_markIntS.mono _ _ _
      | exact LeO.none _
      | refine LeO.ite ?_ ?_
      | refine LeO.bind ?_ (fun _ => ?_)

/-! ### laws_markDesk: function 8 -/
def laws_markDesk.f (k : Nat) (a0_0 : Int) (a0_1 : Int) (l0_2 : List Int) (l0_3 : List Int) (a0_4 : Int) (a1 : Int) : Option (Int × List Int × List Int) := (laws_markFigure.f k a0_0 a0_1 l0_2 l0_3 a1).bind fun bt182 => (some (bt182.1, bt182.2.1, bt182.2.2))
theorem laws_markDesk.mono : ∀ a0 a1 a2 a3 a4 a5 k, LeO (laws_markDesk.f k a0 a1 a2 a3 a4 a5) (laws_markDesk.f (k + 1) a0 a1 a2 a3 a4 a5) := by
  intro a0 a1 a2 a3 a4 a5 k
  unfold laws_markDesk.f
  repeat' first
      | (with_reducible exact laws_markFigure.mono _ _ _ _ _ _)
      | (with_reducible exact LeO.refl _)
      | (with_reducible exact LeO.none _)
      | (with_reducible refine LeO.ite ?_ ?_)
      | (with_reducible refine LeO.bind ?_ (fun _ => ?_))
      | exact laws_markFigure.mono _ _ _ _ _ _
      | exact LeO.none _
      | refine LeO.ite ?_ ?_
      | refine LeO.bind ?_ (fun _ => ?_)

/-! ### laws_heldIntS: function 35 -/
def laws_heldIntS.l0 : Nat → List Int → Int → Int → Option (Int)
  | 0, _, _, _ => none
  | k + 1, x0, x1, x5 => if x5 < (x0.length : Int) then (if 0 ≤ x5 then (if (rd x0 x5) = x1 then (laws_heldIntS.l0 k x0 (wrap64 (x1 + 1)) (wrap64 (x5 + 1))) else (some (-1))) else (none)) else (some x1)
def laws_heldIntS.f (k : Nat) (l0 : List Int) (a1 : Int) : Option (Int) := laws_heldIntS.l0 k l0 a1 0
theorem laws_heldIntS.mono_l : ∀ k, (∀ y0 y1 y2, LeO (laws_heldIntS.l0 k y0 y1 y2) (laws_heldIntS.l0 (k + 1) y0 y1 y2))
  | 0 => fun _ _ _ r h => by simp [laws_heldIntS.l0] at h
  | k + 1 => by
    have ih0 := laws_heldIntS.mono_l k
    · intro y0 y1 y2
      unfold laws_heldIntS.l0
      repeat' first
      | (with_reducible exact ih0 _ _ _)
      | (with_reducible exact LeO.refl _)
      | (with_reducible exact LeO.none _)
      | (with_reducible refine LeO.ite ?_ ?_)
      | (with_reducible refine LeO.bind ?_ (fun _ => ?_))
      | exact ih0 _ _ _
      | exact LeO.none _
      | refine LeO.ite ?_ ?_
      | refine LeO.bind ?_ (fun _ => ?_)
theorem laws_heldIntS.mono : ∀ a0 a1 k, LeO (laws_heldIntS.f k a0 a1) (laws_heldIntS.f (k + 1) a0 a1) := by
  intro a0 a1 k
  have ih0 := laws_heldIntS.mono_l k
  unfold laws_heldIntS.f
  repeat' first
      | (with_reducible exact ih0 _ _ _)
      | (with_reducible exact LeO.refl _)
      | (with_reducible exact LeO.none _)
      | (with_reducible refine LeO.ite ?_ ?_)
      | (with_reducible refine LeO.bind ?_ (fun _ => ?_))
      | exact ih0 _ _ _
      | exact LeO.none _
      | refine LeO.ite ?_ ?_
      | refine LeO.bind ?_ (fun _ => ?_)

/-! ### laws_heldFigure: function 19 -/
def laws_heldFigure.f (k : Nat) (a0_0 : Int) (a0_1 : Int) (l0_2 : List Int) (l0_3 : List Int) (a1 : Int) : Option (Int) := (laws_heldIntS.f k l0_2 a1).bind fun t187 => (if t187 < 0 then (some (-1)) else ((laws_heldIntS.f k l0_3 t187).bind fun t188 => (if t188 < 0 then (some (-1)) else (some t188))))
theorem laws_heldFigure.mono : ∀ a0 a1 a2 a3 a4 k, LeO (laws_heldFigure.f k a0 a1 a2 a3 a4) (laws_heldFigure.f (k + 1) a0 a1 a2 a3 a4) := by
  intro a0 a1 a2 a3 a4 k
  unfold laws_heldFigure.f
  repeat' first
      | (with_reducible exact laws_heldIntS.mono _ _ _)
      | (with_reducible exact LeO.refl _)
      | (with_reducible exact LeO.none _)
      | (with_reducible refine LeO.ite ?_ ?_)
      | (with_reducible refine LeO.bind ?_ (fun _ => ?_))
      | exact laws_heldIntS.mono _ _ _
      | exact LeO.none _
      | refine LeO.ite ?_ ?_
      | refine LeO.bind ?_ (fun _ => ?_)

/-! ### laws_heldDesk: function 9 -/
def laws_heldDesk.f (k : Nat) (a0_0 : Int) (a0_1 : Int) (l0_2 : List Int) (l0_3 : List Int) (a0_4 : Int) (a1 : Int) : Option (Int) := (laws_heldFigure.f k a0_0 a0_1 l0_2 l0_3 a1).bind fun t190 => (if t190 < 0 then (some (-1)) else (some t190))
theorem laws_heldDesk.mono : ∀ a0 a1 a2 a3 a4 a5 k, LeO (laws_heldDesk.f k a0 a1 a2 a3 a4 a5) (laws_heldDesk.f (k + 1) a0 a1 a2 a3 a4 a5) := by
  intro a0 a1 a2 a3 a4 a5 k
  unfold laws_heldDesk.f
  repeat' first
      | (with_reducible exact laws_heldFigure.mono _ _ _ _ _ _)
      | (with_reducible exact LeO.refl _)
      | (with_reducible exact LeO.none _)
      | (with_reducible refine LeO.ite ?_ ?_)
      | (with_reducible refine LeO.bind ?_ (fun _ => ?_))
      | exact laws_heldFigure.mono _ _ _ _ _ _
      | exact LeO.none _
      | refine LeO.ite ?_ ?_
      | refine LeO.bind ?_ (fun _ => ?_)

/-! ### laws_FnExactFirstDesk: function 3 -/
def laws_FnExactFirstDesk.f (k : Nat)  : Option (Bool) := (spec_FirstDesk.f k).bind fun bt191 => ((impl_FirstDesk.f k).bind fun bt201 => ((laws_eqDesk.f k bt201.1 bt201.2.1 bt201.2.2.1 bt201.2.2.2.1 bt201.2.2.2.2 bt191.1 bt191.2.1 bt191.2.2.1 bt191.2.2.2.1 bt191.2.2.2.2).bind fun t211 => (if t211 = true then ((laws_markDesk.f k bt201.1 bt201.2.1 bt201.2.2.1 bt201.2.2.2.1 bt201.2.2.2.2 101).bind fun bt212 => ((laws_heldDesk.f k bt201.1 bt201.2.1 bt212.2.1 bt212.2.2 bt201.2.2.2.2 101).bind fun t215 => (if t215 < 0 then (some false) else (if t215 = bt212.1 then ((impl_FirstDesk.f k).bind fun bt216 => ((laws_eqDesk.f k bt216.1 bt216.2.1 bt216.2.2.1 bt216.2.2.2.1 bt216.2.2.2.2 bt191.1 bt191.2.1 bt191.2.2.1 bt191.2.2.2.1 bt191.2.2.2.2).bind fun t226 => (if t226 = true then ((laws_heldDesk.f k bt201.1 bt201.2.1 bt212.2.1 bt212.2.2 bt201.2.2.2.2 101).bind fun t227 => (if t227 < 0 then (some false) else (if t227 = bt212.1 then (some true) else (some false)))) else (some false)))) else (some false))))) else (some false))))
theorem laws_FnExactFirstDesk.mono : ∀ k, LeO (laws_FnExactFirstDesk.f k ) (laws_FnExactFirstDesk.f (k + 1) ) := by
  intro  k
  unfold laws_FnExactFirstDesk.f
  repeat' first
      | (with_reducible exact impl_FirstDesk.mono _)
      | (with_reducible exact laws_eqDesk.mono _ _ _ _ _ _ _ _ _ _ _)
      | (with_reducible exact laws_heldDesk.mono _ _ _ _ _ _ _)
      | (with_reducible exact laws_markDesk.mono _ _ _ _ _ _ _)
      | (with_reducible exact spec_FirstDesk.mono _)
      | (with_reducible exact LeO.refl _)
      | (with_reducible exact LeO.none _)
      | (with_reducible refine LeO.ite ?_ ?_)
      | (with_reducible refine LeO.bind ?_ (fun _ => ?_))
      | exact impl_FirstDesk.mono _
      | exact laws_eqDesk.mono _ _ _ _ _ _ _ _ _ _ _
      | exact laws_heldDesk.mono _ _ _ _ _ _ _
      | exact laws_markDesk.mono _ _ _ _ _ _ _
      | exact spec_FirstDesk.mono _
      | exact LeO.none _
      | refine LeO.ite ?_ ?_
      | refine LeO.bind ?_ (fun _ => ?_)

/-! ### spec_l1In: function 20 -/
def spec_l1In.f (a0 : Int) (a1 : Int) (a2 : Int) : Option (Bool) := if a0 ≥ a1 then (some (decide (a0 ≤ a2))) else (some false)

/-! ### spec_moBits: function 21 -/
def spec_moBits.l0 : Nat → Int → Int → List Int → Int → Option (List Int)
  | 0, _, _, _, _ => none
  | k + 1, x0, x1, x5, x6 => if x6 < (wrap64 ((wrap64 ((wrap64 ((wrap64 (2 * x0)) * x1)) + x0)) + x1)) then (if 0 ≤ x6 then (if x5.length < 17592186044416 then (spec_moBits.l0 k x0 x1 (x5 ++ [shl .i64 1 x6]) (wrap64 (x6 + 1))) else (none)) else (none)) else (some x5)
def spec_moBits.f (k : Nat) (a0 : Int) (a1 : Int) : Option (List Int) := spec_moBits.l0 k a0 a1 ([] : List Int) 0
theorem spec_moBits.mono_l : ∀ k, (∀ y0 y1 y2 y3, LeO (spec_moBits.l0 k y0 y1 y2 y3) (spec_moBits.l0 (k + 1) y0 y1 y2 y3))
  | 0 => fun _ _ _ _ r h => by simp [spec_moBits.l0] at h
  | k + 1 => by
    have ih0 := spec_moBits.mono_l k
    · intro y0 y1 y2 y3
      unfold spec_moBits.l0
      repeat' first
      | (with_reducible exact ih0 _ _ _ _)
      | (with_reducible exact LeO.refl _)
      | (with_reducible exact LeO.none _)
      | (with_reducible refine LeO.ite ?_ ?_)
      | (with_reducible refine LeO.bind ?_ (fun _ => ?_))
      | exact ih0 _ _ _ _
      | exact LeO.none _
      | refine LeO.ite ?_ ?_
      | refine LeO.bind ?_ (fun _ => ?_)
theorem spec_moBits.mono : ∀ a0 a1 k, LeO (spec_moBits.f k a0 a1) (spec_moBits.f (k + 1) a0 a1) := by
  intro a0 a1 k
  have ih0 := spec_moBits.mono_l k
  unfold spec_moBits.f
  repeat' first
      | (with_reducible exact ih0 _ _ _ _)
      | (with_reducible exact LeO.refl _)
      | (with_reducible exact LeO.none _)
      | (with_reducible refine LeO.ite ?_ ?_)
      | (with_reducible refine LeO.bind ?_ (fun _ => ?_))
      | exact ih0 _ _ _ _
      | exact LeO.none _
      | refine LeO.ite ?_ ?_
      | refine LeO.bind ?_ (fun _ => ?_)

/-! ### spec_sqBit: function 36 -/
def spec_sqBit.f (a0 : Int) (a1 : Int) (a2 : Bool) (a3 : Int) : Option (Int) := if a2 = true then (if 0 ≤ (wrap64 ((wrap64 (a0 * (wrap64 (a1 + 1)))) + a3)) then (some (shl .i64 1 (wrap64 ((wrap64 (a0 * (wrap64 (a1 + 1)))) + a3)))) else (none)) else (if 0 ≤ a3 then (some (shl .i64 1 a3)) else (none))

/-! ### spec_sqFigure: function 22 -/
mutual
def spec_sqFigure.l0 : Nat → Int → Int → Int → Int → Int → Int → List Int → Option (Int × Int × List Int × List Int)
  | 0, _, _, _, _, _, _, _ => none
  | k + 1, x0, x1, x2, x8, x233000, x233001, x233002 => if x8 < (wrap64 (x0 * (wrap64 (x1 + 1)))) then ((spec_sqBit.f x0 x1 false x8).bind fun t233 => (if (Go.bits .and .i64 x2 t233) = 0 then (spec_sqFigure.l0 k x0 x1 x2 (wrap64 (x8 + 1)) x233000 x233001 x233002) else (if x233002.length < 17592186044416 then (spec_sqFigure.l0 k x0 x1 x2 (wrap64 (x8 + 1)) x233000 x233001 (x233002 ++ [x8])) else (none)))) else (spec_sqFigure.l1 k x0 x1 x2 0 x233000 x233001 x233002 ([] : List Int))
def spec_sqFigure.l1 : Nat → Int → Int → Int → Int → Int → Int → List Int → List Int → Option (Int × Int × List Int × List Int)
  | 0, _, _, _, _, _, _, _, _ => none
  | k + 1, x0, x1, x2, x9, x233000, x233001, x233002, x233003 => if x9 < (wrap64 ((wrap64 (x0 + 1)) * x1)) then ((spec_sqBit.f x0 x1 true x9).bind fun t237 => (if (Go.bits .and .i64 x2 t237) = 0 then (spec_sqFigure.l1 k x0 x1 x2 (wrap64 (x9 + 1)) x233000 x233001 x233002 x233003) else (if x233003.length < 17592186044416 then (spec_sqFigure.l1 k x0 x1 x2 (wrap64 (x9 + 1)) x233000 x233001 x233002 (x233003 ++ [x9])) else (none)))) else (some (x233000, x233001, x233002, x233003))
end
def spec_sqFigure.f (k : Nat) (a0 : Int) (a1 : Int) (a2 : Int) : Option (Int × Int × List Int × List Int) := spec_sqFigure.l0 k a0 a1 a2 0 a0 a1 ([] : List Int)
theorem spec_sqFigure.mono_l : ∀ k, (∀ y0 y1 y2 y3 y4 y5 y6, LeO (spec_sqFigure.l0 k y0 y1 y2 y3 y4 y5 y6) (spec_sqFigure.l0 (k + 1) y0 y1 y2 y3 y4 y5 y6)) ∧ (∀ y0 y1 y2 y3 y4 y5 y6 y7, LeO (spec_sqFigure.l1 k y0 y1 y2 y3 y4 y5 y6 y7) (spec_sqFigure.l1 (k + 1) y0 y1 y2 y3 y4 y5 y6 y7))
  | 0 => ⟨fun _ _ _ _ _ _ _ r h => by simp [spec_sqFigure.l0] at h, fun _ _ _ _ _ _ _ _ r h => by simp [spec_sqFigure.l1] at h⟩
  | k + 1 => by
    obtain ⟨ih0, ih1⟩ := spec_sqFigure.mono_l k
    refine ⟨?_, ?_⟩
    · intro y0 y1 y2 y3 y4 y5 y6
      unfold spec_sqFigure.l0
      repeat' first
      | (with_reducible exact ih0 _ _ _ _ _ _ _)
      | (with_reducible exact ih1 _ _ _ _ _ _ _ _)
      | (with_reducible exact LeO.refl _)
      | (with_reducible exact LeO.none _)
      | (with_reducible refine LeO.ite ?_ ?_)
      | (with_reducible refine LeO.bind ?_ (fun _ => ?_))
      | exact ih0 _ _ _ _ _ _ _
      | exact ih1 _ _ _ _ _ _ _ _
      | exact LeO.none _
      | refine LeO.ite ?_ ?_
      | refine LeO.bind ?_ (fun _ => ?_)
    · intro y0 y1 y2 y3 y4 y5 y6 y7
      unfold spec_sqFigure.l1
      repeat' first
      | (with_reducible exact ih0 _ _ _ _ _ _ _)
      | (with_reducible exact ih1 _ _ _ _ _ _ _ _)
      | (with_reducible exact LeO.refl _)
      | (with_reducible exact LeO.none _)
      | (with_reducible refine LeO.ite ?_ ?_)
      | (with_reducible refine LeO.bind ?_ (fun _ => ?_))
      | exact ih0 _ _ _ _ _ _ _
      | exact ih1 _ _ _ _ _ _ _ _
      | exact LeO.none _
      | refine LeO.ite ?_ ?_
      | refine LeO.bind ?_ (fun _ => ?_)
theorem spec_sqFigure.mono : ∀ a0 a1 a2 k, LeO (spec_sqFigure.f k a0 a1 a2) (spec_sqFigure.f (k + 1) a0 a1 a2) := by
  intro a0 a1 a2 k
  obtain ⟨ih0, ih1⟩ := spec_sqFigure.mono_l k
  unfold spec_sqFigure.f
  repeat' first
      | (with_reducible exact ih0 _ _ _ _ _ _ _)
      | (with_reducible exact ih1 _ _ _ _ _ _ _ _)
      | (with_reducible exact LeO.refl _)
      | (with_reducible exact LeO.none _)
      | (with_reducible refine LeO.ite ?_ ?_)
      | (with_reducible refine LeO.bind ?_ (fun _ => ?_))
      | exact ih0 _ _ _ _ _ _ _
      | exact ih1 _ _ _ _ _ _ _ _
      | exact LeO.none _
      | refine LeO.ite ?_ ?_
      | refine LeO.bind ?_ (fun _ => ?_)

/-! ### spec_l1Least: function 23 -/
def spec_l1Least.f (a0 : Int) (a1 : Int) : Option (Int) := if a0 < a1 then (some a0) else (some a1)

/-! ### spec_moOnes: function 24 -/
def spec_moOnes.l0 : Nat → Int → Int → Option (Int)
  | 0, _, _ => none
  | k + 1, x0, x3 => if x0 = 0 then (some x3) else (spec_moOnes.l0 k (Go.bits .and .i64 x0 (wrap64 (x0 - 1))) (wrap64 (x3 + 1)))
def spec_moOnes.f (k : Nat) (a0 : Int) : Option (Int) := spec_moOnes.l0 k a0 0
theorem spec_moOnes.mono_l : ∀ k, (∀ y0 y1, LeO (spec_moOnes.l0 k y0 y1) (spec_moOnes.l0 (k + 1) y0 y1))
  | 0 => fun _ _ r h => by simp [spec_moOnes.l0] at h
  | k + 1 => by
    have ih0 := spec_moOnes.mono_l k
    · intro y0 y1
      unfold spec_moOnes.l0
      repeat' first
      | (with_reducible exact ih0 _ _)
      | (with_reducible exact LeO.refl _)
      | (with_reducible exact LeO.none _)
      | (with_reducible refine LeO.ite ?_ ?_)
      | (with_reducible refine LeO.bind ?_ (fun _ => ?_))
      | exact ih0 _ _
      | exact LeO.none _
      | refine LeO.ite ?_ ?_
      | refine LeO.bind ?_ (fun _ => ?_)
theorem spec_moOnes.mono : ∀ a0 k, LeO (spec_moOnes.f k a0) (spec_moOnes.f (k + 1) a0) := by
  intro a0 k
  have ih0 := spec_moOnes.mono_l k
  unfold spec_moOnes.f
  repeat' first
      | (with_reducible exact ih0 _ _)
      | (with_reducible exact LeO.refl _)
      | (with_reducible exact LeO.none _)
      | (with_reducible refine LeO.ite ?_ ?_)
      | (with_reducible refine LeO.bind ?_ (fun _ => ?_))
      | exact ih0 _ _
      | exact LeO.none _
      | refine LeO.ite ?_ ?_
      | refine LeO.bind ?_ (fun _ => ?_)

/-! ### spec_MakePuzzle: function 10 -/
mutual
def spec_MakePuzzle.j0 : Nat → Int → Int → Int → Bool → Option (Int × Int × List Int × List Int × Int × Bool × Int × Bool)
  | 0, _, _, _, _ => none
  | k + 1, x0, x1, x2, x25 => if x25 = true then (some (0, 0, ([] : List Int), ([] : List Int), 0, false, 0, false)) else ((spec_moBits.f k x0 x1).bind fun t245 => (spec_MakePuzzle.l0 k x0 x1 x2 0 t245 (t245.length : Int) 0))
def spec_MakePuzzle.l0 : Nat → Int → Int → Int → Int → List Int → Int → Int → Option (Int × Int × List Int × List Int × Int × Bool × Int × Bool)
  | 0, _, _, _, _, _, _, _ => none
  | k + 1, x0, x1, x8, x9, x30, x31, x32 => if x32 < x31 then (if 0 ≤ x32 then (if x32 < (x30.length : Int) then (if (Int.tmod (Int.tmod (wrap64 ((wrap64 (97 * x8)) + 3001)) 16381) 5) = 0 then (spec_MakePuzzle.l0 k x0 x1 (Int.tmod (wrap64 ((wrap64 (97 * x8)) + 3001)) 16381) x9 x30 x31 (wrap64 (x32 + 1))) else (spec_MakePuzzle.l0 k x0 x1 (Int.tmod (wrap64 ((wrap64 (97 * x8)) + 3001)) 16381) (Go.bits .or .i64 x9 (rd x30 x32)) x30 x31 (wrap64 (x32 + 1)))) else (none)) else (none)) else ((spec_sqFigure.f k x0 x1 x9).bind fun bt249 => ((spec_moOnes.f k x9).bind fun t258 => ((spec_l1Least.f t258 (wrap64 ((Int.tmod (Int.tmod (wrap64 ((wrap64 (97 * x8)) + 3001)) 16381) 3) + 1))).bind fun t259 => (some (bt249.1, bt249.2.1, bt249.2.2.1, bt249.2.2.2, t259, false, Int.tmod (Int.tmod (wrap64 ((wrap64 (97 * (Int.tmod (wrap64 ((wrap64 (97 * x8)) + 3001)) 16381))) + 3001)) 16381) 4, true)))))
end
def spec_MakePuzzle.f (k : Nat) (a0 : Int) (a1 : Int) (a2 : Int) : Option (Int × Int × List Int × List Int × Int × Bool × Int × Bool) := (spec_l1In.f a0 1 3).bind fun t242 => (if t242 = true then ((spec_l1In.f a1 1 3).bind fun t243 => (if t243 = true then ((spec_l1In.f a2 0 9999).bind fun t244 => (spec_MakePuzzle.j0 k a0 a1 a2 (!t244))) else (spec_MakePuzzle.j0 k a0 a1 a2 true))) else (spec_MakePuzzle.j0 k a0 a1 a2 true))
theorem spec_MakePuzzle.mono_l : ∀ k, (∀ y0 y1 y2 y3, LeO (spec_MakePuzzle.j0 k y0 y1 y2 y3) (spec_MakePuzzle.j0 (k + 1) y0 y1 y2 y3)) ∧ (∀ y0 y1 y2 y3 y4 y5 y6, LeO (spec_MakePuzzle.l0 k y0 y1 y2 y3 y4 y5 y6) (spec_MakePuzzle.l0 (k + 1) y0 y1 y2 y3 y4 y5 y6))
  | 0 => ⟨fun _ _ _ _ r h => by simp [spec_MakePuzzle.j0] at h, fun _ _ _ _ _ _ _ r h => by simp [spec_MakePuzzle.l0] at h⟩
  | k + 1 => by
    obtain ⟨ih0, ih1⟩ := spec_MakePuzzle.mono_l k
    refine ⟨?_, ?_⟩
    · intro y0 y1 y2 y3
      unfold spec_MakePuzzle.j0
      repeat' first
      | (with_reducible exact ih0 _ _ _ _)
      | (with_reducible exact ih1 _ _ _ _ _ _ _)
      | (with_reducible exact spec_moBits.mono _ _ _)
      | (with_reducible exact spec_moOnes.mono _ _)
      | (with_reducible exact spec_sqFigure.mono _ _ _ _)
      | (with_reducible exact LeO.refl _)
      | (with_reducible exact LeO.none _)
      | (with_reducible refine LeO.ite ?_ ?_)
      | (with_reducible refine LeO.bind ?_ (fun _ => ?_))
      | exact ih0 _ _ _ _
      | exact ih1 _ _ _ _ _ _ _
      | exact spec_moBits.mono _ _ _
      | exact spec_moOnes.mono _ _
      | exact spec_sqFigure.mono _ _ _ _
      | exact LeO.none _
      | refine LeO.ite ?_ ?_
      | refine LeO.bind ?_ (fun _ => ?_)
    · intro y0 y1 y2 y3 y4 y5 y6
      unfold spec_MakePuzzle.l0
      repeat' first
      | (with_reducible exact ih0 _ _ _ _)
      | (with_reducible exact ih1 _ _ _ _ _ _ _)
      | (with_reducible exact spec_moBits.mono _ _ _)
      | (with_reducible exact spec_moOnes.mono _ _)
      | (with_reducible exact spec_sqFigure.mono _ _ _ _)
      | (with_reducible exact LeO.refl _)
      | (with_reducible exact LeO.none _)
      | (with_reducible refine LeO.ite ?_ ?_)
      | (with_reducible refine LeO.bind ?_ (fun _ => ?_))
      | exact ih0 _ _ _ _
      | exact ih1 _ _ _ _ _ _ _
      | exact spec_moBits.mono _ _ _
      | exact spec_moOnes.mono _ _
      | exact spec_sqFigure.mono _ _ _ _
      | exact LeO.none _
      | refine LeO.ite ?_ ?_
      | refine LeO.bind ?_ (fun _ => ?_)
theorem spec_MakePuzzle.mono : ∀ a0 a1 a2 k, LeO (spec_MakePuzzle.f k a0 a1 a2) (spec_MakePuzzle.f (k + 1) a0 a1 a2) := by
  intro a0 a1 a2 k
  obtain ⟨ih0, ih1⟩ := spec_MakePuzzle.mono_l k
  unfold spec_MakePuzzle.f
  repeat' first
      | (with_reducible exact ih0 _ _ _ _)
      | (with_reducible exact ih1 _ _ _ _ _ _ _)
      | (with_reducible exact spec_moBits.mono _ _ _)
      | (with_reducible exact spec_moOnes.mono _ _)
      | (with_reducible exact spec_sqFigure.mono _ _ _ _)
      | (with_reducible exact LeO.refl _)
      | (with_reducible exact LeO.none _)
      | (with_reducible refine LeO.ite ?_ ?_)
      | (with_reducible refine LeO.bind ?_ (fun _ => ?_))
      | exact ih0 _ _ _ _
      | exact ih1 _ _ _ _ _ _ _
      | exact spec_moBits.mono _ _ _
      | exact spec_moOnes.mono _ _
      | exact spec_sqFigure.mono _ _ _ _
      | exact LeO.none _
      | refine LeO.ite ?_ ?_
      | refine LeO.bind ?_ (fun _ => ?_)

/-! ### bits_OnesCount64: function 40 -/
def bits_OnesCount64.f (a0 : Int) : Option (Int) := some (Go.bits .and .i64 (wrap64 (IntKind.u64.wrap ((IntKind.u64.wrap ((IntKind.u64.wrap ((Go.bits .and .u64 (IntKind.u64.wrap (((IntKind.u64.wrap ((Go.bits .and .u64 ((IntKind.u64.wrap ((Go.bits .and .u64 (a0 / 2) 6148914691236517205) + (Go.bits .and .u64 a0 6148914691236517205))) / 4) 3689348814741910323) + (Go.bits .and .u64 (IntKind.u64.wrap ((Go.bits .and .u64 (a0 / 2) 6148914691236517205) + (Go.bits .and .u64 a0 6148914691236517205))) 3689348814741910323))) / 16) + (IntKind.u64.wrap ((Go.bits .and .u64 ((IntKind.u64.wrap ((Go.bits .and .u64 (a0 / 2) 6148914691236517205) + (Go.bits .and .u64 a0 6148914691236517205))) / 4) 3689348814741910323) + (Go.bits .and .u64 (IntKind.u64.wrap ((Go.bits .and .u64 (a0 / 2) 6148914691236517205) + (Go.bits .and .u64 a0 6148914691236517205))) 3689348814741910323))))) 1085102592571150095) + ((Go.bits .and .u64 (IntKind.u64.wrap (((IntKind.u64.wrap ((Go.bits .and .u64 ((IntKind.u64.wrap ((Go.bits .and .u64 (a0 / 2) 6148914691236517205) + (Go.bits .and .u64 a0 6148914691236517205))) / 4) 3689348814741910323) + (Go.bits .and .u64 (IntKind.u64.wrap ((Go.bits .and .u64 (a0 / 2) 6148914691236517205) + (Go.bits .and .u64 a0 6148914691236517205))) 3689348814741910323))) / 16) + (IntKind.u64.wrap ((Go.bits .and .u64 ((IntKind.u64.wrap ((Go.bits .and .u64 (a0 / 2) 6148914691236517205) + (Go.bits .and .u64 a0 6148914691236517205))) / 4) 3689348814741910323) + (Go.bits .and .u64 (IntKind.u64.wrap ((Go.bits .and .u64 (a0 / 2) 6148914691236517205) + (Go.bits .and .u64 a0 6148914691236517205))) 3689348814741910323))))) 1085102592571150095) / 256))) + ((IntKind.u64.wrap ((Go.bits .and .u64 (IntKind.u64.wrap (((IntKind.u64.wrap ((Go.bits .and .u64 ((IntKind.u64.wrap ((Go.bits .and .u64 (a0 / 2) 6148914691236517205) + (Go.bits .and .u64 a0 6148914691236517205))) / 4) 3689348814741910323) + (Go.bits .and .u64 (IntKind.u64.wrap ((Go.bits .and .u64 (a0 / 2) 6148914691236517205) + (Go.bits .and .u64 a0 6148914691236517205))) 3689348814741910323))) / 16) + (IntKind.u64.wrap ((Go.bits .and .u64 ((IntKind.u64.wrap ((Go.bits .and .u64 (a0 / 2) 6148914691236517205) + (Go.bits .and .u64 a0 6148914691236517205))) / 4) 3689348814741910323) + (Go.bits .and .u64 (IntKind.u64.wrap ((Go.bits .and .u64 (a0 / 2) 6148914691236517205) + (Go.bits .and .u64 a0 6148914691236517205))) 3689348814741910323))))) 1085102592571150095) + ((Go.bits .and .u64 (IntKind.u64.wrap (((IntKind.u64.wrap ((Go.bits .and .u64 ((IntKind.u64.wrap ((Go.bits .and .u64 (a0 / 2) 6148914691236517205) + (Go.bits .and .u64 a0 6148914691236517205))) / 4) 3689348814741910323) + (Go.bits .and .u64 (IntKind.u64.wrap ((Go.bits .and .u64 (a0 / 2) 6148914691236517205) + (Go.bits .and .u64 a0 6148914691236517205))) 3689348814741910323))) / 16) + (IntKind.u64.wrap ((Go.bits .and .u64 ((IntKind.u64.wrap ((Go.bits .and .u64 (a0 / 2) 6148914691236517205) + (Go.bits .and .u64 a0 6148914691236517205))) / 4) 3689348814741910323) + (Go.bits .and .u64 (IntKind.u64.wrap ((Go.bits .and .u64 (a0 / 2) 6148914691236517205) + (Go.bits .and .u64 a0 6148914691236517205))) 3689348814741910323))))) 1085102592571150095) / 256))) / 65536))) + ((IntKind.u64.wrap ((IntKind.u64.wrap ((Go.bits .and .u64 (IntKind.u64.wrap (((IntKind.u64.wrap ((Go.bits .and .u64 ((IntKind.u64.wrap ((Go.bits .and .u64 (a0 / 2) 6148914691236517205) + (Go.bits .and .u64 a0 6148914691236517205))) / 4) 3689348814741910323) + (Go.bits .and .u64 (IntKind.u64.wrap ((Go.bits .and .u64 (a0 / 2) 6148914691236517205) + (Go.bits .and .u64 a0 6148914691236517205))) 3689348814741910323))) / 16) + (IntKind.u64.wrap ((Go.bits .and .u64 ((IntKind.u64.wrap ((Go.bits .and .u64 (a0 / 2) 6148914691236517205) + (Go.bits .and .u64 a0 6148914691236517205))) / 4) 3689348814741910323) + (Go.bits .and .u64 (IntKind.u64.wrap ((Go.bits .and .u64 (a0 / 2) 6148914691236517205) + (Go.bits .and .u64 a0 6148914691236517205))) 3689348814741910323))))) 1085102592571150095) + ((Go.bits .and .u64 (IntKind.u64.wrap (((IntKind.u64.wrap ((Go.bits .and .u64 ((IntKind.u64.wrap ((Go.bits .and .u64 (a0 / 2) 6148914691236517205) + (Go.bits .and .u64 a0 6148914691236517205))) / 4) 3689348814741910323) + (Go.bits .and .u64 (IntKind.u64.wrap ((Go.bits .and .u64 (a0 / 2) 6148914691236517205) + (Go.bits .and .u64 a0 6148914691236517205))) 3689348814741910323))) / 16) + (IntKind.u64.wrap ((Go.bits .and .u64 ((IntKind.u64.wrap ((Go.bits .and .u64 (a0 / 2) 6148914691236517205) + (Go.bits .and .u64 a0 6148914691236517205))) / 4) 3689348814741910323) + (Go.bits .and .u64 (IntKind.u64.wrap ((Go.bits .and .u64 (a0 / 2) 6148914691236517205) + (Go.bits .and .u64 a0 6148914691236517205))) 3689348814741910323))))) 1085102592571150095) / 256))) + ((IntKind.u64.wrap ((Go.bits .and .u64 (IntKind.u64.wrap (((IntKind.u64.wrap ((Go.bits .and .u64 ((IntKind.u64.wrap ((Go.bits .and .u64 (a0 / 2) 6148914691236517205) + (Go.bits .and .u64 a0 6148914691236517205))) / 4) 3689348814741910323) + (Go.bits .and .u64 (IntKind.u64.wrap ((Go.bits .and .u64 (a0 / 2) 6148914691236517205) + (Go.bits .and .u64 a0 6148914691236517205))) 3689348814741910323))) / 16) + (IntKind.u64.wrap ((Go.bits .and .u64 ((IntKind.u64.wrap ((Go.bits .and .u64 (a0 / 2) 6148914691236517205) + (Go.bits .and .u64 a0 6148914691236517205))) / 4) 3689348814741910323) + (Go.bits .and .u64 (IntKind.u64.wrap ((Go.bits .and .u64 (a0 / 2) 6148914691236517205) + (Go.bits .and .u64 a0 6148914691236517205))) 3689348814741910323))))) 1085102592571150095) + ((Go.bits .and .u64 (IntKind.u64.wrap (((IntKind.u64.wrap ((Go.bits .and .u64 ((IntKind.u64.wrap ((Go.bits .and .u64 (a0 / 2) 6148914691236517205) + (Go.bits .and .u64 a0 6148914691236517205))) / 4) 3689348814741910323) + (Go.bits .and .u64 (IntKind.u64.wrap ((Go.bits .and .u64 (a0 / 2) 6148914691236517205) + (Go.bits .and .u64 a0 6148914691236517205))) 3689348814741910323))) / 16) + (IntKind.u64.wrap ((Go.bits .and .u64 ((IntKind.u64.wrap ((Go.bits .and .u64 (a0 / 2) 6148914691236517205) + (Go.bits .and .u64 a0 6148914691236517205))) / 4) 3689348814741910323) + (Go.bits .and .u64 (IntKind.u64.wrap ((Go.bits .and .u64 (a0 / 2) 6148914691236517205) + (Go.bits .and .u64 a0 6148914691236517205))) 3689348814741910323))))) 1085102592571150095) / 256))) / 65536))) / 4294967296)))) 127)

/-! ### impl_set_count: function 29 -/
def impl_set_count.f (a0 : Int) : Option (Int) := (bits_OnesCount64.f a0).bind fun t260 => (some t260)

/-! ### laws_eqPuzzle: function 12 -/
def laws_eqPuzzle.f (k : Nat) (a0_0 : Int) (a0_1 : Int) (l0_2 : List Int) (l0_3 : List Int) (a0_4 : Int) (a0_5 : Bool) (a0_6 : Int) (a1_0 : Int) (a1_1 : Int) (l1_2 : List Int) (l1_3 : List Int) (a1_4 : Int) (a1_5 : Bool) (a1_6 : Int) : Option (Bool) := (laws_eqFigure.f k a0_0 a0_1 l0_2 l0_3 a1_0 a1_1 l1_2 l1_3).bind fun t263 => (if t263 = true then (if a0_4 = a1_4 then (if (a0_5 != a1_5) = true then (some false) else (if a0_6 = a1_6 then (some true) else (some false))) else (some false)) else (some false))
theorem laws_eqPuzzle.mono : ∀ a0 a1 a2 a3 a4 a5 a6 a7 a8 a9 a10 a11 a12 a13 k, LeO (laws_eqPuzzle.f k a0 a1 a2 a3 a4 a5 a6 a7 a8 a9 a10 a11 a12 a13) (laws_eqPuzzle.f (k + 1) a0 a1 a2 a3 a4 a5 a6 a7 a8 a9 a10 a11 a12 a13) := by
  intro a0 a1 a2 a3 a4 a5 a6 a7 a8 a9 a10 a11 a12 a13 k
  unfold laws_eqPuzzle.f
  repeat' first
      | (with_reducible exact laws_eqFigure.mono _ _ _ _ _ _ _ _ _)
      | (with_reducible exact LeO.refl _)
      | (with_reducible exact LeO.none _)
      | (with_reducible refine LeO.ite ?_ ?_)
      | (with_reducible refine LeO.bind ?_ (fun _ => ?_))
      | exact laws_eqFigure.mono _ _ _ _ _ _ _ _ _
      | exact LeO.none _
      | refine LeO.ite ?_ ?_
      | refine LeO.bind ?_ (fun _ => ?_)

/-! ### laws_markPuzzle: function 13 -/
def laws_markPuzzle.f (k : Nat) (a0_0 : Int) (a0_1 : Int) (l0_2 : List Int) (l0_3 : List Int) (a0_4 : Int) (a0_5 : Bool) (a0_6 : Int) (a1 : Int) : Option (Int × List Int × List Int) := (laws_markFigure.f k a0_0 a0_1 l0_2 l0_3 a1).bind fun bt265 => (some (bt265.1, bt265.2.1, bt265.2.2))
theorem laws_markPuzzle.mono : ∀ a0 a1 a2 a3 a4 a5 a6 a7 k, LeO (laws_markPuzzle.f k a0 a1 a2 a3 a4 a5 a6 a7) (laws_markPuzzle.f (k + 1) a0 a1 a2 a3 a4 a5 a6 a7) := by
  intro a0 a1 a2 a3 a4 a5 a6 a7 k
  unfold laws_markPuzzle.f
  repeat' first
      | (with_reducible exact laws_markFigure.mono _ _ _ _ _ _)
      | (with_reducible exact LeO.refl _)
      | (with_reducible exact LeO.none _)
      | (with_reducible refine LeO.ite ?_ ?_)
      | (with_reducible refine LeO.bind ?_ (fun _ => ?_))
      | exact laws_markFigure.mono _ _ _ _ _ _
      | exact LeO.none _
      | refine LeO.ite ?_ ?_
      | refine LeO.bind ?_ (fun _ => ?_)

/-! ### laws_heldPuzzle: function 14 -/
def laws_heldPuzzle.f (k : Nat) (a0_0 : Int) (a0_1 : Int) (l0_2 : List Int) (l0_3 : List Int) (a0_4 : Int) (a0_5 : Bool) (a0_6 : Int) (a1 : Int) : Option (Int) := (laws_heldFigure.f k a0_0 a0_1 l0_2 l0_3 a1).bind fun t269 => (if t269 < 0 then (some (-1)) else (some t269))
theorem laws_heldPuzzle.mono : ∀ a0 a1 a2 a3 a4 a5 a6 a7 k, LeO (laws_heldPuzzle.f k a0 a1 a2 a3 a4 a5 a6 a7) (laws_heldPuzzle.f (k + 1) a0 a1 a2 a3 a4 a5 a6 a7) := by
  intro a0 a1 a2 a3 a4 a5 a6 a7 k
  unfold laws_heldPuzzle.f
  repeat' first
      | (with_reducible exact laws_heldFigure.mono _ _ _ _ _ _)
      | (with_reducible exact LeO.refl _)
      | (with_reducible exact LeO.none _)
      | (with_reducible refine LeO.ite ?_ ?_)
      | (with_reducible refine LeO.bind ?_ (fun _ => ?_))
      | exact laws_heldFigure.mono _ _ _ _ _ _
      | exact LeO.none _
      | refine LeO.ite ?_ ?_
      | refine LeO.bind ?_ (fun _ => ?_)

end Go.Proofs.YtkmebbadjejheaaDoor.A
