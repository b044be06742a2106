import Derived.Test.YtopifdmaaibcnaaGreatDoorHk
namespace Go.Proofs.YtopifdmaaibcnaaGreatDoor.H
open Go.RowKit Go.Proofs.YtopifdmaaibcnaaGreatDoorW.PrintWords Go.Proofs.YtopifdmaaibcnaaGreatDoorW.PrintLast Go.Proofs.YtopifdmaaibcnaaGreatDoorW.PrintMore
attribute [local go_sem] max2_int min2_int max_two min_two max_three min_three max_four min_four
set_option linter.unusedVariables false
set_option linter.unusedSimpArgs false

/-! ### impl_grid_levels: function 69 -/
def impl_grid_levels.f (a0_0 : Int) (a0_1 : Int) : Option (Int) := some (wrap64 (a0_0 * (wrap64 (a0_1 + 1))))

/-! ### impl_grid_uprights: function 95 -/
def impl_grid_uprights.f (a0_0 : Int) (a0_1 : Int) : Option (Int) := some (wrap64 (a0_1 * (wrap64 (a0_0 + 1))))

/-! ### impl_grid_all: function 67 -/
def impl_grid_all.f (a0_0 : Int) (a0_1 : Int) : Option (Int) := (impl_grid_levels.f a0_0 a0_1).bind fun t104 => ((impl_grid_uprights.f a0_0 a0_1).bind fun t105 => (if 0 ≤ (wrap64 (t104 + t105)) then (some (IntKind.u64.wrap ((shl .u64 1 (wrap64 (t104 + t105))) - 1))) else (none)))

/-! ### bits_TrailingZeros64: function 96 -/
def bits_TrailingZeros64.f (a0 : Int) : Option (Int) := if 0 ≤ a0 ∧ a0 < 18446744073709551616 then some ((Lib.ctz 64 a0.toNat : Nat) : Int) else none

/-! ### impl_set_listed: function 70 -/
def impl_set_listed.l0 : Nat → Int → List Int → Option (List Int)
  | 0, _, _ => none
  | k + 1, x0, x3 => if x0 > 0 then ((bits_TrailingZeros64.f x0).bind fun t109 => (if x3.length < 17592186044416 then (impl_set_listed.l0 k (Go.bits .and .u64 x0 (IntKind.u64.wrap (x0 - 1))) (x3 ++ [t109])) else (none))) else (some x3)
def impl_set_listed.f (k : Nat) (a0 : Int) : Option (List Int) := impl_set_listed.l0 k a0 (([] : List Int))
/-! ### bits_OnesCount64: function 111 -/
def bits_OnesCount64.f (a0 : Int) : Option (Int) := some (Go.bits .and .i64 (wrap64 (IntKind.u64.wrap ((IntKind.u64.wrap ((IntKind.u64.wrap ((Go.bits .and .u64 (IntKind.u64.wrap (((IntKind.u64.wrap ((Go.bits .and .u64 ((IntKind.u64.wrap ((Go.bits .and .u64 (a0 / 2) 6148914691236517205) + (Go.bits .and .u64 a0 6148914691236517205))) / 4) 3689348814741910323) + (Go.bits .and .u64 (IntKind.u64.wrap ((Go.bits .and .u64 (a0 / 2) 6148914691236517205) + (Go.bits .and .u64 a0 6148914691236517205))) 3689348814741910323))) / 16) + (IntKind.u64.wrap ((Go.bits .and .u64 ((IntKind.u64.wrap ((Go.bits .and .u64 (a0 / 2) 6148914691236517205) + (Go.bits .and .u64 a0 6148914691236517205))) / 4) 3689348814741910323) + (Go.bits .and .u64 (IntKind.u64.wrap ((Go.bits .and .u64 (a0 / 2) 6148914691236517205) + (Go.bits .and .u64 a0 6148914691236517205))) 3689348814741910323))))) 1085102592571150095) + ((Go.bits .and .u64 (IntKind.u64.wrap (((IntKind.u64.wrap ((Go.bits .and .u64 ((IntKind.u64.wrap ((Go.bits .and .u64 (a0 / 2) 6148914691236517205) + (Go.bits .and .u64 a0 6148914691236517205))) / 4) 3689348814741910323) + (Go.bits .and .u64 (IntKind.u64.wrap ((Go.bits .and .u64 (a0 / 2) 6148914691236517205) + (Go.bits .and .u64 a0 6148914691236517205))) 3689348814741910323))) / 16) + (IntKind.u64.wrap ((Go.bits .and .u64 ((IntKind.u64.wrap ((Go.bits .and .u64 (a0 / 2) 6148914691236517205) + (Go.bits .and .u64 a0 6148914691236517205))) / 4) 3689348814741910323) + (Go.bits .and .u64 (IntKind.u64.wrap ((Go.bits .and .u64 (a0 / 2) 6148914691236517205) + (Go.bits .and .u64 a0 6148914691236517205))) 3689348814741910323))))) 1085102592571150095) / 256))) + ((IntKind.u64.wrap ((Go.bits .and .u64 (IntKind.u64.wrap (((IntKind.u64.wrap ((Go.bits .and .u64 ((IntKind.u64.wrap ((Go.bits .and .u64 (a0 / 2) 6148914691236517205) + (Go.bits .and .u64 a0 6148914691236517205))) / 4) 3689348814741910323) + (Go.bits .and .u64 (IntKind.u64.wrap ((Go.bits .and .u64 (a0 / 2) 6148914691236517205) + (Go.bits .and .u64 a0 6148914691236517205))) 3689348814741910323))) / 16) + (IntKind.u64.wrap ((Go.bits .and .u64 ((IntKind.u64.wrap ((Go.bits .and .u64 (a0 / 2) 6148914691236517205) + (Go.bits .and .u64 a0 6148914691236517205))) / 4) 3689348814741910323) + (Go.bits .and .u64 (IntKind.u64.wrap ((Go.bits .and .u64 (a0 / 2) 6148914691236517205) + (Go.bits .and .u64 a0 6148914691236517205))) 3689348814741910323))))) 1085102592571150095) + ((Go.bits .and .u64 (IntKind.u64.wrap (((IntKind.u64.wrap ((Go.bits .and .u64 ((IntKind.u64.wrap ((Go.bits .and .u64 (a0 / 2) 6148914691236517205) + (Go.bits .and .u64 a0 6148914691236517205))) / 4) 3689348814741910323) + (Go.bits .and .u64 (IntKind.u64.wrap ((Go.bits .and .u64 (a0 / 2) 6148914691236517205) + (Go.bits .and .u64 a0 6148914691236517205))) 3689348814741910323))) / 16) + (IntKind.u64.wrap ((Go.bits .and .u64 ((IntKind.u64.wrap ((Go.bits .and .u64 (a0 / 2) 6148914691236517205) + (Go.bits .and .u64 a0 6148914691236517205))) / 4) 3689348814741910323) + (Go.bits .and .u64 (IntKind.u64.wrap ((Go.bits .and .u64 (a0 / 2) 6148914691236517205) + (Go.bits .and .u64 a0 6148914691236517205))) 3689348814741910323))))) 1085102592571150095) / 256))) / 65536))) + ((IntKind.u64.wrap ((IntKind.u64.wrap ((Go.bits .and .u64 (IntKind.u64.wrap (((IntKind.u64.wrap ((Go.bits .and .u64 ((IntKind.u64.wrap ((Go.bits .and .u64 (a0 / 2) 6148914691236517205) + (Go.bits .and .u64 a0 6148914691236517205))) / 4) 3689348814741910323) + (Go.bits .and .u64 (IntKind.u64.wrap ((Go.bits .and .u64 (a0 / 2) 6148914691236517205) + (Go.bits .and .u64 a0 6148914691236517205))) 3689348814741910323))) / 16) + (IntKind.u64.wrap ((Go.bits .and .u64 ((IntKind.u64.wrap ((Go.bits .and .u64 (a0 / 2) 6148914691236517205) + (Go.bits .and .u64 a0 6148914691236517205))) / 4) 3689348814741910323) + (Go.bits .and .u64 (IntKind.u64.wrap ((Go.bits .and .u64 (a0 / 2) 6148914691236517205) + (Go.bits .and .u64 a0 6148914691236517205))) 3689348814741910323))))) 1085102592571150095) + ((Go.bits .and .u64 (IntKind.u64.wrap (((IntKind.u64.wrap ((Go.bits .and .u64 ((IntKind.u64.wrap ((Go.bits .and .u64 (a0 / 2) 6148914691236517205) + (Go.bits .and .u64 a0 6148914691236517205))) / 4) 3689348814741910323) + (Go.bits .and .u64 (IntKind.u64.wrap ((Go.bits .and .u64 (a0 / 2) 6148914691236517205) + (Go.bits .and .u64 a0 6148914691236517205))) 3689348814741910323))) / 16) + (IntKind.u64.wrap ((Go.bits .and .u64 ((IntKind.u64.wrap ((Go.bits .and .u64 (a0 / 2) 6148914691236517205) + (Go.bits .and .u64 a0 6148914691236517205))) / 4) 3689348814741910323) + (Go.bits .and .u64 (IntKind.u64.wrap ((Go.bits .and .u64 (a0 / 2) 6148914691236517205) + (Go.bits .and .u64 a0 6148914691236517205))) 3689348814741910323))))) 1085102592571150095) / 256))) + ((IntKind.u64.wrap ((Go.bits .and .u64 (IntKind.u64.wrap (((IntKind.u64.wrap ((Go.bits .and .u64 ((IntKind.u64.wrap ((Go.bits .and .u64 (a0 / 2) 6148914691236517205) + (Go.bits .and .u64 a0 6148914691236517205))) / 4) 3689348814741910323) + (Go.bits .and .u64 (IntKind.u64.wrap ((Go.bits .and .u64 (a0 / 2) 6148914691236517205) + (Go.bits .and .u64 a0 6148914691236517205))) 3689348814741910323))) / 16) + (IntKind.u64.wrap ((Go.bits .and .u64 ((IntKind.u64.wrap ((Go.bits .and .u64 (a0 / 2) 6148914691236517205) + (Go.bits .and .u64 a0 6148914691236517205))) / 4) 3689348814741910323) + (Go.bits .and .u64 (IntKind.u64.wrap ((Go.bits .and .u64 (a0 / 2) 6148914691236517205) + (Go.bits .and .u64 a0 6148914691236517205))) 3689348814741910323))))) 1085102592571150095) + ((Go.bits .and .u64 (IntKind.u64.wrap (((IntKind.u64.wrap ((Go.bits .and .u64 ((IntKind.u64.wrap ((Go.bits .and .u64 (a0 / 2) 6148914691236517205) + (Go.bits .and .u64 a0 6148914691236517205))) / 4) 3689348814741910323) + (Go.bits .and .u64 (IntKind.u64.wrap ((Go.bits .and .u64 (a0 / 2) 6148914691236517205) + (Go.bits .and .u64 a0 6148914691236517205))) 3689348814741910323))) / 16) + (IntKind.u64.wrap ((Go.bits .and .u64 ((IntKind.u64.wrap ((Go.bits .and .u64 (a0 / 2) 6148914691236517205) + (Go.bits .and .u64 a0 6148914691236517205))) / 4) 3689348814741910323) + (Go.bits .and .u64 (IntKind.u64.wrap ((Go.bits .and .u64 (a0 / 2) 6148914691236517205) + (Go.bits .and .u64 a0 6148914691236517205))) 3689348814741910323))))) 1085102592571150095) / 256))) / 65536))) / 4294967296)))) 127)

/-! ### impl_set_count: function 87 -/
def impl_set_count.f (a0 : Int) : Option (Int) := (bits_OnesCount64.f a0).bind fun t113 => (some t113)

/-! ### impl_grid_level: function 75 -/
def impl_grid_level.f (a0_0 : Int) (a0_1 : Int) (a1 : Int) (a2 : Int) : Option (Int) := if 0 ≤ (wrap64 ((wrap64 (a2 * a0_0)) + a1)) then (some (shl .u64 1 (wrap64 ((wrap64 (a2 * a0_0)) + a1)))) else (none)

/-! ### impl_grid_upright: function 74 -/
def impl_grid_upright.f (a0_0 : Int) (a0_1 : Int) (a1 : Int) (a2 : Int) : Option (Int) := (impl_grid_levels.f a0_0 a0_1).bind fun t116 => (if 0 ≤ (wrap64 ((wrap64 (t116 + (wrap64 (a2 * (wrap64 (a0_0 + 1)))))) + a1)) then (some (shl .u64 1 (wrap64 ((wrap64 (t116 + (wrap64 (a2 * (wrap64 (a0_0 + 1)))))) + a1)))) else (none))

/-! ### impl_Figure_grid: function 42 -/
def impl_Figure_grid.f (a0_0 : Int) (a0_1 : Int) (l0_2 : List Int) (l0_3 : List Int) : Option (Int × Int) := some (a0_0, a0_1)

/-! ### impl_Figure_set: function 68 -/
mutual
def impl_Figure_set.l0 : Nat → Int → List Int → Int → Int → Int → Int → List Int → List Int → Option (Int)
  | 0, _, _, _, _, _, _, _, _ => none
  | k + 1, x3, x9, x10, x11, x120000, x120001, x120002, x120003 => if x11 < x10 then (if 0 ≤ x11 then (if x11 < (x9.length : Int) then (if 0 ≤ (rd x9 x11) then (impl_Figure_set.l0 k (Go.bits .or .u64 x3 (shl .u64 1 (rd x9 x11))) x9 x10 (wrap64 (x11 + 1)) x120000 x120001 x120002 x120003) else (none)) else (none)) else (none)) else (impl_Figure_set.l1 k x3 x120003 (x120003.length : Int) 0 x120000 x120001 x120002 x120003)
def impl_Figure_set.l1 : Nat → Int → List Int → Int → Int → Int → Int → List Int → List Int → Option (Int)
  | 0, _, _, _, _, _, _, _, _ => none
  | k + 1, x3, x21, x22, x23, x120000, x120001, x120002, x120003 => if x23 < x22 then (if 0 ≤ x23 then (if x23 < (x21.length : Int) then ((impl_Figure_grid.f x120000 x120001 x120002 x120003).bind fun bt122 => ((impl_grid_levels.f bt122.1 bt122.2).bind fun t124 => (if 0 ≤ (wrap64 (t124 + (rd x21 x23))) then (impl_Figure_set.l1 k (Go.bits .or .u64 x3 (shl .u64 1 (wrap64 (t124 + (rd x21 x23))))) x21 x22 (wrap64 (x23 + 1)) x120000 x120001 x120002 x120003) else (none)))) else (none)) else (none)) else (some x3)
end
def impl_Figure_set.f (k : Nat) (a0_0 : Int) (a0_1 : Int) (l0_2 : List Int) (l0_3 : List Int) : Option (Int) := impl_Figure_set.l0 k 0 l0_2 (l0_2.length : Int) 0 a0_0 a0_1 l0_2 l0_3
/-! ### impl_grid_around: function 112 -/
mutual
def impl_grid_around.l0 : Nat → Int → Int → Int → Int → Int → Int → Int → Int → Int → Option (Int)
  | 0, _, _, _, _, _, _, _, _, _ => none
  | k + 1, x1, x2, x3, x4, x11, x14, x15, x126000, x126001 => if x15 < x14 then ((impl_grid_level.f x126000 x126001 (wrap64 (x1 + x15)) x2).bind fun t126 => ((impl_grid_level.f x126000 x126001 (wrap64 (x1 + x15)) (wrap64 (x2 + x4))).bind fun t127 => (impl_grid_around.l0 k x1 x2 x3 x4 (Go.bits .or .u64 x11 (Go.bits .or .u64 t126 t127)) x14 (wrap64 (x15 + 1)) x126000 x126001))) else (impl_grid_around.l1 k x1 x2 x3 x11 x4 0 x126000 x126001)
def impl_grid_around.l1 : Nat → Int → Int → Int → Int → Int → Int → Int → Int → Option (Int)
  | 0, _, _, _, _, _, _, _, _ => none
  | k + 1, x1, x2, x3, x11, x36, x37, x126000, x126001 => if x37 < x36 then ((impl_grid_upright.f x126000 x126001 x1 (wrap64 (x2 + x37))).bind fun t128 => ((impl_grid_upright.f x126000 x126001 (wrap64 (x1 + x3)) (wrap64 (x2 + x37))).bind fun t129 => (impl_grid_around.l1 k x1 x2 x3 (Go.bits .or .u64 x11 (Go.bits .or .u64 t128 t129)) x36 (wrap64 (x37 + 1)) x126000 x126001))) else (some x11)
end
def impl_grid_around.f (k : Nat) (a0_0 : Int) (a0_1 : Int) (a1 : Int) (a2 : Int) (a3 : Int) (a4 : Int) : Option (Int) := impl_grid_around.l0 k a1 a2 a3 a4 0 a3 0 a0_0 a0_1
theorem impl_grid_around.mono_l : ∀ k, (∀ y0 y1 y2 y3 y4 y5 y6 y7 y8, LeO (impl_grid_around.l0 k y0 y1 y2 y3 y4 y5 y6 y7 y8) (impl_grid_around.l0 (k + 1) y0 y1 y2 y3 y4 y5 y6 y7 y8)) ∧ (∀ y0 y1 y2 y3 y4 y5 y6 y7, LeO (impl_grid_around.l1 k y0 y1 y2 y3 y4 y5 y6 y7) (impl_grid_around.l1 (k + 1) y0 y1 y2 y3 y4 y5 y6 y7))
  | 0 => ⟨fun _ _ _ _ _ _ _ _ _ r h => by simp [impl_grid_around.l0] at h, fun _ _ _ _ _ _ _ _ r h => by simp [impl_grid_around.l1] at h⟩
  | k + 1 => by
    obtain ⟨ih0, ih1⟩ := impl_grid_around.mono_l k
    refine ⟨?_, ?_⟩
    · intro y0 y1 y2 y3 y4 y5 y6 y7 y8
      unfold impl_grid_around.l0
      repeat' first
      | (with_reducible exact ih0 _ _ _ _ _ _ _ _ _)
      | (with_reducible exact ih1 _ _ _ _ _ _ _ _)
      | (with_reducible exact LeO.refl _)
      | (with_reducible exact LeO.none _)
      | (with_reducible refine LeO.ite ?_ ?_)
      | (with_reducible refine LeO.bind ?_ (fun _ => ?_))
      | exact ih0 _ _ _ _ _ _ _ _ _
      | exact ih1 _ _ _ _ _ _ _ _
      | exact LeO.none _
      | refine LeO.ite ?_ ?_
      | refine LeO.bind ?_ (fun _ => ?_)
    · intro y0 y1 y2 y3 y4 y5 y6 y7
      unfold impl_grid_around.l1
      repeat' first
      | (with_reducible exact ih0 _ _ _ _ _ _ _ _ _)
      | (with_reducible exact ih1 _ _ _ _ _ _ _ _)
      | (with_reducible exact LeO.refl _)
      | (with_reducible exact LeO.none _)
      | (with_reducible refine LeO.ite ?_ ?_)
      | (with_reducible refine LeO.bind ?_ (fun _ => ?_))
      | exact ih0 _ _ _ _ _ _ _ _ _
      | exact ih1 _ _ _ _ _ _ _ _
      | exact LeO.none _
      | refine LeO.ite ?_ ?_
      | refine LeO.bind ?_ (fun _ => ?_)
theorem impl_grid_around.mono : ∀ a0 a1 a2 a3 a4 a5 k, LeO (impl_grid_around.f k a0 a1 a2 a3 a4 a5) (impl_grid_around.f (k + 1) a0 a1 a2 a3 a4 a5) := by
  intro a0 a1 a2 a3 a4 a5 k
  obtain ⟨ih0, ih1⟩ := impl_grid_around.mono_l k
  unfold impl_grid_around.f
  repeat' first
      | (with_reducible exact ih0 _ _ _ _ _ _ _ _ _)
      | (with_reducible exact ih1 _ _ _ _ _ _ _ _)
      | (with_reducible exact LeO.refl _)
      | (with_reducible exact LeO.none _)
      | (with_reducible refine LeO.ite ?_ ?_)
      | (with_reducible refine LeO.bind ?_ (fun _ => ?_))
      | exact ih0 _ _ _ _ _ _ _ _ _
      | exact ih1 _ _ _ _ _ _ _ _
      | exact LeO.none _
      | refine LeO.ite ?_ ?_
      | refine LeO.bind ?_ (fun _ => ?_)

/-! ### impl_grid_squares: function 89 -/
mutual
def impl_grid_squares.l0 : Nat → List (S127) → Int → Int → Int → Option ((List (S127)))
  | 0, _, _, _, _ => none
  | k + 1, x3, x4, x131000, x131001 => if x4 ≤ (mn x131000 x131001) then (impl_grid_squares.l1 k x3 x4 0 x131000 x131001) else (some x3)
def impl_grid_squares.l1 : Nat → List (S127) → Int → Int → Int → Int → Option ((List (S127)))
  | 0, _, _, _, _, _ => none
  | k + 1, x3, x4, x5, x131000, x131001 => if (wrap64 (x5 + x4)) ≤ x131001 then (impl_grid_squares.l2 k x3 x4 x5 0 x131000 x131001) else (impl_grid_squares.l0 k x3 (wrap64 (x4 + 1)) x131000 x131001)
def impl_grid_squares.l2 : Nat → List (S127) → Int → Int → Int → Int → Int → Option ((List (S127)))
  | 0, _, _, _, _, _, _ => none
  | k + 1, x3, x4, x5, x6, x131000, x131001 => if (wrap64 (x6 + x4)) ≤ x131000 then ((impl_grid_around.f k x131000 x131001 x6 x5 x4 x4).bind fun t134 => (if x3.length < 4398046511104 then (impl_grid_squares.l2 k (x3 ++ [(⟨x6, x5, x4, t134⟩ : S127)]) x4 x5 (wrap64 (x6 + 1)) x131000 x131001) else (none))) else (impl_grid_squares.l1 k x3 x4 (wrap64 (x5 + 1)) x131000 x131001)
end
def impl_grid_squares.f (k : Nat) (a0_0 : Int) (a0_1 : Int) : Option ((List (S127))) := impl_grid_squares.l0 k (([] : List (S127))) 1 a0_0 a0_1
theorem impl_grid_squares.mono_l : ∀ k, (∀ y0 y1 y2 y3, LeO (impl_grid_squares.l0 k y0 y1 y2 y3) (impl_grid_squares.l0 (k + 1) y0 y1 y2 y3)) ∧ (∀ y0 y1 y2 y3 y4, LeO (impl_grid_squares.l1 k y0 y1 y2 y3 y4) (impl_grid_squares.l1 (k + 1) y0 y1 y2 y3 y4)) ∧ (∀ y0 y1 y2 y3 y4 y5, LeO (impl_grid_squares.l2 k y0 y1 y2 y3 y4 y5) (impl_grid_squares.l2 (k + 1) y0 y1 y2 y3 y4 y5))
  | 0 => ⟨fun _ _ _ _ r h => by simp [impl_grid_squares.l0] at h, fun _ _ _ _ _ r h => by simp [impl_grid_squares.l1] at h, fun _ _ _ _ _ _ r h => by simp [impl_grid_squares.l2] at h⟩
  | k + 1 => by
    obtain ⟨ih0, ih1, ih2⟩ := impl_grid_squares.mono_l k
    refine ⟨?_, ?_, ?_⟩
    · intro y0 y1 y2 y3
      unfold impl_grid_squares.l0
      repeat' first
      | (with_reducible exact ih0 _ _ _ _)
      | (with_reducible exact ih1 _ _ _ _ _)
      | (with_reducible exact ih2 _ _ _ _ _ _)
      | (with_reducible exact impl_grid_around.mono _ _ _ _ _ _ _)
      | (with_reducible exact LeO.refl _)
      | (with_reducible exact LeO.none _)
      | (with_reducible refine LeO.ite ?_ ?_)
      | (with_reducible refine LeO.bind ?_ (fun _ => ?_))
      | exact ih0 _ _ _ _
      | exact ih1 _ _ _ _ _
      | exact ih2 _ _ _ _ _ _
      | exact impl_grid_around.mono _ _ _ _ _ _ _
      | exact LeO.none _
      | refine LeO.ite ?_ ?_
      | refine LeO.bind ?_ (fun _ => ?_)
    · intro y0 y1 y2 y3 y4
      unfold impl_grid_squares.l1
      repeat' first
      | (with_reducible exact ih0 _ _ _ _)
      | (with_reducible exact ih1 _ _ _ _ _)
      | (with_reducible exact ih2 _ _ _ _ _ _)
      | (with_reducible exact impl_grid_around.mono _ _ _ _ _ _ _)
      | (with_reducible exact LeO.refl _)
      | (with_reducible exact LeO.none _)
      | (with_reducible refine LeO.ite ?_ ?_)
      | (with_reducible refine LeO.bind ?_ (fun _ => ?_))
      | exact ih0 _ _ _ _
      | exact ih1 _ _ _ _ _
      | exact ih2 _ _ _ _ _ _
      | exact impl_grid_around.mono _ _ _ _ _ _ _
      | exact LeO.none _
      | refine LeO.ite ?_ ?_
      | refine LeO.bind ?_ (fun _ => ?_)
    · intro y0 y1 y2 y3 y4 y5
      unfold impl_grid_squares.l2
      repeat' first
      | (with_reducible exact ih0 _ _ _ _)
      | (with_reducible exact ih1 _ _ _ _ _)
      | (with_reducible exact ih2 _ _ _ _ _ _)
      | (with_reducible exact impl_grid_around.mono _ _ _ _ _ _ _)
      | (with_reducible exact LeO.refl _)
      | (with_reducible exact LeO.none _)
      | (with_reducible refine LeO.ite ?_ ?_)
      | (with_reducible refine LeO.bind ?_ (fun _ => ?_))
      | exact ih0 _ _ _ _
      | exact ih1 _ _ _ _ _
      | exact ih2 _ _ _ _ _ _
      | exact impl_grid_around.mono _ _ _ _ _ _ _
      | exact LeO.none _
      | refine LeO.ite ?_ ?_
      | refine LeO.bind ?_ (fun _ => ?_)
theorem impl_grid_squares.mono : ∀ a0 a1 k, LeO (impl_grid_squares.f k a0 a1) (impl_grid_squares.f (k + 1) a0 a1) := by
  intro a0 a1 k
  obtain ⟨ih0, ih1, ih2⟩ := impl_grid_squares.mono_l k
  unfold impl_grid_squares.f
  repeat' first
      | (with_reducible exact ih0 _ _ _ _)
      | (with_reducible exact ih1 _ _ _ _ _)
      | (with_reducible exact ih2 _ _ _ _ _ _)
      | (with_reducible exact impl_grid_around.mono _ _ _ _ _ _ _)
      | (with_reducible exact LeO.refl _)
      | (with_reducible exact LeO.none _)
      | (with_reducible refine LeO.ite ?_ ?_)
      | (with_reducible refine LeO.bind ?_ (fun _ => ?_))
      | exact ih0 _ _ _ _
      | exact ih1 _ _ _ _ _
      | exact ih2 _ _ _ _ _ _
      | exact impl_grid_around.mono _ _ _ _ _ _ _
      | exact LeO.none _
      | refine LeO.ite ?_ ?_
      | refine LeO.bind ?_ (fun _ => ?_)

/-! ### impl_bit: function 116 -/
def impl_bit.f (a0 : Bool) : Option (Int) := if a0 = true then (some 1) else (some 0)

/-! ### impl_countOf: function 92 -/
def impl_countOf.l0 : Nat → Int → Int → List (S127) → Int → Int → Option (Int)
  | 0, _, _, _, _, _ => none
  | k + 1, x1, x5, x8, x9, x10 => if x10 < x9 then (if 0 ≤ x10 then (if x10 < (x8.length : Int) then ((impl_bit.f ((Go.bits .andNot .u64 ((rd_T127 x8 x10).f3) x1) == 0)).bind fun t140 => (impl_countOf.l0 k x1 (wrap64 (x5 + t140)) x8 x9 (wrap64 (x10 + 1)))) else (none)) else (none)) else (some x5)
def impl_countOf.f (k : Nat) (l0 : List (S127)) (a1 : Int) : Option (Int) := impl_countOf.l0 k a1 0 l0 (l0.length : Int) 0
/-! ### impl_of: function 117 -/
/-- all of whose edges a set has -/
def ofP (s : Int) (q : S127) : Bool := Go.bits .andNot .u64 q.f3 s == 0
def impl_of.f (l0 : List (S127)) (a1 : Int) : Option ((List (S127))) := if l0.length < 4398046511104 then some (l0.filter (ofP a1)) else none


/-! ### impl_needless: function 93 -/
def impl_needless.l0 : Nat → Int → List (S127) → Int → Int → Option (Int)
  | 0, _, _, _, _ => none
  | k + 1, x5, x11, x12, x13 => if x13 < x12 then (if 0 ≤ x13 then (if x13 < (x11.length : Int) then (impl_needless.l0 k (Go.bits .andNot .u64 x5 ((rd_T127 x11 x13).f3)) x11 x12 (wrap64 (x13 + 1))) else (none)) else (none)) else (some x5)
def impl_needless.f (k : Nat) (l0 : List (S127)) (a1 : Int) : Option (Int) := (impl_of.f l0 a1).bind fun t141 => (impl_needless.l0 k a1 t141 (t141.length : Int) 0)
/-! ### impl_Puzzle_way: function 62 -/
def impl_Puzzle_way.f (a0_0 : Int) (a0_1 : Int) (l0_2 : List Int) (l0_3 : List Int) (a0_4 : Int) (a0_5 : Bool) (a0_6 : Int) : Option (Int × Int × List Int × List Int × Int × Bool) := some (a0_0, a0_1, l0_2, l0_3, a0_4, a0_5)

/-! ### impl_way_with: function 63 -/
/-- all ways to choose so many of a list, as bits together -/
def chB (f : Int → Int → Int) : Nat → Int → List Int → List Int
  | 0, own, _ => [own]
  | _ + 1, _, [] => []
  | n + 1, own, b :: r => chB f n (f own b) r ++ chB f (n + 1) own r
/-- a set with one more edge -/
def fI (own b : Int) : Int := Go.bits .or .u64 own (IntKind.u64.wrap (2 ^ min b.toNat 64))
/-- a set without some edges and with others -/
def fM (sv gone put : Int) : Int := Go.bits .or .u64 (Go.bits .andNot .u64 sv gone) put
/-- what is made when some edges are gone -/
def inM (mv : Bool) (n : Nat) (sv : Int) (l : List Int) (gone : Int) : List Int := if mv = true then (chB fI n 0 l).map (fM sv gone) else [Go.bits .andNot .u64 sv gone]
def inL (mv : Bool) (n : Nat) (l : List Int) : Nat := if mv = true then (chB fI n 0 l).length else 1
/-- is a set one of those that are looked for -/
def wiP (k : Nat) (sqs : List S127) (squares : Int) (tidy : Bool) (s : Int) : Bool := impl_countOf.f k sqs s == some squares && (!tidy || impl_needless.f k sqs s == some 0)
/-- all edges that are free, if matches are moved -/
def wiF (k : Nat) (a0 a1 : Int) (mv : Bool) (sv : Int) : Option (List Int) := if mv = true then (impl_grid_all.f a0 a1).bind fun al => impl_set_listed.f k (Go.bits .andNot .u64 al sv) else some []
def impl_way_with.f (k : Nat) (a0_0 : Int) (a0_1 : Int) (l0_2 : List Int) (l0_3 : List Int) (a0_4 : Int) (a0_5 : Bool) (a1 : Int) (a2 : Bool) : Option (List Int) := (impl_grid_squares.f k a0_0 a0_1).bind fun sqs => (impl_Figure_set.f k a0_0 a0_1 l0_2 l0_3).bind fun sv => (impl_set_listed.f k sv).bind fun lg => (wiF k a0_0 a0_1 a0_5 sv).bind fun l =>
  if 0 ≤ a0_4 ∧ a0_4 ≤ 1000000 ∧ sqs.length < k ∧ sqs.length ≤ 1000 ∧ lg.length ≤ 1000000 ∧ l.length ≤ 1000000 ∧ (∀ b ∈ lg, 0 ≤ b) ∧ (∀ b ∈ l, 0 ≤ b) ∧ (chB fI a0_4.toNat 0 lg).length * inL a0_5 a0_4.toNat l ≤ 1000000 then some (((chB fI a0_4.toNat 0 lg).flatMap (inM a0_5 a0_4.toNat sv l)).filter (wiP k sqs a1 a2)) else none


/-! ### spec_sqBit: function 66 -/
def spec_sqBit.f (a0 : Int) (a1 : Int) (a2 : Bool) (a3 : Int) : Option (Int) := if a2 = true then (if 0 ≤ (wrap64 ((wrap64 (a0 * (wrap64 (a1 + 1)))) + a3)) then (some (shl .i64 1 (wrap64 ((wrap64 (a0 * (wrap64 (a1 + 1)))) + a3)))) else (none)) else (if 0 ≤ a3 then (some (shl .i64 1 a3)) else (none))

/-! ### spec_sqMask: function 47 -/
mutual
def spec_sqMask.l0 : Nat → Int → List Int → Int → Int → Int → Int → List Int → List Int → Option (Int)
  | 0, _, _, _, _, _, _, _, _ => none
  | k + 1, x3, x9, x10, x11, x149000, x149001, x149002, x149003 => if x11 < x10 then (if 0 ≤ x11 then (if x11 < (x9.length : Int) then ((spec_sqBit.f x149000 x149001 false (rd x9 x11)).bind fun t150 => (spec_sqMask.l0 k (Go.bits .or .i64 x3 t150) x9 x10 (wrap64 (x11 + 1)) x149000 x149001 x149002 x149003)) else (none)) else (none)) else (spec_sqMask.l1 k x3 x149003 (x149003.length : Int) 0 x149000 x149001 x149002 x149003)
def spec_sqMask.l1 : Nat → Int → List Int → Int → Int → Int → Int → List Int → List Int → Option (Int)
  | 0, _, _, _, _, _, _, _, _ => none
  | k + 1, x3, x25, x26, x27, x149000, x149001, x149002, x149003 => if x27 < x26 then (if 0 ≤ x27 then (if x27 < (x25.length : Int) then ((spec_sqBit.f x149000 x149001 true (rd x25 x27)).bind fun t152 => (spec_sqMask.l1 k (Go.bits .or .i64 x3 t152) x25 x26 (wrap64 (x27 + 1)) x149000 x149001 x149002 x149003)) else (none)) else (none)) else (some x3)
end
def spec_sqMask.f (k : Nat) (a0_0 : Int) (a0_1 : Int) (l0_2 : List Int) (l0_3 : List Int) : Option (Int) := spec_sqMask.l0 k 0 l0_2 (l0_2.length : Int) 0 a0_0 a0_1 l0_2 l0_3
/-! ### spec_moBits: function 129 -/
def spec_moBits.l0 : Nat → Int → Int → List Int → Int → Option (List Int)
  | 0, _, _, _, _ => none
  | k + 1, x0, x1, x5, x6 => if x6 < (wrap64 ((wrap64 ((wrap64 ((wrap64 (2 * x0)) * x1)) + x0)) + x1)) then (if 0 ≤ x6 then (if x5.length < 17592186044416 then (spec_moBits.l0 k x0 x1 (x5 ++ [shl .i64 1 x6]) (wrap64 (x6 + 1))) else (none)) else (none)) else (some x5)
def spec_moBits.f (k : Nat) (a0 : Int) (a1 : Int) : Option (List Int) := spec_moBits.l0 k a0 a1 ([] : List Int) 0
/-! ### spec_moMade: function 106 -/
/-- bits with one more -/
def fS (own b : Int) : Int := Go.bits .or .i64 own b
/-- what is made by taking one list of bits, or laying another -/
def moM (mask a : Int) : Int := Go.bits .andNot .i64 mask a
def moL (mask a b : Int) : Int := Go.bits .or .i64 (Go.bits .andNot .i64 mask a) b
def moHv (mask : Int) (b : Int) : Bool := Go.bits .and .i64 mask b != 0
def spec_moMade.f (k : Nat) (a0_0 : Int) (a0_1 : Int) (l0_2 : List Int) (l0_3 : List Int) (a1 : Int) (a2 : Bool) : Option (List Int) := (spec_sqMask.f k a0_0 a0_1 l0_2 l0_3).bind fun mask => (spec_moBits.f k a0_0 a0_1).bind fun bits =>
  if 0 ≤ a1 ∧ a1 ≤ 1000000 ∧ bits.length ≤ 1000 ∧ (chB fS a1.toNat 0 (bits.filter (moHv mask))).length ≤ 1000000 ∧ (a2 = true → (chB fS a1.toNat 0 (bits.filter fun b => !moHv mask b)).length ≤ 1000000 ∧ ((chB fS a1.toNat 0 (bits.filter (moHv mask))).flatMap fun a => (chB fS a1.toNat 0 (bits.filter fun b => !moHv mask b)).map (moL mask a)).length ≤ 1000000)
  then some (if a2 = true then ((chB fS a1.toNat 0 (bits.filter (moHv mask))).flatMap fun a => (chB fS a1.toNat 0 (bits.filter fun b => !moHv mask b)).map (moL mask a)) else (chB fS a1.toNat 0 (bits.filter (moHv mask))).map (moM mask)) else none


/-! ### spec_sqAround: function 128 -/
mutual
def spec_sqAround.l0 : Nat → Int → Int → Int → Int → Int → Int → Int → Int → Option (Int)
  | 0, _, _, _, _, _, _, _, _ => none
  | k + 1, x0, x1, x2, x3, x4, x5, x13, x14 => if x14 < x4 then ((spec_sqBit.f x0 x1 false (wrap64 ((wrap64 ((wrap64 (x3 * x0)) + x2)) + x14))).bind fun t156 => ((spec_sqBit.f x0 x1 false (wrap64 ((wrap64 ((wrap64 ((wrap64 (x3 + x5)) * x0)) + x2)) + x14))).bind fun t157 => (spec_sqAround.l0 k x0 x1 x2 x3 x4 x5 (Go.bits .or .i64 x13 (Go.bits .or .i64 t156 t157)) (wrap64 (x14 + 1))))) else (spec_sqAround.l1 k x0 x1 x2 x3 x4 x5 x13 0)
def spec_sqAround.l1 : Nat → Int → Int → Int → Int → Int → Int → Int → Int → Option (Int)
  | 0, _, _, _, _, _, _, _, _ => none
  | k + 1, x0, x1, x2, x3, x4, x5, x13, x15 => if x15 < x5 then ((spec_sqBit.f x0 x1 true (wrap64 ((wrap64 ((wrap64 (x3 + x15)) * (wrap64 (x0 + 1)))) + x2))).bind fun t158 => ((spec_sqBit.f x0 x1 true (wrap64 ((wrap64 ((wrap64 ((wrap64 (x3 + x15)) * (wrap64 (x0 + 1)))) + x2)) + x4))).bind fun t159 => (spec_sqAround.l1 k x0 x1 x2 x3 x4 x5 (Go.bits .or .i64 x13 (Go.bits .or .i64 t158 t159)) (wrap64 (x15 + 1))))) else (some x13)
end
def spec_sqAround.f (k : Nat) (a0 : Int) (a1 : Int) (a2 : Int) (a3 : Int) (a4 : Int) (a5 : Int) : Option (Int) := spec_sqAround.l0 k a0 a1 a2 a3 a4 a5 0 0
theorem spec_sqAround.mono_l : ∀ k, (∀ y0 y1 y2 y3 y4 y5 y6 y7, LeO (spec_sqAround.l0 k y0 y1 y2 y3 y4 y5 y6 y7) (spec_sqAround.l0 (k + 1) y0 y1 y2 y3 y4 y5 y6 y7)) ∧ (∀ y0 y1 y2 y3 y4 y5 y6 y7, LeO (spec_sqAround.l1 k y0 y1 y2 y3 y4 y5 y6 y7) (spec_sqAround.l1 (k + 1) y0 y1 y2 y3 y4 y5 y6 y7))
  | 0 => ⟨fun _ _ _ _ _ _ _ _ r h => by simp [spec_sqAround.l0] at h, fun _ _ _ _ _ _ _ _ r h => by simp [spec_sqAround.l1] at h⟩
  | k + 1 => by
    obtain ⟨ih0, ih1⟩ := spec_sqAround.mono_l k
    refine ⟨?_, ?_⟩
    · intro y0 y1 y2 y3 y4 y5 y6 y7
      unfold spec_sqAround.l0
      repeat' first
      | (with_reducible exact ih0 _ _ _ _ _ _ _ _)
      | (with_reducible exact ih1 _ _ _ _ _ _ _ _)
      | (with_reducible exact LeO.refl _)
      | (with_reducible exact LeO.none _)
      | (with_reducible refine LeO.ite ?_ ?_)
      | (with_reducible refine LeO.bind ?_ (fun _ => ?_))
      | exact ih0 _ _ _ _ _ _ _ _
      | exact ih1 _ _ _ _ _ _ _ _
      | exact LeO.none _
      | refine LeO.ite ?_ ?_
      | refine LeO.bind ?_ (fun _ => ?_)
    · intro y0 y1 y2 y3 y4 y5 y6 y7
      unfold spec_sqAround.l1
      repeat' first
      | (with_reducible exact ih0 _ _ _ _ _ _ _ _)
      | (with_reducible exact ih1 _ _ _ _ _ _ _ _)
      | (with_reducible exact LeO.refl _)
      | (with_reducible exact LeO.none _)
      | (with_reducible refine LeO.ite ?_ ?_)
      | (with_reducible refine LeO.bind ?_ (fun _ => ?_))
      | exact ih0 _ _ _ _ _ _ _ _
      | exact ih1 _ _ _ _ _ _ _ _
      | exact LeO.none _
      | refine LeO.ite ?_ ?_
      | refine LeO.bind ?_ (fun _ => ?_)
theorem spec_sqAround.mono : ∀ a0 a1 a2 a3 a4 a5 k, LeO (spec_sqAround.f k a0 a1 a2 a3 a4 a5) (spec_sqAround.f (k + 1) a0 a1 a2 a3 a4 a5) := by
  intro a0 a1 a2 a3 a4 a5 k
  obtain ⟨ih0, ih1⟩ := spec_sqAround.mono_l k
  unfold spec_sqAround.f
  repeat' first
      | (with_reducible exact ih0 _ _ _ _ _ _ _ _)
      | (with_reducible exact ih1 _ _ _ _ _ _ _ _)
      | (with_reducible exact LeO.refl _)
      | (with_reducible exact LeO.none _)
      | (with_reducible refine LeO.ite ?_ ?_)
      | (with_reducible refine LeO.bind ?_ (fun _ => ?_))
      | exact ih0 _ _ _ _ _ _ _ _
      | exact ih1 _ _ _ _ _ _ _ _
      | exact LeO.none _
      | refine LeO.ite ?_ ?_
      | refine LeO.bind ?_ (fun _ => ?_)

/-! ### spec_sqAll: function 105 -/
mutual
def spec_sqAll.l0 : Nat → Int → Int → List (S141) → Int → Option ((List (S141)))
  | 0, _, _, _, _ => none
  | k + 1, x0, x1, x5, x6 => if x6 ≤ x0 then (spec_sqAll.j1 k x0 x1 x5 x6 (decide (x6 ≤ x1))) else (spec_sqAll.j1 k x0 x1 x5 x6 false)
def spec_sqAll.j1 : Nat → Int → Int → List (S141) → Int → Bool → Option ((List (S141)))
  | 0, _, _, _, _, _ => none
  | k + 1, x0, x1, x5, x6, x16 => if x16 = true then (spec_sqAll.l1 k x0 x1 x5 x6 0) else (some x5)
def spec_sqAll.l1 : Nat → Int → Int → List (S141) → Int → Int → Option ((List (S141)))
  | 0, _, _, _, _, _ => none
  | k + 1, x0, x1, x5, x6, x7 => if (wrap64 (x7 + x6)) ≤ x1 then (spec_sqAll.l2 k x0 x1 x5 x6 x7 0) else (spec_sqAll.l0 k x0 x1 x5 (wrap64 (x6 + 1)))
def spec_sqAll.l2 : Nat → Int → Int → List (S141) → Int → Int → Int → Option ((List (S141)))
  | 0, _, _, _, _, _, _ => none
  | k + 1, x0, x1, x5, x6, x7, x8 => if (wrap64 (x8 + x6)) ≤ x0 then ((spec_sqAround.f k x0 x1 x8 x7 x6 x6).bind fun t160 => (if x5.length < 4398046511104 then (spec_sqAll.l2 k x0 x1 (x5 ++ [(⟨x8, x7, x6, t160⟩ : S141)]) x6 x7 (wrap64 (x8 + 1))) else (none))) else (spec_sqAll.l1 k x0 x1 x5 x6 (wrap64 (x7 + 1)))
end
def spec_sqAll.f (k : Nat) (a0 : Int) (a1 : Int) : Option ((List (S141))) := spec_sqAll.l0 k a0 a1 ([] : List (S141)) 1
theorem spec_sqAll.mono_l : ∀ k, (∀ y0 y1 y2 y3, LeO (spec_sqAll.l0 k y0 y1 y2 y3) (spec_sqAll.l0 (k + 1) y0 y1 y2 y3)) ∧ (∀ y0 y1 y2 y3 y4, LeO (spec_sqAll.j1 k y0 y1 y2 y3 y4) (spec_sqAll.j1 (k + 1) y0 y1 y2 y3 y4)) ∧ (∀ y0 y1 y2 y3 y4, LeO (spec_sqAll.l1 k y0 y1 y2 y3 y4) (spec_sqAll.l1 (k + 1) y0 y1 y2 y3 y4)) ∧ (∀ y0 y1 y2 y3 y4 y5, LeO (spec_sqAll.l2 k y0 y1 y2 y3 y4 y5) (spec_sqAll.l2 (k + 1) y0 y1 y2 y3 y4 y5))
  | 0 => ⟨fun _ _ _ _ r h => by simp [spec_sqAll.l0] at h, fun _ _ _ _ _ r h => by simp [spec_sqAll.j1] at h, fun _ _ _ _ _ r h => by simp [spec_sqAll.l1] at h, fun _ _ _ _ _ _ r h => by simp [spec_sqAll.l2] at h⟩
  | k + 1 => by
    obtain ⟨ih0, ih1, ih2, ih3⟩ := spec_sqAll.mono_l k
    refine ⟨?_, ?_, ?_, ?_⟩
    · intro y0 y1 y2 y3
      unfold spec_sqAll.l0
      repeat' first
      | (with_reducible exact ih0 _ _ _ _)
      | (with_reducible exact ih1 _ _ _ _ _)
      | (with_reducible exact ih2 _ _ _ _ _)
      | (with_reducible exact ih3 _ _ _ _ _ _)
      | (with_reducible exact spec_sqAround.mono _ _ _ _ _ _ _)
      | (with_reducible exact LeO.refl _)
      | (with_reducible exact LeO.none _)
      | (with_reducible refine LeO.ite ?_ ?_)
      | (with_reducible refine LeO.bind ?_ (fun _ => ?_))
      | exact ih0 _ _ _ _
      | exact ih1 _ _ _ _ _
      | exact ih2 _ _ _ _ _
      | exact ih3 _ _ _ _ _ _
      | exact spec_sqAround.mono _ _ _ _ _ _ _
      | exact LeO.none _
      | refine LeO.ite ?_ ?_
      | refine LeO.bind ?_ (fun _ => ?_)
    · intro y0 y1 y2 y3 y4
      unfold spec_sqAll.j1
      repeat' first
      | (with_reducible exact ih0 _ _ _ _)
      | (with_reducible exact ih1 _ _ _ _ _)
      | (with_reducible exact ih2 _ _ _ _ _)
      | (with_reducible exact ih3 _ _ _ _ _ _)
      | (with_reducible exact spec_sqAround.mono _ _ _ _ _ _ _)
      | (with_reducible exact LeO.refl _)
      | (with_reducible exact LeO.none _)
      | (with_reducible refine LeO.ite ?_ ?_)
      | (with_reducible refine LeO.bind ?_ (fun _ => ?_))
      | exact ih0 _ _ _ _
      | exact ih1 _ _ _ _ _
      | exact ih2 _ _ _ _ _
      | exact ih3 _ _ _ _ _ _
      | exact spec_sqAround.mono _ _ _ _ _ _ _
      | exact LeO.none _
      | refine LeO.ite ?_ ?_
      | refine LeO.bind ?_ (fun _ => ?_)
    · intro y0 y1 y2 y3 y4
      unfold spec_sqAll.l1
      repeat' first
      | (with_reducible exact ih0 _ _ _ _)
      | (with_reducible exact ih1 _ _ _ _ _)
      | (with_reducible exact ih2 _ _ _ _ _)
      | (with_reducible exact ih3 _ _ _ _ _ _)
      | (with_reducible exact spec_sqAround.mono _ _ _ _ _ _ _)
      | (with_reducible exact LeO.refl _)
      | (with_reducible exact LeO.none _)
      | (with_reducible refine LeO.ite ?_ ?_)
      | (with_reducible refine LeO.bind ?_ (fun _ => ?_))
      | exact ih0 _ _ _ _
      | exact ih1 _ _ _ _ _
      | exact ih2 _ _ _ _ _
      | exact ih3 _ _ _ _ _ _
      | exact spec_sqAround.mono _ _ _ _ _ _ _
      | exact LeO.none _
      | refine LeO.ite ?_ ?_
      | refine LeO.bind ?_ (fun _ => ?_)
    · intro y0 y1 y2 y3 y4 y5
      unfold spec_sqAll.l2
      repeat' first
      | (with_reducible exact ih0 _ _ _ _)
      | (with_reducible exact ih1 _ _ _ _ _)
      | (with_reducible exact ih2 _ _ _ _ _)
      | (with_reducible exact ih3 _ _ _ _ _ _)
      | (with_reducible exact spec_sqAround.mono _ _ _ _ _ _ _)
      | (with_reducible exact LeO.refl _)
      | (with_reducible exact LeO.none _)
      | (with_reducible refine LeO.ite ?_ ?_)
      | (with_reducible refine LeO.bind ?_ (fun _ => ?_))
      | exact ih0 _ _ _ _
      | exact ih1 _ _ _ _ _
      | exact ih2 _ _ _ _ _
      | exact ih3 _ _ _ _ _ _
      | exact spec_sqAround.mono _ _ _ _ _ _ _
      | exact LeO.none _
      | refine LeO.ite ?_ ?_
      | refine LeO.bind ?_ (fun _ => ?_)
theorem spec_sqAll.mono : ∀ a0 a1 k, LeO (spec_sqAll.f k a0 a1) (spec_sqAll.f (k + 1) a0 a1) := by
  intro a0 a1 k
  obtain ⟨ih0, ih1, ih2, ih3⟩ := spec_sqAll.mono_l k
  unfold spec_sqAll.f
  repeat' first
      | (with_reducible exact ih0 _ _ _ _)
      | (with_reducible exact ih1 _ _ _ _ _)
      | (with_reducible exact ih2 _ _ _ _ _)
      | (with_reducible exact ih3 _ _ _ _ _ _)
      | (with_reducible exact spec_sqAround.mono _ _ _ _ _ _ _)
      | (with_reducible exact LeO.refl _)
      | (with_reducible exact LeO.none _)
      | (with_reducible refine LeO.ite ?_ ?_)
      | (with_reducible refine LeO.bind ?_ (fun _ => ?_))
      | exact ih0 _ _ _ _
      | exact ih1 _ _ _ _ _
      | exact ih2 _ _ _ _ _
      | exact ih3 _ _ _ _ _ _
      | exact spec_sqAround.mono _ _ _ _ _ _ _
      | exact LeO.none _
      | refine LeO.ite ?_ ?_
      | refine LeO.bind ?_ (fun _ => ?_)

/-! ### spec_sqCount: function 107 -/
def spec_sqCount.l0 : Nat → Int → Int → List (S141) → Int → Int → Option (Int)
  | 0, _, _, _, _, _ => none
  | k + 1, x1, x5, x8, x9, x10 => if x10 < x9 then (if 0 ≤ x10 then (if x10 < (x8.length : Int) then (if (Go.bits .and .i64 x1 ((rd_T141 x8 x10).f3)) = ((rd_T141 x8 x10).f3) then (spec_sqCount.l0 k x1 (wrap64 (x5 + 1)) x8 x9 (wrap64 (x10 + 1))) else (spec_sqCount.l0 k x1 x5 x8 x9 (wrap64 (x10 + 1)))) else (none)) else (none)) else (some x5)
def spec_sqCount.f (k : Nat) (l0 : List (S141)) (a1 : Int) : Option (Int) := spec_sqCount.l0 k a1 0 l0 (l0.length : Int) 0
/-! ### spec_sqNeeded: function 108 -/
def spec_sqNeeded.l0 : Nat → Int → Int → List (S141) → Int → Int → Option (Int)
  | 0, _, _, _, _, _ => none
  | k + 1, x1, x5, x8, x9, x10 => if x10 < x9 then (if 0 ≤ x10 then (if x10 < (x8.length : Int) then (if (Go.bits .and .i64 x1 ((rd_T141 x8 x10).f3)) = ((rd_T141 x8 x10).f3) then (spec_sqNeeded.l0 k x1 (Go.bits .or .i64 x5 ((rd_T141 x8 x10).f3)) x8 x9 (wrap64 (x10 + 1))) else (spec_sqNeeded.l0 k x1 x5 x8 x9 (wrap64 (x10 + 1)))) else (none)) else (none)) else (some x5)
def spec_sqNeeded.f (k : Nat) (l0 : List (S141)) (a1 : Int) : Option (Int) := spec_sqNeeded.l0 k a1 0 l0 (l0.length : Int) 0
/-! ### spec_moThose: function 84 -/
def spec_moThose.l0 : Nat → Int → Bool → List (S141) → List Int → List Int → Int → Int → Option (List Int)
  | 0, _, _, _, _, _, _, _ => none
  | k + 1, x2, x4, x11, x12, x23, x24, x25 => if x25 < x24 then (if 0 ≤ x25 then (if x25 < (x23.length : Int) then ((spec_sqCount.f k x11 (rd x23 x25)).bind fun t176 => (if t176 = x2 then (if x4 = true then ((spec_sqNeeded.f k x11 (rd x23 x25)).bind fun t177 => (if t177 = (rd x23 x25) then (if x12.length < 17592186044416 then (spec_moThose.l0 k x2 x4 x11 (x12 ++ [rd x23 x25]) x23 x24 (wrap64 (x25 + 1))) else (none)) else (spec_moThose.l0 k x2 x4 x11 x12 x23 x24 (wrap64 (x25 + 1))))) else (if x12.length < 17592186044416 then (spec_moThose.l0 k x2 x4 x11 (x12 ++ [rd x23 x25]) x23 x24 (wrap64 (x25 + 1))) else (none))) else (spec_moThose.l0 k x2 x4 x11 x12 x23 x24 (wrap64 (x25 + 1))))) else (none)) else (none)) else (some x12)
def spec_moThose.f (k : Nat) (a0_0 : Int) (a0_1 : Int) (l0_2 : List Int) (l0_3 : List Int) (a1 : Int) (a2 : Int) (a3 : Bool) (a4 : Bool) : Option (List Int) := (spec_sqAll.f k a0_0 a0_1).bind fun t169 => ((spec_moMade.f k a0_0 a0_1 l0_2 l0_3 a1 a3).bind fun t172 => (spec_moThose.l0 k a2 a4 t169 ([] : List Int) t172 (t172.length : Int) 0))
/-! ### impl_grid_figure: function 43 -/
def impl_grid_figure.f (k : Nat) (a0_0 : Int) (a0_1 : Int) (a1 : Int) : Option (Int × Int × List Int × List Int) := (impl_grid_levels.f a0_0 a0_1).bind fun t186 => (if 0 ≤ t186 then ((impl_set_listed.f k (Go.bits .and .u64 a1 (IntKind.u64.wrap ((shl .u64 1 t186) - 1)))).bind fun t187 => ((impl_grid_levels.f a0_0 a0_1).bind fun t190 => (if 0 ≤ t190 then ((impl_set_listed.f k (shr .u64 a1 t190)).bind fun t191 => (some (a0_0, a0_1, t187, t191))) else (none)))) else (none))
/-! ### impl_within: function 110 -/
def impl_within.f (a0 : Int) (a1 : Int) (a2 : Int) : Option (Bool) := if a1 ≤ a0 then (some (decide (a0 ≤ a2))) else (some false)

/-! ### impl_isGrid: function 152 -/
def impl_isGrid.f (a0 : Int) (a1 : Int) : Option (Bool) := (impl_within.f a0 1 4).bind fun t194 => (if t194 = true then ((impl_within.f a1 1 4).bind fun t195 => (some t195)) else (some false))

/-! ### impl_isRising: function 153 -/
def impl_isRising.l0 : Nat → List Int → Int → Option (Bool)
  | 0, _, _ => none
  | k + 1, x0, x3 => if x3 < (x0.length : Int) then (if 0 ≤ x3 then (if 0 ≤ (wrap64 (x3 - 1)) then (if (wrap64 (x3 - 1)) < (x0.length : Int) then (if (rd x0 x3) ≤ (rd x0 (wrap64 (x3 - 1))) then (some false) else (impl_isRising.l0 k x0 (wrap64 (x3 + 1)))) else (none)) else (none)) else (none)) else (some true)
def impl_isRising.f (k : Nat) (l0 : List Int) : Option (Bool) := impl_isRising.l0 k l0 1
/-! ### impl_areWithin: function 154 -/
/-- outside of lo .. hi -/
def awP (lo hi : Int) (n : Int) : Bool := !(decide (lo ≤ n) && decide (n ≤ hi))
def impl_areWithin.f (l0 : List Int) (a1 : Int) (a2 : Int) : Option (Bool) := some (!l0.any (awP a1 a2))


/-! ### impl_IsFigure: function 131 -/
def impl_IsFigure.f (k : Nat) (a0_0 : Int) (a0_1 : Int) (l0_2 : List Int) (l0_3 : List Int) : Option (Bool) := (impl_isGrid.f a0_0 a0_1).bind fun t199 => (if t199 = true then ((impl_isRising.f k l0_2).bind fun t200 => (if t200 = true then ((impl_isRising.f k l0_3).bind fun t201 => (if t201 = true then ((impl_Figure_grid.f a0_0 a0_1 l0_2 l0_3).bind fun bt202 => ((impl_grid_levels.f bt202.1 bt202.2).bind fun t204 => ((impl_areWithin.f l0_2 0 (wrap64 (t204 - 1))).bind fun t205 => (if t205 = true then ((impl_Figure_grid.f a0_0 a0_1 l0_2 l0_3).bind fun bt206 => ((impl_grid_uprights.f bt206.1 bt206.2).bind fun t208 => ((impl_areWithin.f l0_3 0 (wrap64 (t208 - 1))).bind fun t209 => (some t209)))) else (some false))))) else (some false))) else (some false))) else (some false))
/-! ### impl_isFew: function 109 -/
def impl_isFew.f (k : Nat) (a0_0 : Int) (a0_1 : Int) (l0_2 : List Int) (l0_3 : List Int) : Option (Bool) := (impl_IsFigure.f k a0_0 a0_1 l0_2 l0_3).bind fun t211 => (if t211 = true then (some (decide ((wrap64 (a0_0 * a0_1)) ≤ 9))) else (some false))
/-! ### impl_way_isRight: function 86 -/
def impl_way_isRight.f (k : Nat) (a0_0 : Int) (a0_1 : Int) (l0_2 : List Int) (l0_3 : List Int) (a0_4 : Int) (a0_5 : Bool) : Option (Bool) := if a0_5 = true then ((impl_isFew.f k a0_0 a0_1 l0_2 l0_3).bind fun t213 => (if t213 = true then ((impl_within.f a0_4 0 2).bind fun t214 => (some t214)) else (some false))) else ((impl_isFew.f k a0_0 a0_1 l0_2 l0_3).bind fun t215 => (if t215 = true then ((impl_within.f a0_4 0 4).bind fun t216 => (some t216)) else (some false)))
/-! ### impl_isNumber: function 88 -/
def impl_isNumber.f (a0 : Int) : Option (Bool) := (impl_within.f a0 0 100).bind fun t217 => (some t217)

/-! ### impl_IsPuzzle: function 61 -/
def impl_IsPuzzle.f (k : Nat) (a0_0 : Int) (a0_1 : Int) (l0_2 : List Int) (l0_3 : List Int) (a0_4 : Int) (a0_5 : Bool) (a0_6 : Int) : Option (Bool) := (impl_Puzzle_way.f a0_0 a0_1 l0_2 l0_3 a0_4 a0_5 a0_6).bind fun bt219 => ((impl_way_isRight.f k bt219.1 bt219.2.1 bt219.2.2.1 bt219.2.2.2.1 bt219.2.2.2.2.1 bt219.2.2.2.2.2).bind fun t229 => (if t229 = true then ((impl_Figure_set.f k a0_0 a0_1 l0_2 l0_3).bind fun t230 => ((impl_set_count.f t230).bind fun t231 => (if a0_4 ≤ t231 then ((impl_isNumber.f a0_6).bind fun t232 => (some t232)) else (some false)))) else (some false)))
/-! ### impl_figureText: function 55 -/
/-- has a set an edge -/
def ftB (s e : Int) : Bool := Go.bits .and .u64 s e != 0
def ftSign (s sign e : Int) : Int := if ftB s e = true then sign else 46
/-- a row's signs, the first n -/
def ftLine (s sign : Int) (ed : Int → Int) : Nat → List Int
  | 0 => []
  | n + 1 => ftLine s sign ed n ++ [ftSign s sign (ed (n : Int))]
def ftLev (a0 y x : Int) : Int := shl .u64 1 (wrap64 ((wrap64 (y * a0)) + x))
def ftUp (a0 a1 y x : Int) : Int := shl .u64 1 (wrap64 ((wrap64 ((wrap64 (a0 * (wrap64 (a1 + 1)))) + (wrap64 (y * (wrap64 (a0 + 1)))))) + x))
/-- the rows behind so many rounds -/
def ftRows (w h : Nat) (s : Int) : Nat → List ByteArray
  | 0 => []
  | y + 1 => ftRows w h s y ++ strOfNums (ftLine s 45 (ftLev w y) w) :: (if y < h then [strOfNums (ftLine s 124 (ftUp w h y) (w + 1))] else [])
def ftJoin (xs : List ByteArray) : ByteArray := ⟨(Lib.join (xs.map (·.data.toList)) [47]).toArray⟩
def impl_figureText.f (k : Nat) (a0_0 : Int) (a0_1 : Int) (l0_2 : List Int) (l0_3 : List Int) : Option (ByteArray) := if 1 ≤ a0_0 ∧ a0_0 ≤ 4 ∧ 1 ≤ a0_1 ∧ a0_1 ≤ 4 then ((impl_Figure_set.f k a0_0 a0_1 l0_2 l0_3).bind fun s => some (ftJoin (ftRows a0_0.toNat a0_1.toNat s (a0_1.toNat + 1)))) else none


/-! ### strings_Compare: function 99 -/
def strings_Compare.f (a0 : ByteArray) (a1 : ByteArray) : Option (Int) := some (Lib.compareBytes a0.data.toList a1.data.toList)

/-! ### impl_compareFigures: function 76 -/
def impl_compareFigures.f (k : Nat) (a0_0 : Int) (a0_1 : Int) (l0_2 : List Int) (l0_3 : List Int) (a1_0 : Int) (a1_1 : Int) (l1_2 : List Int) (l1_3 : List Int) : Option (Int) := (impl_figureText.f k a0_0 a0_1 l0_2 l0_3).bind fun t235 => ((impl_figureText.f k a1_0 a1_1 l1_2 l1_3).bind fun t236 => ((strings_Compare.f t235 t236).bind fun t237 => (some t237)))
/-! ### spec_sqFigure: function 40 -/
mutual
def spec_sqFigure.l0 : Nat → Int → Int → Int → Int → Int → Int → List Int → Option (Int × Int × List Int × List Int)
  | 0, _, _, _, _, _, _, _ => none
  | k + 1, x0, x1, x2, x8, x240000, x240001, x240002 => if x8 < (wrap64 (x0 * (wrap64 (x1 + 1)))) then ((spec_sqBit.f x0 x1 false x8).bind fun t240 => (if (Go.bits .and .i64 x2 t240) = 0 then (spec_sqFigure.l0 k x0 x1 x2 (wrap64 (x8 + 1)) x240000 x240001 x240002) else (if x240002.length < 17592186044416 then (spec_sqFigure.l0 k x0 x1 x2 (wrap64 (x8 + 1)) x240000 x240001 (x240002 ++ [x8])) else (none)))) else (spec_sqFigure.l1 k x0 x1 x2 0 x240000 x240001 x240002 ([] : List Int))
def spec_sqFigure.l1 : Nat → Int → Int → Int → Int → Int → Int → List Int → List Int → Option (Int × Int × List Int × List Int)
  | 0, _, _, _, _, _, _, _, _ => none
  | k + 1, x0, x1, x2, x9, x240000, x240001, x240002, x240003 => if x9 < (wrap64 ((wrap64 (x0 + 1)) * x1)) then ((spec_sqBit.f x0 x1 true x9).bind fun t244 => (if (Go.bits .and .i64 x2 t244) = 0 then (spec_sqFigure.l1 k x0 x1 x2 (wrap64 (x9 + 1)) x240000 x240001 x240002 x240003) else (if x240003.length < 17592186044416 then (spec_sqFigure.l1 k x0 x1 x2 (wrap64 (x9 + 1)) x240000 x240001 x240002 (x240003 ++ [x9])) else (none)))) else (some (x240000, x240001, x240002, x240003))
end
def spec_sqFigure.f (k : Nat) (a0 : Int) (a1 : Int) (a2 : Int) : Option (Int × Int × List Int × List Int) := spec_sqFigure.l0 k a0 a1 a2 0 a0 a1 ([] : List Int)
/-! ### spec_l1In: function 104 -/
def spec_l1In.f (a0 : Int) (a1 : Int) (a2 : Int) : Option (Bool) := if a0 ≥ a1 then (some (decide (a0 ≤ a2))) else (some false)

/-! ### spec_fiEdge: function 120 -/
def spec_fiEdge.f (a0_0 : Int) (a0_1 : Int) (l0_2 : List Int) (l0_3 : List Int) (a1 : Bool) (a2 : Int) (a3 : Int) : Option (Int × Bool) := if a1 = true then ((spec_l1In.f a2 0 a0_0).bind fun t249 => (if t249 = true then ((spec_l1In.f a3 0 (wrap64 (a0_1 - 1))).bind fun t250 => (some (wrap64 ((wrap64 (a3 * (wrap64 (a0_0 + 1)))) + a2), t250))) else (some (wrap64 ((wrap64 (a3 * (wrap64 (a0_0 + 1)))) + a2), false)))) else ((spec_l1In.f a2 0 (wrap64 (a0_0 - 1))).bind fun t251 => (if t251 = true then ((spec_l1In.f a3 0 a0_1).bind fun t252 => (some (wrap64 ((wrap64 (a3 * a0_0)) + a2), t252))) else (some (wrap64 ((wrap64 (a3 * a0_0)) + a2), false))))

/-! ### spec_l1Has: function 121 -/
def spec_l1Has.l0 : Nat → Int → List Int → Int → Int → Option (Bool)
  | 0, _, _, _, _ => none
  | k + 1, x1, x7, x8, x9 => if x9 < x8 then (if 0 ≤ x9 then (if x9 < (x7.length : Int) then (if (rd x7 x9) = x1 then (some true) else (spec_l1Has.l0 k x1 x7 x8 (wrap64 (x9 + 1)))) else (none)) else (none)) else (some false)
def spec_l1Has.f (k : Nat) (l0 : List Int) (a1 : Int) : Option (Bool) := spec_l1Has.l0 k a1 l0 (l0.length : Int) 0
/-! ### spec_fiHas: function 97 -/
def spec_fiHas.f (k : Nat) (a0_0 : Int) (a0_1 : Int) (l0_2 : List Int) (l0_3 : List Int) (a1 : Bool) (a2 : Int) (a3 : Int) : Option (Bool) := (spec_fiEdge.f a0_0 a0_1 l0_2 l0_3 a1 a2 a3).bind fun bt255 => (if a1 = true then ((spec_l1Has.f k l0_3 bt255.1).bind fun t257 => (some t257)) else ((spec_l1Has.f k l0_2 bt255.1).bind fun t258 => (some t258)))
/-! ### spec_fiText: function 71 -/
mutual
def spec_fiText.l0 : Nat → ByteArray → Int → Int → Int → List Int → List Int → Option (ByteArray)
  | 0, _, _, _, _, _, _ => none
  | k + 1, x3, x4, x260000, x260001, x260002, x260003 => if x4 ≤ x260001 then (if x4 > 0 then (if x3.size + 1 ≤ 9223372036854775807 then (spec_fiText.j1 k (x3 ++ (⟨#[47]⟩ : ByteArray)) x4 x260000 x260001 x260002 x260003) else (none)) else (spec_fiText.j1 k x3 x4 x260000 x260001 x260002 x260003)) else (some x3)
def spec_fiText.j1 : Nat → ByteArray → Int → Int → Int → List Int → List Int → Option (ByteArray)
  | 0, _, _, _, _, _, _ => none
  | k + 1, x3, x4, x260000, x260001, x260002, x260003 => spec_fiText.l1 k x3 x4 0 x260000 x260001 x260002 x260003
def spec_fiText.l1 : Nat → ByteArray → Int → Int → Int → Int → List Int → List Int → Option (ByteArray)
  | 0, _, _, _, _, _, _, _ => none
  | k + 1, x3, x4, x5, x260000, x260001, x260002, x260003 => if x5 < x260000 then ((spec_fiHas.f k x260000 x260001 x260002 x260003 false x5 x4).bind fun t260 => (if t260 = true then (if x3.size + 1 ≤ 9223372036854775807 then (spec_fiText.l1 k (x3 ++ (⟨#[45]⟩ : ByteArray)) x4 (wrap64 (x5 + 1)) x260000 x260001 x260002 x260003) else (none)) else (if x3.size + 1 ≤ 9223372036854775807 then (spec_fiText.l1 k (x3 ++ (⟨#[46]⟩ : ByteArray)) x4 (wrap64 (x5 + 1)) x260000 x260001 x260002 x260003) else (none)))) else (if x4 = x260001 then (some x3) else (if x3.size + 1 ≤ 9223372036854775807 then (spec_fiText.l2 k (x3 ++ (⟨#[47]⟩ : ByteArray)) x4 0 x260000 x260001 x260002 x260003) else (none)))
def spec_fiText.l2 : Nat → ByteArray → Int → Int → Int → Int → List Int → List Int → Option (ByteArray)
  | 0, _, _, _, _, _, _, _ => none
  | k + 1, x3, x4, x6, x260000, x260001, x260002, x260003 => if x6 ≤ x260000 then ((spec_fiHas.f k x260000 x260001 x260002 x260003 true x6 x4).bind fun t261 => (if t261 = true then (if x3.size + 1 ≤ 9223372036854775807 then (spec_fiText.l2 k (x3 ++ (⟨#[124]⟩ : ByteArray)) x4 (wrap64 (x6 + 1)) x260000 x260001 x260002 x260003) else (none)) else (if x3.size + 1 ≤ 9223372036854775807 then (spec_fiText.l2 k (x3 ++ (⟨#[46]⟩ : ByteArray)) x4 (wrap64 (x6 + 1)) x260000 x260001 x260002 x260003) else (none)))) else (spec_fiText.l0 k x3 (wrap64 (x4 + 1)) x260000 x260001 x260002 x260003)
end
def spec_fiText.f (k : Nat) (a0_0 : Int) (a0_1 : Int) (l0_2 : List Int) (l0_3 : List Int) : Option (ByteArray) := spec_fiText.l0 k (⟨#[]⟩ : ByteArray) 0 a0_0 a0_1 l0_2 l0_3
/-! ### spec_fiGrid: function 150 -/
def spec_fiGrid.f (a0 : Int) (a1 : Int) : Option (Bool) := (spec_l1In.f a0 1 4).bind fun t262 => (if t262 = true then ((spec_l1In.f a1 1 4).bind fun t263 => (some t263)) else (some false))

/-! ### spec_l1All: function 161 -/
def spec_l1All.l0 : Nat → Int → Int → List Int → Int → Int → Option (Bool)
  | 0, _, _, _, _, _ => none
  | k + 1, x1, x2, x9, x10, x11 => if x11 < x10 then (if 0 ≤ x11 then (if x11 < (x9.length : Int) then ((spec_l1In.f (rd x9 x11) x1 x2).bind fun t265 => (if t265 = true then (spec_l1All.l0 k x1 x2 x9 x10 (wrap64 (x11 + 1))) else (some false))) else (none)) else (none)) else (some true)
def spec_l1All.f (k : Nat) (l0 : List Int) (a1 : Int) (a2 : Int) : Option (Bool) := spec_l1All.l0 k a1 a2 l0 (l0.length : Int) 0
/-! ### spec_fiRises: function 151 -/
mutual
def spec_fiRises.j0 : Nat → List Int → Bool → Option (Bool)
  | 0, _, _ => none
  | k + 1, x0, x16 => if x16 = true then (some false) else (spec_fiRises.l0 k x0 1)
def spec_fiRises.l0 : Nat → List Int → Int → Option (Bool)
  | 0, _, _ => none
  | k + 1, x0, x5 => if x5 < (x0.length : Int) then (if 0 ≤ (wrap64 (x5 - 1)) then (if (wrap64 (x5 - 1)) < (x0.length : Int) then (if 0 ≤ x5 then (if (rd x0 (wrap64 (x5 - 1))) ≥ (rd x0 x5) then (some false) else (spec_fiRises.l0 k x0 (wrap64 (x5 + 1)))) else (none)) else (none)) else (none)) else (some true)
end
def spec_fiRises.f (k : Nat) (l0 : List Int) (a1 : Int) : Option (Bool) := if (l0.length : Int) > (wrap64 (a1 + 1)) then (spec_fiRises.j0 k l0 true) else ((spec_l1All.f k l0 0 a1).bind fun t266 => (spec_fiRises.j0 k l0 (!t266)))
/-! ### spec_fiGood: function 127 -/
def spec_fiGood.f (k : Nat) (a0_0 : Int) (a0_1 : Int) (l0_2 : List Int) (l0_3 : List Int) : Option (Bool) := (spec_fiGrid.f a0_0 a0_1).bind fun t270 => (if t270 = true then ((spec_fiRises.f k l0_2 (wrap64 ((wrap64 (a0_0 * (wrap64 (a0_1 + 1)))) - 1))).bind fun t271 => (if t271 = true then ((spec_fiRises.f k l0_3 (wrap64 ((wrap64 ((wrap64 (a0_0 + 1)) * a0_1)) - 1))).bind fun t272 => (some t272)) else (some false))) else (some false))
/-! ### spec_sqFew: function 103 -/
def spec_sqFew.f (k : Nat) (a0_0 : Int) (a0_1 : Int) (l0_2 : List Int) (l0_3 : List Int) : Option (Bool) := (spec_fiGood.f k a0_0 a0_1 l0_2 l0_3).bind fun t274 => (if t274 = true then (some (decide ((wrap64 (a0_0 * a0_1)) ≤ 9))) else (some false))
/-! ### spec_moAsked: function 81 -/
def spec_moAsked.f (k : Nat) (a0_0 : Int) (a0_1 : Int) (l0_2 : List Int) (l0_3 : List Int) (a1 : Int) (a2 : Bool) : Option (Bool) := if a2 = true then ((spec_sqFew.f k a0_0 a0_1 l0_2 l0_3).bind fun t276 => (if t276 = true then ((spec_l1In.f a1 0 2).bind fun t277 => (some t277)) else (some false))) else ((spec_sqFew.f k a0_0 a0_1 l0_2 l0_3).bind fun t278 => (if t278 = true then ((spec_l1In.f a1 0 4).bind fun t279 => (some t279)) else (some false)))
/-! ### spec_fiCount: function 82 -/
def spec_fiCount.f (a0_0 : Int) (a0_1 : Int) (l0_2 : List Int) (l0_3 : List Int) : Option (Int) := some (wrap64 ((l0_2.length : Int) + (l0_3.length : Int)))

/-! ### spec_moSquares: function 83 -/
def spec_moSquares.f (a0 : Int) : Option (Bool) := (spec_l1In.f a0 0 100).bind fun t281 => (some t281)

/-! ### spec_pzGood: function 58 -/
def spec_pzGood.f (k : Nat) (a0_0 : Int) (a0_1 : Int) (l0_2 : List Int) (l0_3 : List Int) (a0_4 : Int) (a0_5 : Bool) (a0_6 : Int) : Option (Bool) := (spec_moAsked.f k a0_0 a0_1 l0_2 l0_3 a0_4 a0_5).bind fun t283 => (if t283 = true then ((spec_fiCount.f a0_0 a0_1 l0_2 l0_3).bind fun t284 => (if a0_4 ≤ t284 then ((spec_moSquares.f a0_6).bind fun t285 => (some t285)) else (some false))) else (some false))
/-! ### spec_pzAll: function 59 -/
def spec_pzAll.f (k : Nat) (a0_0 : Int) (a0_1 : Int) (l0_2 : List Int) (l0_3 : List Int) (a0_4 : Int) (a0_5 : Bool) (a0_6 : Int) : Option (List Int × Bool) := (spec_moThose.f k a0_0 a0_1 l0_2 l0_3 a0_4 a0_6 a0_5 true).bind fun t287 => (some (t287, decide ((t287.length : Int) ≤ 150)))
/-! ### spec_pzAsked: function 35 -/
def spec_pzAsked.f (k : Nat) (a0_0 : Int) (a0_1 : Int) (l0_2 : List Int) (l0_3 : List Int) (a0_4 : Int) (a0_5 : Bool) (a0_6 : Int) : Option (List Int × Bool) := (spec_pzGood.f k a0_0 a0_1 l0_2 l0_3 a0_4 a0_5 a0_6).bind fun t291 => (if t291 = true then ((spec_pzAll.f k a0_0 a0_1 l0_2 l0_3 a0_4 a0_5 a0_6).bind fun bt292 => (some (bt292.1, bt292.2))) else (some (([] : List Int), false)))
/-! ### laws_szIntS: function 57 -/
def laws_szIntS.f (l0 : List Int) (a1 : Int) : Option (Int) := if (wrap64 (a1 - (l0.length : Int))) < 0 then (some (-1)) else (some (wrap64 (a1 - (l0.length : Int))))

/-! ### laws_szFigure: function 34 -/
def laws_szFigure.f (a0_0 : Int) (a0_1 : Int) (l0_2 : List Int) (l0_3 : List Int) (a1 : Int) : Option (Int) := (laws_szIntS.f l0_2 a1).bind fun t297 => (if t297 < 0 then (some (-1)) else ((laws_szIntS.f l0_3 t297).bind fun t298 => (if t298 < 0 then (some (-1)) else (some t298))))

/-! ### laws_szPuzzle: function 10 -/
def laws_szPuzzle.f (a0_0 : Int) (a0_1 : Int) (l0_2 : List Int) (l0_3 : List Int) (a0_4 : Int) (a0_5 : Bool) (a0_6 : Int) (a1 : Int) : Option (Int) := (laws_szFigure.f a0_0 a0_1 l0_2 l0_3 a1).bind fun t300 => (if t300 < 0 then (some (-1)) else (some t300))

/-! ### laws_toIntS: function 60 -/
/-- how many spare cells the law gives a list of n -/
def room (n : Nat) : Nat := if n % 6 = 5 then 0 else if n % 3 = 0 then 1 else n
def laws_toIntS.f (l0 : List Int) (a1 : Bool) : Option (List Int) := if l0.length ≤ 1000000 then some l0 else none

/-! ### laws_toFigure: function 36 -/
def laws_toFigure.f (a0_0 : Int) (a0_1 : Int) (l0_2 : List Int) (l0_3 : List Int) (a1 : Bool) : Option (Int × Int × List Int × List Int) := (laws_toIntS.f l0_2 a1).bind fun t304 => ((laws_toIntS.f l0_3 a1).bind fun t307 => (some (a0_0, a0_1, t304, t307)))

/-! ### laws_toPuzzle: function 12 -/
def laws_toPuzzle.f (a0_0 : Int) (a0_1 : Int) (l0_2 : List Int) (l0_3 : List Int) (a0_4 : Int) (a0_5 : Bool) (a0_6 : Int) (a1 : Bool) : Option (Int × Int × List Int × List Int × Int × Bool × Int) := (laws_toFigure.f a0_0 a0_1 l0_2 l0_3 a1).bind fun bt313 => (some (bt313.1, bt313.2.1, bt313.2.2.1, bt313.2.2.2, a0_4, a0_5, a0_6))

/-! ### laws_eqIntS: function 44 -/
def laws_eqIntS.l0 : Nat → List Int → List Int → Int → Option (Bool)
  | 0, _, _, _ => none
  | k + 1, x0, x1, x5 => if x5 < (x0.length : Int) then (if 0 ≤ x5 then (if x5 < (x1.length : Int) then (if (rd x0 x5) = (rd x1 x5) then (laws_eqIntS.l0 k x0 x1 (wrap64 (x5 + 1))) else (some false)) else (none)) else (none)) else (some true)
def laws_eqIntS.f (k : Nat) (l0 : List Int) (l1 : List Int) : Option (Bool) := if (l0.length : Int) = (l1.length : Int) then (laws_eqIntS.l0 k l0 l1 0) else (some false)
/-! ### laws_eqFigure: function 19 -/
def laws_eqFigure.f (k : Nat) (a0_0 : Int) (a0_1 : Int) (l0_2 : List Int) (l0_3 : List Int) (a1_0 : Int) (a1_1 : Int) (l1_2 : List Int) (l1_3 : List Int) : Option (Bool) := if a0_0 = a1_0 then (if a0_1 = a1_1 then ((laws_eqIntS.f k l0_2 l1_2).bind fun t325 => (if t325 = true then ((laws_eqIntS.f k l0_3 l1_3).bind fun t326 => (if t326 = true then (some true) else (some false))) else (some false))) else (some false)) else (some false)
/-! ### laws_markIntS: function 45 -/
def laws_markIntS.l0 : Nat → List Int → Int → Int → Option (Int × List Int)
  | 0, _, _, _ => none
  | k + 1, x0, x1, x5 => if x5 < (x0.length : Int) then (if 0 ≤ x5 then (laws_markIntS.l0 k (x0.set (x5 : Int).toNat x1) (wrap64 (x1 + 1)) (wrap64 (x5 + 1))) else (none)) else (some (x1, x0))
def laws_markIntS.f (k : Nat) (l0 : List Int) (a1 : Int) : Option (Int × List Int) := laws_markIntS.l0 k l0 a1 0
/-! ### laws_heldIntS: function 46 -/
def laws_heldIntS.l0 : Nat → List Int → Int → Int → Option (Int)
  | 0, _, _, _ => none
  | k + 1, x0, x1, x5 => if x5 < (x0.length : Int) then (if 0 ≤ x5 then (if (rd x0 x5) = x1 then (laws_heldIntS.l0 k x0 (wrap64 (x1 + 1)) (wrap64 (x5 + 1))) else (some (-1))) else (none)) else (some x1)
def laws_heldIntS.f (k : Nat) (l0 : List Int) (a1 : Int) : Option (Int) := laws_heldIntS.l0 k l0 a1 0
/-! ### laws_markFigure: function 21 -/
def laws_markFigure.f (k : Nat) (a0_0 : Int) (a0_1 : Int) (l0_2 : List Int) (l0_3 : List Int) (a1 : Int) : Option (Int × List Int × List Int) := (laws_markIntS.f k l0_2 a1).bind fun bt330 => ((laws_markIntS.f k l0_3 bt330.1).bind fun bt332 => (some (bt332.1, bt330.2, bt332.2)))
/-! ### laws_markPuzzle: function 20 -/
def laws_markPuzzle.f (k : Nat) (a0_0 : Int) (a0_1 : Int) (l0_2 : List Int) (l0_3 : List Int) (a0_4 : Int) (a0_5 : Bool) (a0_6 : Int) (a1 : Int) : Option (Int × List Int × List Int) := (laws_markFigure.f k a0_0 a0_1 l0_2 l0_3 a1).bind fun bt335 => (some (bt335.1, bt335.2.1, bt335.2.2))
end Go.Proofs.YtopifdmaaibcnaaGreatDoor.H
