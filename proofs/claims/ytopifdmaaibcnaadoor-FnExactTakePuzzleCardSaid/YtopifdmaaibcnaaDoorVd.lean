import Derived.Test.YtopifdmaaibcnaaDoorVk
namespace Go.Proofs.YtopifdmaaibcnaaDoor.V
open Go.RowKit Go.Proofs.YtopifdmaaibcnaaDoorW.PrintWords Go.Proofs.YtopifdmaaibcnaaDoorW.PrintLast Go.Proofs.YtopifdmaaibcnaaDoorW.PrintMore
attribute [local go_sem] max2_int min2_int max_two min_two max_three min_three max_four min_four
set_option linter.unusedVariables false
set_option linter.unusedSimpArgs false

/-! ### impl_grid_levels: function 32 -/
def impl_grid_levels.f (a0_0 : Int) (a0_1 : Int) : Option (Int) := some (wrap64 (a0_0 * (wrap64 (a0_1 + 1))))

/-! ### impl_grid_uprights: function 73 -/
def impl_grid_uprights.f (a0_0 : Int) (a0_1 : Int) : Option (Int) := some (wrap64 (a0_1 * (wrap64 (a0_0 + 1))))

/-! ### impl_grid_all: function 66 -/
def impl_grid_all.f (a0_0 : Int) (a0_1 : Int) : Option (Int) := (impl_grid_levels.f a0_0 a0_1).bind fun t104 => ((impl_grid_uprights.f a0_0 a0_1).bind fun t105 => (if 0 ≤ (wrap64 (t104 + t105)) then (some (IntKind.u64.wrap ((shl .u64 1 (wrap64 (t104 + t105))) - 1))) else (none)))

/-! ### bits_TrailingZeros64: function 43 -/
def bits_TrailingZeros64.f (a0 : Int) : Option (Int) := if 0 ≤ a0 ∧ a0 < 18446744073709551616 then some ((Lib.ctz 64 a0.toNat : Nat) : Int) else none

/-! ### impl_set_listed: function 33 -/
def impl_set_listed.l0 : Nat → Int → List Int → Option (List Int)
  | 0, _, _ => none
  | k + 1, x0, x3 => if x0 > 0 then ((bits_TrailingZeros64.f x0).bind fun t109 => (if x3.length < 17592186044416 then (impl_set_listed.l0 k (Go.bits .and .u64 x0 (IntKind.u64.wrap (x0 - 1))) (x3 ++ [t109])) else (none))) else (some x3)
def impl_set_listed.f (k : Nat) (a0 : Int) : Option (List Int) := impl_set_listed.l0 k a0 (([] : List Int))
/-! ### impl_Figure_grid: function 18 -/
def impl_Figure_grid.f (a0_0 : Int) (a0_1 : Int) (l0_2 : List Int) (l0_3 : List Int) : Option (Int × Int) := some (a0_0, a0_1)

/-! ### impl_Figure_set: function 20 -/
mutual
def impl_Figure_set.l0 : Nat → Int → List Int → Int → Int → Int → Int → List Int → List Int → Option (Int)
  | 0, _, _, _, _, _, _, _, _ => none
  | k + 1, x3, x9, x10, x11, x116000, x116001, x116002, x116003 => if x11 < x10 then (if 0 ≤ x11 then (if x11 < (x9.length : Int) then (if 0 ≤ (rd x9 x11) then (impl_Figure_set.l0 k (Go.bits .or .u64 x3 (shl .u64 1 (rd x9 x11))) x9 x10 (wrap64 (x11 + 1)) x116000 x116001 x116002 x116003) else (none)) else (none)) else (none)) else (impl_Figure_set.l1 k x3 x116003 (x116003.length : Int) 0 x116000 x116001 x116002 x116003)
def impl_Figure_set.l1 : Nat → Int → List Int → Int → Int → Int → Int → List Int → List Int → Option (Int)
  | 0, _, _, _, _, _, _, _, _ => none
  | k + 1, x3, x21, x22, x23, x116000, x116001, x116002, x116003 => if x23 < x22 then (if 0 ≤ x23 then (if x23 < (x21.length : Int) then ((impl_Figure_grid.f x116000 x116001 x116002 x116003).bind fun bt118 => ((impl_grid_levels.f bt118.1 bt118.2).bind fun t120 => (if 0 ≤ (wrap64 (t120 + (rd x21 x23))) then (impl_Figure_set.l1 k (Go.bits .or .u64 x3 (shl .u64 1 (wrap64 (t120 + (rd x21 x23))))) x21 x22 (wrap64 (x23 + 1)) x116000 x116001 x116002 x116003) else (none)))) else (none)) else (none)) else (some x3)
end
def impl_Figure_set.f (k : Nat) (a0_0 : Int) (a0_1 : Int) (l0_2 : List Int) (l0_3 : List Int) : Option (Int) := impl_Figure_set.l0 k 0 l0_2 (l0_2.length : Int) 0 a0_0 a0_1 l0_2 l0_3
/-! ### impl_grid_level: function 74 -/
def impl_grid_level.f (a0_0 : Int) (a0_1 : Int) (a1 : Int) (a2 : Int) : Option (Int) := if 0 ≤ (wrap64 ((wrap64 (a2 * a0_0)) + a1)) then (some (shl .u64 1 (wrap64 ((wrap64 (a2 * a0_0)) + a1)))) else (none)

/-! ### impl_grid_upright: function 75 -/
def impl_grid_upright.f (a0_0 : Int) (a0_1 : Int) (a1 : Int) (a2 : Int) : Option (Int) := (impl_grid_levels.f a0_0 a0_1).bind fun t123 => (if 0 ≤ (wrap64 ((wrap64 (t123 + (wrap64 (a2 * (wrap64 (a0_0 + 1)))))) + a1)) then (some (shl .u64 1 (wrap64 ((wrap64 (t123 + (wrap64 (a2 * (wrap64 (a0_0 + 1)))))) + a1)))) else (none))

/-! ### impl_grid_around: function 63 -/
mutual
def impl_grid_around.l0 : Nat → Int → Int → Int → Int → Int → Int → Int → Int → Int → Option (Int)
  | 0, _, _, _, _, _, _, _, _, _ => none
  | k + 1, x1, x2, x3, x4, x11, x14, x15, x125000, x125001 => if x15 < x14 then ((impl_grid_level.f x125000 x125001 (wrap64 (x1 + x15)) x2).bind fun t125 => ((impl_grid_level.f x125000 x125001 (wrap64 (x1 + x15)) (wrap64 (x2 + x4))).bind fun t126 => (impl_grid_around.l0 k x1 x2 x3 x4 (Go.bits .or .u64 x11 (Go.bits .or .u64 t125 t126)) x14 (wrap64 (x15 + 1)) x125000 x125001))) else (impl_grid_around.l1 k x1 x2 x3 x11 x4 0 x125000 x125001)
def impl_grid_around.l1 : Nat → Int → Int → Int → Int → Int → Int → Int → Int → Option (Int)
  | 0, _, _, _, _, _, _, _, _ => none
  | k + 1, x1, x2, x3, x11, x36, x37, x125000, x125001 => if x37 < x36 then ((impl_grid_upright.f x125000 x125001 x1 (wrap64 (x2 + x37))).bind fun t127 => ((impl_grid_upright.f x125000 x125001 (wrap64 (x1 + x3)) (wrap64 (x2 + x37))).bind fun t128 => (impl_grid_around.l1 k x1 x2 x3 (Go.bits .or .u64 x11 (Go.bits .or .u64 t127 t128)) x36 (wrap64 (x37 + 1)) x125000 x125001))) else (some x11)
end
def impl_grid_around.f (k : Nat) (a0_0 : Int) (a0_1 : Int) (a1 : Int) (a2 : Int) (a3 : Int) (a4 : Int) : Option (Int) := impl_grid_around.l0 k a1 a2 a3 a4 0 a3 0 a0_0 a0_1
theorem impl_grid_around.mono_l : ∀ k, (∀ y0 y1 y2 y3 y4 y5 y6 y7 y8, LeO (impl_grid_around.l0 k y0 y1 y2 y3 y4 y5 y6 y7 y8) (impl_grid_around.l0 (k + 1) y0 y1 y2 y3 y4 y5 y6 y7 y8)) ∧ (∀ y0 y1 y2 y3 y4 y5 y6 y7, LeO (impl_grid_around.l1 k y0 y1 y2 y3 y4 y5 y6 y7) (impl_grid_around.l1 (k + 1) y0 y1 y2 y3 y4 y5 y6 y7))
  | 0 => ⟨fun _ _ _ _ _ _ _ _ _ r h => by simp [impl_grid_around.l0] at h, fun _ _ _ _ _ _ _ _ r h => by simp [impl_grid_around.l1] at h⟩
  | k + 1 => by
    obtain ⟨ih0, ih1⟩ := impl_grid_around.mono_l k
    refine ⟨?_, ?_⟩
    · intro y0 y1 y2 y3 y4 y5 y6 y7 y8
      unfold impl_grid_around.l0
      repeat' first
      | (with_reducible exact ih0 _ _ _ _ _ _ _ _ _)
      | (with_reducible exact ih1 _ _ _ _ _ _ _ _)
      | (with_reducible exact LeO.refl _)
      | (with_reducible exact LeO.none _)
      | (with_reducible refine LeO.ite ?_ ?_)
      | (with_reducible refine LeO.bind ?_ (fun _ => ?_))
      | exact ih0 _ _ _ _ _ _ _ _ _
      | exact ih1 _ _ _ _ _ _ _ _
      | exact LeO.none _
      | refine LeO.ite ?_ ?_
      | refine LeO.bind ?_ (fun _ => ?_)
    · intro y0 y1 y2 y3 y4 y5 y6 y7
      unfold impl_grid_around.l1
      repeat' first
      | (with_reducible exact ih0 _ _ _ _ _ _ _ _ _)
      | (with_reducible exact ih1 _ _ _ _ _ _ _ _)
      | (with_reducible exact LeO.refl _)
      | (with_reducible exact LeO.none _)
      | (with_reducible refine LeO.ite ?_ ?_)
      | (with_reducible refine LeO.bind ?_ (fun _ => ?_))
      | exact ih0 _ _ _ _ _ _ _ _ _
      | exact ih1 _ _ _ _ _ _ _ _
      | exact LeO.none _
      | refine LeO.ite ?_ ?_
      | refine LeO.bind ?_ (fun _ => ?_)
theorem impl_grid_around.mono : ∀ a0 a1 a2 a3 a4 a5 k, LeO (impl_grid_around.f k a0 a1 a2 a3 a4 a5) (impl_grid_around.f (k + 1) a0 a1 a2 a3 a4 a5) := by
  intro a0 a1 a2 a3 a4 a5 k
  obtain ⟨ih0, ih1⟩ := impl_grid_around.mono_l k
  unfold impl_grid_around.f
  repeat' first
      | (with_reducible exact ih0 _ _ _ _ _ _ _ _ _)
      | (with_reducible exact ih1 _ _ _ _ _ _ _ _)
      | (with_reducible exact LeO.refl _)
      | (with_reducible exact LeO.none _)
      | (with_reducible refine LeO.ite ?_ ?_)
      | (with_reducible refine LeO.bind ?_ (fun _ => ?_))
      | exact ih0 _ _ _ _ _ _ _ _ _
      | exact ih1 _ _ _ _ _ _ _ _
      | exact LeO.none _
      | refine LeO.ite ?_ ?_
      | refine LeO.bind ?_ (fun _ => ?_)

/-! ### impl_grid_squares: function 57 -/
mutual
def impl_grid_squares.l0 : Nat → List (S92) → Int → Int → Int → Option ((List (S92)))
  | 0, _, _, _, _ => none
  | k + 1, x3, x4, x130000, x130001 => if x4 ≤ (mn x130000 x130001) then (impl_grid_squares.l1 k x3 x4 0 x130000 x130001) else (some x3)
def impl_grid_squares.l1 : Nat → List (S92) → Int → Int → Int → Int → Option ((List (S92)))
  | 0, _, _, _, _, _ => none
  | k + 1, x3, x4, x5, x130000, x130001 => if (wrap64 (x5 + x4)) ≤ x130001 then (impl_grid_squares.l2 k x3 x4 x5 0 x130000 x130001) else (impl_grid_squares.l0 k x3 (wrap64 (x4 + 1)) x130000 x130001)
def impl_grid_squares.l2 : Nat → List (S92) → Int → Int → Int → Int → Int → Option ((List (S92)))
  | 0, _, _, _, _, _, _ => none
  | k + 1, x3, x4, x5, x6, x130000, x130001 => if (wrap64 (x6 + x4)) ≤ x130000 then ((impl_grid_around.f k x130000 x130001 x6 x5 x4 x4).bind fun t133 => (if x3.length < 4398046511104 then (impl_grid_squares.l2 k (x3 ++ [(⟨x6, x5, x4, t133⟩ : S92)]) x4 x5 (wrap64 (x6 + 1)) x130000 x130001) else (none))) else (impl_grid_squares.l1 k x3 x4 (wrap64 (x5 + 1)) x130000 x130001)
end
def impl_grid_squares.f (k : Nat) (a0_0 : Int) (a0_1 : Int) : Option ((List (S92))) := impl_grid_squares.l0 k (([] : List (S92))) 1 a0_0 a0_1
theorem impl_grid_squares.mono_l : ∀ k, (∀ y0 y1 y2 y3, LeO (impl_grid_squares.l0 k y0 y1 y2 y3) (impl_grid_squares.l0 (k + 1) y0 y1 y2 y3)) ∧ (∀ y0 y1 y2 y3 y4, LeO (impl_grid_squares.l1 k y0 y1 y2 y3 y4) (impl_grid_squares.l1 (k + 1) y0 y1 y2 y3 y4)) ∧ (∀ y0 y1 y2 y3 y4 y5, LeO (impl_grid_squares.l2 k y0 y1 y2 y3 y4 y5) (impl_grid_squares.l2 (k + 1) y0 y1 y2 y3 y4 y5))
  | 0 => ⟨fun _ _ _ _ r h => by simp [impl_grid_squares.l0] at h, fun _ _ _ _ _ r h => by simp [impl_grid_squares.l1] at h, fun _ _ _ _ _ _ r h => by simp [impl_grid_squares.l2] at h⟩
  | k + 1 => by
    obtain ⟨ih0, ih1, ih2⟩ := impl_grid_squares.mono_l k
    refine ⟨?_, ?_, ?_⟩
    · intro y0 y1 y2 y3
      unfold impl_grid_squares.l0
      repeat' first
      | (with_reducible exact ih0 _ _ _ _)
      | (with_reducible exact ih1 _ _ _ _ _)
      | (with_reducible exact ih2 _ _ _ _ _ _)
      | (with_reducible exact impl_grid_around.mono _ _ _ _ _ _ _)
      | (with_reducible exact LeO.refl _)
      | (with_reducible exact LeO.none _)
      | (with_reducible refine LeO.ite ?_ ?_)
      | (with_reducible refine LeO.bind ?_ (fun _ => ?_))
      | exact ih0 _ _ _ _
      | exact ih1 _ _ _ _ _
      | exact ih2 _ _ _ _ _ _
      | exact impl_grid_around.mono _ _ _ _ _ _ _
      | exact LeO.none _
      | refine LeO.ite ?_ ?_
      | refine LeO.bind ?_ (fun _ => ?_)
    · intro y0 y1 y2 y3 y4
      unfold impl_grid_squares.l1
      repeat' first
      | (with_reducible exact ih0 _ _ _ _)
      | (with_reducible exact ih1 _ _ _ _ _)
      | (with_reducible exact ih2 _ _ _ _ _ _)
      | (with_reducible exact impl_grid_around.mono _ _ _ _ _ _ _)
      | (with_reducible exact LeO.refl _)
      | (with_reducible exact LeO.none _)
      | (with_reducible refine LeO.ite ?_ ?_)
      | (with_reducible refine LeO.bind ?_ (fun _ => ?_))
      | exact ih0 _ _ _ _
      | exact ih1 _ _ _ _ _
      | exact ih2 _ _ _ _ _ _
      | exact impl_grid_around.mono _ _ _ _ _ _ _
      | exact LeO.none _
      | refine LeO.ite ?_ ?_
      | refine LeO.bind ?_ (fun _ => ?_)
    · intro y0 y1 y2 y3 y4 y5
      unfold impl_grid_squares.l2
      repeat' first
      | (with_reducible exact ih0 _ _ _ _)
      | (with_reducible exact ih1 _ _ _ _ _)
      | (with_reducible exact ih2 _ _ _ _ _ _)
      | (with_reducible exact impl_grid_around.mono _ _ _ _ _ _ _)
      | (with_reducible exact LeO.refl _)
      | (with_reducible exact LeO.none _)
      | (with_reducible refine LeO.ite ?_ ?_)
      | (with_reducible refine LeO.bind ?_ (fun _ => ?_))
      | exact ih0 _ _ _ _
      | exact ih1 _ _ _ _ _
      | exact ih2 _ _ _ _ _ _
      | exact impl_grid_around.mono _ _ _ _ _ _ _
      | exact LeO.none _
      | refine LeO.ite ?_ ?_
      | refine LeO.bind ?_ (fun _ => ?_)
theorem impl_grid_squares.mono : ∀ a0 a1 k, LeO (impl_grid_squares.f k a0 a1) (impl_grid_squares.f (k + 1) a0 a1) := by
  intro a0 a1 k
  obtain ⟨ih0, ih1, ih2⟩ := impl_grid_squares.mono_l k
  unfold impl_grid_squares.f
  repeat' first
      | (with_reducible exact ih0 _ _ _ _)
      | (with_reducible exact ih1 _ _ _ _ _)
      | (with_reducible exact ih2 _ _ _ _ _ _)
      | (with_reducible exact impl_grid_around.mono _ _ _ _ _ _ _)
      | (with_reducible exact LeO.refl _)
      | (with_reducible exact LeO.none _)
      | (with_reducible refine LeO.ite ?_ ?_)
      | (with_reducible refine LeO.bind ?_ (fun _ => ?_))
      | exact ih0 _ _ _ _
      | exact ih1 _ _ _ _ _
      | exact ih2 _ _ _ _ _ _
      | exact impl_grid_around.mono _ _ _ _ _ _ _
      | exact LeO.none _
      | refine LeO.ite ?_ ?_
      | refine LeO.bind ?_ (fun _ => ?_)

/-! ### impl_bit: function 68 -/
def impl_bit.f (a0 : Bool) : Option (Int) := if a0 = true then (some 1) else (some 0)

/-! ### impl_countOf: function 60 -/
def impl_countOf.l0 : Nat → Int → Int → List (S92) → Int → Int → Option (Int)
  | 0, _, _, _, _, _ => none
  | k + 1, x1, x5, x8, x9, x10 => if x10 < x9 then (if 0 ≤ x10 then (if x10 < (x8.length : Int) then ((impl_bit.f ((Go.bits .andNot .u64 ((rd_T92 x8 x10).f3) x1) == 0)).bind fun t139 => (impl_countOf.l0 k x1 (wrap64 (x5 + t139)) x8 x9 (wrap64 (x10 + 1)))) else (none)) else (none)) else (some x5)
def impl_countOf.f (k : Nat) (l0 : List (S92)) (a1 : Int) : Option (Int) := impl_countOf.l0 k a1 0 l0 (l0.length : Int) 0
/-! ### impl_of: function 69 -/
/-- all of whose edges a set has -/
def ofP (s : Int) (q : S92) : Bool := Go.bits .andNot .u64 q.f3 s == 0
def impl_of.f (l0 : List (S92)) (a1 : Int) : Option ((List (S92))) := if l0.length < 4398046511104 then some (l0.filter (ofP a1)) else none


/-! ### impl_needless: function 61 -/
def impl_needless.l0 : Nat → Int → List (S92) → Int → Int → Option (Int)
  | 0, _, _, _, _ => none
  | k + 1, x5, x11, x12, x13 => if x13 < x12 then (if 0 ≤ x13 then (if x13 < (x11.length : Int) then (impl_needless.l0 k (Go.bits .andNot .u64 x5 ((rd_T92 x11 x13).f3)) x11 x12 (wrap64 (x13 + 1))) else (none)) else (none)) else (some x5)
def impl_needless.f (k : Nat) (l0 : List (S92)) (a1 : Int) : Option (Int) := (impl_of.f l0 a1).bind fun t140 => (impl_needless.l0 k a1 t140 (t140.length : Int) 0)
/-! ### impl_way_with: function 52 -/
/-- all ways to choose so many of a list, as bits together -/
def chB (f : Int → Int → Int) : Nat → Int → List Int → List Int
  | 0, own, _ => [own]
  | _ + 1, _, [] => []
  | n + 1, own, b :: r => chB f n (f own b) r ++ chB f (n + 1) own r
/-- a set with one more edge -/
def fI (own b : Int) : Int := Go.bits .or .u64 own (IntKind.u64.wrap (2 ^ min b.toNat 64))
/-- a set without some edges and with others -/
def fM (sv gone put : Int) : Int := Go.bits .or .u64 (Go.bits .andNot .u64 sv gone) put
/-- what is made when some edges are gone -/
def inM (mv : Bool) (n : Nat) (sv : Int) (l : List Int) (gone : Int) : List Int := if mv = true then (chB fI n 0 l).map (fM sv gone) else [Go.bits .andNot .u64 sv gone]
def inL (mv : Bool) (n : Nat) (l : List Int) : Nat := if mv = true then (chB fI n 0 l).length else 1
/-- is a set one of those that are looked for -/
def wiP (k : Nat) (sqs : List S92) (squares : Int) (tidy : Bool) (s : Int) : Bool := impl_countOf.f k sqs s == some squares && (!tidy || impl_needless.f k sqs s == some 0)
/-- all edges that are free, if matches are moved -/
def wiF (k : Nat) (a0 a1 : Int) (mv : Bool) (sv : Int) : Option (List Int) := if mv = true then (impl_grid_all.f a0 a1).bind fun al => impl_set_listed.f k (Go.bits .andNot .u64 al sv) else some []
def impl_way_with.f (k : Nat) (a0_0 : Int) (a0_1 : Int) (l0_2 : List Int) (l0_3 : List Int) (a0_4 : Int) (a0_5 : Bool) (a1 : Int) (a2 : Bool) : Option (List Int) := (impl_grid_squares.f k a0_0 a0_1).bind fun sqs => (impl_Figure_set.f k a0_0 a0_1 l0_2 l0_3).bind fun sv => (impl_set_listed.f k sv).bind fun lg => (wiF k a0_0 a0_1 a0_5 sv).bind fun l =>
  if 0 ≤ a0_4 ∧ a0_4 ≤ 1000000 ∧ sqs.length < k ∧ sqs.length ≤ 1000 ∧ lg.length ≤ 1000000 ∧ l.length ≤ 1000000 ∧ (∀ b ∈ lg, 0 ≤ b) ∧ (∀ b ∈ l, 0 ≤ b) ∧ (chB fI a0_4.toNat 0 lg).length * inL a0_5 a0_4.toNat l ≤ 1000000 then some (((chB fI a0_4.toNat 0 lg).flatMap (inM a0_5 a0_4.toNat sv l)).filter (wiP k sqs a1 a2)) else none


/-! ### spec_sqBit: function 54 -/
def spec_sqBit.f (a0 : Int) (a1 : Int) (a2 : Bool) (a3 : Int) : Option (Int) := if a2 = true then (if 0 ≤ (wrap64 ((wrap64 (a0 * (wrap64 (a1 + 1)))) + a3)) then (some (shl .i64 1 (wrap64 ((wrap64 (a0 * (wrap64 (a1 + 1)))) + a3)))) else (none)) else (if 0 ≤ a3 then (some (shl .i64 1 a3)) else (none))

/-! ### spec_sqMask: function 47 -/
mutual
def spec_sqMask.l0 : Nat → Int → List Int → Int → Int → Int → Int → List Int → List Int → Option (Int)
  | 0, _, _, _, _, _, _, _, _ => none
  | k + 1, x3, x9, x10, x11, x146000, x146001, x146002, x146003 => if x11 < x10 then (if 0 ≤ x11 then (if x11 < (x9.length : Int) then ((spec_sqBit.f x146000 x146001 false (rd x9 x11)).bind fun t147 => (spec_sqMask.l0 k (Go.bits .or .i64 x3 t147) x9 x10 (wrap64 (x11 + 1)) x146000 x146001 x146002 x146003)) else (none)) else (none)) else (spec_sqMask.l1 k x3 x146003 (x146003.length : Int) 0 x146000 x146001 x146002 x146003)
def spec_sqMask.l1 : Nat → Int → List Int → Int → Int → Int → Int → List Int → List Int → Option (Int)
  | 0, _, _, _, _, _, _, _, _ => none
  | k + 1, x3, x25, x26, x27, x146000, x146001, x146002, x146003 => if x27 < x26 then (if 0 ≤ x27 then (if x27 < (x25.length : Int) then ((spec_sqBit.f x146000 x146001 true (rd x25 x27)).bind fun t149 => (spec_sqMask.l1 k (Go.bits .or .i64 x3 t149) x25 x26 (wrap64 (x27 + 1)) x146000 x146001 x146002 x146003)) else (none)) else (none)) else (some x3)
end
def spec_sqMask.f (k : Nat) (a0_0 : Int) (a0_1 : Int) (l0_2 : List Int) (l0_3 : List Int) : Option (Int) := spec_sqMask.l0 k 0 l0_2 (l0_2.length : Int) 0 a0_0 a0_1 l0_2 l0_3
/-! ### spec_moBits: function 48 -/
def spec_moBits.l0 : Nat → Int → Int → List Int → Int → Option (List Int)
  | 0, _, _, _, _ => none
  | k + 1, x0, x1, x5, x6 => if x6 < (wrap64 ((wrap64 ((wrap64 ((wrap64 (2 * x0)) * x1)) + x0)) + x1)) then (if 0 ≤ x6 then (if x5.length < 17592186044416 then (spec_moBits.l0 k x0 x1 (x5 ++ [shl .i64 1 x6]) (wrap64 (x6 + 1))) else (none)) else (none)) else (some x5)
def spec_moBits.f (k : Nat) (a0 : Int) (a1 : Int) : Option (List Int) := spec_moBits.l0 k a0 a1 ([] : List Int) 0
/-! ### spec_moMade: function 39 -/
/-- bits with one more -/
def fS (own b : Int) : Int := Go.bits .or .i64 own b
/-- what is made by taking one list of bits, or laying another -/
def moM (mask a : Int) : Int := Go.bits .andNot .i64 mask a
def moL (mask a b : Int) : Int := Go.bits .or .i64 (Go.bits .andNot .i64 mask a) b
def moHv (mask : Int) (b : Int) : Bool := Go.bits .and .i64 mask b != 0
def spec_moMade.f (k : Nat) (a0_0 : Int) (a0_1 : Int) (l0_2 : List Int) (l0_3 : List Int) (a1 : Int) (a2 : Bool) : Option (List Int) := (spec_sqMask.f k a0_0 a0_1 l0_2 l0_3).bind fun mask => (spec_moBits.f k a0_0 a0_1).bind fun bits =>
  if 0 ≤ a1 ∧ a1 ≤ 1000000 ∧ bits.length ≤ 1000 ∧ (chB fS a1.toNat 0 (bits.filter (moHv mask))).length ≤ 1000000 ∧ (a2 = true → (chB fS a1.toNat 0 (bits.filter fun b => !moHv mask b)).length ≤ 1000000 ∧ ((chB fS a1.toNat 0 (bits.filter (moHv mask))).flatMap fun a => (chB fS a1.toNat 0 (bits.filter fun b => !moHv mask b)).map (moL mask a)).length ≤ 1000000)
  then some (if a2 = true then ((chB fS a1.toNat 0 (bits.filter (moHv mask))).flatMap fun a => (chB fS a1.toNat 0 (bits.filter fun b => !moHv mask b)).map (moL mask a)) else (chB fS a1.toNat 0 (bits.filter (moHv mask))).map (moM mask)) else none


/-! ### spec_sqAround: function 46 -/
mutual
def spec_sqAround.l0 : Nat → Int → Int → Int → Int → Int → Int → Int → Int → Option (Int)
  | 0, _, _, _, _, _, _, _, _ => none
  | k + 1, x0, x1, x2, x3, x4, x5, x13, x14 => if x14 < x4 then ((spec_sqBit.f x0 x1 false (wrap64 ((wrap64 ((wrap64 (x3 * x0)) + x2)) + x14))).bind fun t153 => ((spec_sqBit.f x0 x1 false (wrap64 ((wrap64 ((wrap64 ((wrap64 (x3 + x5)) * x0)) + x2)) + x14))).bind fun t154 => (spec_sqAround.l0 k x0 x1 x2 x3 x4 x5 (Go.bits .or .i64 x13 (Go.bits .or .i64 t153 t154)) (wrap64 (x14 + 1))))) else (spec_sqAround.l1 k x0 x1 x2 x3 x4 x5 x13 0)
def spec_sqAround.l1 : Nat → Int → Int → Int → Int → Int → Int → Int → Int → Option (Int)
  | 0, _, _, _, _, _, _, _, _ => none
  | k + 1, x0, x1, x2, x3, x4, x5, x13, x15 => if x15 < x5 then ((spec_sqBit.f x0 x1 true (wrap64 ((wrap64 ((wrap64 (x3 + x15)) * (wrap64 (x0 + 1)))) + x2))).bind fun t155 => ((spec_sqBit.f x0 x1 true (wrap64 ((wrap64 ((wrap64 ((wrap64 (x3 + x15)) * (wrap64 (x0 + 1)))) + x2)) + x4))).bind fun t156 => (spec_sqAround.l1 k x0 x1 x2 x3 x4 x5 (Go.bits .or .i64 x13 (Go.bits .or .i64 t155 t156)) (wrap64 (x15 + 1))))) else (some x13)
end
def spec_sqAround.f (k : Nat) (a0 : Int) (a1 : Int) (a2 : Int) (a3 : Int) (a4 : Int) (a5 : Int) : Option (Int) := spec_sqAround.l0 k a0 a1 a2 a3 a4 a5 0 0
theorem spec_sqAround.mono_l : ∀ k, (∀ y0 y1 y2 y3 y4 y5 y6 y7, LeO (spec_sqAround.l0 k y0 y1 y2 y3 y4 y5 y6 y7) (spec_sqAround.l0 (k + 1) y0 y1 y2 y3 y4 y5 y6 y7)) ∧ (∀ y0 y1 y2 y3 y4 y5 y6 y7, LeO (spec_sqAround.l1 k y0 y1 y2 y3 y4 y5 y6 y7) (spec_sqAround.l1 (k + 1) y0 y1 y2 y3 y4 y5 y6 y7))
  | 0 => ⟨fun _ _ _ _ _ _ _ _ r h => by simp [spec_sqAround.l0] at h, fun _ _ _ _ _ _ _ _ r h => by simp [spec_sqAround.l1] at h⟩
  | k + 1 => by
    obtain ⟨ih0, ih1⟩ := spec_sqAround.mono_l k
    refine ⟨?_, ?_⟩
    · intro y0 y1 y2 y3 y4 y5 y6 y7
      unfold spec_sqAround.l0
      repeat' first
      | (with_reducible exact ih0 _ _ _ _ _ _ _ _)
      | (with_reducible exact ih1 _ _ _ _ _ _ _ _)
      | (with_reducible exact LeO.refl _)
      | (with_reducible exact LeO.none _)
      | (with_reducible refine LeO.ite ?_ ?_)
      | (with_reducible refine LeO.bind ?_ (fun _ => ?_))
      | exact ih0 _ _ _ _ _ _ _ _
      | exact ih1 _ _ _ _ _ _ _ _
      | exact LeO.none _
      | refine LeO.ite ?_ ?_
      | refine LeO.bind ?_ (fun _ => ?_)
    · intro y0 y1 y2 y3 y4 y5 y6 y7
      unfold spec_sqAround.l1
      repeat' first
      | (with_reducible exact ih0 _ _ _ _ _ _ _ _)
      | (with_reducible exact ih1 _ _ _ _ _ _ _ _)
      | (with_reducible exact LeO.refl _)
      | (with_reducible exact LeO.none _)
      | (with_reducible refine LeO.ite ?_ ?_)
      | (with_reducible refine LeO.bind ?_ (fun _ => ?_))
      | exact ih0 _ _ _ _ _ _ _ _
      | exact ih1 _ _ _ _ _ _ _ _
      | exact LeO.none _
      | refine LeO.ite ?_ ?_
      | refine LeO.bind ?_ (fun _ => ?_)
theorem spec_sqAround.mono : ∀ a0 a1 a2 a3 a4 a5 k, LeO (spec_sqAround.f k a0 a1 a2 a3 a4 a5) (spec_sqAround.f (k + 1) a0 a1 a2 a3 a4 a5) := by
  intro a0 a1 a2 a3 a4 a5 k
  obtain ⟨ih0, ih1⟩ := spec_sqAround.mono_l k
  unfold spec_sqAround.f
  repeat' first
      | (with_reducible exact ih0 _ _ _ _ _ _ _ _)
      | (with_reducible exact ih1 _ _ _ _ _ _ _ _)
      | (with_reducible exact LeO.refl _)
      | (with_reducible exact LeO.none _)
      | (with_reducible refine LeO.ite ?_ ?_)
      | (with_reducible refine LeO.bind ?_ (fun _ => ?_))
      | exact ih0 _ _ _ _ _ _ _ _
      | exact ih1 _ _ _ _ _ _ _ _
      | exact LeO.none _
      | refine LeO.ite ?_ ?_
      | refine LeO.bind ?_ (fun _ => ?_)

/-! ### spec_sqAll: function 38 -/
mutual
def spec_sqAll.l0 : Nat → Int → Int → List (S72) → Int → Option ((List (S72)))
  | 0, _, _, _, _ => none
  | k + 1, x0, x1, x5, x6 => if x6 ≤ x0 then (spec_sqAll.j1 k x0 x1 x5 x6 (decide (x6 ≤ x1))) else (spec_sqAll.j1 k x0 x1 x5 x6 false)
def spec_sqAll.j1 : Nat → Int → Int → List (S72) → Int → Bool → Option ((List (S72)))
  | 0, _, _, _, _, _ => none
  | k + 1, x0, x1, x5, x6, x16 => if x16 = true then (spec_sqAll.l1 k x0 x1 x5 x6 0) else (some x5)
def spec_sqAll.l1 : Nat → Int → Int → List (S72) → Int → Int → Option ((List (S72)))
  | 0, _, _, _, _, _ => none
  | k + 1, x0, x1, x5, x6, x7 => if (wrap64 (x7 + x6)) ≤ x1 then (spec_sqAll.l2 k x0 x1 x5 x6 x7 0) else (spec_sqAll.l0 k x0 x1 x5 (wrap64 (x6 + 1)))
def spec_sqAll.l2 : Nat → Int → Int → List (S72) → Int → Int → Int → Option ((List (S72)))
  | 0, _, _, _, _, _, _ => none
  | k + 1, x0, x1, x5, x6, x7, x8 => if (wrap64 (x8 + x6)) ≤ x0 then ((spec_sqAround.f k x0 x1 x8 x7 x6 x6).bind fun t157 => (if x5.length < 4398046511104 then (spec_sqAll.l2 k x0 x1 (x5 ++ [(⟨x8, x7, x6, t157⟩ : S72)]) x6 x7 (wrap64 (x8 + 1))) else (none))) else (spec_sqAll.l1 k x0 x1 x5 x6 (wrap64 (x7 + 1)))
end
def spec_sqAll.f (k : Nat) (a0 : Int) (a1 : Int) : Option ((List (S72))) := spec_sqAll.l0 k a0 a1 ([] : List (S72)) 1
theorem spec_sqAll.mono_l : ∀ k, (∀ y0 y1 y2 y3, LeO (spec_sqAll.l0 k y0 y1 y2 y3) (spec_sqAll.l0 (k + 1) y0 y1 y2 y3)) ∧ (∀ y0 y1 y2 y3 y4, LeO (spec_sqAll.j1 k y0 y1 y2 y3 y4) (spec_sqAll.j1 (k + 1) y0 y1 y2 y3 y4)) ∧ (∀ y0 y1 y2 y3 y4, LeO (spec_sqAll.l1 k y0 y1 y2 y3 y4) (spec_sqAll.l1 (k + 1) y0 y1 y2 y3 y4)) ∧ (∀ y0 y1 y2 y3 y4 y5, LeO (spec_sqAll.l2 k y0 y1 y2 y3 y4 y5) (spec_sqAll.l2 (k + 1) y0 y1 y2 y3 y4 y5))
  | 0 => ⟨fun _ _ _ _ r h => by simp [spec_sqAll.l0] at h, fun _ _ _ _ _ r h => by simp [spec_sqAll.j1] at h, fun _ _ _ _ _ r h => by simp [spec_sqAll.l1] at h, fun _ _ _ _ _ _ r h => by simp [spec_sqAll.l2] at h⟩
  | k + 1 => by
    obtain ⟨ih0, ih1, ih2, ih3⟩ := spec_sqAll.mono_l k
    refine ⟨?_, ?_, ?_, ?_⟩
    · intro y0 y1 y2 y3
      unfold spec_sqAll.l0
      repeat' first
      | (with_reducible exact ih0 _ _ _ _)
      | (with_reducible exact ih1 _ _ _ _ _)
      | (with_reducible exact ih2 _ _ _ _ _)
      | (with_reducible exact ih3 _ _ _ _ _ _)
      | (with_reducible exact spec_sqAround.mono _ _ _ _ _ _ _)
      | (with_reducible exact LeO.refl _)
      | (with_reducible exact LeO.none _)
      | (with_reducible refine LeO.ite ?_ ?_)
      | (with_reducible refine LeO.bind ?_ (fun _ => ?_))
      | exact ih0 _ _ _ _
      | exact ih1 _ _ _ _ _
      | exact ih2 _ _ _ _ _
      | exact ih3 _ _ _ _ _ _
      | exact spec_sqAround.mono _ _ _ _ _ _ _
      | exact LeO.none _
      | refine LeO.ite ?_ ?_
      | refine LeO.bind ?_ (fun _ => ?_)
    · intro y0 y1 y2 y3 y4
      unfold spec_sqAll.j1
      repeat' first
      | (with_reducible exact ih0 _ _ _ _)
      | (with_reducible exact ih1 _ _ _ _ _)
      | (with_reducible exact ih2 _ _ _ _ _)
      | (with_reducible exact ih3 _ _ _ _ _ _)
      | (with_reducible exact spec_sqAround.mono _ _ _ _ _ _ _)
      | (with_reducible exact LeO.refl _)
      | (with_reducible exact LeO.none _)
      | (with_reducible refine LeO.ite ?_ ?_)
      | (with_reducible refine LeO.bind ?_ (fun _ => ?_))
      | exact ih0 _ _ _ _
      | exact ih1 _ _ _ _ _
      | exact ih2 _ _ _ _ _
      | exact ih3 _ _ _ _ _ _
      | exact spec_sqAround.mono _ _ _ _ _ _ _
      | exact LeO.none _
      | refine LeO.ite ?_ ?_
      | refine LeO.bind ?_ (fun _ => ?_)
    · intro y0 y1 y2 y3 y4
      unfold spec_sqAll.l1
      repeat' first
      | (with_reducible exact ih0 _ _ _ _)
      | (with_reducible exact ih1 _ _ _ _ _)
      | (with_reducible exact ih2 _ _ _ _ _)
      | (with_reducible exact ih3 _ _ _ _ _ _)
      | (with_reducible exact spec_sqAround.mono _ _ _ _ _ _ _)
      | (with_reducible exact LeO.refl _)
      | (with_reducible exact LeO.none _)
      | (with_reducible refine LeO.ite ?_ ?_)
      | (with_reducible refine LeO.bind ?_ (fun _ => ?_))
      | exact ih0 _ _ _ _
      | exact ih1 _ _ _ _ _
      | exact ih2 _ _ _ _ _
      | exact ih3 _ _ _ _ _ _
      | exact spec_sqAround.mono _ _ _ _ _ _ _
      | exact LeO.none _
      | refine LeO.ite ?_ ?_
      | refine LeO.bind ?_ (fun _ => ?_)
    · intro y0 y1 y2 y3 y4 y5
      unfold spec_sqAll.l2
      repeat' first
      | (with_reducible exact ih0 _ _ _ _)
      | (with_reducible exact ih1 _ _ _ _ _)
      | (with_reducible exact ih2 _ _ _ _ _)
      | (with_reducible exact ih3 _ _ _ _ _ _)
      | (with_reducible exact spec_sqAround.mono _ _ _ _ _ _ _)
      | (with_reducible exact LeO.refl _)
      | (with_reducible exact LeO.none _)
      | (with_reducible refine LeO.ite ?_ ?_)
      | (with_reducible refine LeO.bind ?_ (fun _ => ?_))
      | exact ih0 _ _ _ _
      | exact ih1 _ _ _ _ _
      | exact ih2 _ _ _ _ _
      | exact ih3 _ _ _ _ _ _
      | exact spec_sqAround.mono _ _ _ _ _ _ _
      | exact LeO.none _
      | refine LeO.ite ?_ ?_
      | refine LeO.bind ?_ (fun _ => ?_)
theorem spec_sqAll.mono : ∀ a0 a1 k, LeO (spec_sqAll.f k a0 a1) (spec_sqAll.f (k + 1) a0 a1) := by
  intro a0 a1 k
  obtain ⟨ih0, ih1, ih2, ih3⟩ := spec_sqAll.mono_l k
  unfold spec_sqAll.f
  repeat' first
      | (with_reducible exact ih0 _ _ _ _)
      | (with_reducible exact ih1 _ _ _ _ _)
      | (with_reducible exact ih2 _ _ _ _ _)
      | (with_reducible exact ih3 _ _ _ _ _ _)
      | (with_reducible exact spec_sqAround.mono _ _ _ _ _ _ _)
      | (with_reducible exact LeO.refl _)
      | (with_reducible exact LeO.none _)
      | (with_reducible refine LeO.ite ?_ ?_)
      | (with_reducible refine LeO.bind ?_ (fun _ => ?_))
      | exact ih0 _ _ _ _
      | exact ih1 _ _ _ _ _
      | exact ih2 _ _ _ _ _
      | exact ih3 _ _ _ _ _ _
      | exact spec_sqAround.mono _ _ _ _ _ _ _
      | exact LeO.none _
      | refine LeO.ite ?_ ?_
      | refine LeO.bind ?_ (fun _ => ?_)

/-! ### spec_sqCount: function 40 -/
def spec_sqCount.l0 : Nat → Int → Int → List (S72) → Int → Int → Option (Int)
  | 0, _, _, _, _, _ => none
  | k + 1, x1, x5, x8, x9, x10 => if x10 < x9 then (if 0 ≤ x10 then (if x10 < (x8.length : Int) then (if (Go.bits .and .i64 x1 ((rd_T72 x8 x10).f3)) = ((rd_T72 x8 x10).f3) then (spec_sqCount.l0 k x1 (wrap64 (x5 + 1)) x8 x9 (wrap64 (x10 + 1))) else (spec_sqCount.l0 k x1 x5 x8 x9 (wrap64 (x10 + 1)))) else (none)) else (none)) else (some x5)
def spec_sqCount.f (k : Nat) (l0 : List (S72)) (a1 : Int) : Option (Int) := spec_sqCount.l0 k a1 0 l0 (l0.length : Int) 0
/-! ### spec_sqNeeded: function 41 -/
def spec_sqNeeded.l0 : Nat → Int → Int → List (S72) → Int → Int → Option (Int)
  | 0, _, _, _, _, _ => none
  | k + 1, x1, x5, x8, x9, x10 => if x10 < x9 then (if 0 ≤ x10 then (if x10 < (x8.length : Int) then (if (Go.bits .and .i64 x1 ((rd_T72 x8 x10).f3)) = ((rd_T72 x8 x10).f3) then (spec_sqNeeded.l0 k x1 (Go.bits .or .i64 x5 ((rd_T72 x8 x10).f3)) x8 x9 (wrap64 (x10 + 1))) else (spec_sqNeeded.l0 k x1 x5 x8 x9 (wrap64 (x10 + 1)))) else (none)) else (none)) else (some x5)
def spec_sqNeeded.f (k : Nat) (l0 : List (S72)) (a1 : Int) : Option (Int) := spec_sqNeeded.l0 k a1 0 l0 (l0.length : Int) 0
/-! ### spec_moThose: function 28 -/
def spec_moThose.l0 : Nat → Int → Bool → List (S72) → List Int → List Int → Int → Int → Option (List Int)
  | 0, _, _, _, _, _, _, _ => none
  | k + 1, x2, x4, x11, x12, x23, x24, x25 => if x25 < x24 then (if 0 ≤ x25 then (if x25 < (x23.length : Int) then ((spec_sqCount.f k x11 (rd x23 x25)).bind fun t173 => (if t173 = x2 then (if x4 = true then ((spec_sqNeeded.f k x11 (rd x23 x25)).bind fun t174 => (if t174 = (rd x23 x25) then (if x12.length < 17592186044416 then (spec_moThose.l0 k x2 x4 x11 (x12 ++ [rd x23 x25]) x23 x24 (wrap64 (x25 + 1))) else (none)) else (spec_moThose.l0 k x2 x4 x11 x12 x23 x24 (wrap64 (x25 + 1))))) else (if x12.length < 17592186044416 then (spec_moThose.l0 k x2 x4 x11 (x12 ++ [rd x23 x25]) x23 x24 (wrap64 (x25 + 1))) else (none))) else (spec_moThose.l0 k x2 x4 x11 x12 x23 x24 (wrap64 (x25 + 1))))) else (none)) else (none)) else (some x12)
def spec_moThose.f (k : Nat) (a0_0 : Int) (a0_1 : Int) (l0_2 : List Int) (l0_3 : List Int) (a1 : Int) (a2 : Int) (a3 : Bool) (a4 : Bool) : Option (List Int) := (spec_sqAll.f k a0_0 a0_1).bind fun t166 => ((spec_moMade.f k a0_0 a0_1 l0_2 l0_3 a1 a3).bind fun t169 => (spec_moThose.l0 k a2 a4 t166 ([] : List Int) t169 (t169.length : Int) 0))
/-! ### spec_l1In: function 37 -/
def spec_l1In.f (a0 : Int) (a1 : Int) (a2 : Int) : Option (Bool) := if a0 ≥ a1 then (some (decide (a0 ≤ a2))) else (some false)

/-! ### spec_fiGrid: function 44 -/
def spec_fiGrid.f (a0 : Int) (a1 : Int) : Option (Bool) := (spec_l1In.f a0 1 4).bind fun t181 => (if t181 = true then ((spec_l1In.f a1 1 4).bind fun t182 => (some t182)) else (some false))

/-! ### spec_l1All: function 53 -/
def spec_l1All.l0 : Nat → Int → Int → List Int → Int → Int → Option (Bool)
  | 0, _, _, _, _, _ => none
  | k + 1, x1, x2, x9, x10, x11 => if x11 < x10 then (if 0 ≤ x11 then (if x11 < (x9.length : Int) then ((spec_l1In.f (rd x9 x11) x1 x2).bind fun t184 => (if t184 = true then (spec_l1All.l0 k x1 x2 x9 x10 (wrap64 (x11 + 1))) else (some false))) else (none)) else (none)) else (some true)
def spec_l1All.f (k : Nat) (l0 : List Int) (a1 : Int) (a2 : Int) : Option (Bool) := spec_l1All.l0 k a1 a2 l0 (l0.length : Int) 0
/-! ### spec_fiRises: function 45 -/
mutual
def spec_fiRises.j0 : Nat → List Int → Bool → Option (Bool)
  | 0, _, _ => none
  | k + 1, x0, x16 => if x16 = true then (some false) else (spec_fiRises.l0 k x0 1)
def spec_fiRises.l0 : Nat → List Int → Int → Option (Bool)
  | 0, _, _ => none
  | k + 1, x0, x5 => if x5 < (x0.length : Int) then (if 0 ≤ (wrap64 (x5 - 1)) then (if (wrap64 (x5 - 1)) < (x0.length : Int) then (if 0 ≤ x5 then (if (rd x0 (wrap64 (x5 - 1))) ≥ (rd x0 x5) then (some false) else (spec_fiRises.l0 k x0 (wrap64 (x5 + 1)))) else (none)) else (none)) else (none)) else (some true)
end
def spec_fiRises.f (k : Nat) (l0 : List Int) (a1 : Int) : Option (Bool) := if (l0.length : Int) > (wrap64 (a1 + 1)) then (spec_fiRises.j0 k l0 true) else ((spec_l1All.f k l0 0 a1).bind fun t185 => (spec_fiRises.j0 k l0 (!t185)))
/-! ### spec_fiGood: function 36 -/
def spec_fiGood.f (k : Nat) (a0_0 : Int) (a0_1 : Int) (l0_2 : List Int) (l0_3 : List Int) : Option (Bool) := (spec_fiGrid.f a0_0 a0_1).bind fun t189 => (if t189 = true then ((spec_fiRises.f k l0_2 (wrap64 ((wrap64 (a0_0 * (wrap64 (a0_1 + 1)))) - 1))).bind fun t190 => (if t190 = true then ((spec_fiRises.f k l0_3 (wrap64 ((wrap64 ((wrap64 (a0_0 + 1)) * a0_1)) - 1))).bind fun t191 => (some t191)) else (some false))) else (some false))
/-! ### spec_sqFew: function 25 -/
def spec_sqFew.f (k : Nat) (a0_0 : Int) (a0_1 : Int) (l0_2 : List Int) (l0_3 : List Int) : Option (Bool) := (spec_fiGood.f k a0_0 a0_1 l0_2 l0_3).bind fun t193 => (if t193 = true then (some (decide ((wrap64 (a0_0 * a0_1)) ≤ 9))) else (some false))
/-! ### spec_moSquares: function 26 -/
def spec_moSquares.f (a0 : Int) : Option (Bool) := (spec_l1In.f a0 0 100).bind fun t194 => (some t194)

/-! ### spec_moAsked: function 27 -/
def spec_moAsked.f (k : Nat) (a0_0 : Int) (a0_1 : Int) (l0_2 : List Int) (l0_3 : List Int) (a1 : Int) (a2 : Bool) : Option (Bool) := if a2 = true then ((spec_sqFew.f k a0_0 a0_1 l0_2 l0_3).bind fun t196 => (if t196 = true then ((spec_l1In.f a1 0 2).bind fun t197 => (some t197)) else (some false))) else ((spec_sqFew.f k a0_0 a0_1 l0_2 l0_3).bind fun t198 => (if t198 = true then ((spec_l1In.f a1 0 4).bind fun t199 => (some t199)) else (some false)))
/-! ### spec_moFew: function 14 -/
mutual
def spec_moFew.j0 : Nat → Int → Bool → Bool → Int → Int → List Int → List Int → Option (Int × Bool)
  | 0, _, _, _, _, _, _, _ => none
  | k + 1, x1, x2, x16, x201000, x201001, x201002, x201003 => if x16 = true then (some (0, false)) else (spec_moFew.l0 k x1 x2 0 x201000 x201001 x201002 x201003)
def spec_moFew.l0 : Nat → Int → Bool → Int → Int → Int → List Int → List Int → Option (Int × Bool)
  | 0, _, _, _, _, _, _, _ => none
  | k + 1, x1, x2, x8, x201000, x201001, x201002, x201003 => (spec_moAsked.f k x201000 x201001 x201002 x201003 x8 x2).bind fun t203 => (if t203 = true then ((spec_moThose.f k x201000 x201001 x201002 x201003 x8 x1 x2 false).bind fun t204 => (if (t204.length : Int) > 0 then (some (x8, true)) else (spec_moFew.l0 k x1 x2 (wrap64 (x8 + 1)) x201000 x201001 x201002 x201003))) else (some (0, false)))
end
def spec_moFew.f (k : Nat) (a0_0 : Int) (a0_1 : Int) (l0_2 : List Int) (l0_3 : List Int) (a1 : Int) (a2 : Bool) : Option (Int × Bool) := (spec_sqFew.f k a0_0 a0_1 l0_2 l0_3).bind fun t201 => (if t201 = true then ((spec_moSquares.f a1).bind fun t202 => (spec_moFew.j0 k a1 a2 (!t202) a0_0 a0_1 l0_2 l0_3)) else (spec_moFew.j0 k a1 a2 true a0_0 a0_1 l0_2 l0_3))
/-! ### spec_l1Own: function 29 -/
def spec_l1Own.f (l0 : List Int) : Option (List Int) := (some (([] : List Int) : List Int)).bind fun y207 => (if y207.length + l0.length < 17592186044416 then (some (y207 ++ l0)) else (none))

/-! ### spec_fiOwn: function 15 -/
def spec_fiOwn.f (a0_0 : Int) (a0_1 : Int) (l0_2 : List Int) (l0_3 : List Int) : Option (Int × Int × List Int × List Int) := (spec_l1Own.f l0_2).bind fun t215 => ((spec_l1Own.f l0_3).bind fun t218 => (some (a0_0, a0_1, t215, t218)))

/-! ### spec_TakePuzzle: function 5 -/
def spec_TakePuzzle.f (k : Nat) (a0_0 : Int) (a0_1 : Int) (l0_2 : List Int) (l0_3 : List Int) (a1 : Int) : Option (Int × Int × List Int × List Int × Int × Bool × Int × Bool) := (spec_moFew.f k a0_0 a0_1 l0_2 l0_3 a1 false).bind fun bt223 => (if bt223.2 = true then ((spec_fiOwn.f a0_0 a0_1 l0_2 l0_3).bind fun bt225 => (some (bt225.1, bt225.2.1, bt225.2.2.1, bt225.2.2.2, bt223.1, false, a1, true))) else (some (0, 0, ([] : List Int), ([] : List Int), 0, false, 0, false)))
/-! ### impl_grid_figure: function 19 -/
def impl_grid_figure.f (k : Nat) (a0_0 : Int) (a0_1 : Int) (a1 : Int) : Option (Int × Int × List Int × List Int) := (impl_grid_levels.f a0_0 a0_1).bind fun t235 => (if 0 ≤ t235 then ((impl_set_listed.f k (Go.bits .and .u64 a1 (IntKind.u64.wrap ((shl .u64 1 t235) - 1)))).bind fun t236 => ((impl_grid_levels.f a0_0 a0_1).bind fun t239 => (if 0 ≤ t239 then ((impl_set_listed.f k (shr .u64 a1 t239)).bind fun t240 => (some (a0_0, a0_1, t236, t240))) else (none)))) else (none))
/-! ### impl_within: function 56 -/
def impl_within.f (a0 : Int) (a1 : Int) (a2 : Int) : Option (Bool) := if a1 ≤ a0 then (some (decide (a0 ≤ a2))) else (some false)

/-! ### impl_isGrid: function 70 -/
def impl_isGrid.f (a0 : Int) (a1 : Int) : Option (Bool) := (impl_within.f a0 1 4).bind fun t243 => (if t243 = true then ((impl_within.f a1 1 4).bind fun t244 => (some t244)) else (some false))

/-! ### impl_isRising: function 71 -/
def impl_isRising.l0 : Nat → List Int → Int → Option (Bool)
  | 0, _, _ => none
  | k + 1, x0, x3 => if x3 < (x0.length : Int) then (if 0 ≤ x3 then (if 0 ≤ (wrap64 (x3 - 1)) then (if (wrap64 (x3 - 1)) < (x0.length : Int) then (if (rd x0 x3) ≤ (rd x0 (wrap64 (x3 - 1))) then (some false) else (impl_isRising.l0 k x0 (wrap64 (x3 + 1)))) else (none)) else (none)) else (none)) else (some true)
def impl_isRising.f (k : Nat) (l0 : List Int) : Option (Bool) := impl_isRising.l0 k l0 1
/-! ### impl_areWithin: function 72 -/
/-- outside of lo .. hi -/
def awP (lo hi : Int) (n : Int) : Bool := !(decide (lo ≤ n) && decide (n ≤ hi))
def impl_areWithin.f (l0 : List Int) (a1 : Int) (a2 : Int) : Option (Bool) := some (!l0.any (awP a1 a2))


/-! ### impl_IsFigure: function 62 -/
def impl_IsFigure.f (k : Nat) (a0_0 : Int) (a0_1 : Int) (l0_2 : List Int) (l0_3 : List Int) : Option (Bool) := (impl_isGrid.f a0_0 a0_1).bind fun t248 => (if t248 = true then ((impl_isRising.f k l0_2).bind fun t249 => (if t249 = true then ((impl_isRising.f k l0_3).bind fun t250 => (if t250 = true then ((impl_Figure_grid.f a0_0 a0_1 l0_2 l0_3).bind fun bt251 => ((impl_grid_levels.f bt251.1 bt251.2).bind fun t253 => ((impl_areWithin.f l0_2 0 (wrap64 (t253 - 1))).bind fun t254 => (if t254 = true then ((impl_Figure_grid.f a0_0 a0_1 l0_2 l0_3).bind fun bt255 => ((impl_grid_uprights.f bt255.1 bt255.2).bind fun t257 => ((impl_areWithin.f l0_3 0 (wrap64 (t257 - 1))).bind fun t258 => (some t258)))) else (some false))))) else (some false))) else (some false))) else (some false))
/-! ### impl_isFew: function 55 -/
def impl_isFew.f (k : Nat) (a0_0 : Int) (a0_1 : Int) (l0_2 : List Int) (l0_3 : List Int) : Option (Bool) := (impl_IsFigure.f k a0_0 a0_1 l0_2 l0_3).bind fun t260 => (if t260 = true then (some (decide ((wrap64 (a0_0 * a0_1)) ≤ 9))) else (some false))
/-! ### impl_way_isRight: function 50 -/
def impl_way_isRight.f (k : Nat) (a0_0 : Int) (a0_1 : Int) (l0_2 : List Int) (l0_3 : List Int) (a0_4 : Int) (a0_5 : Bool) : Option (Bool) := if a0_5 = true then ((impl_isFew.f k a0_0 a0_1 l0_2 l0_3).bind fun t262 => (if t262 = true then ((impl_within.f a0_4 0 2).bind fun t263 => (some t263)) else (some false))) else ((impl_isFew.f k a0_0 a0_1 l0_2 l0_3).bind fun t264 => (if t264 = true then ((impl_within.f a0_4 0 4).bind fun t265 => (some t265)) else (some false)))
/-! ### impl_isNumber: function 51 -/
def impl_isNumber.f (a0 : Int) : Option (Bool) := (impl_within.f a0 0 100).bind fun t266 => (some t266)

/-! ### impl_way_count: function 42 -/
def impl_way_count.f (k : Nat) (a0_0 : Int) (a0_1 : Int) (l0_2 : List Int) (l0_3 : List Int) (a0_4 : Int) (a0_5 : Bool) (a1 : Int) (a2 : Bool) : Option (Int × Bool) := (impl_way_isRight.f k a0_0 a0_1 l0_2 l0_3 a0_4 a0_5).bind fun t268 => (if t268 = true then ((impl_isNumber.f a1).bind fun t269 => (if t269 = true then ((impl_way_with.f k a0_0 a0_1 l0_2 l0_3 a0_4 a0_5 a1 a2).bind fun t270 => (some ((t270.length : Int), true))) else (some (0, false)))) else (some (0, false)))
/-! ### impl_fewest: function 31 -/
def impl_fewest.l0 : Nat → Int → Bool → Int → Int → Int → List Int → List Int → Option (Int × Bool)
  | 0, _, _, _, _, _, _, _ => none
  | k + 1, x1, x2, x8, x274000, x274001, x274002, x274003 => (impl_way_count.f k x274000 x274001 x274002 x274003 x8 x2 x1 false).bind fun bt274 => (if bt274.2 = true then (if bt274.1 > 0 then (some (x8, true)) else (impl_fewest.l0 k x1 x2 (wrap64 (x8 + 1)) x274000 x274001 x274002 x274003)) else (some (0, false)))
def impl_fewest.f (k : Nat) (a0_0 : Int) (a0_1 : Int) (l0_2 : List Int) (l0_3 : List Int) (a1 : Int) (a2 : Bool) : Option (Int × Bool) := impl_fewest.l0 k a1 a2 0 a0_0 a0_1 l0_2 l0_3
/-! ### impl_FewestTakes: function 17 -/
def impl_FewestTakes.f (k : Nat) (a0_0 : Int) (a0_1 : Int) (l0_2 : List Int) (l0_3 : List Int) (a1 : Int) : Option (Int × Bool) := (impl_fewest.f k a0_0 a0_1 l0_2 l0_3 a1 false).bind fun bt277 => (some (bt277.1, bt277.2))
/-! ### impl_TakePuzzle: function 7 -/
def impl_TakePuzzle.f (k : Nat) (a0_0 : Int) (a0_1 : Int) (l0_2 : List Int) (l0_3 : List Int) (a1 : Int) : Option (Int × Int × List Int × List Int × Int × Bool × Int × Bool) := (impl_FewestTakes.f k a0_0 a0_1 l0_2 l0_3 a1).bind fun bt281 => (if bt281.2 = true then ((impl_Figure_grid.f a0_0 a0_1 l0_2 l0_3).bind fun bt283 => ((impl_Figure_set.f k a0_0 a0_1 l0_2 l0_3).bind fun t285 => ((impl_grid_figure.f k bt283.1 bt283.2 t285).bind fun bt286 => (some (bt286.1, bt286.2.1, bt286.2.2.1, bt286.2.2.2, bt281.1, false, a1, true))))) else (some (0, 0, ([] : List Int), ([] : List Int), 0, false, 0, false)))
/-! ### laws_szIntS: function 13 -/
def laws_szIntS.f (l0 : List Int) (a1 : Int) : Option (Int) := if (wrap64 (a1 - (l0.length : Int))) < 0 then (some (-1)) else (some (wrap64 (a1 - (l0.length : Int))))

/-! ### laws_szFigure: function 4 -/
def laws_szFigure.f (a0_0 : Int) (a0_1 : Int) (l0_2 : List Int) (l0_3 : List Int) (a1 : Int) : Option (Int) := (laws_szIntS.f l0_2 a1).bind fun t295 => (if t295 < 0 then (some (-1)) else ((laws_szIntS.f l0_3 t295).bind fun t296 => (if t296 < 0 then (some (-1)) else (some t296))))

/-! ### laws_toIntS: function 16 -/
/-- how many spare cells the law gives a list of n -/
def room (n : Nat) : Nat := if n % 6 = 5 then 0 else if n % 3 = 0 then 1 else n
def laws_toIntS.f (l0 : List Int) (a1 : Bool) : Option (List Int) := if l0.length ≤ 1000000 then some l0 else none

/-! ### laws_toFigure: function 6 -/
def laws_toFigure.f (a0_0 : Int) (a0_1 : Int) (l0_2 : List Int) (l0_3 : List Int) (a1 : Bool) : Option (Int × Int × List Int × List Int) := (laws_toIntS.f l0_2 a1).bind fun t300 => ((laws_toIntS.f l0_3 a1).bind fun t303 => (some (a0_0, a0_1, t300, t303)))

/-! ### laws_eqIntS: function 34 -/
def laws_eqIntS.l0 : Nat → List Int → List Int → Int → Option (Bool)
  | 0, _, _, _ => none
  | k + 1, x0, x1, x5 => if x5 < (x0.length : Int) then (if 0 ≤ x5 then (if x5 < (x1.length : Int) then (if (rd x0 x5) = (rd x1 x5) then (laws_eqIntS.l0 k x0 x1 (wrap64 (x5 + 1))) else (some false)) else (none)) else (none)) else (some true)
def laws_eqIntS.f (k : Nat) (l0 : List Int) (l1 : List Int) : Option (Bool) := if (l0.length : Int) = (l1.length : Int) then (laws_eqIntS.l0 k l0 l1 0) else (some false)
/-! ### laws_eqFigure: function 21 -/
def laws_eqFigure.f (k : Nat) (a0_0 : Int) (a0_1 : Int) (l0_2 : List Int) (l0_3 : List Int) (a1_0 : Int) (a1_1 : Int) (l1_2 : List Int) (l1_3 : List Int) : Option (Bool) := if a0_0 = a1_0 then (if a0_1 = a1_1 then ((laws_eqIntS.f k l0_2 l1_2).bind fun t310 => (if t310 = true then ((laws_eqIntS.f k l0_3 l1_3).bind fun t311 => (if t311 = true then (some true) else (some false))) else (some false))) else (some false)) else (some false)
/-! ### laws_eqPuzzle: function 8 -/
def laws_eqPuzzle.f (k : Nat) (a0_0 : Int) (a0_1 : Int) (l0_2 : List Int) (l0_3 : List Int) (a0_4 : Int) (a0_5 : Bool) (a0_6 : Int) (a1_0 : Int) (a1_1 : Int) (l1_2 : List Int) (l1_3 : List Int) (a1_4 : Int) (a1_5 : Bool) (a1_6 : Int) : Option (Bool) := (laws_eqFigure.f k a0_0 a0_1 l0_2 l0_3 a1_0 a1_1 l1_2 l1_3).bind fun t314 => (if t314 = true then (if a0_4 = a1_4 then (if (a0_5 != a1_5) = true then (some false) else (if a0_6 = a1_6 then (some true) else (some false))) else (some false)) else (some false))
/-! ### laws_markIntS: function 23 -/
def laws_markIntS.l0 : Nat → List Int → Int → Int → Option (Int × List Int)
  | 0, _, _, _ => none
  | k + 1, x0, x1, x5 => if x5 < (x0.length : Int) then (if 0 ≤ x5 then (laws_markIntS.l0 k (x0.set (x5 : Int).toNat x1) (wrap64 (x1 + 1)) (wrap64 (x5 + 1))) else (none)) else (some (x1, x0))
def laws_markIntS.f (k : Nat) (l0 : List Int) (a1 : Int) : Option (Int × List Int) := laws_markIntS.l0 k l0 a1 0
/-! ### laws_markFigure: function 10 -/
def laws_markFigure.f (k : Nat) (a0_0 : Int) (a0_1 : Int) (l0_2 : List Int) (l0_3 : List Int) (a1 : Int) : Option (Int × List Int × List Int) := (laws_markIntS.f k l0_2 a1).bind fun bt317 => ((laws_markIntS.f k l0_3 bt317.1).bind fun bt319 => (some (bt319.1, bt317.2, bt319.2)))
/-! ### laws_markPuzzle: function 11 -/
def laws_markPuzzle.f (k : Nat) (a0_0 : Int) (a0_1 : Int) (l0_2 : List Int) (l0_3 : List Int) (a0_4 : Int) (a0_5 : Bool) (a0_6 : Int) (a1 : Int) : Option (Int × List Int × List Int) := (laws_markFigure.f k a0_0 a0_1 l0_2 l0_3 a1).bind fun bt322 => (some (bt322.1, bt322.2.1, bt322.2.2))
/-! ### laws_heldIntS: function 35 -/
def laws_heldIntS.l0 : Nat → List Int → Int → Int → Option (Int)
  | 0, _, _, _ => none
  | k + 1, x0, x1, x5 => if x5 < (x0.length : Int) then (if 0 ≤ x5 then (if (rd x0 x5) = x1 then (laws_heldIntS.l0 k x0 (wrap64 (x1 + 1)) (wrap64 (x5 + 1))) else (some (-1))) else (none)) else (some x1)
def laws_heldIntS.f (k : Nat) (l0 : List Int) (a1 : Int) : Option (Int) := laws_heldIntS.l0 k l0 a1 0
/-! ### laws_heldFigure: function 24 -/
def laws_heldFigure.f (k : Nat) (a0_0 : Int) (a0_1 : Int) (l0_2 : List Int) (l0_3 : List Int) (a1 : Int) : Option (Int) := (laws_heldIntS.f k l0_2 a1).bind fun t327 => (if t327 < 0 then (some (-1)) else ((laws_heldIntS.f k l0_3 t327).bind fun t328 => (if t328 < 0 then (some (-1)) else (some t328))))
/-! ### laws_heldPuzzle: function 12 -/
def laws_heldPuzzle.f (k : Nat) (a0_0 : Int) (a0_1 : Int) (l0_2 : List Int) (l0_3 : List Int) (a0_4 : Int) (a0_5 : Bool) (a0_6 : Int) (a1 : Int) : Option (Int) := (laws_heldFigure.f k a0_0 a0_1 l0_2 l0_3 a1).bind fun t330 => (if t330 < 0 then (some (-1)) else (some t330))
end Go.Proofs.YtopifdmaaibcnaaDoor.V
