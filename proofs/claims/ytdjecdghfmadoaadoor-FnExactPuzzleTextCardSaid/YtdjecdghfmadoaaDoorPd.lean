import Derived.Test.YtdjecdghfmadoaaDoorPk
namespace Go.Proofs.YtdjecdghfmadoaaDoor.P
open Go.RowKit Go.Proofs.YtdjecdghfmadoaaDoorW.PrintWords Go.Proofs.YtdjecdghfmadoaaDoorW.PrintLast Go.Proofs.YtdjecdghfmadoaaDoorW.PrintMore
attribute [local go_sem] max2_int min2_int max_two min_two max_three min_three max_four min_four
set_option linter.unusedVariables false
set_option linter.unusedSimpArgs false

/-! ### impl_grid_level: function 111 -/
def impl_grid_level.f (a0_0 : Int) (a0_1 : Int) (a1 : Int) (a2 : Int) : Option (Int) := if 0 ≤ (wrap64 ((wrap64 (a2 * a0_0)) + a1)) then (some (shl .u64 1 (wrap64 ((wrap64 (a2 * a0_0)) + a1)))) else (none)

/-! ### impl_grid_levels: function 62 -/
def impl_grid_levels.f (a0_0 : Int) (a0_1 : Int) : Option (Int) := some (wrap64 (a0_0 * (wrap64 (a0_1 + 1))))

/-! ### impl_grid_upright: function 110 -/
def impl_grid_upright.f (a0_0 : Int) (a0_1 : Int) (a1 : Int) (a2 : Int) : Option (Int) := (impl_grid_levels.f a0_0 a0_1).bind fun t104 => (if 0 ≤ (wrap64 ((wrap64 (t104 + (wrap64 (a2 * (wrap64 (a0_0 + 1)))))) + a1)) then (some (shl .u64 1 (wrap64 ((wrap64 (t104 + (wrap64 (a2 * (wrap64 (a0_0 + 1)))))) + a1)))) else (none))

/-! ### impl_Figure_grid: function 33 -/
def impl_Figure_grid.f (a0_0 : Int) (a0_1 : Int) (l0_2 : List Int) (l0_3 : List Int) : Option (Int × Int) := some (a0_0, a0_1)

/-! ### impl_Figure_set: function 35 -/
mutual
def impl_Figure_set.l0 : Nat → Int → List Int → Int → Int → Int → Int → List Int → List Int → Option (Int)
  | 0, _, _, _, _, _, _, _, _ => none
  | k + 1, x3, x9, x10, x11, x108000, x108001, x108002, x108003 => if x11 < x10 then (if 0 ≤ x11 then (if x11 < (x9.length : Int) then (if 0 ≤ (rd x9 x11) then (impl_Figure_set.l0 k (Go.bits .or .u64 x3 (shl .u64 1 (rd x9 x11))) x9 x10 (wrap64 (x11 + 1)) x108000 x108001 x108002 x108003) else (none)) else (none)) else (none)) else (impl_Figure_set.l1 k x3 x108003 (x108003.length : Int) 0 x108000 x108001 x108002 x108003)
def impl_Figure_set.l1 : Nat → Int → List Int → Int → Int → Int → Int → List Int → List Int → Option (Int)
  | 0, _, _, _, _, _, _, _, _ => none
  | k + 1, x3, x21, x22, x23, x108000, x108001, x108002, x108003 => if x23 < x22 then (if 0 ≤ x23 then (if x23 < (x21.length : Int) then ((impl_Figure_grid.f x108000 x108001 x108002 x108003).bind fun bt110 => ((impl_grid_levels.f bt110.1 bt110.2).bind fun t112 => (if 0 ≤ (wrap64 (t112 + (rd x21 x23))) then (impl_Figure_set.l1 k (Go.bits .or .u64 x3 (shl .u64 1 (wrap64 (t112 + (rd x21 x23))))) x21 x22 (wrap64 (x23 + 1)) x108000 x108001 x108002 x108003) else (none)))) else (none)) else (none)) else (some x3)
end
def impl_Figure_set.f (k : Nat) (a0_0 : Int) (a0_1 : Int) (l0_2 : List Int) (l0_3 : List Int) : Option (Int) := impl_Figure_set.l0 k 0 l0_2 (l0_2.length : Int) 0 a0_0 a0_1 l0_2 l0_3
/-! ### spec_l1In: function 79 -/
def spec_l1In.f (a0 : Int) (a1 : Int) (a2 : Int) : Option (Bool) := if a0 ≥ a1 then (some (decide (a0 ≤ a2))) else (some false)

/-! ### spec_moSquares: function 56 -/
def spec_moSquares.f (a0 : Int) : Option (Bool) := (spec_l1In.f a0 0 100).bind fun t113 => (some t113)

/-! ### spec_fiGrid: function 130 -/
def spec_fiGrid.f (a0 : Int) (a1 : Int) : Option (Bool) := (spec_l1In.f a0 1 4).bind fun t114 => (if t114 = true then ((spec_l1In.f a1 1 4).bind fun t115 => (some t115)) else (some false))

/-! ### spec_l1All: function 151 -/
def spec_l1All.l0 : Nat → Int → Int → List Int → Int → Int → Option (Bool)
  | 0, _, _, _, _, _ => none
  | k + 1, x1, x2, x9, x10, x11 => if x11 < x10 then (if 0 ≤ x11 then (if x11 < (x9.length : Int) then ((spec_l1In.f (rd x9 x11) x1 x2).bind fun t117 => (if t117 = true then (spec_l1All.l0 k x1 x2 x9 x10 (wrap64 (x11 + 1))) else (some false))) else (none)) else (none)) else (some true)
def spec_l1All.f (k : Nat) (l0 : List Int) (a1 : Int) (a2 : Int) : Option (Bool) := spec_l1All.l0 k a1 a2 l0 (l0.length : Int) 0
/-! ### spec_fiRises: function 131 -/
mutual
def spec_fiRises.j0 : Nat → List Int → Bool → Option (Bool)
  | 0, _, _ => none
  | k + 1, x0, x16 => if x16 = true then (some false) else (spec_fiRises.l0 k x0 1)
def spec_fiRises.l0 : Nat → List Int → Int → Option (Bool)
  | 0, _, _ => none
  | k + 1, x0, x5 => if x5 < (x0.length : Int) then (if 0 ≤ (wrap64 (x5 - 1)) then (if (wrap64 (x5 - 1)) < (x0.length : Int) then (if 0 ≤ x5 then (if (rd x0 (wrap64 (x5 - 1))) ≥ (rd x0 x5) then (some false) else (spec_fiRises.l0 k x0 (wrap64 (x5 + 1)))) else (none)) else (none)) else (none)) else (some true)
end
def spec_fiRises.f (k : Nat) (l0 : List Int) (a1 : Int) : Option (Bool) := if (l0.length : Int) > (wrap64 (a1 + 1)) then (spec_fiRises.j0 k l0 true) else ((spec_l1All.f k l0 0 a1).bind fun t118 => (spec_fiRises.j0 k l0 (!t118)))
/-! ### spec_fiGood: function 99 -/
def spec_fiGood.f (k : Nat) (a0_0 : Int) (a0_1 : Int) (l0_2 : List Int) (l0_3 : List Int) : Option (Bool) := (spec_fiGrid.f a0_0 a0_1).bind fun t122 => (if t122 = true then ((spec_fiRises.f k l0_2 (wrap64 ((wrap64 (a0_0 * (wrap64 (a0_1 + 1)))) - 1))).bind fun t123 => (if t123 = true then ((spec_fiRises.f k l0_3 (wrap64 ((wrap64 ((wrap64 (a0_0 + 1)) * a0_1)) - 1))).bind fun t124 => (some t124)) else (some false))) else (some false))
/-! ### spec_sqFew: function 55 -/
def spec_sqFew.f (k : Nat) (a0_0 : Int) (a0_1 : Int) (l0_2 : List Int) (l0_3 : List Int) : Option (Bool) := (spec_fiGood.f k a0_0 a0_1 l0_2 l0_3).bind fun t126 => (if t126 = true then (some (decide ((wrap64 (a0_0 * a0_1)) ≤ 9))) else (some false))
/-! ### spec_moAsked: function 57 -/
def spec_moAsked.f (k : Nat) (a0_0 : Int) (a0_1 : Int) (l0_2 : List Int) (l0_3 : List Int) (a1 : Int) (a2 : Bool) : Option (Bool) := if a2 = true then ((spec_sqFew.f k a0_0 a0_1 l0_2 l0_3).bind fun t128 => (if t128 = true then ((spec_l1In.f a1 0 2).bind fun t129 => (some t129)) else (some false))) else ((spec_sqFew.f k a0_0 a0_1 l0_2 l0_3).bind fun t130 => (if t130 = true then ((spec_l1In.f a1 0 4).bind fun t131 => (some t131)) else (some false)))
/-! ### spec_fiCount: function 66 -/
def spec_fiCount.f (a0_0 : Int) (a0_1 : Int) (l0_2 : List Int) (l0_3 : List Int) : Option (Int) := some (wrap64 ((l0_2.length : Int) + (l0_3.length : Int)))

/-! ### spec_pzGood: function 40 -/
def spec_pzGood.f (k : Nat) (a0_0 : Int) (a0_1 : Int) (l0_2 : List Int) (l0_3 : List Int) (a0_4 : Int) (a0_5 : Bool) (a0_6 : Int) : Option (Bool) := (spec_moAsked.f k a0_0 a0_1 l0_2 l0_3 a0_4 a0_5).bind fun t134 => (if t134 = true then ((spec_fiCount.f a0_0 a0_1 l0_2 l0_3).bind fun t135 => (if a0_4 ≤ t135 then ((spec_moSquares.f a0_6).bind fun t136 => (some t136)) else (some false))) else (some false))
/-! ### spec_l1Has: function 81 -/
def spec_l1Has.l0 : Nat → Int → List Int → Int → Int → Option (Bool)
  | 0, _, _, _, _ => none
  | k + 1, x1, x7, x8, x9 => if x9 < x8 then (if 0 ≤ x9 then (if x9 < (x7.length : Int) then (if (rd x7 x9) = x1 then (some true) else (spec_l1Has.l0 k x1 x7 x8 (wrap64 (x9 + 1)))) else (none)) else (none)) else (some false)
def spec_l1Has.f (k : Nat) (l0 : List Int) (a1 : Int) : Option (Bool) := spec_l1Has.l0 k a1 l0 (l0.length : Int) 0
/-! ### spec_fiEdge: function 137 -/
def spec_fiEdge.f (a0_0 : Int) (a0_1 : Int) (l0_2 : List Int) (l0_3 : List Int) (a1 : Bool) (a2 : Int) (a3 : Int) : Option (Int × Bool) := if a1 = true then ((spec_l1In.f a2 0 a0_0).bind fun t139 => (if t139 = true then ((spec_l1In.f a3 0 (wrap64 (a0_1 - 1))).bind fun t140 => (some (wrap64 ((wrap64 (a3 * (wrap64 (a0_0 + 1)))) + a2), t140))) else (some (wrap64 ((wrap64 (a3 * (wrap64 (a0_0 + 1)))) + a2), false)))) else ((spec_l1In.f a2 0 (wrap64 (a0_0 - 1))).bind fun t141 => (if t141 = true then ((spec_l1In.f a3 0 a0_1).bind fun t142 => (some (wrap64 ((wrap64 (a3 * a0_0)) + a2), t142))) else (some (wrap64 ((wrap64 (a3 * a0_0)) + a2), false))))

/-! ### spec_fiHas: function 106 -/
def spec_fiHas.f (k : Nat) (a0_0 : Int) (a0_1 : Int) (l0_2 : List Int) (l0_3 : List Int) (a1 : Bool) (a2 : Int) (a3 : Int) : Option (Bool) := (spec_fiEdge.f a0_0 a0_1 l0_2 l0_3 a1 a2 a3).bind fun bt144 => (if a1 = true then ((spec_l1Has.f k l0_3 bt144.1).bind fun t146 => (some t146)) else ((spec_l1Has.f k l0_2 bt144.1).bind fun t147 => (some t147)))
/-! ### spec_fiText: function 68 -/
mutual
def spec_fiText.l0 : Nat → ByteArray → Int → Int → Int → List Int → List Int → Option (ByteArray)
  | 0, _, _, _, _, _, _ => none
  | k + 1, x3, x4, x149000, x149001, x149002, x149003 => if x4 ≤ x149001 then (if x4 > 0 then (if x3.size + 1 ≤ 9223372036854775807 then (spec_fiText.j1 k (x3 ++ (⟨#[47]⟩ : ByteArray)) x4 x149000 x149001 x149002 x149003) else (none)) else (spec_fiText.j1 k x3 x4 x149000 x149001 x149002 x149003)) else (some x3)
def spec_fiText.j1 : Nat → ByteArray → Int → Int → Int → List Int → List Int → Option (ByteArray)
  | 0, _, _, _, _, _, _ => none
  | k + 1, x3, x4, x149000, x149001, x149002, x149003 => spec_fiText.l1 k x3 x4 0 x149000 x149001 x149002 x149003
def spec_fiText.l1 : Nat → ByteArray → Int → Int → Int → Int → List Int → List Int → Option (ByteArray)
  | 0, _, _, _, _, _, _, _ => none
  | k + 1, x3, x4, x5, x149000, x149001, x149002, x149003 => if x5 < x149000 then ((spec_fiHas.f k x149000 x149001 x149002 x149003 false x5 x4).bind fun t149 => (if t149 = true then (if x3.size + 1 ≤ 9223372036854775807 then (spec_fiText.l1 k (x3 ++ (⟨#[45]⟩ : ByteArray)) x4 (wrap64 (x5 + 1)) x149000 x149001 x149002 x149003) else (none)) else (if x3.size + 1 ≤ 9223372036854775807 then (spec_fiText.l1 k (x3 ++ (⟨#[46]⟩ : ByteArray)) x4 (wrap64 (x5 + 1)) x149000 x149001 x149002 x149003) else (none)))) else (if x4 = x149001 then (some x3) else (if x3.size + 1 ≤ 9223372036854775807 then (spec_fiText.l2 k (x3 ++ (⟨#[47]⟩ : ByteArray)) x4 0 x149000 x149001 x149002 x149003) else (none)))
def spec_fiText.l2 : Nat → ByteArray → Int → Int → Int → Int → List Int → List Int → Option (ByteArray)
  | 0, _, _, _, _, _, _, _ => none
  | k + 1, x3, x4, x6, x149000, x149001, x149002, x149003 => if x6 ≤ x149000 then ((spec_fiHas.f k x149000 x149001 x149002 x149003 true x6 x4).bind fun t150 => (if t150 = true then (if x3.size + 1 ≤ 9223372036854775807 then (spec_fiText.l2 k (x3 ++ (⟨#[124]⟩ : ByteArray)) x4 (wrap64 (x6 + 1)) x149000 x149001 x149002 x149003) else (none)) else (if x3.size + 1 ≤ 9223372036854775807 then (spec_fiText.l2 k (x3 ++ (⟨#[46]⟩ : ByteArray)) x4 (wrap64 (x6 + 1)) x149000 x149001 x149002 x149003) else (none)))) else (spec_fiText.l0 k x3 (wrap64 (x4 + 1)) x149000 x149001 x149002 x149003)
end
def spec_fiText.f (k : Nat) (a0_0 : Int) (a0_1 : Int) (l0_2 : List Int) (l0_3 : List Int) : Option (ByteArray) := spec_fiText.l0 k (⟨#[]⟩ : ByteArray) 0 a0_0 a0_1 l0_2 l0_3
/-! ### spec_l1Num: function 94 -/
def spec_l1Num.f : Nat → Int → Option (ByteArray)
  | 0, _ => none
  | k + 1, a0 => if a0 < 10 then (some (strOfNums (([(wrap64 (48 + a0)) % 256] : List Int)))) else ((spec_l1Num.f k (wrap64 (Int.tdiv a0 10))).bind fun t154 => ((some (([(wrap64 (48 + (Int.tmod a0 10))) % 256] : List Int) : List Int)).bind fun y155 => (if t154.size + (strOfNums y155).size ≤ 9223372036854775807 then (some (t154 ++ (strOfNums y155))) else (none))))
/-! ### spec_pzText: function 51 -/
def spec_pzText.f (k : Nat) (a0_0 : Int) (a0_1 : Int) (l0_2 : List Int) (l0_3 : List Int) (a0_4 : Int) (a0_5 : Bool) (a0_6 : Int) : Option (ByteArray) := if a0_5 = true then ((spec_fiText.f k a0_0 a0_1 l0_2 l0_3).bind fun t159 => (if t159.size + 1 ≤ 9223372036854775807 then ((spec_l1Num.f k a0_4).bind fun t160 => (if (t159 ++ (⟨#[58]⟩ : ByteArray)).size + t160.size ≤ 9223372036854775807 then (if ((t159 ++ (⟨#[58]⟩ : ByteArray)) ++ t160).size + 1 ≤ 9223372036854775807 then ((spec_l1Num.f k a0_6).bind fun t161 => (if (((t159 ++ (⟨#[58]⟩ : ByteArray)) ++ t160) ++ (⟨#[109]⟩ : ByteArray)).size + t161.size ≤ 9223372036854775807 then (some ((((t159 ++ (⟨#[58]⟩ : ByteArray)) ++ t160) ++ (⟨#[109]⟩ : ByteArray)) ++ t161)) else (none))) else (none)) else (none))) else (none))) else ((spec_fiText.f k a0_0 a0_1 l0_2 l0_3).bind fun t162 => (if t162.size + 1 ≤ 9223372036854775807 then ((spec_l1Num.f k a0_4).bind fun t163 => (if (t162 ++ (⟨#[58]⟩ : ByteArray)).size + t163.size ≤ 9223372036854775807 then (if ((t162 ++ (⟨#[58]⟩ : ByteArray)) ++ t163).size + 1 ≤ 9223372036854775807 then ((spec_l1Num.f k a0_6).bind fun t164 => (if (((t162 ++ (⟨#[58]⟩ : ByteArray)) ++ t163) ++ (⟨#[116]⟩ : ByteArray)).size + t164.size ≤ 9223372036854775807 then (some ((((t162 ++ (⟨#[58]⟩ : ByteArray)) ++ t163) ++ (⟨#[116]⟩ : ByteArray)) ++ t164)) else (none))) else (none)) else (none))) else (none)))
/-! ### spec_PuzzleText: function 24 -/
def spec_PuzzleText.f (k : Nat) (a0_0 : Int) (a0_1 : Int) (l0_2 : List Int) (l0_3 : List Int) (a0_4 : Int) (a0_5 : Bool) (a0_6 : Int) : Option (ByteArray × Bool) := (spec_pzGood.f k a0_0 a0_1 l0_2 l0_3 a0_4 a0_5 a0_6).bind fun t166 => (if t166 = true then ((spec_pzText.f k a0_0 a0_1 l0_2 l0_3 a0_4 a0_5 a0_6).bind fun t167 => (some (t167, true))) else (some ((⟨#[]⟩ : ByteArray), false)))
/-! ### impl_Puzzle_way: function 70 -/
def impl_Puzzle_way.f (a0_0 : Int) (a0_1 : Int) (l0_2 : List Int) (l0_3 : List Int) (a0_4 : Int) (a0_5 : Bool) (a0_6 : Int) : Option (Int × Int × List Int × List Int × Int × Bool) := some (a0_0, a0_1, l0_2, l0_3, a0_4, a0_5)

/-! ### impl_within: function 46 -/
def impl_within.f (a0 : Int) (a1 : Int) (a2 : Int) : Option (Bool) := if a1 ≤ a0 then (some (decide (a0 ≤ a2))) else (some false)

/-! ### impl_isGrid: function 158 -/
def impl_isGrid.f (a0 : Int) (a1 : Int) : Option (Bool) := (impl_within.f a0 1 4).bind fun t170 => (if t170 = true then ((impl_within.f a1 1 4).bind fun t171 => (some t171)) else (some false))

/-! ### impl_isRising: function 159 -/
def impl_isRising.l0 : Nat → List Int → Int → Option (Bool)
  | 0, _, _ => none
  | k + 1, x0, x3 => if x3 < (x0.length : Int) then (if 0 ≤ x3 then (if 0 ≤ (wrap64 (x3 - 1)) then (if (wrap64 (x3 - 1)) < (x0.length : Int) then (if (rd x0 x3) ≤ (rd x0 (wrap64 (x3 - 1))) then (some false) else (impl_isRising.l0 k x0 (wrap64 (x3 + 1)))) else (none)) else (none)) else (none)) else (some true)
def impl_isRising.f (k : Nat) (l0 : List Int) : Option (Bool) := impl_isRising.l0 k l0 1
/-! ### impl_areWithin: function 160 -/
/-- outside of lo .. hi -/
def awP (lo hi : Int) (n : Int) : Bool := !(decide (lo ≤ n) && decide (n ≤ hi))
def impl_areWithin.f (l0 : List Int) (a1 : Int) (a2 : Int) : Option (Bool) := some (!l0.any (awP a1 a2))


/-! ### impl_grid_uprights: function 161 -/
def impl_grid_uprights.f (a0_0 : Int) (a0_1 : Int) : Option (Int) := some (wrap64 (a0_1 * (wrap64 (a0_0 + 1))))

/-! ### impl_IsFigure: function 139 -/
def impl_IsFigure.f (k : Nat) (a0_0 : Int) (a0_1 : Int) (l0_2 : List Int) (l0_3 : List Int) : Option (Bool) := (impl_isGrid.f a0_0 a0_1).bind fun t176 => (if t176 = true then ((impl_isRising.f k l0_2).bind fun t177 => (if t177 = true then ((impl_isRising.f k l0_3).bind fun t178 => (if t178 = true then ((impl_Figure_grid.f a0_0 a0_1 l0_2 l0_3).bind fun bt179 => ((impl_grid_levels.f bt179.1 bt179.2).bind fun t181 => ((impl_areWithin.f l0_2 0 (wrap64 (t181 - 1))).bind fun t182 => (if t182 = true then ((impl_Figure_grid.f a0_0 a0_1 l0_2 l0_3).bind fun bt183 => ((impl_grid_uprights.f bt183.1 bt183.2).bind fun t185 => ((impl_areWithin.f l0_3 0 (wrap64 (t185 - 1))).bind fun t186 => (some t186)))) else (some false))))) else (some false))) else (some false))) else (some false))
/-! ### impl_isFew: function 108 -/
def impl_isFew.f (k : Nat) (a0_0 : Int) (a0_1 : Int) (l0_2 : List Int) (l0_3 : List Int) : Option (Bool) := (impl_IsFigure.f k a0_0 a0_1 l0_2 l0_3).bind fun t188 => (if t188 = true then (some (decide ((wrap64 (a0_0 * a0_1)) ≤ 9))) else (some false))
/-! ### impl_way_isRight: function 71 -/
def impl_way_isRight.f (k : Nat) (a0_0 : Int) (a0_1 : Int) (l0_2 : List Int) (l0_3 : List Int) (a0_4 : Int) (a0_5 : Bool) : Option (Bool) := if a0_5 = true then ((impl_isFew.f k a0_0 a0_1 l0_2 l0_3).bind fun t190 => (if t190 = true then ((impl_within.f a0_4 0 2).bind fun t191 => (some t191)) else (some false))) else ((impl_isFew.f k a0_0 a0_1 l0_2 l0_3).bind fun t192 => (if t192 = true then ((impl_within.f a0_4 0 4).bind fun t193 => (some t193)) else (some false)))
/-! ### bits_OnesCount64: function 109 -/
def bits_OnesCount64.f (a0 : Int) : Option (Int) := some (Go.bits .and .i64 (wrap64 (IntKind.u64.wrap ((IntKind.u64.wrap ((IntKind.u64.wrap ((Go.bits .and .u64 (IntKind.u64.wrap (((IntKind.u64.wrap ((Go.bits .and .u64 ((IntKind.u64.wrap ((Go.bits .and .u64 (a0 / 2) 6148914691236517205) + (Go.bits .and .u64 a0 6148914691236517205))) / 4) 3689348814741910323) + (Go.bits .and .u64 (IntKind.u64.wrap ((Go.bits .and .u64 (a0 / 2) 6148914691236517205) + (Go.bits .and .u64 a0 6148914691236517205))) 3689348814741910323))) / 16) + (IntKind.u64.wrap ((Go.bits .and .u64 ((IntKind.u64.wrap ((Go.bits .and .u64 (a0 / 2) 6148914691236517205) + (Go.bits .and .u64 a0 6148914691236517205))) / 4) 3689348814741910323) + (Go.bits .and .u64 (IntKind.u64.wrap ((Go.bits .and .u64 (a0 / 2) 6148914691236517205) + (Go.bits .and .u64 a0 6148914691236517205))) 3689348814741910323))))) 1085102592571150095) + ((Go.bits .and .u64 (IntKind.u64.wrap (((IntKind.u64.wrap ((Go.bits .and .u64 ((IntKind.u64.wrap ((Go.bits .and .u64 (a0 / 2) 6148914691236517205) + (Go.bits .and .u64 a0 6148914691236517205))) / 4) 3689348814741910323) + (Go.bits .and .u64 (IntKind.u64.wrap ((Go.bits .and .u64 (a0 / 2) 6148914691236517205) + (Go.bits .and .u64 a0 6148914691236517205))) 3689348814741910323))) / 16) + (IntKind.u64.wrap ((Go.bits .and .u64 ((IntKind.u64.wrap ((Go.bits .and .u64 (a0 / 2) 6148914691236517205) + (Go.bits .and .u64 a0 6148914691236517205))) / 4) 3689348814741910323) + (Go.bits .and .u64 (IntKind.u64.wrap ((Go.bits .and .u64 (a0 / 2) 6148914691236517205) + (Go.bits .and .u64 a0 6148914691236517205))) 3689348814741910323))))) 1085102592571150095) / 256))) + ((IntKind.u64.wrap ((Go.bits .and .u64 (IntKind.u64.wrap (((IntKind.u64.wrap ((Go.bits .and .u64 ((IntKind.u64.wrap ((Go.bits .and .u64 (a0 / 2) 6148914691236517205) + (Go.bits .and .u64 a0 6148914691236517205))) / 4) 3689348814741910323) + (Go.bits .and .u64 (IntKind.u64.wrap ((Go.bits .and .u64 (a0 / 2) 6148914691236517205) + (Go.bits .and .u64 a0 6148914691236517205))) 3689348814741910323))) / 16) + (IntKind.u64.wrap ((Go.bits .and .u64 ((IntKind.u64.wrap ((Go.bits .and .u64 (a0 / 2) 6148914691236517205) + (Go.bits .and .u64 a0 6148914691236517205))) / 4) 3689348814741910323) + (Go.bits .and .u64 (IntKind.u64.wrap ((Go.bits .and .u64 (a0 / 2) 6148914691236517205) + (Go.bits .and .u64 a0 6148914691236517205))) 3689348814741910323))))) 1085102592571150095) + ((Go.bits .and .u64 (IntKind.u64.wrap (((IntKind.u64.wrap ((Go.bits .and .u64 ((IntKind.u64.wrap ((Go.bits .and .u64 (a0 / 2) 6148914691236517205) + (Go.bits .and .u64 a0 6148914691236517205))) / 4) 3689348814741910323) + (Go.bits .and .u64 (IntKind.u64.wrap ((Go.bits .and .u64 (a0 / 2) 6148914691236517205) + (Go.bits .and .u64 a0 6148914691236517205))) 3689348814741910323))) / 16) + (IntKind.u64.wrap ((Go.bits .and .u64 ((IntKind.u64.wrap ((Go.bits .and .u64 (a0 / 2) 6148914691236517205) + (Go.bits .and .u64 a0 6148914691236517205))) / 4) 3689348814741910323) + (Go.bits .and .u64 (IntKind.u64.wrap ((Go.bits .and .u64 (a0 / 2) 6148914691236517205) + (Go.bits .and .u64 a0 6148914691236517205))) 3689348814741910323))))) 1085102592571150095) / 256))) / 65536))) + ((IntKind.u64.wrap ((IntKind.u64.wrap ((Go.bits .and .u64 (IntKind.u64.wrap (((IntKind.u64.wrap ((Go.bits .and .u64 ((IntKind.u64.wrap ((Go.bits .and .u64 (a0 / 2) 6148914691236517205) + (Go.bits .and .u64 a0 6148914691236517205))) / 4) 3689348814741910323) + (Go.bits .and .u64 (IntKind.u64.wrap ((Go.bits .and .u64 (a0 / 2) 6148914691236517205) + (Go.bits .and .u64 a0 6148914691236517205))) 3689348814741910323))) / 16) + (IntKind.u64.wrap ((Go.bits .and .u64 ((IntKind.u64.wrap ((Go.bits .and .u64 (a0 / 2) 6148914691236517205) + (Go.bits .and .u64 a0 6148914691236517205))) / 4) 3689348814741910323) + (Go.bits .and .u64 (IntKind.u64.wrap ((Go.bits .and .u64 (a0 / 2) 6148914691236517205) + (Go.bits .and .u64 a0 6148914691236517205))) 3689348814741910323))))) 1085102592571150095) + ((Go.bits .and .u64 (IntKind.u64.wrap (((IntKind.u64.wrap ((Go.bits .and .u64 ((IntKind.u64.wrap ((Go.bits .and .u64 (a0 / 2) 6148914691236517205) + (Go.bits .and .u64 a0 6148914691236517205))) / 4) 3689348814741910323) + (Go.bits .and .u64 (IntKind.u64.wrap ((Go.bits .and .u64 (a0 / 2) 6148914691236517205) + (Go.bits .and .u64 a0 6148914691236517205))) 3689348814741910323))) / 16) + (IntKind.u64.wrap ((Go.bits .and .u64 ((IntKind.u64.wrap ((Go.bits .and .u64 (a0 / 2) 6148914691236517205) + (Go.bits .and .u64 a0 6148914691236517205))) / 4) 3689348814741910323) + (Go.bits .and .u64 (IntKind.u64.wrap ((Go.bits .and .u64 (a0 / 2) 6148914691236517205) + (Go.bits .and .u64 a0 6148914691236517205))) 3689348814741910323))))) 1085102592571150095) / 256))) + ((IntKind.u64.wrap ((Go.bits .and .u64 (IntKind.u64.wrap (((IntKind.u64.wrap ((Go.bits .and .u64 ((IntKind.u64.wrap ((Go.bits .and .u64 (a0 / 2) 6148914691236517205) + (Go.bits .and .u64 a0 6148914691236517205))) / 4) 3689348814741910323) + (Go.bits .and .u64 (IntKind.u64.wrap ((Go.bits .and .u64 (a0 / 2) 6148914691236517205) + (Go.bits .and .u64 a0 6148914691236517205))) 3689348814741910323))) / 16) + (IntKind.u64.wrap ((Go.bits .and .u64 ((IntKind.u64.wrap ((Go.bits .and .u64 (a0 / 2) 6148914691236517205) + (Go.bits .and .u64 a0 6148914691236517205))) / 4) 3689348814741910323) + (Go.bits .and .u64 (IntKind.u64.wrap ((Go.bits .and .u64 (a0 / 2) 6148914691236517205) + (Go.bits .and .u64 a0 6148914691236517205))) 3689348814741910323))))) 1085102592571150095) + ((Go.bits .and .u64 (IntKind.u64.wrap (((IntKind.u64.wrap ((Go.bits .and .u64 ((IntKind.u64.wrap ((Go.bits .and .u64 (a0 / 2) 6148914691236517205) + (Go.bits .and .u64 a0 6148914691236517205))) / 4) 3689348814741910323) + (Go.bits .and .u64 (IntKind.u64.wrap ((Go.bits .and .u64 (a0 / 2) 6148914691236517205) + (Go.bits .and .u64 a0 6148914691236517205))) 3689348814741910323))) / 16) + (IntKind.u64.wrap ((Go.bits .and .u64 ((IntKind.u64.wrap ((Go.bits .and .u64 (a0 / 2) 6148914691236517205) + (Go.bits .and .u64 a0 6148914691236517205))) / 4) 3689348814741910323) + (Go.bits .and .u64 (IntKind.u64.wrap ((Go.bits .and .u64 (a0 / 2) 6148914691236517205) + (Go.bits .and .u64 a0 6148914691236517205))) 3689348814741910323))))) 1085102592571150095) / 256))) / 65536))) / 4294967296)))) 127)

/-! ### impl_set_count: function 72 -/
def impl_set_count.f (a0 : Int) : Option (Int) := (bits_OnesCount64.f a0).bind fun t194 => (some t194)

/-! ### impl_isNumber: function 73 -/
def impl_isNumber.f (a0 : Int) : Option (Bool) := (impl_within.f a0 0 100).bind fun t195 => (some t195)

/-! ### impl_IsPuzzle: function 42 -/
def impl_IsPuzzle.f (k : Nat) (a0_0 : Int) (a0_1 : Int) (l0_2 : List Int) (l0_3 : List Int) (a0_4 : Int) (a0_5 : Bool) (a0_6 : Int) : Option (Bool) := (impl_Puzzle_way.f a0_0 a0_1 l0_2 l0_3 a0_4 a0_5 a0_6).bind fun bt197 => ((impl_way_isRight.f k bt197.1 bt197.2.1 bt197.2.2.1 bt197.2.2.2.1 bt197.2.2.2.2.1 bt197.2.2.2.2.2).bind fun t207 => (if t207 = true then ((impl_Figure_set.f k a0_0 a0_1 l0_2 l0_3).bind fun t208 => ((impl_set_count.f t208).bind fun t209 => (if a0_4 ≤ t209 then ((impl_isNumber.f a0_6).bind fun t210 => (some t210)) else (some false)))) else (some false)))
/-! ### impl_figureText: function 95 -/
/-- has a set an edge -/
def ftB (s e : Int) : Bool := Go.bits .and .u64 s e != 0
def ftSign (s sign e : Int) : Int := if ftB s e = true then sign else 46
/-- a row's signs, the first n -/
def ftLine (s sign : Int) (ed : Int → Int) : Nat → List Int
  | 0 => []
  | n + 1 => ftLine s sign ed n ++ [ftSign s sign (ed (n : Int))]
def ftLev (a0 y x : Int) : Int := shl .u64 1 (wrap64 ((wrap64 (y * a0)) + x))
def ftUp (a0 a1 y x : Int) : Int := shl .u64 1 (wrap64 ((wrap64 ((wrap64 (a0 * (wrap64 (a1 + 1)))) + (wrap64 (y * (wrap64 (a0 + 1)))))) + x))
/-- the rows behind so many rounds -/
def ftRows (w h : Nat) (s : Int) : Nat → List ByteArray
  | 0 => []
  | y + 1 => ftRows w h s y ++ strOfNums (ftLine s 45 (ftLev w y) w) :: (if y < h then [strOfNums (ftLine s 124 (ftUp w h y) (w + 1))] else [])
def ftJoin (xs : List ByteArray) : ByteArray := ⟨(Lib.join (xs.map (·.data.toList)) [47]).toArray⟩
def impl_figureText.f (k : Nat) (a0_0 : Int) (a0_1 : Int) (l0_2 : List Int) (l0_3 : List Int) : Option (ByteArray) := if 1 ≤ a0_0 ∧ a0_0 ≤ 4 ∧ 1 ≤ a0_1 ∧ a0_1 ≤ 4 then ((impl_Figure_set.f k a0_0 a0_1 l0_2 l0_3).bind fun s => some (ftJoin (ftRows a0_0.toNat a0_1.toNat s (a0_1.toNat + 1)))) else none


/-! ### strconv_Itoa: function 96 -/
def strconv_Itoa.f (a0 : Int) : Option (ByteArray) := if -9223372036854775808 ≤ a0 ∧ a0 ≤ 9223372036854775807 then some ⟨(Lib.itoa a0).toArray⟩ else none


/-! ### impl_puzzleText: function 52 -/
def impl_puzzleText.f (k : Nat) (a0_0 : Int) (a0_1 : Int) (l0_2 : List Int) (l0_3 : List Int) (a0_4 : Int) (a0_5 : Bool) (a0_6 : Int) : Option (ByteArray) := if a0_5 = true then ((impl_figureText.f k a0_0 a0_1 l0_2 l0_3).bind fun t212 => (if t212.size + 1 ≤ 9223372036854775807 then ((strconv_Itoa.f a0_4).bind fun t213 => (if (t212 ++ (⟨#[58]⟩ : ByteArray)).size + t213.size ≤ 9223372036854775807 then (if ((t212 ++ (⟨#[58]⟩ : ByteArray)) ++ t213).size + 1 ≤ 9223372036854775807 then ((strconv_Itoa.f a0_6).bind fun t214 => (if (((t212 ++ (⟨#[58]⟩ : ByteArray)) ++ t213) ++ (⟨#[109]⟩ : ByteArray)).size + t214.size ≤ 9223372036854775807 then (some ((((t212 ++ (⟨#[58]⟩ : ByteArray)) ++ t213) ++ (⟨#[109]⟩ : ByteArray)) ++ t214)) else (none))) else (none)) else (none))) else (none))) else ((impl_figureText.f k a0_0 a0_1 l0_2 l0_3).bind fun t215 => (if t215.size + 1 ≤ 9223372036854775807 then ((strconv_Itoa.f a0_4).bind fun t216 => (if (t215 ++ (⟨#[58]⟩ : ByteArray)).size + t216.size ≤ 9223372036854775807 then (if ((t215 ++ (⟨#[58]⟩ : ByteArray)) ++ t216).size + 1 ≤ 9223372036854775807 then ((strconv_Itoa.f a0_6).bind fun t217 => (if (((t215 ++ (⟨#[58]⟩ : ByteArray)) ++ t216) ++ (⟨#[116]⟩ : ByteArray)).size + t217.size ≤ 9223372036854775807 then (some ((((t215 ++ (⟨#[58]⟩ : ByteArray)) ++ t216) ++ (⟨#[116]⟩ : ByteArray)) ++ t217)) else (none))) else (none)) else (none))) else (none)))
/-! ### impl_PuzzleText: function 25 -/
def impl_PuzzleText.f (k : Nat) (a0_0 : Int) (a0_1 : Int) (l0_2 : List Int) (l0_3 : List Int) (a0_4 : Int) (a0_5 : Bool) (a0_6 : Int) : Option (ByteArray × Bool) := (impl_IsPuzzle.f k a0_0 a0_1 l0_2 l0_3 a0_4 a0_5 a0_6).bind fun t219 => (if t219 = true then ((impl_puzzleText.f k a0_0 a0_1 l0_2 l0_3 a0_4 a0_5 a0_6).bind fun t220 => (some (t220, true))) else (some ((⟨#[]⟩ : ByteArray), false)))
/-! ### laws_szIntS: function 28 -/
def laws_szIntS.f (l0 : List Int) (a1 : Int) : Option (Int) := if (wrap64 (a1 - (l0.length : Int))) < 0 then (some (-1)) else (some (wrap64 (a1 - (l0.length : Int))))

/-! ### laws_szFigure: function 8 -/
def laws_szFigure.f (a0_0 : Int) (a0_1 : Int) (l0_2 : List Int) (l0_3 : List Int) (a1 : Int) : Option (Int) := (laws_szIntS.f l0_2 a1).bind fun t222 => (if t222 < 0 then (some (-1)) else ((laws_szIntS.f l0_3 t222).bind fun t223 => (if t223 < 0 then (some (-1)) else (some t223))))

/-! ### laws_szPuzzle: function 17 -/
def laws_szPuzzle.f (a0_0 : Int) (a0_1 : Int) (l0_2 : List Int) (l0_3 : List Int) (a0_4 : Int) (a0_5 : Bool) (a0_6 : Int) (a1 : Int) : Option (Int) := (laws_szFigure.f a0_0 a0_1 l0_2 l0_3 a1).bind fun t225 => (if t225 < 0 then (some (-1)) else (some t225))

/-! ### laws_toIntS: function 31 -/
/-- how many spare cells the law gives a list of n -/
def room (n : Nat) : Nat := if n % 6 = 5 then 0 else if n % 3 = 0 then 1 else n
def laws_toIntS.f (l0 : List Int) (a1 : Bool) : Option (List Int) := if l0.length ≤ 1000000 then some l0 else none

/-! ### laws_toFigure: function 10 -/
def laws_toFigure.f (a0_0 : Int) (a0_1 : Int) (l0_2 : List Int) (l0_3 : List Int) (a1 : Bool) : Option (Int × Int × List Int × List Int) := (laws_toIntS.f l0_2 a1).bind fun t229 => ((laws_toIntS.f l0_3 a1).bind fun t232 => (some (a0_0, a0_1, t229, t232)))

/-! ### laws_toPuzzle: function 19 -/
def laws_toPuzzle.f (a0_0 : Int) (a0_1 : Int) (l0_2 : List Int) (l0_3 : List Int) (a0_4 : Int) (a0_5 : Bool) (a0_6 : Int) (a1 : Bool) : Option (Int × Int × List Int × List Int × Int × Bool × Int) := (laws_toFigure.f a0_0 a0_1 l0_2 l0_3 a1).bind fun bt238 => (some (bt238.1, bt238.2.1, bt238.2.2.1, bt238.2.2.2, a0_4, a0_5, a0_6))

/-! ### laws_eqIntS: function 64 -/
def laws_eqIntS.l0 : Nat → List Int → List Int → Int → Option (Bool)
  | 0, _, _, _ => none
  | k + 1, x0, x1, x5 => if x5 < (x0.length : Int) then (if 0 ≤ x5 then (if x5 < (x1.length : Int) then (if (rd x0 x5) = (rd x1 x5) then (laws_eqIntS.l0 k x0 x1 (wrap64 (x5 + 1))) else (some false)) else (none)) else (none)) else (some true)
def laws_eqIntS.f (k : Nat) (l0 : List Int) (l1 : List Int) : Option (Bool) := if (l0.length : Int) = (l1.length : Int) then (laws_eqIntS.l0 k l0 l1 0) else (some false)
end Go.Proofs.YtdjecdghfmadoaaDoor.P
