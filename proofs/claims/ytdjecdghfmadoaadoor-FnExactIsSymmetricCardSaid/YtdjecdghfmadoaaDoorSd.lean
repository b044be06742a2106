import Derived.Test.YtdjecdghfmadoaaDoorSk
namespace Go.Proofs.YtdjecdghfmadoaaDoor.S
open Go.RowKit Go.Proofs.YtdjecdghfmadoaaDoorW.PrintWords Go.Proofs.YtdjecdghfmadoaaDoorW.PrintLast Go.Proofs.YtdjecdghfmadoaaDoorW.PrintMore
attribute [local go_sem] max2_int min2_int max_two min_two max_three min_three max_four min_four
set_option linter.unusedVariables false
set_option linter.unusedSimpArgs false

/-! ### impl_grid_level: function 111 -/
def impl_grid_level.f (a0_0 : Int) (a0_1 : Int) (a1 : Int) (a2 : Int) : Option (Int) := if 0 ≤ (wrap64 ((wrap64 (a2 * a0_0)) + a1)) then (some (shl .u64 1 (wrap64 ((wrap64 (a2 * a0_0)) + a1)))) else (none)

/-! ### impl_grid_levels: function 62 -/
def impl_grid_levels.f (a0_0 : Int) (a0_1 : Int) : Option (Int) := some (wrap64 (a0_0 * (wrap64 (a0_1 + 1))))

/-! ### impl_grid_upright: function 110 -/
def impl_grid_upright.f (a0_0 : Int) (a0_1 : Int) (a1 : Int) (a2 : Int) : Option (Int) := (impl_grid_levels.f a0_0 a0_1).bind fun t104 => (if 0 ≤ (wrap64 ((wrap64 (t104 + (wrap64 (a2 * (wrap64 (a0_0 + 1)))))) + a1)) then (some (shl .u64 1 (wrap64 ((wrap64 (t104 + (wrap64 (a2 * (wrap64 (a0_0 + 1)))))) + a1)))) else (none))

/-! ### impl_Figure_grid: function 33 -/
def impl_Figure_grid.f (a0_0 : Int) (a0_1 : Int) (l0_2 : List Int) (l0_3 : List Int) : Option (Int × Int) := some (a0_0, a0_1)

/-! ### impl_Figure_set: function 35 -/
mutual
def impl_Figure_set.l0 : Nat → Int → List Int → Int → Int → Int → Int → List Int → List Int → Option (Int)
  | 0, _, _, _, _, _, _, _, _ => none
  | k + 1, x3, x9, x10, x11, x108000, x108001, x108002, x108003 => if x11 < x10 then (if 0 ≤ x11 then (if x11 < (x9.length : Int) then (if 0 ≤ (rd x9 x11) then (impl_Figure_set.l0 k (Go.bits .or .u64 x3 (shl .u64 1 (rd x9 x11))) x9 x10 (wrap64 (x11 + 1)) x108000 x108001 x108002 x108003) else (none)) else (none)) else (none)) else (impl_Figure_set.l1 k x3 x108003 (x108003.length : Int) 0 x108000 x108001 x108002 x108003)
def impl_Figure_set.l1 : Nat → Int → List Int → Int → Int → Int → Int → List Int → List Int → Option (Int)
  | 0, _, _, _, _, _, _, _, _ => none
  | k + 1, x3, x21, x22, x23, x108000, x108001, x108002, x108003 => if x23 < x22 then (if 0 ≤ x23 then (if x23 < (x21.length : Int) then ((impl_Figure_grid.f x108000 x108001 x108002 x108003).bind fun bt110 => ((impl_grid_levels.f bt110.1 bt110.2).bind fun t112 => (if 0 ≤ (wrap64 (t112 + (rd x21 x23))) then (impl_Figure_set.l1 k (Go.bits .or .u64 x3 (shl .u64 1 (wrap64 (t112 + (rd x21 x23))))) x21 x22 (wrap64 (x23 + 1)) x108000 x108001 x108002 x108003) else (none)))) else (none)) else (none)) else (some x3)
end
def impl_Figure_set.f (k : Nat) (a0_0 : Int) (a0_1 : Int) (l0_2 : List Int) (l0_3 : List Int) : Option (Int) := impl_Figure_set.l0 k 0 l0_2 (l0_2.length : Int) 0 a0_0 a0_1 l0_2 l0_3
/-! ### bits_TrailingZeros64: function 105 -/
def bits_TrailingZeros64.f (a0 : Int) : Option (Int) := if 0 ≤ a0 ∧ a0 < 18446744073709551616 then some ((Lib.ctz 64 a0.toNat : Nat) : Int) else none

/-! ### impl_set_listed: function 63 -/
def impl_set_listed.l0 : Nat → Int → List Int → Option (List Int)
  | 0, _, _ => none
  | k + 1, x0, x3 => if x0 > 0 then ((bits_TrailingZeros64.f x0).bind fun t116 => (if x3.length < 17592186044416 then (impl_set_listed.l0 k (Go.bits .and .u64 x0 (IntKind.u64.wrap (x0 - 1))) (x3 ++ [t116])) else (none))) else (some x3)
def impl_set_listed.f (k : Nat) (a0 : Int) : Option (List Int) := impl_set_listed.l0 k a0 (([] : List Int))
/-! ### impl_grid_figure: function 34 -/
def impl_grid_figure.f (k : Nat) (a0_0 : Int) (a0_1 : Int) (a1 : Int) : Option (Int × Int × List Int × List Int) := (impl_grid_levels.f a0_0 a0_1).bind fun t122 => (if 0 ≤ t122 then ((impl_set_listed.f k (Go.bits .and .u64 a1 (IntKind.u64.wrap ((shl .u64 1 t122) - 1)))).bind fun t123 => ((impl_grid_levels.f a0_0 a0_1).bind fun t126 => (if 0 ≤ t126 then ((impl_set_listed.f k (shr .u64 a1 t126)).bind fun t127 => (some (a0_0, a0_1, t123, t127))) else (none)))) else (none))
/-! ### impl_turned: function 75 -/
mutual
def impl_turned.l0 : Nat → Int → List Int → Int → Int → Int → Int → List Int → List Int → Int → Int → Int → Int → Option (Int × Int × List Int × List Int)
  | 0, _, _, _, _, _, _, _, _, _, _, _, _ => none
  | k + 1, x5, x18, x19, x20, x131000, x131001, x131002, x131003, x135000, x135001, x136000, x136001 => if x20 < x19 then (if 0 ≤ x20 then (if x20 < (x18.length : Int) then (if x135000 = 0 then (none) else ((impl_grid_upright.f x136000 x136001 (wrap64 (x135001 - (wrap64 (Int.tdiv (rd x18 x20) x135000)))) (Int.tmod (rd x18 x20) x135000)).bind fun t137 => (impl_turned.l0 k (Go.bits .or .u64 x5 t137) x18 x19 (wrap64 (x20 + 1)) x131000 x131001 x131002 x131003 x135000 x135001 x136000 x136001))) else (none)) else (none)) else (impl_turned.l1 k x5 x131003 (x131003.length : Int) 0 x135000 x135001 x136000 x136001)
def impl_turned.l1 : Nat → Int → List Int → Int → Int → Int → Int → Int → Int → Option (Int × Int × List Int × List Int)
  | 0, _, _, _, _, _, _, _, _ => none
  | k + 1, x5, x41, x42, x43, x135000, x135001, x136000, x136001 => if x43 < x42 then (if 0 ≤ x43 then (if x43 < (x41.length : Int) then (if (wrap64 (x135000 + 1)) = 0 then (none) else ((impl_grid_level.f x136000 x136001 (wrap64 ((wrap64 (x135001 - 1)) - (wrap64 (Int.tdiv (rd x41 x43) (wrap64 (x135000 + 1)))))) (Int.tmod (rd x41 x43) (wrap64 (x135000 + 1)))).bind fun t139 => (impl_turned.l1 k (Go.bits .or .u64 x5 t139) x41 x42 (wrap64 (x43 + 1)) x135000 x135001 x136000 x136001))) else (none)) else (none)) else ((impl_grid_figure.f k x136000 x136001 x5).bind fun bt140 => (some (bt140.1, bt140.2.1, bt140.2.2.1, bt140.2.2.2)))
end
def impl_turned.f (k : Nat) (a0_0 : Int) (a0_1 : Int) (l0_2 : List Int) (l0_3 : List Int) : Option (Int × Int × List Int × List Int) := (impl_Figure_grid.f a0_0 a0_1 l0_2 l0_3).bind fun bt132 => (impl_turned.l0 k 0 l0_2 (l0_2.length : Int) 0 a0_0 a0_1 l0_2 l0_3 bt132.1 bt132.2 bt132.2 bt132.1)
/-! ### impl_mirrored: function 76 -/
mutual
def impl_mirrored.l0 : Nat → Int → List Int → Int → Int → Int → Int → List Int → List Int → Int → Int → Option (Int × Int × List Int × List Int)
  | 0, _, _, _, _, _, _, _, _, _, _ => none
  | k + 1, x4, x12, x13, x14, x149000, x149001, x149002, x149003, x153000, x153001 => if x14 < x13 then (if 0 ≤ x14 then (if x14 < (x12.length : Int) then (if x153000 = 0 then (none) else ((impl_grid_level.f x153000 x153001 (wrap64 ((wrap64 (x153000 - 1)) - (Int.tmod (rd x12 x14) x153000))) (wrap64 (Int.tdiv (rd x12 x14) x153000))).bind fun t154 => (impl_mirrored.l0 k (Go.bits .or .u64 x4 t154) x12 x13 (wrap64 (x14 + 1)) x149000 x149001 x149002 x149003 x153000 x153001))) else (none)) else (none)) else (impl_mirrored.l1 k x4 x149003 (x149003.length : Int) 0 x153000 x153001)
def impl_mirrored.l1 : Nat → Int → List Int → Int → Int → Int → Int → Option (Int × Int × List Int × List Int)
  | 0, _, _, _, _, _, _ => none
  | k + 1, x4, x36, x37, x38, x153000, x153001 => if x38 < x37 then (if 0 ≤ x38 then (if x38 < (x36.length : Int) then (if (wrap64 (x153000 + 1)) = 0 then (none) else ((impl_grid_upright.f x153000 x153001 (wrap64 (x153000 - (Int.tmod (rd x36 x38) (wrap64 (x153000 + 1))))) (wrap64 (Int.tdiv (rd x36 x38) (wrap64 (x153000 + 1))))).bind fun t156 => (impl_mirrored.l1 k (Go.bits .or .u64 x4 t156) x36 x37 (wrap64 (x38 + 1)) x153000 x153001))) else (none)) else (none)) else ((impl_grid_figure.f k x153000 x153001 x4).bind fun bt157 => (some (bt157.1, bt157.2.1, bt157.2.2.1, bt157.2.2.2)))
end
def impl_mirrored.f (k : Nat) (a0_0 : Int) (a0_1 : Int) (l0_2 : List Int) (l0_3 : List Int) : Option (Int × Int × List Int × List Int) := (impl_Figure_grid.f a0_0 a0_1 l0_2 l0_3).bind fun bt150 => (impl_mirrored.l0 k 0 l0_2 (l0_2.length : Int) 0 a0_0 a0_1 l0_2 l0_3 bt150.1 bt150.2)
/-! ### impl_figureText: function 95 -/
/-- has a set an edge -/
def ftB (s e : Int) : Bool := Go.bits .and .u64 s e != 0
def ftSign (s sign e : Int) : Int := if ftB s e = true then sign else 46
/-- a row's signs, the first n -/
def ftLine (s sign : Int) (ed : Int → Int) : Nat → List Int
  | 0 => []
  | n + 1 => ftLine s sign ed n ++ [ftSign s sign (ed (n : Int))]
def ftLev (a0 y x : Int) : Int := shl .u64 1 (wrap64 ((wrap64 (y * a0)) + x))
def ftUp (a0 a1 y x : Int) : Int := shl .u64 1 (wrap64 ((wrap64 ((wrap64 (a0 * (wrap64 (a1 + 1)))) + (wrap64 (y * (wrap64 (a0 + 1)))))) + x))
/-- the rows behind so many rounds -/
def ftRows (w h : Nat) (s : Int) : Nat → List ByteArray
  | 0 => []
  | y + 1 => ftRows w h s y ++ strOfNums (ftLine s 45 (ftLev w y) w) :: (if y < h then [strOfNums (ftLine s 124 (ftUp w h y) (w + 1))] else [])
def ftJoin (xs : List ByteArray) : ByteArray := ⟨(Lib.join (xs.map (·.data.toList)) [47]).toArray⟩
def impl_figureText.f (k : Nat) (a0_0 : Int) (a0_1 : Int) (l0_2 : List Int) (l0_3 : List Int) : Option (ByteArray) := if 1 ≤ a0_0 ∧ a0_0 ≤ 4 ∧ 1 ≤ a0_1 ∧ a0_1 ≤ 4 then ((impl_Figure_set.f k a0_0 a0_1 l0_2 l0_3).bind fun s => some (ftJoin (ftRows a0_0.toNat a0_1.toNat s (a0_1.toNat + 1)))) else none


/-! ### strings_Compare: function 112 -/
def strings_Compare.f (a0 : ByteArray) (a1 : ByteArray) : Option (Int) := some (Lib.compareBytes a0.data.toList a1.data.toList)

/-! ### impl_compareFigures: function 77 -/
def impl_compareFigures.f (k : Nat) (a0_0 : Int) (a0_1 : Int) (l0_2 : List Int) (l0_3 : List Int) (a1_0 : Int) (a1_1 : Int) (l1_2 : List Int) (l1_3 : List Int) : Option (Int) := (impl_figureText.f k a0_0 a0_1 l0_2 l0_3).bind fun t167 => ((impl_figureText.f k a1_0 a1_1 l1_2 l1_3).bind fun t168 => ((strings_Compare.f t167 t168).bind fun t169 => (some t169)))
/-! ### spec_l1In: function 79 -/
def spec_l1In.f (a0 : Int) (a1 : Int) (a2 : Int) : Option (Bool) := if a0 ≥ a1 then (some (decide (a0 ≤ a2))) else (some false)

/-! ### spec_moSquares: function 56 -/
def spec_moSquares.f (a0 : Int) : Option (Bool) := (spec_l1In.f a0 0 100).bind fun t170 => (some t170)

/-! ### spec_fiGrid: function 130 -/
def spec_fiGrid.f (a0 : Int) (a1 : Int) : Option (Bool) := (spec_l1In.f a0 1 4).bind fun t171 => (if t171 = true then ((spec_l1In.f a1 1 4).bind fun t172 => (some t172)) else (some false))

/-! ### spec_l1All: function 151 -/
def spec_l1All.l0 : Nat → Int → Int → List Int → Int → Int → Option (Bool)
  | 0, _, _, _, _, _ => none
  | k + 1, x1, x2, x9, x10, x11 => if x11 < x10 then (if 0 ≤ x11 then (if x11 < (x9.length : Int) then ((spec_l1In.f (rd x9 x11) x1 x2).bind fun t174 => (if t174 = true then (spec_l1All.l0 k x1 x2 x9 x10 (wrap64 (x11 + 1))) else (some false))) else (none)) else (none)) else (some true)
def spec_l1All.f (k : Nat) (l0 : List Int) (a1 : Int) (a2 : Int) : Option (Bool) := spec_l1All.l0 k a1 a2 l0 (l0.length : Int) 0
/-! ### spec_fiRises: function 131 -/
mutual
def spec_fiRises.j0 : Nat → List Int → Bool → Option (Bool)
  | 0, _, _ => none
  | k + 1, x0, x16 => if x16 = true then (some false) else (spec_fiRises.l0 k x0 1)
def spec_fiRises.l0 : Nat → List Int → Int → Option (Bool)
  | 0, _, _ => none
  | k + 1, x0, x5 => if x5 < (x0.length : Int) then (if 0 ≤ (wrap64 (x5 - 1)) then (if (wrap64 (x5 - 1)) < (x0.length : Int) then (if 0 ≤ x5 then (if (rd x0 (wrap64 (x5 - 1))) ≥ (rd x0 x5) then (some false) else (spec_fiRises.l0 k x0 (wrap64 (x5 + 1)))) else (none)) else (none)) else (none)) else (some true)
end
def spec_fiRises.f (k : Nat) (l0 : List Int) (a1 : Int) : Option (Bool) := if (l0.length : Int) > (wrap64 (a1 + 1)) then (spec_fiRises.j0 k l0 true) else ((spec_l1All.f k l0 0 a1).bind fun t175 => (spec_fiRises.j0 k l0 (!t175)))
/-! ### spec_fiGood: function 99 -/
def spec_fiGood.f (k : Nat) (a0_0 : Int) (a0_1 : Int) (l0_2 : List Int) (l0_3 : List Int) : Option (Bool) := (spec_fiGrid.f a0_0 a0_1).bind fun t179 => (if t179 = true then ((spec_fiRises.f k l0_2 (wrap64 ((wrap64 (a0_0 * (wrap64 (a0_1 + 1)))) - 1))).bind fun t180 => (if t180 = true then ((spec_fiRises.f k l0_3 (wrap64 ((wrap64 ((wrap64 (a0_0 + 1)) * a0_1)) - 1))).bind fun t181 => (some t181)) else (some false))) else (some false))
/-! ### spec_sqFew: function 55 -/
def spec_sqFew.f (k : Nat) (a0_0 : Int) (a0_1 : Int) (l0_2 : List Int) (l0_3 : List Int) : Option (Bool) := (spec_fiGood.f k a0_0 a0_1 l0_2 l0_3).bind fun t183 => (if t183 = true then (some (decide ((wrap64 (a0_0 * a0_1)) ≤ 9))) else (some false))
/-! ### spec_moAsked: function 57 -/
def spec_moAsked.f (k : Nat) (a0_0 : Int) (a0_1 : Int) (l0_2 : List Int) (l0_3 : List Int) (a1 : Int) (a2 : Bool) : Option (Bool) := if a2 = true then ((spec_sqFew.f k a0_0 a0_1 l0_2 l0_3).bind fun t185 => (if t185 = true then ((spec_l1In.f a1 0 2).bind fun t186 => (some t186)) else (some false))) else ((spec_sqFew.f k a0_0 a0_1 l0_2 l0_3).bind fun t187 => (if t187 = true then ((spec_l1In.f a1 0 4).bind fun t188 => (some t188)) else (some false)))
/-! ### spec_fiCount: function 66 -/
def spec_fiCount.f (a0_0 : Int) (a0_1 : Int) (l0_2 : List Int) (l0_3 : List Int) : Option (Int) := some (wrap64 ((l0_2.length : Int) + (l0_3.length : Int)))

/-! ### spec_pzGood: function 40 -/
def spec_pzGood.f (k : Nat) (a0_0 : Int) (a0_1 : Int) (l0_2 : List Int) (l0_3 : List Int) (a0_4 : Int) (a0_5 : Bool) (a0_6 : Int) : Option (Bool) := (spec_moAsked.f k a0_0 a0_1 l0_2 l0_3 a0_4 a0_5).bind fun t191 => (if t191 = true then ((spec_fiCount.f a0_0 a0_1 l0_2 l0_3).bind fun t192 => (if a0_4 ≤ t192 then ((spec_moSquares.f a0_6).bind fun t193 => (some t193)) else (some false))) else (some false))
/-! ### spec_l1Has: function 81 -/
def spec_l1Has.l0 : Nat → Int → List Int → Int → Int → Option (Bool)
  | 0, _, _, _, _ => none
  | k + 1, x1, x7, x8, x9 => if x9 < x8 then (if 0 ≤ x9 then (if x9 < (x7.length : Int) then (if (rd x7 x9) = x1 then (some true) else (spec_l1Has.l0 k x1 x7 x8 (wrap64 (x9 + 1)))) else (none)) else (none)) else (some false)
def spec_l1Has.f (k : Nat) (l0 : List Int) (a1 : Int) : Option (Bool) := spec_l1Has.l0 k a1 l0 (l0.length : Int) 0
/-! ### spec_fiEdge: function 137 -/
def spec_fiEdge.f (a0_0 : Int) (a0_1 : Int) (l0_2 : List Int) (l0_3 : List Int) (a1 : Bool) (a2 : Int) (a3 : Int) : Option (Int × Bool) := if a1 = true then ((spec_l1In.f a2 0 a0_0).bind fun t196 => (if t196 = true then ((spec_l1In.f a3 0 (wrap64 (a0_1 - 1))).bind fun t197 => (some (wrap64 ((wrap64 (a3 * (wrap64 (a0_0 + 1)))) + a2), t197))) else (some (wrap64 ((wrap64 (a3 * (wrap64 (a0_0 + 1)))) + a2), false)))) else ((spec_l1In.f a2 0 (wrap64 (a0_0 - 1))).bind fun t198 => (if t198 = true then ((spec_l1In.f a3 0 a0_1).bind fun t199 => (some (wrap64 ((wrap64 (a3 * a0_0)) + a2), t199))) else (some (wrap64 ((wrap64 (a3 * a0_0)) + a2), false))))

/-! ### spec_fiHas: function 106 -/
def spec_fiHas.f (k : Nat) (a0_0 : Int) (a0_1 : Int) (l0_2 : List Int) (l0_3 : List Int) (a1 : Bool) (a2 : Int) (a3 : Int) : Option (Bool) := (spec_fiEdge.f a0_0 a0_1 l0_2 l0_3 a1 a2 a3).bind fun bt201 => (if a1 = true then ((spec_l1Has.f k l0_3 bt201.1).bind fun t203 => (some t203)) else ((spec_l1Has.f k l0_2 bt201.1).bind fun t204 => (some t204)))
/-! ### spec_l1Own: function 59 -/
def spec_l1Own.f (l0 : List Int) : Option (List Int) := (some (([] : List Int) : List Int)).bind fun y205 => (if y205.length + l0.length < 17592186044416 then (some (y205 ++ l0)) else (none))

/-! ### spec_fiOwn: function 30 -/
def spec_fiOwn.f (a0_0 : Int) (a0_1 : Int) (l0_2 : List Int) (l0_3 : List Int) : Option (Int × Int × List Int × List Int) := (spec_l1Own.f l0_2).bind fun t213 => ((spec_l1Own.f l0_3).bind fun t216 => (some (a0_0, a0_1, t213, t216)))

/-! ### spec_l1Put: function 138 -/
def spec_l1Put.l0 : Nat → List Int → Int → Int → Option (List Int)
  | 0, _, _, _ => none
  | k + 1, x0, x1, x5 => if x5 < (x0.length : Int) then (if 0 ≤ x5 then (if (rd x0 x5) < x1 then (spec_l1Put.l0 k x0 x1 (wrap64 (x5 + 1))) else (if (rd x0 x5) = x1 then (some x0) else ((some (([] : List Int) : List Int)).bind fun y221 => (if x5 ≤ (x0.length : Int) then ((some (x0.take (x5 : Int).toNat : List Int)).bind fun y224 => (if y221.length + y224.length < 17592186044416 then ((some (y221 ++ y224 : List Int)).bind fun y228 => (if y228.length < 17592186044416 then ((some (y228 ++ [x1] : List Int)).bind fun y231 => ((some (x0.drop (x5 : Int).toNat : List Int)).bind fun y234 => (if y231.length + y234.length < 17592186044416 then (some (y231 ++ y234)) else (none)))) else (none))) else (none))) else (none))))) else (none)) else ((some (([] : List Int) : List Int)).bind fun y241 => (if 0 ≤ x5 then (if x5 ≤ (x0.length : Int) then ((some (x0.take (x5 : Int).toNat : List Int)).bind fun y244 => (if y241.length + y244.length < 17592186044416 then ((some (y241 ++ y244 : List Int)).bind fun y248 => (if y248.length < 17592186044416 then ((some (y248 ++ [x1] : List Int)).bind fun y251 => ((some (x0.drop (x5 : Int).toNat : List Int)).bind fun y254 => (if y251.length + y254.length < 17592186044416 then (some (y251 ++ y254)) else (none)))) else (none))) else (none))) else (none)) else (none)))
def spec_l1Put.f (k : Nat) (l0 : List Int) (a1 : Int) : Option (List Int) := spec_l1Put.l0 k l0 a1 0
/-! ### spec_fiPut: function 107 -/
def spec_fiPut.f (k : Nat) (a0_0 : Int) (a0_1 : Int) (l0_2 : List Int) (l0_3 : List Int) (a1 : Bool) (a2 : Int) (a3 : Int) : Option (Int × Int × List Int × List Int) := (spec_fiOwn.f a0_0 a0_1 l0_2 l0_3).bind fun bt263 => ((spec_fiEdge.f a0_0 a0_1 l0_2 l0_3 a1 a2 a3).bind fun bt272 => ((spec_fiHas.f k a0_0 a0_1 l0_2 l0_3 a1 a2 a3).bind fun t274 => (if t274 = true then (some (bt263.1, bt263.2.1, bt263.2.2.1, bt263.2.2.2)) else (if a1 = true then ((spec_l1Put.f k bt263.2.2.2 bt272.1).bind fun t275 => (some (bt263.1, bt263.2.1, bt263.2.2.1, t275))) else ((spec_l1Put.f k bt263.2.2.1 bt272.1).bind fun t278 => (some (bt263.1, bt263.2.1, t278, bt263.2.2.2)))))))
/-! ### spec_fiMirror: function 67 -/
mutual
def spec_fiMirror.l0 : Nat → Int → Int → Int → List Int → List Int → Int → Int → List Int → List Int → Option (Int × Int × List Int × List Int)
  | 0, _, _, _, _, _, _, _, _, _ => none
  | k + 1, x4, x282000, x282001, x282002, x282003, x284000, x284001, x284002, x284003 => if x4 ≤ x282001 then (spec_fiMirror.l1 k x4 0 x282000 x282001 x282002 x282003 x284000 x284001 x284002 x284003) else (some (x284000, x284001, x284002, x284003))
def spec_fiMirror.l1 : Nat → Int → Int → Int → Int → List Int → List Int → Int → Int → List Int → List Int → Option (Int × Int × List Int × List Int)
  | 0, _, _, _, _, _, _, _, _, _, _ => none
  | k + 1, x4, x5, x282000, x282001, x282002, x282003, x284000, x284001, x284002, x284003 => if x5 ≤ x282000 then (if x5 < x282000 then ((spec_fiHas.f k x282000 x282001 x282002 x282003 false x5 x4).bind fun t284 => (spec_fiMirror.j2 k x4 x5 t284 x282000 x282001 x282002 x282003 x284000 x284001 x284002 x284003)) else (spec_fiMirror.j2 k x4 x5 false x282000 x282001 x282002 x282003 x284000 x284001 x284002 x284003)) else (spec_fiMirror.l0 k (wrap64 (x4 + 1)) x282000 x282001 x282002 x282003 x284000 x284001 x284002 x284003)
def spec_fiMirror.j2 : Nat → Int → Int → Bool → Int → Int → List Int → List Int → Int → Int → List Int → List Int → Option (Int × Int × List Int × List Int)
  | 0, _, _, _, _, _, _, _, _, _, _, _ => none
  | k + 1, x4, x5, x32, x282000, x282001, x282002, x282003, x284000, x284001, x284002, x284003 => if x32 = true then ((spec_fiPut.f k x284000 x284001 x284002 x284003 false (wrap64 ((wrap64 (x282000 - 1)) - x5)) x4).bind fun bt285 => (spec_fiMirror.j3 k x4 x5 x282000 x282001 x282002 x282003 bt285.1 bt285.2.1 bt285.2.2.1 bt285.2.2.2)) else (spec_fiMirror.j3 k x4 x5 x282000 x282001 x282002 x282003 x284000 x284001 x284002 x284003)
def spec_fiMirror.j3 : Nat → Int → Int → Int → Int → List Int → List Int → Int → Int → List Int → List Int → Option (Int × Int × List Int × List Int)
  | 0, _, _, _, _, _, _, _, _, _, _ => none
  | k + 1, x4, x5, x282000, x282001, x282002, x282003, x284000, x284001, x284002, x284003 => if x4 < x282001 then ((spec_fiHas.f k x282000 x282001 x282002 x282003 true x5 x4).bind fun t293 => (if t293 = true then ((spec_fiPut.f k x284000 x284001 x284002 x284003 true (wrap64 (x282000 - x5)) x4).bind fun bt294 => (spec_fiMirror.l1 k x4 (wrap64 (x5 + 1)) x282000 x282001 x282002 x282003 bt294.1 bt294.2.1 bt294.2.2.1 bt294.2.2.2)) else (spec_fiMirror.l1 k x4 (wrap64 (x5 + 1)) x282000 x282001 x282002 x282003 x284000 x284001 x284002 x284003))) else (spec_fiMirror.l1 k x4 (wrap64 (x5 + 1)) x282000 x282001 x282002 x282003 x284000 x284001 x284002 x284003)
end
def spec_fiMirror.f (k : Nat) (a0_0 : Int) (a0_1 : Int) (l0_2 : List Int) (l0_3 : List Int) : Option (Int × Int × List Int × List Int) := spec_fiMirror.l0 k 0 a0_0 a0_1 l0_2 l0_3 a0_0 a0_1 ([] : List Int) ([] : List Int)
/-! ### spec_fiText: function 68 -/
mutual
def spec_fiText.l0 : Nat → ByteArray → Int → Int → Int → List Int → List Int → Option (ByteArray)
  | 0, _, _, _, _, _, _ => none
  | k + 1, x3, x4, x303000, x303001, x303002, x303003 => if x4 ≤ x303001 then (if x4 > 0 then (if x3.size + 1 ≤ 9223372036854775807 then (spec_fiText.j1 k (x3 ++ (⟨#[47]⟩ : ByteArray)) x4 x303000 x303001 x303002 x303003) else (none)) else (spec_fiText.j1 k x3 x4 x303000 x303001 x303002 x303003)) else (some x3)
def spec_fiText.j1 : Nat → ByteArray → Int → Int → Int → List Int → List Int → Option (ByteArray)
  | 0, _, _, _, _, _, _ => none
  | k + 1, x3, x4, x303000, x303001, x303002, x303003 => spec_fiText.l1 k x3 x4 0 x303000 x303001 x303002 x303003
def spec_fiText.l1 : Nat → ByteArray → Int → Int → Int → Int → List Int → List Int → Option (ByteArray)
  | 0, _, _, _, _, _, _, _ => none
  | k + 1, x3, x4, x5, x303000, x303001, x303002, x303003 => if x5 < x303000 then ((spec_fiHas.f k x303000 x303001 x303002 x303003 false x5 x4).bind fun t303 => (if t303 = true then (if x3.size + 1 ≤ 9223372036854775807 then (spec_fiText.l1 k (x3 ++ (⟨#[45]⟩ : ByteArray)) x4 (wrap64 (x5 + 1)) x303000 x303001 x303002 x303003) else (none)) else (if x3.size + 1 ≤ 9223372036854775807 then (spec_fiText.l1 k (x3 ++ (⟨#[46]⟩ : ByteArray)) x4 (wrap64 (x5 + 1)) x303000 x303001 x303002 x303003) else (none)))) else (if x4 = x303001 then (some x3) else (if x3.size + 1 ≤ 9223372036854775807 then (spec_fiText.l2 k (x3 ++ (⟨#[47]⟩ : ByteArray)) x4 0 x303000 x303001 x303002 x303003) else (none)))
def spec_fiText.l2 : Nat → ByteArray → Int → Int → Int → Int → List Int → List Int → Option (ByteArray)
  | 0, _, _, _, _, _, _, _ => none
  | k + 1, x3, x4, x6, x303000, x303001, x303002, x303003 => if x6 ≤ x303000 then ((spec_fiHas.f k x303000 x303001 x303002 x303003 true x6 x4).bind fun t304 => (if t304 = true then (if x3.size + 1 ≤ 9223372036854775807 then (spec_fiText.l2 k (x3 ++ (⟨#[124]⟩ : ByteArray)) x4 (wrap64 (x6 + 1)) x303000 x303001 x303002 x303003) else (none)) else (if x3.size + 1 ≤ 9223372036854775807 then (spec_fiText.l2 k (x3 ++ (⟨#[46]⟩ : ByteArray)) x4 (wrap64 (x6 + 1)) x303000 x303001 x303002 x303003) else (none)))) else (spec_fiText.l0 k x3 (wrap64 (x4 + 1)) x303000 x303001 x303002 x303003)
end
def spec_fiText.f (k : Nat) (a0_0 : Int) (a0_1 : Int) (l0_2 : List Int) (l0_3 : List Int) : Option (ByteArray) := spec_fiText.l0 k (⟨#[]⟩ : ByteArray) 0 a0_0 a0_1 l0_2 l0_3
/-! ### spec_fiTurn: function 69 -/
mutual
def spec_fiTurn.l0 : Nat → Int → Int → Int → List Int → List Int → Int → Int → List Int → List Int → Option (Int × Int × List Int × List Int)
  | 0, _, _, _, _, _, _, _, _, _ => none
  | k + 1, x4, x306000, x306001, x306002, x306003, x308000, x308001, x308002, x308003 => if x4 ≤ x306001 then (spec_fiTurn.l1 k x4 0 x306000 x306001 x306002 x306003 x308000 x308001 x308002 x308003) else (some (x308000, x308001, x308002, x308003))
def spec_fiTurn.l1 : Nat → Int → Int → Int → Int → List Int → List Int → Int → Int → List Int → List Int → Option (Int × Int × List Int × List Int)
  | 0, _, _, _, _, _, _, _, _, _, _ => none
  | k + 1, x4, x5, x306000, x306001, x306002, x306003, x308000, x308001, x308002, x308003 => if x5 ≤ x306000 then (if x5 < x306000 then ((spec_fiHas.f k x306000 x306001 x306002 x306003 false x5 x4).bind fun t308 => (spec_fiTurn.j2 k x4 x5 t308 x306000 x306001 x306002 x306003 x308000 x308001 x308002 x308003)) else (spec_fiTurn.j2 k x4 x5 false x306000 x306001 x306002 x306003 x308000 x308001 x308002 x308003)) else (spec_fiTurn.l0 k (wrap64 (x4 + 1)) x306000 x306001 x306002 x306003 x308000 x308001 x308002 x308003)
def spec_fiTurn.j2 : Nat → Int → Int → Bool → Int → Int → List Int → List Int → Int → Int → List Int → List Int → Option (Int × Int × List Int × List Int)
  | 0, _, _, _, _, _, _, _, _, _, _, _ => none
  | k + 1, x4, x5, x32, x306000, x306001, x306002, x306003, x308000, x308001, x308002, x308003 => if x32 = true then ((spec_fiPut.f k x308000 x308001 x308002 x308003 true (wrap64 (x306001 - x4)) x5).bind fun bt309 => (spec_fiTurn.j3 k x4 x5 x306000 x306001 x306002 x306003 bt309.1 bt309.2.1 bt309.2.2.1 bt309.2.2.2)) else (spec_fiTurn.j3 k x4 x5 x306000 x306001 x306002 x306003 x308000 x308001 x308002 x308003)
def spec_fiTurn.j3 : Nat → Int → Int → Int → Int → List Int → List Int → Int → Int → List Int → List Int → Option (Int × Int × List Int × List Int)
  | 0, _, _, _, _, _, _, _, _, _, _ => none
  | k + 1, x4, x5, x306000, x306001, x306002, x306003, x308000, x308001, x308002, x308003 => if x4 < x306001 then ((spec_fiHas.f k x306000 x306001 x306002 x306003 true x5 x4).bind fun t317 => (if t317 = true then ((spec_fiPut.f k x308000 x308001 x308002 x308003 false (wrap64 ((wrap64 (x306001 - 1)) - x4)) x5).bind fun bt318 => (spec_fiTurn.l1 k x4 (wrap64 (x5 + 1)) x306000 x306001 x306002 x306003 bt318.1 bt318.2.1 bt318.2.2.1 bt318.2.2.2)) else (spec_fiTurn.l1 k x4 (wrap64 (x5 + 1)) x306000 x306001 x306002 x306003 x308000 x308001 x308002 x308003))) else (spec_fiTurn.l1 k x4 (wrap64 (x5 + 1)) x306000 x306001 x306002 x306003 x308000 x308001 x308002 x308003)
end
def spec_fiTurn.f (k : Nat) (a0_0 : Int) (a0_1 : Int) (l0_2 : List Int) (l0_3 : List Int) : Option (Int × Int × List Int × List Int) := spec_fiTurn.l0 k 0 a0_0 a0_1 l0_2 l0_3 a0_1 a0_0 ([] : List Int) ([] : List Int)
/-! ### spec_pzImages: function 41 -/
mutual
def spec_pzImages.l0 : Nat → List ByteArray → List (S26) → Int → Int → Option (List ByteArray)
  | 0, _, _, _, _ => none
  | k + 1, x3, x10, x11, x12 => if x12 < x11 then (if 0 ≤ x12 then (if x12 < (x10.length : Int) then (spec_pzImages.l1 k x3 0 x10 x11 x12 ((rd_T26 x10 x12).f0) ((rd_T26 x10 x12).f1) ((rd_T26 x10 x12).f2) ((rd_T26 x10 x12).f3)) else (none)) else (none)) else (some x3)
def spec_pzImages.l1 : Nat → List ByteArray → Int → List (S26) → Int → Int → Int → Int → List Int → List Int → Option (List ByteArray)
  | 0, _, _, _, _, _, _, _, _, _ => none
  | k + 1, x3, x6, x10, x11, x12, x340000, x340001, x340002, x340003 => if x6 < 4 then ((spec_fiText.f k x340000 x340001 x340002 x340003).bind fun t340 => (if x3.length < 8796093022208 then ((spec_fiTurn.f k x340000 x340001 x340002 x340003).bind fun bt344 => (spec_pzImages.l1 k (x3 ++ [t340]) (wrap64 (x6 + 1)) x10 x11 x12 bt344.1 bt344.2.1 bt344.2.2.1 bt344.2.2.2)) else (none))) else (spec_pzImages.l0 k x3 x10 x11 (wrap64 (x12 + 1)))
end
def spec_pzImages.f (k : Nat) (a0_0 : Int) (a0_1 : Int) (l0_2 : List Int) (l0_3 : List Int) : Option (List ByteArray) := (spec_fiMirror.f k a0_0 a0_1 l0_2 l0_3).bind fun bt327 => ((some (([(⟨a0_0, a0_1, l0_2, l0_3⟩ : S26), (⟨bt327.1, bt327.2.1, bt327.2.2.1, bt327.2.2.2⟩ : S26)] : List (S26)) : List (S26))).bind fun y335 => (spec_pzImages.l0 k ([] : List ByteArray) y335 (y335.length : Int) 0))
/-! ### spec_IsSymmetric: function 18 -/
def spec_IsSymmetric.l0 : Nat → List ByteArray → List ByteArray → Int → Int → Option (Bool × Bool)
  | 0, _, _, _, _ => none
  | k + 1, x4, x14, x15, x16 => if x16 < x15 then (if 0 ≤ x16 then (if x16 < (x14.length : Int) then (if 0 < (x4.length : Int) then (if (rdOf ByteArray.empty x14 x16).toList = (rdOf ByteArray.empty x4 0).toList then (some (true, true)) else (spec_IsSymmetric.l0 k x4 x14 x15 (wrap64 (x16 + 1)))) else (none)) else (none)) else (none)) else (some (false, true))
def spec_IsSymmetric.f (k : Nat) (a0_0 : Int) (a0_1 : Int) (l0_2 : List Int) (l0_3 : List Int) (a0_4 : Int) (a0_5 : Bool) (a0_6 : Int) : Option (Bool × Bool) := (spec_pzGood.f k a0_0 a0_1 l0_2 l0_3 a0_4 a0_5 a0_6).bind fun t353 => (if t353 = true then ((spec_pzImages.f k a0_0 a0_1 l0_2 l0_3).bind fun t354 => (if 1 ≤ (t354.length : Int) then ((some (t354.drop 1 : List ByteArray)).bind fun y357 => (spec_IsSymmetric.l0 k t354 y357 (y357.length : Int) 0)) else (none))) else (some (false, false)))
/-! ### laws_szIntS: function 28 -/
def laws_szIntS.f (l0 : List Int) (a1 : Int) : Option (Int) := if (wrap64 (a1 - (l0.length : Int))) < 0 then (some (-1)) else (some (wrap64 (a1 - (l0.length : Int))))

/-! ### laws_szFigure: function 8 -/
def laws_szFigure.f (a0_0 : Int) (a0_1 : Int) (l0_2 : List Int) (l0_3 : List Int) (a1 : Int) : Option (Int) := (laws_szIntS.f l0_2 a1).bind fun t364 => (if t364 < 0 then (some (-1)) else ((laws_szIntS.f l0_3 t364).bind fun t365 => (if t365 < 0 then (some (-1)) else (some t365))))

/-! ### laws_szPuzzle: function 17 -/
def laws_szPuzzle.f (a0_0 : Int) (a0_1 : Int) (l0_2 : List Int) (l0_3 : List Int) (a0_4 : Int) (a0_5 : Bool) (a0_6 : Int) (a1 : Int) : Option (Int) := (laws_szFigure.f a0_0 a0_1 l0_2 l0_3 a1).bind fun t367 => (if t367 < 0 then (some (-1)) else (some t367))

/-! ### laws_toIntS: function 31 -/
/-- how many spare cells the law gives a list of n -/
def room (n : Nat) : Nat := if n % 6 = 5 then 0 else if n % 3 = 0 then 1 else n
def laws_toIntS.f (l0 : List Int) (a1 : Bool) : Option (List Int) := if l0.length ≤ 1000000 then some l0 else none

/-! ### laws_toFigure: function 10 -/
def laws_toFigure.f (a0_0 : Int) (a0_1 : Int) (l0_2 : List Int) (l0_3 : List Int) (a1 : Bool) : Option (Int × Int × List Int × List Int) := (laws_toIntS.f l0_2 a1).bind fun t371 => ((laws_toIntS.f l0_3 a1).bind fun t374 => (some (a0_0, a0_1, t371, t374)))

/-! ### laws_toPuzzle: function 19 -/
def laws_toPuzzle.f (a0_0 : Int) (a0_1 : Int) (l0_2 : List Int) (l0_3 : List Int) (a0_4 : Int) (a0_5 : Bool) (a0_6 : Int) (a1 : Bool) : Option (Int × Int × List Int × List Int × Int × Bool × Int) := (laws_toFigure.f a0_0 a0_1 l0_2 l0_3 a1).bind fun bt380 => (some (bt380.1, bt380.2.1, bt380.2.2.1, bt380.2.2.2, a0_4, a0_5, a0_6))

/-! ### impl_Puzzle_way: function 70 -/
def impl_Puzzle_way.f (a0_0 : Int) (a0_1 : Int) (l0_2 : List Int) (l0_3 : List Int) (a0_4 : Int) (a0_5 : Bool) (a0_6 : Int) : Option (Int × Int × List Int × List Int × Int × Bool) := some (a0_0, a0_1, l0_2, l0_3, a0_4, a0_5)

/-! ### impl_within: function 46 -/
def impl_within.f (a0 : Int) (a1 : Int) (a2 : Int) : Option (Bool) := if a1 ≤ a0 then (some (decide (a0 ≤ a2))) else (some false)

/-! ### impl_isGrid: function 158 -/
def impl_isGrid.f (a0 : Int) (a1 : Int) : Option (Bool) := (impl_within.f a0 1 4).bind fun t390 => (if t390 = true then ((impl_within.f a1 1 4).bind fun t391 => (some t391)) else (some false))

/-! ### impl_isRising: function 159 -/
def impl_isRising.l0 : Nat → List Int → Int → Option (Bool)
  | 0, _, _ => none
  | k + 1, x0, x3 => if x3 < (x0.length : Int) then (if 0 ≤ x3 then (if 0 ≤ (wrap64 (x3 - 1)) then (if (wrap64 (x3 - 1)) < (x0.length : Int) then (if (rd x0 x3) ≤ (rd x0 (wrap64 (x3 - 1))) then (some false) else (impl_isRising.l0 k x0 (wrap64 (x3 + 1)))) else (none)) else (none)) else (none)) else (some true)
def impl_isRising.f (k : Nat) (l0 : List Int) : Option (Bool) := impl_isRising.l0 k l0 1
/-! ### impl_areWithin: function 160 -/
/-- outside of lo .. hi -/
def awP (lo hi : Int) (n : Int) : Bool := !(decide (lo ≤ n) && decide (n ≤ hi))
def impl_areWithin.f (l0 : List Int) (a1 : Int) (a2 : Int) : Option (Bool) := some (!l0.any (awP a1 a2))


/-! ### impl_grid_uprights: function 161 -/
def impl_grid_uprights.f (a0_0 : Int) (a0_1 : Int) : Option (Int) := some (wrap64 (a0_1 * (wrap64 (a0_0 + 1))))

/-! ### impl_IsFigure: function 139 -/
def impl_IsFigure.f (k : Nat) (a0_0 : Int) (a0_1 : Int) (l0_2 : List Int) (l0_3 : List Int) : Option (Bool) := (impl_isGrid.f a0_0 a0_1).bind fun t396 => (if t396 = true then ((impl_isRising.f k l0_2).bind fun t397 => (if t397 = true then ((impl_isRising.f k l0_3).bind fun t398 => (if t398 = true then ((impl_Figure_grid.f a0_0 a0_1 l0_2 l0_3).bind fun bt399 => ((impl_grid_levels.f bt399.1 bt399.2).bind fun t401 => ((impl_areWithin.f l0_2 0 (wrap64 (t401 - 1))).bind fun t402 => (if t402 = true then ((impl_Figure_grid.f a0_0 a0_1 l0_2 l0_3).bind fun bt403 => ((impl_grid_uprights.f bt403.1 bt403.2).bind fun t405 => ((impl_areWithin.f l0_3 0 (wrap64 (t405 - 1))).bind fun t406 => (some t406)))) else (some false))))) else (some false))) else (some false))) else (some false))
/-! ### impl_isFew: function 108 -/
def impl_isFew.f (k : Nat) (a0_0 : Int) (a0_1 : Int) (l0_2 : List Int) (l0_3 : List Int) : Option (Bool) := (impl_IsFigure.f k a0_0 a0_1 l0_2 l0_3).bind fun t408 => (if t408 = true then (some (decide ((wrap64 (a0_0 * a0_1)) ≤ 9))) else (some false))
/-! ### impl_way_isRight: function 71 -/
def impl_way_isRight.f (k : Nat) (a0_0 : Int) (a0_1 : Int) (l0_2 : List Int) (l0_3 : List Int) (a0_4 : Int) (a0_5 : Bool) : Option (Bool) := if a0_5 = true then ((impl_isFew.f k a0_0 a0_1 l0_2 l0_3).bind fun t410 => (if t410 = true then ((impl_within.f a0_4 0 2).bind fun t411 => (some t411)) else (some false))) else ((impl_isFew.f k a0_0 a0_1 l0_2 l0_3).bind fun t412 => (if t412 = true then ((impl_within.f a0_4 0 4).bind fun t413 => (some t413)) else (some false)))
/-! ### bits_OnesCount64: function 109 -/
def bits_OnesCount64.f (a0 : Int) : Option (Int) := some (Go.bits .and .i64 (wrap64 (IntKind.u64.wrap ((IntKind.u64.wrap ((IntKind.u64.wrap ((Go.bits .and .u64 (IntKind.u64.wrap (((IntKind.u64.wrap ((Go.bits .and .u64 ((IntKind.u64.wrap ((Go.bits .and .u64 (a0 / 2) 6148914691236517205) + (Go.bits .and .u64 a0 6148914691236517205))) / 4) 3689348814741910323) + (Go.bits .and .u64 (IntKind.u64.wrap ((Go.bits .and .u64 (a0 / 2) 6148914691236517205) + (Go.bits .and .u64 a0 6148914691236517205))) 3689348814741910323))) / 16) + (IntKind.u64.wrap ((Go.bits .and .u64 ((IntKind.u64.wrap ((Go.bits .and .u64 (a0 / 2) 6148914691236517205) + (Go.bits .and .u64 a0 6148914691236517205))) / 4) 3689348814741910323) + (Go.bits .and .u64 (IntKind.u64.wrap ((Go.bits .and .u64 (a0 / 2) 6148914691236517205) + (Go.bits .and .u64 a0 6148914691236517205))) 3689348814741910323))))) 1085102592571150095) + ((Go.bits .and .u64 (IntKind.u64.wrap (((IntKind.u64.wrap ((Go.bits .and .u64 ((IntKind.u64.wrap ((Go.bits .and .u64 (a0 / 2) 6148914691236517205) + (Go.bits .and .u64 a0 6148914691236517205))) / 4) 3689348814741910323) + (Go.bits .and .u64 (IntKind.u64.wrap ((Go.bits .and .u64 (a0 / 2) 6148914691236517205) + (Go.bits .and .u64 a0 6148914691236517205))) 3689348814741910323))) / 16) + (IntKind.u64.wrap ((Go.bits .and .u64 ((IntKind.u64.wrap ((Go.bits .and .u64 (a0 / 2) 6148914691236517205) + (Go.bits .and .u64 a0 6148914691236517205))) / 4) 3689348814741910323) + (Go.bits .and .u64 (IntKind.u64.wrap ((Go.bits .and .u64 (a0 / 2) 6148914691236517205) + (Go.bits .and .u64 a0 6148914691236517205))) 3689348814741910323))))) 1085102592571150095) / 256))) + ((IntKind.u64.wrap ((Go.bits .and .u64 (IntKind.u64.wrap (((IntKind.u64.wrap ((Go.bits .and .u64 ((IntKind.u64.wrap ((Go.bits .and .u64 (a0 / 2) 6148914691236517205) + (Go.bits .and .u64 a0 6148914691236517205))) / 4) 3689348814741910323) + (Go.bits .and .u64 (IntKind.u64.wrap ((Go.bits .and .u64 (a0 / 2) 6148914691236517205) + (Go.bits .and .u64 a0 6148914691236517205))) 3689348814741910323))) / 16) + (IntKind.u64.wrap ((Go.bits .and .u64 ((IntKind.u64.wrap ((Go.bits .and .u64 (a0 / 2) 6148914691236517205) + (Go.bits .and .u64 a0 6148914691236517205))) / 4) 3689348814741910323) + (Go.bits .and .u64 (IntKind.u64.wrap ((Go.bits .and .u64 (a0 / 2) 6148914691236517205) + (Go.bits .and .u64 a0 6148914691236517205))) 3689348814741910323))))) 1085102592571150095) + ((Go.bits .and .u64 (IntKind.u64.wrap (((IntKind.u64.wrap ((Go.bits .and .u64 ((IntKind.u64.wrap ((Go.bits .and .u64 (a0 / 2) 6148914691236517205) + (Go.bits .and .u64 a0 6148914691236517205))) / 4) 3689348814741910323) + (Go.bits .and .u64 (IntKind.u64.wrap ((Go.bits .and .u64 (a0 / 2) 6148914691236517205) + (Go.bits .and .u64 a0 6148914691236517205))) 3689348814741910323))) / 16) + (IntKind.u64.wrap ((Go.bits .and .u64 ((IntKind.u64.wrap ((Go.bits .and .u64 (a0 / 2) 6148914691236517205) + (Go.bits .and .u64 a0 6148914691236517205))) / 4) 3689348814741910323) + (Go.bits .and .u64 (IntKind.u64.wrap ((Go.bits .and .u64 (a0 / 2) 6148914691236517205) + (Go.bits .and .u64 a0 6148914691236517205))) 3689348814741910323))))) 1085102592571150095) / 256))) / 65536))) + ((IntKind.u64.wrap ((IntKind.u64.wrap ((Go.bits .and .u64 (IntKind.u64.wrap (((IntKind.u64.wrap ((Go.bits .and .u64 ((IntKind.u64.wrap ((Go.bits .and .u64 (a0 / 2) 6148914691236517205) + (Go.bits .and .u64 a0 6148914691236517205))) / 4) 3689348814741910323) + (Go.bits .and .u64 (IntKind.u64.wrap ((Go.bits .and .u64 (a0 / 2) 6148914691236517205) + (Go.bits .and .u64 a0 6148914691236517205))) 3689348814741910323))) / 16) + (IntKind.u64.wrap ((Go.bits .and .u64 ((IntKind.u64.wrap ((Go.bits .and .u64 (a0 / 2) 6148914691236517205) + (Go.bits .and .u64 a0 6148914691236517205))) / 4) 3689348814741910323) + (Go.bits .and .u64 (IntKind.u64.wrap ((Go.bits .and .u64 (a0 / 2) 6148914691236517205) + (Go.bits .and .u64 a0 6148914691236517205))) 3689348814741910323))))) 1085102592571150095) + ((Go.bits .and .u64 (IntKind.u64.wrap (((IntKind.u64.wrap ((Go.bits .and .u64 ((IntKind.u64.wrap ((Go.bits .and .u64 (a0 / 2) 6148914691236517205) + (Go.bits .and .u64 a0 6148914691236517205))) / 4) 3689348814741910323) + (Go.bits .and .u64 (IntKind.u64.wrap ((Go.bits .and .u64 (a0 / 2) 6148914691236517205) + (Go.bits .and .u64 a0 6148914691236517205))) 3689348814741910323))) / 16) + (IntKind.u64.wrap ((Go.bits .and .u64 ((IntKind.u64.wrap ((Go.bits .and .u64 (a0 / 2) 6148914691236517205) + (Go.bits .and .u64 a0 6148914691236517205))) / 4) 3689348814741910323) + (Go.bits .and .u64 (IntKind.u64.wrap ((Go.bits .and .u64 (a0 / 2) 6148914691236517205) + (Go.bits .and .u64 a0 6148914691236517205))) 3689348814741910323))))) 1085102592571150095) / 256))) + ((IntKind.u64.wrap ((Go.bits .and .u64 (IntKind.u64.wrap (((IntKind.u64.wrap ((Go.bits .and .u64 ((IntKind.u64.wrap ((Go.bits .and .u64 (a0 / 2) 6148914691236517205) + (Go.bits .and .u64 a0 6148914691236517205))) / 4) 3689348814741910323) + (Go.bits .and .u64 (IntKind.u64.wrap ((Go.bits .and .u64 (a0 / 2) 6148914691236517205) + (Go.bits .and .u64 a0 6148914691236517205))) 3689348814741910323))) / 16) + (IntKind.u64.wrap ((Go.bits .and .u64 ((IntKind.u64.wrap ((Go.bits .and .u64 (a0 / 2) 6148914691236517205) + (Go.bits .and .u64 a0 6148914691236517205))) / 4) 3689348814741910323) + (Go.bits .and .u64 (IntKind.u64.wrap ((Go.bits .and .u64 (a0 / 2) 6148914691236517205) + (Go.bits .and .u64 a0 6148914691236517205))) 3689348814741910323))))) 1085102592571150095) + ((Go.bits .and .u64 (IntKind.u64.wrap (((IntKind.u64.wrap ((Go.bits .and .u64 ((IntKind.u64.wrap ((Go.bits .and .u64 (a0 / 2) 6148914691236517205) + (Go.bits .and .u64 a0 6148914691236517205))) / 4) 3689348814741910323) + (Go.bits .and .u64 (IntKind.u64.wrap ((Go.bits .and .u64 (a0 / 2) 6148914691236517205) + (Go.bits .and .u64 a0 6148914691236517205))) 3689348814741910323))) / 16) + (IntKind.u64.wrap ((Go.bits .and .u64 ((IntKind.u64.wrap ((Go.bits .and .u64 (a0 / 2) 6148914691236517205) + (Go.bits .and .u64 a0 6148914691236517205))) / 4) 3689348814741910323) + (Go.bits .and .u64 (IntKind.u64.wrap ((Go.bits .and .u64 (a0 / 2) 6148914691236517205) + (Go.bits .and .u64 a0 6148914691236517205))) 3689348814741910323))))) 1085102592571150095) / 256))) / 65536))) / 4294967296)))) 127)

/-! ### impl_set_count: function 72 -/
def impl_set_count.f (a0 : Int) : Option (Int) := (bits_OnesCount64.f a0).bind fun t414 => (some t414)

/-! ### impl_isNumber: function 73 -/
def impl_isNumber.f (a0 : Int) : Option (Bool) := (impl_within.f a0 0 100).bind fun t415 => (some t415)

/-! ### impl_IsPuzzle: function 42 -/
def impl_IsPuzzle.f (k : Nat) (a0_0 : Int) (a0_1 : Int) (l0_2 : List Int) (l0_3 : List Int) (a0_4 : Int) (a0_5 : Bool) (a0_6 : Int) : Option (Bool) := (impl_Puzzle_way.f a0_0 a0_1 l0_2 l0_3 a0_4 a0_5 a0_6).bind fun bt417 => ((impl_way_isRight.f k bt417.1 bt417.2.1 bt417.2.2.1 bt417.2.2.2.1 bt417.2.2.2.2.1 bt417.2.2.2.2.2).bind fun t427 => (if t427 = true then ((impl_Figure_set.f k a0_0 a0_1 l0_2 l0_3).bind fun t428 => ((impl_set_count.f t428).bind fun t429 => (if a0_4 ≤ t429 then ((impl_isNumber.f a0_6).bind fun t430 => (some t430)) else (some false)))) else (some false)))
/-! ### laws_eqIntS: function 64 -/
def laws_eqIntS.l0 : Nat → List Int → List Int → Int → Option (Bool)
  | 0, _, _, _ => none
  | k + 1, x0, x1, x5 => if x5 < (x0.length : Int) then (if 0 ≤ x5 then (if x5 < (x1.length : Int) then (if (rd x0 x5) = (rd x1 x5) then (laws_eqIntS.l0 k x0 x1 (wrap64 (x5 + 1))) else (some false)) else (none)) else (none)) else (some true)
def laws_eqIntS.f (k : Nat) (l0 : List Int) (l1 : List Int) : Option (Bool) := if (l0.length : Int) = (l1.length : Int) then (laws_eqIntS.l0 k l0 l1 0) else (some false)
/-! ### impl_keeping: function 43 -/
/-- the eight figures: so many rounds from x on -/
def e8 (k : Nat) : Nat → Int × Int × List Int × List Int → Option (List (Int × Int × List Int × List Int))
  | 0, _ => some []
  | n + 1, x => (impl_mirrored.f k x.1 x.2.1 x.2.2.1 x.2.2.2).bind fun m => (impl_turned.f k x.1 x.2.1 x.2.2.1 x.2.2.2).bind fun t => (e8 k n t).bind fun r => some (x :: m :: r)
/-- the numbers, from j on, of those whose text is x's -/
def kpL (k : Nat) (x : Int × Int × List Int × List Int) : Nat → List (Int × Int × List Int × List Int) → Option (List Int)
  | _, [] => some []
  | j, q :: r => (impl_compareFigures.f k q.1 q.2.1 q.2.2.1 q.2.2.2 x.1 x.2.1 x.2.2.1 x.2.2.2).bind fun c => (kpL k x (j + 1) r).bind fun l => some (if c = 0 then (j : Int) :: l else l)
def impl_keeping.f (k : Nat) (a0 : Int) (a1 : Int) (l2 : List Int) (l3 : List Int) : Option (List Int) := (e8 k 4 (a0, a1, l2, l3)).bind fun E => kpL k (a0, a1, l2, l3) 0 E
/-! ### impl_IsSymmetric: function 20 -/
def impl_IsSymmetric.f (k : Nat) (a0_0 : Int) (a0_1 : Int) (l0_2 : List Int) (l0_3 : List Int) (a0_4 : Int) (a0_5 : Bool) (a0_6 : Int) : Option (Bool × Bool) := (impl_IsPuzzle.f k a0_0 a0_1 l0_2 l0_3 a0_4 a0_5 a0_6).bind fun t434 => (if t434 = true then ((impl_keeping.f k a0_0 a0_1 l0_2 l0_3).bind fun t435 => (some (decide ((t435.length : Int) > 1), true))) else (some (false, false)))
end Go.Proofs.YtdjecdghfmadoaaDoor.S
