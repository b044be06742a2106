import Derived.Test.YtfkbjflndkjlnaaDoorPk
namespace Go.Proofs.YtfkbjflndkjlnaaDoor.P
open Go.RowKit Go.Proofs.YtfkbjflndkjlnaaDoorW.PrintWords Go.Proofs.YtfkbjflndkjlnaaDoorW.PrintLast Go.Proofs.YtfkbjflndkjlnaaDoorW.PrintMore
attribute [local go_sem] max2_int min2_int max_two min_two max_three min_three max_four min_four
set_option linter.unusedVariables false
set_option linter.unusedSimpArgs false

/-! ### impl_Corner_next: function 26 -/
def impl_Corner_next.f (a0_0 : Int) (a0_1 : Int) (a1 : Int) : Option (Int × Int) := if a1 = 110 then (some (a0_0, wrap64 (a0_1 - 1))) else (if a1 = 101 then (some (wrap64 (a0_0 + 1), a0_1)) else (if a1 = 115 then (some (a0_0, wrap64 (a0_1 + 1))) else (some (wrap64 (a0_0 - 1), a0_1))))

/-! ### impl_Corner_61: function 61 -/
def impl_Corner_61.l0 : Nat → List (S45) → Int → Int → Int → Int → Option (Int)
  | 0, _, _, _, _, _ => none
  | k + 1, x0, x7, x8, x104000, x104001 => if x8 < x7 then (if 0 ≤ x8 then (if x8 < (x0.length : Int) then (if (x104000 == ((rd_T45 x0 x8).f0) && (x104001 == ((rd_T45 x0 x8).f1))) = true then (some x8) else (impl_Corner_61.l0 k x0 x7 (wrap64 (x8 + 1)) x104000 x104001)) else (none)) else (none)) else (some (-1))
def impl_Corner_61.f (k : Nat) (l0 : List (S45)) (a1_0 : Int) (a1_1 : Int) : Option (Int) := impl_Corner_61.l0 k l0 (l0.length : Int) 0 a1_0 a1_1
/-! ### impl_Corner_27: function 27 -/
def impl_Corner_27.f (k : Nat) (l0 : List (S45)) (a1_0 : Int) (a1_1 : Int) : Option (Bool) := (impl_Corner_61.f k l0 a1_0 a1_1).bind fun t106 => (some (decide (t106 ≥ 0)))
/-! ### impl_within: function 23 -/
def impl_within.f (a0 : Int) (a1 : Int) (a2 : Int) : Option (Bool) := if a1 ≤ a0 then (some (decide (a0 ≤ a2))) else (some false)

/-! ### impl_IsShapeText: function 9 -/
/-- a text cut at each slash, as the library cuts it -/
def shPs (s : ByteArray) : List ByteArray := Lib.splitB ⟨#[47]⟩ 0 (Lib.countB s ⟨#[47]⟩) s
def shRow (y : Nat) : Nat → List UInt8 → List S45
  | _, [] => []
  | x, b :: r => (if b = 111 then [⟨(x : Int), (y : Int)⟩] else []) ++ shRow y (x + 1) r
def shCells : Nat → List (List UInt8) → List S45
  | _, [] => []
  | y, r :: rs => shRow y 0 r ++ shCells (y + 1) rs
def shTry (k : Nat) (cells L : List S45) (q : Int × Int) : Option (List S45) :=
  (impl_Corner_27.f k cells q.1 q.2).bind fun b => if b = true then (impl_Corner_27.f k L q.1 q.2).bind fun c => if c = true then some L else some (L ++ [⟨q.1, q.2⟩]) else some L
def shSteps (k : Nat) (cells : List S45) (p : S45) : List Int → List S45 → Option (List S45)
  | [], L => some L
  | d :: ds, L => (impl_Corner_next.f p.f0 p.f1 d).bind fun q => (shTry k cells L q).bind fun L' => shSteps k cells p ds L'
def shBfs (k : Nat) (cells : List S45) : Nat → Nat → List S45 → Option (List S45)
  | 0, _, _ => none
  | n + 1, i, L => if i < L.length then (if L.length ≤ 1000 then (shSteps k cells (rd_T45 L (i : Int)) [110, 101, 115, 119] L).bind fun L' => shBfs k cells n (i + 1) L' else none) else some L
def shLf (cs : List S45) : Bool := cs.any fun p => p.f0 == 0
def shTp (cs : List S45) : Bool := cs.any fun p => p.f1 == 0
def shRt (w : Int) (cs : List S45) : Bool := cs.any fun p => p.f0 == w - 1
def shBt (h : Int) (cs : List S45) : Bool := cs.any fun p => p.f1 == h - 1
def shRows (s : ByteArray) : List (List UInt8) := (shPs s).map (·.data.toList)
def shW (s : ByteArray) : Nat := (rdOf ByteArray.empty (shPs s) 0).size
def impl_IsShapeText.f (k : Nat) (s : ByteArray) : Option Bool :=
  if s.size ≤ 1000000 then
    if 1 ≤ Lib.countByte s.data.toList 111 ∧ Lib.countByte s.data.toList 111 ≤ 12 then
      if Lib.trimS s.data.toList [111, 46, 47] = [] then
        if ∀ r ∈ shPs s, r.size = shW s then
          (shBfs k (shCells 0 (shRows s)) k 0 ((shCells 0 (shRows s)).take 1)).bind fun L =>
            some ((shLf (shCells 0 (shRows s)) && shTp (shCells 0 (shRows s)) && shRt (shW s) (shCells 0 (shRows s)) && shBt ((shPs s).length : Int) (shCells 0 (shRows s))) && (L.length == (shCells 0 (shRows s)).length))
        else some false
      else some false
    else some false
  else none
/-! ### strings_Join: function 63 -/
def strings_Join.f (l0 : List ByteArray) (a1 : ByteArray) : Option ByteArray := if 0 < l0.length ∧ l0.length ≤ 140737488355328 ∧ (Lib.join (l0.map (·.data.toList)) a1.data.toList).length ≤ 140737488355328 then some ⟨(Lib.join (l0.map (·.data.toList)) a1.data.toList).toArray⟩ else none


/-! ### impl_turnedShape: function 29 -/
/-- the rows of a text turned by a quarter -/
def tnRow (ps : List ByteArray) (x : Nat) : List Int := ps.reverse.map fun r => bt r (x : Int)
def tnRows (ps : List ByteArray) (w : Nat) : List ByteArray := (List.range w).map fun x => strOfNums (tnRow ps x)
def tnJoin (xs : List ByteArray) : ByteArray := ⟨(Lib.join (xs.map (·.data.toList)) [47]).toArray⟩
def impl_turnedShape.f (s : ByteArray) : Option ByteArray := if s.size ≤ 1000000 ∧ (∀ r ∈ shPs s, r.size = shW s) ∧ 1 ≤ shW s then some (tnJoin (tnRows (shPs s) (shW s))) else none


/-! ### impl_mirroredShape: function 68 -/
def mlRow (q : ByteArray) : ByteArray := ⟨q.data.toList.reverse.toArray⟩
def mlJoin (ps : List ByteArray) : ByteArray := tnJoin (ps.map mlRow)
def impl_mirroredShape.f (s : ByteArray) : Option ByteArray := if s.size ≤ 1000000 then some (mlJoin (shPs s)) else none


/-! ### impl_leastShape: function 31 -/
def e8s : Nat → ByteArray → Option (List ByteArray)
  | 0, _ => some []
  | n + 1, x => (impl_mirroredShape.f x).bind fun m => (impl_turnedShape.f x).bind fun t => (e8s n t).bind fun r => some (x :: m :: r)
def impl_leastShape.f (s : ByteArray) : Option ByteArray := (e8s 4 s).bind fun L => some (Lib.minOfS L)


/-! ### spec_l1Split: function 84 -/
def spec_l1Split.l0 : Nat → ByteArray → Int → List ByteArray → Int → Int → Option (List ByteArray)
  | 0, _, _, _, _, _ => none
  | k + 1, x0, x1, x5, x6, x7 => if x7 < (x0.size : Int) then (if 0 ≤ x7 then (if (bt x0 x7) = x1 then (if 0 ≤ x6 then (if x6 ≤ x7 then (if x7 ≤ (x0.size : Int) then (if x5.length < 8796093022208 then (spec_l1Split.l0 k x0 x1 (x5 ++ [x0.extract (x6 : Int).toNat (x7 : Int).toNat]) (wrap64 (x7 + 1)) (wrap64 (x7 + 1))) else (none)) else (none)) else (none)) else (none)) else (spec_l1Split.l0 k x0 x1 x5 x6 (wrap64 (x7 + 1)))) else (none)) else (if 0 ≤ x6 then (if x6 ≤ (x0.size : Int) then (if x5.length < 8796093022208 then (some (x5 ++ [x0.extract (x6 : Int).toNat x0.size])) else (none)) else (none)) else (none))
def spec_l1Split.f (k : Nat) (a0 : ByteArray) (a1 : Int) : Option (List ByteArray) := spec_l1Split.l0 k a0 a1 ([] : List ByteArray) 0 0
/-! ### spec_piRows: function 49 -/
def spec_piRows.f (k : Nat) (a0 : ByteArray) : Option (List ByteArray) := (spec_l1Split.f k a0 47).bind fun t113 => (some t113)
/-! ### spec_piTurn: function 28 -/
/-- the reference's turned text: columns, each from the last row up -/
def ptCol (ps : List ByteArray) (x : Nat) : Nat → ByteArray → ByteArray
  | 0, a => a
  | m + 1, a => ptCol ps x m (a ++ (rdOf ByteArray.empty ps (m : Int)).extract x (x + 1))
def ptAcc (ps : List ByteArray) : Nat → ByteArray
  | 0 => ⟨#[]⟩
  | x + 1 => ptCol ps x ps.length (if 0 < x then ptAcc ps x ++ ⟨#[47]⟩ else ptAcc ps x)
def ptF (ps : List ByteArray) : Option ByteArray := if (0 < ps.length ∧ ps.length ≤ 1000001) ∧ (∀ r ∈ ps, r.size = (rdOf ByteArray.empty ps 0).size) ∧ (rdOf ByteArray.empty ps 0).size ≤ 1000000 ∧ (∀ b ∈ (rdOf ByteArray.empty ps 0).data.toList, b.toNat < 128) then some (ptAcc ps (rdOf ByteArray.empty ps 0).size) else none
def spec_piTurn.f (k : Nat) (s : ByteArray) : Option ByteArray := (spec_piRows.f k s).bind ptF
/-! ### spec_piMirror: function 65 -/
mutual
def spec_piMirror.l0 : Nat → ByteArray → List ByteArray → Int → Int → Option (ByteArray)
  | 0, _, _, _, _ => none
  | k + 1, x3, x8, x9, x10 => if x10 < x9 then (if 0 ≤ x10 then (if x10 < (x8.length : Int) then (if x10 > 0 then (if x3.size + 1 ≤ 9223372036854775807 then (spec_piMirror.j1 k (x3 ++ (⟨#[47]⟩ : ByteArray)) (rdOf ByteArray.empty x8 x10) x8 x9 x10) else (none)) else (spec_piMirror.j1 k x3 (rdOf ByteArray.empty x8 x10) x8 x9 x10)) else (none)) else (none)) else (some x3)
def spec_piMirror.j1 : Nat → ByteArray → ByteArray → List ByteArray → Int → Int → Option (ByteArray)
  | 0, _, _, _, _, _ => none
  | k + 1, x3, x5, x8, x9, x10 => spec_piMirror.l1 k x3 x5 (wrap64 ((x5.size : Int) - 1)) x8 x9 x10
def spec_piMirror.l1 : Nat → ByteArray → ByteArray → Int → List ByteArray → Int → Int → Option (ByteArray)
  | 0, _, _, _, _, _, _ => none
  | k + 1, x3, x5, x6, x8, x9, x10 => if x6 ≥ 0 then (if 0 ≤ x6 then (if x6 ≤ (wrap64 (x6 + 1)) then (if (wrap64 (x6 + 1)) ≤ (x5.size : Int) then (if x3.size + (x5.extract (x6 : Int).toNat ((wrap64 (x6 + 1)) : Int).toNat).size ≤ 9223372036854775807 then (spec_piMirror.l1 k (x3 ++ (x5.extract (x6 : Int).toNat ((wrap64 (x6 + 1)) : Int).toNat)) x5 (wrap64 (x6 - 1)) x8 x9 x10) else (none)) else (none)) else (none)) else (none)) else (spec_piMirror.l0 k x3 x8 x9 (wrap64 (x10 + 1)))
end
def spec_piMirror.f (k : Nat) (a0 : ByteArray) : Option (ByteArray) := (spec_piRows.f k a0).bind fun t116 => (spec_piMirror.l0 k (⟨#[]⟩ : ByteArray) t116 (t116.length : Int) 0)
/-! ### spec_piMin: function 64 -/
def spec_piMin.f (a0 : ByteArray) (a1 : ByteArray) : Option (ByteArray) := if (Op.bytesLess a1.toList a0.toList) = true then (some a1) else (some a0)

/-! ### spec_piLeast: function 30 -/
def spec_piLeast.l0 : Nat → ByteArray → ByteArray → Int → Option (ByteArray)
  | 0, _, _, _ => none
  | k + 1, x0, x3, x4 => if x4 < 4 then ((spec_piMirror.f k x0).bind fun t120 => ((spec_piMin.f x0 t120).bind fun t121 => ((spec_piMin.f x3 t121).bind fun t122 => ((spec_piTurn.f k x0).bind fun t123 => (spec_piLeast.l0 k t123 t122 (wrap64 (x4 + 1))))))) else (some x3)
def spec_piLeast.f (k : Nat) (a0 : ByteArray) : Option (ByteArray) := spec_piLeast.l0 k a0 a0 0
/-! ### impl_Figure_grid: function 40 -/
def impl_Figure_grid.f (a0_0 : Int) (a0_1 : Int) (l0_2 : List Int) (l0_3 : List Int) : Option (Int × Int) := some (a0_0, a0_1)

/-! ### impl_grid_levels: function 78 -/
def impl_grid_levels.f (a0_0 : Int) (a0_1 : Int) : Option (Int) := some (wrap64 (a0_0 * (wrap64 (a0_1 + 1))))

/-! ### impl_Figure_set: function 42 -/
mutual
def impl_Figure_set.l0 : Nat → Int → List Int → Int → Int → Int → Int → List Int → List Int → Option (Int)
  | 0, _, _, _, _, _, _, _, _ => none
  | k + 1, x3, x9, x10, x11, x128000, x128001, x128002, x128003 => if x11 < x10 then (if 0 ≤ x11 then (if x11 < (x9.length : Int) then (if 0 ≤ (rd x9 x11) then (impl_Figure_set.l0 k (Go.bits .or .u64 x3 (shl .u64 1 (rd x9 x11))) x9 x10 (wrap64 (x11 + 1)) x128000 x128001 x128002 x128003) else (none)) else (none)) else (none)) else (impl_Figure_set.l1 k x3 x128003 (x128003.length : Int) 0 x128000 x128001 x128002 x128003)
def impl_Figure_set.l1 : Nat → Int → List Int → Int → Int → Int → Int → List Int → List Int → Option (Int)
  | 0, _, _, _, _, _, _, _, _ => none
  | k + 1, x3, x21, x22, x23, x128000, x128001, x128002, x128003 => if x23 < x22 then (if 0 ≤ x23 then (if x23 < (x21.length : Int) then ((impl_Figure_grid.f x128000 x128001 x128002 x128003).bind fun bt130 => ((impl_grid_levels.f bt130.1 bt130.2).bind fun t132 => (if 0 ≤ (wrap64 (t132 + (rd x21 x23))) then (impl_Figure_set.l1 k (Go.bits .or .u64 x3 (shl .u64 1 (wrap64 (t132 + (rd x21 x23))))) x21 x22 (wrap64 (x23 + 1)) x128000 x128001 x128002 x128003) else (none)))) else (none)) else (none)) else (some x3)
end
def impl_Figure_set.f (k : Nat) (a0_0 : Int) (a0_1 : Int) (l0_2 : List Int) (l0_3 : List Int) : Option (Int) := impl_Figure_set.l0 k 0 l0_2 (l0_2.length : Int) 0 a0_0 a0_1 l0_2 l0_3
/-! ### impl_grid_isCell: function 113 -/
def impl_grid_isCell.f (a0_0 : Int) (a0_1 : Int) (a1 : Int) (a2 : Int) : Option (Bool) := (impl_within.f a1 0 (wrap64 (a0_0 - 1))).bind fun t134 => (if t134 = true then ((impl_within.f a2 0 (wrap64 (a0_1 - 1))).bind fun t135 => (some t135)) else (some false))

/-! ### spec_l1In: function 34 -/
def spec_l1In.f (a0 : Int) (a1 : Int) (a2 : Int) : Option (Bool) := if a0 ≥ a1 then (some (decide (a0 ≤ a2))) else (some false)

/-! ### spec_fiGrid: function 69 -/
def spec_fiGrid.f (a0 : Int) (a1 : Int) : Option (Bool) := (spec_l1In.f a0 1 4).bind fun t136 => (if t136 = true then ((spec_l1In.f a1 1 4).bind fun t137 => (some t137)) else (some false))

/-! ### spec_l1All: function 96 -/
def spec_l1All.l0 : Nat → Int → Int → List Int → Int → Int → Option (Bool)
  | 0, _, _, _, _, _ => none
  | k + 1, x1, x2, x9, x10, x11 => if x11 < x10 then (if 0 ≤ x11 then (if x11 < (x9.length : Int) then ((spec_l1In.f (rd x9 x11) x1 x2).bind fun t139 => (if t139 = true then (spec_l1All.l0 k x1 x2 x9 x10 (wrap64 (x11 + 1))) else (some false))) else (none)) else (none)) else (some true)
def spec_l1All.f (k : Nat) (l0 : List Int) (a1 : Int) (a2 : Int) : Option (Bool) := spec_l1All.l0 k a1 a2 l0 (l0.length : Int) 0
/-! ### spec_fiRises: function 70 -/
mutual
def spec_fiRises.j0 : Nat → List Int → Bool → Option (Bool)
  | 0, _, _ => none
  | k + 1, x0, x16 => if x16 = true then (some false) else (spec_fiRises.l0 k x0 1)
def spec_fiRises.l0 : Nat → List Int → Int → Option (Bool)
  | 0, _, _ => none
  | k + 1, x0, x5 => if x5 < (x0.length : Int) then (if 0 ≤ (wrap64 (x5 - 1)) then (if (wrap64 (x5 - 1)) < (x0.length : Int) then (if 0 ≤ x5 then (if (rd x0 (wrap64 (x5 - 1))) ≥ (rd x0 x5) then (some false) else (spec_fiRises.l0 k x0 (wrap64 (x5 + 1)))) else (none)) else (none)) else (none)) else (some true)
end
def spec_fiRises.f (k : Nat) (l0 : List Int) (a1 : Int) : Option (Bool) := if (l0.length : Int) > (wrap64 (a1 + 1)) then (spec_fiRises.j0 k l0 true) else ((spec_l1All.f k l0 0 a1).bind fun t140 => (spec_fiRises.j0 k l0 (!t140)))
/-! ### spec_fiGood: function 33 -/
def spec_fiGood.f (k : Nat) (a0_0 : Int) (a0_1 : Int) (l0_2 : List Int) (l0_3 : List Int) : Option (Bool) := (spec_fiGrid.f a0_0 a0_1).bind fun t144 => (if t144 = true then ((spec_fiRises.f k l0_2 (wrap64 ((wrap64 (a0_0 * (wrap64 (a0_1 + 1)))) - 1))).bind fun t145 => (if t145 = true then ((spec_fiRises.f k l0_3 (wrap64 ((wrap64 ((wrap64 (a0_0 + 1)) * a0_1)) - 1))).bind fun t146 => (some t146)) else (some false))) else (some false))
/-! ### spec_l1Least: function 72 -/
def spec_l1Least.f (a0 : Int) (a1 : Int) : Option (Int) := if a0 < a1 then (some a0) else (some a1)

/-! ### spec_l1Has: function 36 -/
def spec_l1Has.l0 : Nat → Int → List Int → Int → Int → Option (Bool)
  | 0, _, _, _, _ => none
  | k + 1, x1, x7, x8, x9 => if x9 < x8 then (if 0 ≤ x9 then (if x9 < (x7.length : Int) then (if (rd x7 x9) = x1 then (some true) else (spec_l1Has.l0 k x1 x7 x8 (wrap64 (x9 + 1)))) else (none)) else (none)) else (some false)
def spec_l1Has.f (k : Nat) (l0 : List Int) (a1 : Int) : Option (Bool) := spec_l1Has.l0 k a1 l0 (l0.length : Int) 0
/-! ### spec_fiEdge: function 120 -/
def spec_fiEdge.f (a0_0 : Int) (a0_1 : Int) (l0_2 : List Int) (l0_3 : List Int) (a1 : Bool) (a2 : Int) (a3 : Int) : Option (Int × Bool) := if a1 = true then ((spec_l1In.f a2 0 a0_0).bind fun t149 => (if t149 = true then ((spec_l1In.f a3 0 (wrap64 (a0_1 - 1))).bind fun t150 => (some (wrap64 ((wrap64 (a3 * (wrap64 (a0_0 + 1)))) + a2), t150))) else (some (wrap64 ((wrap64 (a3 * (wrap64 (a0_0 + 1)))) + a2), false)))) else ((spec_l1In.f a2 0 (wrap64 (a0_0 - 1))).bind fun t151 => (if t151 = true then ((spec_l1In.f a3 0 a0_1).bind fun t152 => (some (wrap64 ((wrap64 (a3 * a0_0)) + a2), t152))) else (some (wrap64 ((wrap64 (a3 * a0_0)) + a2), false))))

/-! ### spec_fiHas: function 110 -/
def spec_fiHas.f (k : Nat) (a0_0 : Int) (a0_1 : Int) (l0_2 : List Int) (l0_3 : List Int) (a1 : Bool) (a2 : Int) (a3 : Int) : Option (Bool) := (spec_fiEdge.f a0_0 a0_1 l0_2 l0_3 a1 a2 a3).bind fun bt154 => (if a1 = true then ((spec_l1Has.f k l0_3 bt154.1).bind fun t156 => (some t156)) else ((spec_l1Has.f k l0_2 bt154.1).bind fun t157 => (some t157)))
/-! ### spec_piSame: function 97 -/
def spec_piSame.f (k : Nat) (a0_0 : Int) (a0_1 : Int) (l0_2 : List Int) (l0_3 : List Int) (a1 : Int) (a2 : Int) (a3 : Bool) : Option (Bool) := if a3 = true then ((spec_fiHas.f k a0_0 a0_1 l0_2 l0_3 false a1 (wrap64 (a2 + 1))).bind fun t159 => (some (!t159))) else ((spec_fiHas.f k a0_0 a0_1 l0_2 l0_3 true (wrap64 (a1 + 1)) a2).bind fun t160 => (some (!t160)))
/-! ### spec_piGroups: function 71 -/
mutual
def spec_piGroups.l0 : Nat → List Int → Int → Int → Int → Int → List Int → List Int → Option (List Int)
  | 0, _, _, _, _, _, _, _ => none
  | k + 1, x3, x18, x19, x162000, x162001, x162002, x162003 => if x19 < x18 then (if 0 ≤ x19 then (if x19 < (x3.length : Int) then (spec_piGroups.l0 k (x3.set (x19 : Int).toNat x19) x18 (wrap64 (x19 + 1)) x162000 x162001 x162002 x162003) else (none)) else (none)) else (spec_piGroups.l1 k x3 true x162000 x162001 x162002 x162003)
def spec_piGroups.l1 : Nat → List Int → Bool → Int → Int → List Int → List Int → Option (List Int)
  | 0, _, _, _, _, _, _ => none
  | k + 1, x3, x5, x162000, x162001, x162002, x162003 => if x5 = true then (spec_piGroups.l2 k x3 false 0 x162000 x162001 x162002 x162003) else (some x3)
def spec_piGroups.l2 : Nat → List Int → Bool → Int → Int → Int → List Int → List Int → Option (List Int)
  | 0, _, _, _, _, _, _, _ => none
  | k + 1, x3, x5, x6, x162000, x162001, x162002, x162003 => if x6 < x162001 then (spec_piGroups.l3 k x3 x5 x6 0 x162000 x162001 x162002 x162003) else (spec_piGroups.l1 k x3 x5 x162000 x162001 x162002 x162003)
def spec_piGroups.l3 : Nat → List Int → Bool → Int → Int → Int → Int → List Int → List Int → Option (List Int)
  | 0, _, _, _, _, _, _, _, _ => none
  | k + 1, x3, x5, x6, x7, x162000, x162001, x162002, x162003 => if x7 < x162000 then (if (wrap64 (x7 + 1)) < x162000 then ((spec_piSame.f k x162000 x162001 x162002 x162003 x7 x6 false).bind fun t166 => (if t166 = true then (if 0 ≤ (wrap64 ((wrap64 (x6 * x162000)) + x7)) then (if (wrap64 ((wrap64 (x6 * x162000)) + x7)) < (x3.length : Int) then (if 0 ≤ (wrap64 ((wrap64 ((wrap64 (x6 * x162000)) + x7)) + 1)) then (if (wrap64 ((wrap64 ((wrap64 (x6 * x162000)) + x7)) + 1)) < (x3.length : Int) then (spec_piGroups.j4 k x3 x5 x6 x7 (wrap64 ((wrap64 (x6 * x162000)) + x7)) ((rd x3 (wrap64 ((wrap64 (x6 * x162000)) + x7))) != (rd x3 (wrap64 ((wrap64 ((wrap64 (x6 * x162000)) + x7)) + 1)))) x162000 x162001 x162002 x162003) else (none)) else (none)) else (none)) else (none)) else (spec_piGroups.j4 k x3 x5 x6 x7 (wrap64 ((wrap64 (x6 * x162000)) + x7)) false x162000 x162001 x162002 x162003))) else (spec_piGroups.j4 k x3 x5 x6 x7 (wrap64 ((wrap64 (x6 * x162000)) + x7)) false x162000 x162001 x162002 x162003)) else (spec_piGroups.l2 k x3 x5 (wrap64 (x6 + 1)) x162000 x162001 x162002 x162003)
def spec_piGroups.j4 : Nat → List Int → Bool → Int → Int → Int → Bool → Int → Int → List Int → List Int → Option (List Int)
  | 0, _, _, _, _, _, _, _, _, _, _ => none
  | k + 1, x3, x5, x6, x7, x8, x68, x162000, x162001, x162002, x162003 => if x68 = true then (if 0 ≤ x8 then (if x8 < (x3.length : Int) then (if 0 ≤ (wrap64 (x8 + 1)) then (if (wrap64 (x8 + 1)) < (x3.length : Int) then ((spec_l1Least.f (rd x3 x8) (rd x3 (wrap64 (x8 + 1)))).bind fun t171 => (spec_piGroups.j5 k ((x3.set (x8 : Int).toNat t171).set ((wrap64 (x8 + 1)) : Int).toNat t171) true x6 x7 x8 x162000 x162001 x162002 x162003)) else (none)) else (none)) else (none)) else (none)) else (spec_piGroups.j5 k x3 x5 x6 x7 x8 x162000 x162001 x162002 x162003)
def spec_piGroups.j5 : Nat → List Int → Bool → Int → Int → Int → Int → Int → List Int → List Int → Option (List Int)
  | 0, _, _, _, _, _, _, _, _, _ => none
  | k + 1, x3, x5, x6, x7, x8, x162000, x162001, x162002, x162003 => if (wrap64 (x6 + 1)) < x162001 then ((spec_piSame.f k x162000 x162001 x162002 x162003 x7 x6 true).bind fun t174 => (if t174 = true then (if 0 ≤ x8 then (if x8 < (x3.length : Int) then (if 0 ≤ (wrap64 (x8 + x162000)) then (if (wrap64 (x8 + x162000)) < (x3.length : Int) then (if (rd x3 x8) = (rd x3 (wrap64 (x8 + x162000))) then (spec_piGroups.l3 k x3 x5 x6 (wrap64 (x7 + 1)) x162000 x162001 x162002 x162003) else ((spec_l1Least.f (rd x3 x8) (rd x3 (wrap64 (x8 + x162000)))).bind fun t179 => (spec_piGroups.l3 k ((x3.set (x8 : Int).toNat t179).set ((wrap64 (x8 + x162000)) : Int).toNat t179) true x6 (wrap64 (x7 + 1)) x162000 x162001 x162002 x162003))) else (none)) else (none)) else (none)) else (none)) else (spec_piGroups.l3 k x3 x5 x6 (wrap64 (x7 + 1)) x162000 x162001 x162002 x162003))) else (spec_piGroups.l3 k x3 x5 x6 (wrap64 (x7 + 1)) x162000 x162001 x162002 x162003)
end
def spec_piGroups.f (k : Nat) (a0_0 : Int) (a0_1 : Int) (l0_2 : List Int) (l0_3 : List Int) : Option (List Int) := if 0 ≤ (wrap64 (a0_0 * a0_1)) then (if (wrap64 (a0_0 * a0_1) : Int).toNat ≤ 35184372088832 then ((some (List.replicate (wrap64 (a0_0 * a0_1) : Int).toNat 0 : List Int)).bind fun y162 => (spec_piGroups.l0 k y162 (y162.length : Int) 0 a0_0 a0_1 l0_2 l0_3)) else (none)) else (none)
/-! ### spec_piPieces: function 35 -/
mutual
def spec_piPieces.l0 : Nat → List Int → List (List Int) → List Int → Int → Int → Option ((List (List Int)))
  | 0, _, _, _, _, _ => none
  | k + 1, x3, x4, x12, x13, x14 => if x14 < x13 then (if 0 ≤ x14 then (if x14 < (x12.length : Int) then (if (rd x12 x14) = x14 then (spec_piPieces.l1 k x3 x4 x14 ([] : List Int) x12 x13 x14 x3 (x3.length : Int) 0) else (spec_piPieces.l0 k x3 x4 x12 x13 (wrap64 (x14 + 1)))) else (none)) else (none)) else (some x4)
def spec_piPieces.l1 : Nat → List Int → List (List Int) → Int → List Int → List Int → Int → Int → List Int → Int → Int → Option ((List (List Int)))
  | 0, _, _, _, _, _, _, _, _, _, _ => none
  | k + 1, x3, x4, x5, x7, x12, x13, x14, x22, x23, x24 => if x24 < x23 then (if 0 ≤ x24 then (if x24 < (x22.length : Int) then (if (rd x22 x24) = x5 then (if x7.length < 17592186044416 then (spec_piPieces.l1 k x3 x4 x5 (x7 ++ [x24]) x12 x13 x14 x22 x23 (wrap64 (x24 + 1))) else (none)) else (spec_piPieces.l1 k x3 x4 x5 x7 x12 x13 x14 x22 x23 (wrap64 (x24 + 1)))) else (none)) else (none)) else (if x4.length < 5864062014805 then (spec_piPieces.l0 k x3 (x4 ++ [x7]) x12 x13 (wrap64 (x14 + 1))) else (none))
end
def spec_piPieces.f (k : Nat) (a0_0 : Int) (a0_1 : Int) (l0_2 : List Int) (l0_3 : List Int) : Option ((List (List Int))) := (spec_piGroups.f k a0_0 a0_1 l0_2 l0_3).bind fun t183 => (spec_piPieces.l0 k t183 ([] : List (List Int)) t183 (t183.length : Int) 0)
/-! ### spec_l1Most: function 73 -/
def spec_l1Most.f (a0 : Int) (a1 : Int) : Option (Int) := if a0 > a1 then (some a0) else (some a1)

/-! ### spec_piText: function 37 -/
mutual
def spec_piText.l0 : Nat → Int → List Int → Int → Int → Int → Int → List Int → Int → Int → Option (ByteArray)
  | 0, _, _, _, _, _, _, _, _, _ => none
  | k + 1, x0, x1, x5, x6, x7, x8, x15, x16, x17 => if x17 < x16 then (if 0 ≤ x17 then (if x17 < (x15.length : Int) then (if x0 = 0 then (none) else ((spec_l1Least.f x5 (Int.tmod (rd x15 x17) x0)).bind fun t195 => ((spec_l1Most.f x6 (Int.tmod (rd x15 x17) x0)).bind fun t196 => ((spec_l1Least.f x7 (wrap64 (Int.tdiv (rd x15 x17) x0))).bind fun t197 => ((spec_l1Most.f x8 (wrap64 (Int.tdiv (rd x15 x17) x0))).bind fun t198 => (spec_piText.l0 k x0 x1 t195 t196 t197 t198 x15 x16 (wrap64 (x17 + 1)))))))) else (none)) else (none)) else (spec_piText.l1 k x0 x1 x5 x6 x7 x8 (⟨#[]⟩ : ByteArray) x7)
def spec_piText.l1 : Nat → Int → List Int → Int → Int → Int → Int → ByteArray → Int → Option (ByteArray)
  | 0, _, _, _, _, _, _, _, _ => none
  | k + 1, x0, x1, x5, x6, x7, x8, x11, x12 => if x12 ≤ x8 then (if x12 > x7 then (if x11.size + 1 ≤ 9223372036854775807 then (spec_piText.j2 k x0 x1 x5 x6 x7 x8 (x11 ++ (⟨#[47]⟩ : ByteArray)) x12) else (none)) else (spec_piText.j2 k x0 x1 x5 x6 x7 x8 x11 x12)) else (some x11)
def spec_piText.j2 : Nat → Int → List Int → Int → Int → Int → Int → ByteArray → Int → Option (ByteArray)
  | 0, _, _, _, _, _, _, _, _ => none
  | k + 1, x0, x1, x5, x6, x7, x8, x11, x12 => spec_piText.l2 k x0 x1 x5 x6 x7 x8 x11 x12 x5
def spec_piText.l2 : Nat → Int → List Int → Int → Int → Int → Int → ByteArray → Int → Int → Option (ByteArray)
  | 0, _, _, _, _, _, _, _, _, _ => none
  | k + 1, x0, x1, x5, x6, x7, x8, x11, x12, x13 => if x13 ≤ x6 then ((spec_l1Has.f k x1 (wrap64 ((wrap64 (x12 * x0)) + x13))).bind fun t199 => (if t199 = true then (if x11.size + 1 ≤ 9223372036854775807 then (spec_piText.l2 k x0 x1 x5 x6 x7 x8 (x11 ++ (⟨#[111]⟩ : ByteArray)) x12 (wrap64 (x13 + 1))) else (none)) else (if x11.size + 1 ≤ 9223372036854775807 then (spec_piText.l2 k x0 x1 x5 x6 x7 x8 (x11 ++ (⟨#[46]⟩ : ByteArray)) x12 (wrap64 (x13 + 1))) else (none)))) else (spec_piText.l1 k x0 x1 x5 x6 x7 x8 x11 (wrap64 (x12 + 1)))
end
def spec_piText.f (k : Nat) (a0 : Int) (l1 : List Int) : Option (ByteArray) := spec_piText.l0 k a0 l1 a0 0 100 0 l1 (l1.length : Int) 0
/-! ### spec_PieceShape: function 15 -/
mutual
def spec_PieceShape.j0 : Nat → Int → Bool → Int → Int → List Int → List Int → Option (ByteArray × Bool)
  | 0, _, _, _, _, _, _ => none
  | k + 1, x1, x21, x201000, x201001, x201002, x201003 => if x21 = true then (some ((⟨#[]⟩ : ByteArray), false)) else ((spec_piPieces.f k x201000 x201001 x201002 x201003).bind fun t203 => (spec_PieceShape.l0 k x1 t203 (t203.length : Int) 0 x201000 x201001 x201002 x201003))
def spec_PieceShape.l0 : Nat → Int → List (List Int) → Int → Int → Int → Int → List Int → List Int → Option (ByteArray × Bool)
  | 0, _, _, _, _, _, _, _, _ => none
  | k + 1, x1, x23, x24, x25, x201000, x201001, x201002, x201003 => if x25 < x24 then (if 0 ≤ x25 then (if x25 < (x23.length : Int) then ((spec_l1Has.f k (rd_L3 x23 x25) x1).bind fun t207 => (if t207 = true then ((spec_piText.f k x201000 (rd_L3 x23 x25)).bind fun t208 => ((spec_piLeast.f k t208).bind fun t209 => (some (t209, true)))) else (spec_PieceShape.l0 k x1 x23 x24 (wrap64 (x25 + 1)) x201000 x201001 x201002 x201003))) else (none)) else (none)) else (some ((⟨#[]⟩ : ByteArray), false))
end
def spec_PieceShape.f (k : Nat) (a0_0 : Int) (a0_1 : Int) (l0_2 : List Int) (l0_3 : List Int) (a1 : Int) : Option (ByteArray × Bool) := (spec_fiGood.f k a0_0 a0_1 l0_2 l0_3).bind fun t201 => (if t201 = true then ((spec_l1In.f a1 0 (wrap64 ((wrap64 (a0_0 * a0_1)) - 1))).bind fun t202 => (spec_PieceShape.j0 k a1 (!t202) a0_0 a0_1 l0_2 l0_3)) else (spec_PieceShape.j0 k a1 true a0_0 a0_1 l0_2 l0_3))
/-! ### impl_isGrid: function 75 -/
def impl_isGrid.f (a0 : Int) (a1 : Int) : Option (Bool) := (impl_within.f a0 1 4).bind fun t210 => (if t210 = true then ((impl_within.f a1 1 4).bind fun t211 => (some t211)) else (some false))

/-! ### impl_isRising: function 76 -/
def impl_isRising.l0 : Nat → List Int → Int → Option (Bool)
  | 0, _, _ => none
  | k + 1, x0, x3 => if x3 < (x0.length : Int) then (if 0 ≤ x3 then (if 0 ≤ (wrap64 (x3 - 1)) then (if (wrap64 (x3 - 1)) < (x0.length : Int) then (if (rd x0 x3) ≤ (rd x0 (wrap64 (x3 - 1))) then (some false) else (impl_isRising.l0 k x0 (wrap64 (x3 + 1)))) else (none)) else (none)) else (none)) else (some true)
def impl_isRising.f (k : Nat) (l0 : List Int) : Option (Bool) := impl_isRising.l0 k l0 1
/-! ### impl_areWithin: function 77 -/
/-- outside of lo .. hi -/
def awP (lo hi : Int) (n : Int) : Bool := !(decide (lo ≤ n) && decide (n ≤ hi))
def impl_areWithin.f (l0 : List Int) (a1 : Int) (a2 : Int) : Option (Bool) := some (!l0.any (awP a1 a2))


/-! ### impl_grid_uprights: function 79 -/
def impl_grid_uprights.f (a0_0 : Int) (a0_1 : Int) : Option (Int) := some (wrap64 (a0_1 * (wrap64 (a0_0 + 1))))

/-! ### impl_IsFigure: function 39 -/
def impl_IsFigure.f (k : Nat) (a0_0 : Int) (a0_1 : Int) (l0_2 : List Int) (l0_3 : List Int) : Option (Bool) := (impl_isGrid.f a0_0 a0_1).bind fun t216 => (if t216 = true then ((impl_isRising.f k l0_2).bind fun t217 => (if t217 = true then ((impl_isRising.f k l0_3).bind fun t218 => (if t218 = true then ((impl_Figure_grid.f a0_0 a0_1 l0_2 l0_3).bind fun bt219 => ((impl_grid_levels.f bt219.1 bt219.2).bind fun t221 => ((impl_areWithin.f l0_2 0 (wrap64 (t221 - 1))).bind fun t222 => (if t222 = true then ((impl_Figure_grid.f a0_0 a0_1 l0_2 l0_3).bind fun bt223 => ((impl_grid_uprights.f bt223.1 bt223.2).bind fun t225 => ((impl_areWithin.f l0_3 0 (wrap64 (t225 - 1))).bind fun t226 => (some t226)))) else (some false))))) else (some false))) else (some false))) else (some false))
/-! ### impl_grid_beside: function 100 -/
/-- a cell's number, -1 where the grid has none -/
def numAt (w h x y : Int) : Int := if 0 ≤ x ∧ x < w ∧ 0 ≤ y ∧ y < h then y * w + x else -1
/-- the cells at both sides of an edge -/
def sides (w h k : Int) : Int × Int := if k < w * (h + 1) then (numAt w h (k % w) (k / w - 1), numAt w h (k % w) (k / w)) else (numAt w h ((k - w * (h + 1)) % (w + 1) - 1) ((k - w * (h + 1)) / (w + 1)), numAt w h ((k - w * (h + 1)) % (w + 1)) ((k - w * (h + 1)) / (w + 1)))
def impl_grid_beside.f (a0_0 : Int) (a0_1 : Int) (a1 : Int) : Option (Int × Int) := if 1 ≤ a0_0 ∧ a0_0 ≤ 4 ∧ 1 ≤ a0_1 ∧ a0_1 ≤ 4 ∧ 0 ≤ a1 ∧ a1 ≤ 40 then some (sides a0_0 a0_1 a1) else none

/-! ### impl_grid_regions: function 80 -/
mutual
def impl_grid_regions.l0 : Nat → Int → Bool → Int → List Int → Int → Int → Int → Int → Option ((List (List Int)))
  | 0, _, _, _, _, _, _, _, _ => none
  | k + 1, x1, x2, x7, x8, x26, x27, x228000, x228001 => if x27 < x26 then (if x8.length < 17592186044416 then (impl_grid_regions.l0 k x1 x2 x7 (x8 ++ [x27]) x26 (wrap64 (x27 + 1)) x228000 x228001) else (none)) else (impl_grid_regions.l1 k x1 x2 x7 x8 (wrap64 (x7 + 1)) 0 x228000 x228001)
def impl_grid_regions.l1 : Nat → Int → Bool → Int → List Int → Int → Int → Int → Int → Option ((List (List Int)))
  | 0, _, _, _, _, _, _, _, _ => none
  | k + 1, x1, x2, x7, x8, x36, x37, x228000, x228001 => if x37 < x36 then ((impl_grid_levels.f x228000 x228001).bind fun t234 => ((impl_grid_uprights.f x228000 x228001).bind fun t235 => (impl_grid_regions.l2 k x1 x2 x7 x8 x36 x37 (wrap64 (t234 + t235)) 0 x228000 x228001))) else (impl_grid_regions.l3 k x2 x7 x8 (([] : List (List Int))) x7 0)
def impl_grid_regions.l2 : Nat → Int → Bool → Int → List Int → Int → Int → Int → Int → Int → Int → Option ((List (List Int)))
  | 0, _, _, _, _, _, _, _, _, _, _ => none
  | k + 1, x1, x2, x7, x8, x36, x37, x43, x44, x228000, x228001 => if x44 < x43 then ((impl_grid_beside.f x228000 x228001 x44).bind fun bt236 => (if bt236.1 < 0 then (impl_grid_regions.j3 k x1 x2 x7 x8 x44 x7 bt236.2 x36 x37 x43 x44 x228000 x228001) else (impl_grid_regions.j3 k x1 x2 x7 x8 x44 bt236.1 bt236.2 x36 x37 x43 x44 x228000 x228001))) else (impl_grid_regions.l1 k x1 x2 x7 x8 x36 (wrap64 (x37 + 1)) x228000 x228001)
def impl_grid_regions.j3 : Nat → Int → Bool → Int → List Int → Int → Int → Int → Int → Int → Int → Int → Int → Int → Option ((List (List Int)))
  | 0, _, _, _, _, _, _, _, _, _, _, _, _, _ => none
  | k + 1, x1, x2, x7, x8, x10, x11, x12, x36, x37, x43, x44, x228000, x228001 => if x12 < 0 then (if 0 ≤ x10 then (if (Go.bits .and .u64 (shr .u64 x1 x10) 1) = 1 then (impl_grid_regions.l2 k x1 x2 x7 x8 x36 x37 x43 (wrap64 (x44 + 1)) x228000 x228001) else (if x2 = true then (if 0 ≤ x11 then (if x11 < (x8.length : Int) then (if 0 ≤ x7 then (if x7 < (x8.length : Int) then (impl_grid_regions.l2 k x1 x2 x7 ((x8.set (x11 : Int).toNat (mn (rd x8 x11) (rd x8 x7))).set (x7 : Int).toNat (mn (rd x8 x11) (rd x8 x7))) x36 x37 x43 (wrap64 (x44 + 1)) x228000 x228001) else (none)) else (none)) else (none)) else (none)) else (if (mx x11 x7) = x7 then (impl_grid_regions.l2 k x1 x2 x7 x8 x36 x37 x43 (wrap64 (x44 + 1)) x228000 x228001) else (if 0 ≤ x11 then (if x11 < (x8.length : Int) then (if 0 ≤ x7 then (if x7 < (x8.length : Int) then (impl_grid_regions.l2 k x1 x2 x7 ((x8.set (x11 : Int).toNat (mn (rd x8 x11) (rd x8 x7))).set (x7 : Int).toNat (mn (rd x8 x11) (rd x8 x7))) x36 x37 x43 (wrap64 (x44 + 1)) x228000 x228001) else (none)) else (none)) else (none)) else (none))))) else (none)) else (if 0 ≤ x10 then (if (Go.bits .and .u64 (shr .u64 x1 x10) 1) = 1 then (impl_grid_regions.l2 k x1 x2 x7 x8 x36 x37 x43 (wrap64 (x44 + 1)) x228000 x228001) else (if x2 = true then (if 0 ≤ x11 then (if x11 < (x8.length : Int) then (if 0 ≤ x12 then (if x12 < (x8.length : Int) then (impl_grid_regions.l2 k x1 x2 x7 ((x8.set (x11 : Int).toNat (mn (rd x8 x11) (rd x8 x12))).set (x12 : Int).toNat (mn (rd x8 x11) (rd x8 x12))) x36 x37 x43 (wrap64 (x44 + 1)) x228000 x228001) else (none)) else (none)) else (none)) else (none)) else (if (mx x11 x12) = x7 then (impl_grid_regions.l2 k x1 x2 x7 x8 x36 x37 x43 (wrap64 (x44 + 1)) x228000 x228001) else (if 0 ≤ x11 then (if x11 < (x8.length : Int) then (if 0 ≤ x12 then (if x12 < (x8.length : Int) then (impl_grid_regions.l2 k x1 x2 x7 ((x8.set (x11 : Int).toNat (mn (rd x8 x11) (rd x8 x12))).set (x12 : Int).toNat (mn (rd x8 x11) (rd x8 x12))) x36 x37 x43 (wrap64 (x44 + 1)) x228000 x228001) else (none)) else (none)) else (none)) else (none))))) else (none))
def impl_grid_regions.l3 : Nat → Bool → Int → List Int → List (List Int) → Int → Int → Option ((List (List Int)))
  | 0, _, _, _, _, _, _ => none
  | k + 1, x2, x7, x8, x14, x95, x96 => if x96 < x95 then (if 0 ≤ x7 then (if x7 ≤ (x8.length : Int) then ((some (x8.take (x7 : Int).toNat : List Int)).bind fun y260 => (impl_grid_regions.l4 k x2 x7 x8 x14 x96 (([] : List Int)) x95 x96 y260 (y260.length : Int) 0)) else (none)) else (none)) else (some x14)
def impl_grid_regions.l4 : Nat → Bool → Int → List Int → List (List Int) → Int → List Int → Int → Int → List Int → Int → Int → Option ((List (List Int)))
  | 0, _, _, _, _, _, _, _, _, _, _, _ => none
  | k + 1, x2, x7, x8, x14, x15, x16, x95, x96, x102, x103, x104 => if x104 < x103 then (if 0 ≤ x104 then (if x104 < (x102.length : Int) then (if (rd x102 x104) = x15 then (if x16.length < 17592186044416 then (impl_grid_regions.l4 k x2 x7 x8 x14 x15 (x16 ++ [x104]) x95 x96 x102 x103 (wrap64 (x104 + 1))) else (none)) else (impl_grid_regions.l4 k x2 x7 x8 x14 x15 x16 x95 x96 x102 x103 (wrap64 (x104 + 1)))) else (none)) else (none)) else (if (x16.length : Int) > 0 then (if x2 = true then (if 0 ≤ x7 then (if x7 < (x8.length : Int) then (if ((rd x8 x7) = x15) then (impl_grid_regions.l3 k x2 x7 x8 x14 x95 (wrap64 (x96 + 1))) else (if x14.length < 5864062014805 then (impl_grid_regions.l3 k x2 x7 x8 (x14 ++ [x16]) x95 (wrap64 (x96 + 1))) else (none))) else (none)) else (none)) else (if x14.length < 5864062014805 then (impl_grid_regions.l3 k x2 x7 x8 (x14 ++ [x16]) x95 (wrap64 (x96 + 1))) else (none))) else (impl_grid_regions.l3 k x2 x7 x8 x14 x95 (wrap64 (x96 + 1))))
end
def impl_grid_regions.f (k : Nat) (a0_0 : Int) (a0_1 : Int) (a1 : Int) (a2 : Bool) : Option ((List (List Int))) := impl_grid_regions.l0 k a1 a2 (wrap64 (a0_0 * a0_1)) (([] : List Int)) (wrap64 ((wrap64 (a0_0 * a0_1)) + 1)) 0 a0_0 a0_1
/-! ### impl_grid_pieces: function 41 -/
def impl_grid_pieces.f (k : Nat) (a0_0 : Int) (a0_1 : Int) (a1 : Int) : Option ((List (List Int))) := (impl_grid_regions.f k a0_0 a0_1 a1 false).bind fun t276 => (some t276)
/-! ### slices_Index_int_int: function 81 -/
def slices_Index_int_int.l0 : Nat → List Int → Int → Int → Int → Option (Int)
  | 0, _, _, _, _ => none
  | k + 1, x0, x1, x7, x8 => if x8 < x7 then (if 0 ≤ x8 then (if x8 < (x0.length : Int) then (if x1 = (rd x0 x8) then (some x8) else (slices_Index_int_int.l0 k x0 x1 x7 (wrap64 (x8 + 1)))) else (none)) else (none)) else (some (-1))
def slices_Index_int_int.f (k : Nat) (l0 : List Int) (a1 : Int) : Option (Int) := slices_Index_int_int.l0 k l0 a1 (l0.length : Int) 0
/-! ### slices_Contains_int_int: function 43 -/
def slices_Contains_int_int.f (k : Nat) (l0 : List Int) (a1 : Int) : Option (Bool) := (slices_Index_int_int.f k l0 a1).bind fun t280 => (some (decide (t280 ≥ 0)))
/-! ### impl_grid_shape: function 44 -/
mutual
def impl_grid_shape.l0 : Nat → List Int → List Int → Int → Int → Int → Int → Int → Int → Int → Int → Option (ByteArray)
  | 0, _, _, _, _, _, _, _, _, _, _ => none
  | k + 1, x1, x19, x20, x21, x282000, x282001, x283000, x283001, x284000, x284001 => if x21 < x20 then (if 0 ≤ x21 then (if x21 < (x19.length : Int) then (if x282000 = 0 then (none) else (impl_grid_shape.l0 k x1 x19 x20 (wrap64 (x21 + 1)) x282000 x282001 (mn x283000 (Int.tmod (rd x19 x21) x282000)) (mn x283001 (wrap64 (Int.tdiv (rd x19 x21) x282000))) (mx x284000 (Int.tmod (rd x19 x21) x282000)) (mx x284001 (wrap64 (Int.tdiv (rd x19 x21) x282000))))) else (none)) else (none)) else (impl_grid_shape.l1 k x1 (([] : List ByteArray)) x283001 x282000 x282001 x283000 x283001 x284000 x284001)
def impl_grid_shape.l1 : Nat → List Int → List ByteArray → Int → Int → Int → Int → Int → Int → Int → Option (ByteArray)
  | 0, _, _, _, _, _, _, _, _, _ => none
  | k + 1, x1, x9, x10, x282000, x282001, x283000, x283001, x284000, x284001 => if x10 ≤ x284001 then (impl_grid_shape.l2 k x1 x9 x10 (([] : List Int)) x283000 x282000 x282001 x283000 x283001 x284000 x284001) else ((strings_Join.f x9 (⟨#[47]⟩ : ByteArray)).bind fun t288 => ((impl_leastShape.f t288).bind fun t289 => (some t289)))
def impl_grid_shape.l2 : Nat → List Int → List ByteArray → Int → List Int → Int → Int → Int → Int → Int → Int → Int → Option (ByteArray)
  | 0, _, _, _, _, _, _, _, _, _, _, _ => none
  | k + 1, x1, x9, x10, x11, x12, x282000, x282001, x283000, x283001, x284000, x284001 => if x12 ≤ x284000 then ((slices_Contains_int_int.f k x1 (wrap64 ((wrap64 (x10 * x282000)) + x12))).bind fun t293 => (if t293 = true then (if x11.length < 140737488355328 then (impl_grid_shape.l2 k x1 x9 x10 (x11 ++ [111]) (wrap64 (x12 + 1)) x282000 x282001 x283000 x283001 x284000 x284001) else (none)) else (if x11.length < 140737488355328 then (impl_grid_shape.l2 k x1 x9 x10 (x11 ++ [46]) (wrap64 (x12 + 1)) x282000 x282001 x283000 x283001 x284000 x284001) else (none)))) else (if x9.length < 8796093022208 then (impl_grid_shape.l1 k x1 (x9 ++ [strOfNums x11]) (wrap64 (x10 + 1)) x282000 x282001 x283000 x283001 x284000 x284001) else (none))
end
def impl_grid_shape.f (k : Nat) (a0_0 : Int) (a0_1 : Int) (l1 : List Int) : Option (ByteArray) := impl_grid_shape.l0 k l1 l1 (l1.length : Int) 0 a0_0 a0_1 a0_0 a0_1 0 0
/-! ### impl_PieceShape: function 17 -/
mutual
def impl_PieceShape.j0 : Nat → Int → Bool → Int → Int → List Int → List Int → Option (ByteArray × Bool)
  | 0, _, _, _, _, _, _ => none
  | k + 1, x1, x22, x304000, x304001, x304002, x304003 => if x22 = true then (some ((⟨#[]⟩ : ByteArray), false)) else ((impl_Figure_grid.f x304000 x304001 x304002 x304003).bind fun bt306 => ((impl_Figure_set.f k x304000 x304001 x304002 x304003).bind fun t309 => ((impl_grid_pieces.f k bt306.1 bt306.2 t309).bind fun t310 => (impl_PieceShape.l0 k x1 t310 (t310.length : Int) 0 bt306.1 bt306.2))))
def impl_PieceShape.l0 : Nat → Int → List (List Int) → Int → Int → Int → Int → Option (ByteArray × Bool)
  | 0, _, _, _, _, _, _ => none
  | k + 1, x1, x28, x29, x30, x309000, x309001 => if x30 < x29 then (if 0 ≤ x30 then (if x30 < (x28.length : Int) then ((slices_Contains_int_int.f k (rd_L3 x28 x30) x1).bind fun t314 => (if t314 = true then ((impl_grid_shape.f k x309000 x309001 (rd_L3 x28 x30)).bind fun t315 => (some (t315, true))) else (impl_PieceShape.l0 k x1 x28 x29 (wrap64 (x30 + 1)) x309000 x309001))) else (none)) else (none)) else (some ((⟨#[]⟩ : ByteArray), false))
end
def impl_PieceShape.f (k : Nat) (a0_0 : Int) (a0_1 : Int) (l0_2 : List Int) (l0_3 : List Int) (a1 : Int) : Option (ByteArray × Bool) := (impl_IsFigure.f k a0_0 a0_1 l0_2 l0_3).bind fun t304 => (if t304 = true then ((impl_within.f a1 0 (wrap64 ((wrap64 (a0_0 * a0_1)) - 1))).bind fun t305 => (impl_PieceShape.j0 k a1 (!t305) a0_0 a0_1 l0_2 l0_3)) else (impl_PieceShape.j0 k a1 true a0_0 a0_1 l0_2 l0_3))
/-! ### laws_szIntS: function 32 -/
def laws_szIntS.f (l0 : List Int) (a1 : Int) : Option (Int) := if (wrap64 (a1 - (l0.length : Int))) < 0 then (some (-1)) else (some (wrap64 (a1 - (l0.length : Int))))

/-! ### laws_szFigure: function 14 -/
def laws_szFigure.f (a0_0 : Int) (a0_1 : Int) (l0_2 : List Int) (l0_3 : List Int) (a1 : Int) : Option (Int) := (laws_szIntS.f l0_2 a1).bind fun t317 => (if t317 < 0 then (some (-1)) else ((laws_szIntS.f l0_3 t317).bind fun t318 => (if t318 < 0 then (some (-1)) else (some t318))))

/-! ### laws_toIntS: function 38 -/
/-- how many spare cells the law gives a list of n -/
def room (n : Nat) : Nat := if n % 6 = 5 then 0 else if n % 3 = 0 then 1 else n
def laws_toIntS.f (l0 : List Int) (a1 : Bool) : Option (List Int) := if l0.length ≤ 1000000 then some l0 else none

/-! ### laws_toFigure: function 16 -/
def laws_toFigure.f (a0_0 : Int) (a0_1 : Int) (l0_2 : List Int) (l0_3 : List Int) (a1 : Bool) : Option (Int × Int × List Int × List Int) := (laws_toIntS.f l0_2 a1).bind fun t322 => ((laws_toIntS.f l0_3 a1).bind fun t325 => (some (a0_0, a0_1, t322, t325)))

end Go.Proofs.YtfkbjflndkjlnaaDoor.P
