import Derived.Test.YtfkbjflndkjlnaaDoorLk
namespace Go.Proofs.YtfkbjflndkjlnaaDoor.L
open Go.RowKit Go.Proofs.YtfkbjflndkjlnaaDoorW.PrintWords Go.Proofs.YtfkbjflndkjlnaaDoorW.PrintLast Go.Proofs.YtfkbjflndkjlnaaDoorW.PrintMore
attribute [local go_sem] max2_int min2_int max_two min_two max_three min_three max_four min_four
set_option linter.unusedVariables false
set_option linter.unusedSimpArgs false

/-! ### impl_Corner_next: function 26 -/
def impl_Corner_next.f (a0_0 : Int) (a0_1 : Int) (a1 : Int) : Option (Int × Int) := if a1 = 110 then (some (a0_0, wrap64 (a0_1 - 1))) else (if a1 = 101 then (some (wrap64 (a0_0 + 1), a0_1)) else (if a1 = 115 then (some (a0_0, wrap64 (a0_1 + 1))) else (some (wrap64 (a0_0 - 1), a0_1))))

/-! ### impl_Corner_61: function 61 -/
def impl_Corner_61.l0 : Nat → List (S45) → Int → Int → Int → Int → Option (Int)
  | 0, _, _, _, _, _ => none
  | k + 1, x0, x7, x8, x104000, x104001 => if x8 < x7 then (if 0 ≤ x8 then (if x8 < (x0.length : Int) then (if (x104000 == ((rd_T45 x0 x8).f0) && (x104001 == ((rd_T45 x0 x8).f1))) = true then (some x8) else (impl_Corner_61.l0 k x0 x7 (wrap64 (x8 + 1)) x104000 x104001)) else (none)) else (none)) else (some (-1))
def impl_Corner_61.f (k : Nat) (l0 : List (S45)) (a1_0 : Int) (a1_1 : Int) : Option (Int) := impl_Corner_61.l0 k l0 (l0.length : Int) 0 a1_0 a1_1
/-! ### impl_Corner_27: function 27 -/
def impl_Corner_27.f (k : Nat) (l0 : List (S45)) (a1_0 : Int) (a1_1 : Int) : Option (Bool) := (impl_Corner_61.f k l0 a1_0 a1_1).bind fun t106 => (some (decide (t106 ≥ 0)))
/-! ### impl_within: function 23 -/
def impl_within.f (a0 : Int) (a1 : Int) (a2 : Int) : Option (Bool) := if a1 ≤ a0 then (some (decide (a0 ≤ a2))) else (some false)

/-! ### spec_l1In: function 34 -/
def spec_l1In.f (a0 : Int) (a1 : Int) (a2 : Int) : Option (Bool) := if a0 ≥ a1 then (some (decide (a0 ≤ a2))) else (some false)

/-! ### spec_l1Has: function 36 -/
def spec_l1Has.l0 : Nat → Int → List Int → Int → Int → Option (Bool)
  | 0, _, _, _, _ => none
  | k + 1, x1, x7, x8, x9 => if x9 < x8 then (if 0 ≤ x9 then (if x9 < (x7.length : Int) then (if (rd x7 x9) = x1 then (some true) else (spec_l1Has.l0 k x1 x7 x8 (wrap64 (x9 + 1)))) else (none)) else (none)) else (some false)
def spec_l1Has.f (k : Nat) (l0 : List Int) (a1 : Int) : Option (Bool) := spec_l1Has.l0 k a1 l0 (l0.length : Int) 0
/-! ### spec_l1Least: function 72 -/
def spec_l1Least.f (a0 : Int) (a1 : Int) : Option (Int) := if a0 < a1 then (some a0) else (some a1)

/-! ### spec_l1Most: function 73 -/
def spec_l1Most.f (a0 : Int) (a1 : Int) : Option (Int) := if a0 > a1 then (some a0) else (some a1)

/-! ### spec_piText: function 37 -/
mutual
def spec_piText.l0 : Nat → Int → List Int → Int → Int → Int → Int → List Int → Int → Int → Option (ByteArray)
  | 0, _, _, _, _, _, _, _, _, _ => none
  | k + 1, x0, x1, x5, x6, x7, x8, x15, x16, x17 => if x17 < x16 then (if 0 ≤ x17 then (if x17 < (x15.length : Int) then (if x0 = 0 then (none) else ((spec_l1Least.f x5 (Int.tmod (rd x15 x17) x0)).bind fun t109 => ((spec_l1Most.f x6 (Int.tmod (rd x15 x17) x0)).bind fun t110 => ((spec_l1Least.f x7 (wrap64 (Int.tdiv (rd x15 x17) x0))).bind fun t111 => ((spec_l1Most.f x8 (wrap64 (Int.tdiv (rd x15 x17) x0))).bind fun t112 => (spec_piText.l0 k x0 x1 t109 t110 t111 t112 x15 x16 (wrap64 (x17 + 1)))))))) else (none)) else (none)) else (spec_piText.l1 k x0 x1 x5 x6 x7 x8 (⟨#[]⟩ : ByteArray) x7)
def spec_piText.l1 : Nat → Int → List Int → Int → Int → Int → Int → ByteArray → Int → Option (ByteArray)
  | 0, _, _, _, _, _, _, _, _ => none
  | k + 1, x0, x1, x5, x6, x7, x8, x11, x12 => if x12 ≤ x8 then (if x12 > x7 then (if x11.size + 1 ≤ 9223372036854775807 then (spec_piText.j2 k x0 x1 x5 x6 x7 x8 (x11 ++ (⟨#[47]⟩ : ByteArray)) x12) else (none)) else (spec_piText.j2 k x0 x1 x5 x6 x7 x8 x11 x12)) else (some x11)
def spec_piText.j2 : Nat → Int → List Int → Int → Int → Int → Int → ByteArray → Int → Option (ByteArray)
  | 0, _, _, _, _, _, _, _, _ => none
  | k + 1, x0, x1, x5, x6, x7, x8, x11, x12 => spec_piText.l2 k x0 x1 x5 x6 x7 x8 x11 x12 x5
def spec_piText.l2 : Nat → Int → List Int → Int → Int → Int → Int → ByteArray → Int → Int → Option (ByteArray)
  | 0, _, _, _, _, _, _, _, _, _ => none
  | k + 1, x0, x1, x5, x6, x7, x8, x11, x12, x13 => if x13 ≤ x6 then ((spec_l1Has.f k x1 (wrap64 ((wrap64 (x12 * x0)) + x13))).bind fun t113 => (if t113 = true then (if x11.size + 1 ≤ 9223372036854775807 then (spec_piText.l2 k x0 x1 x5 x6 x7 x8 (x11 ++ (⟨#[111]⟩ : ByteArray)) x12 (wrap64 (x13 + 1))) else (none)) else (if x11.size + 1 ≤ 9223372036854775807 then (spec_piText.l2 k x0 x1 x5 x6 x7 x8 (x11 ++ (⟨#[46]⟩ : ByteArray)) x12 (wrap64 (x13 + 1))) else (none)))) else (spec_piText.l1 k x0 x1 x5 x6 x7 x8 x11 (wrap64 (x12 + 1)))
end
def spec_piText.f (k : Nat) (a0 : Int) (l1 : List Int) : Option (ByteArray) := spec_piText.l0 k a0 l1 a0 0 100 0 l1 (l1.length : Int) 0
/-! ### spec_l1Split: function 84 -/
def spec_l1Split.l0 : Nat → ByteArray → Int → List ByteArray → Int → Int → Option (List ByteArray)
  | 0, _, _, _, _, _ => none
  | k + 1, x0, x1, x5, x6, x7 => if x7 < (x0.size : Int) then (if 0 ≤ x7 then (if (bt x0 x7) = x1 then (if 0 ≤ x6 then (if x6 ≤ x7 then (if x7 ≤ (x0.size : Int) then (if x5.length < 8796093022208 then (spec_l1Split.l0 k x0 x1 (x5 ++ [x0.extract (x6 : Int).toNat (x7 : Int).toNat]) (wrap64 (x7 + 1)) (wrap64 (x7 + 1))) else (none)) else (none)) else (none)) else (none)) else (spec_l1Split.l0 k x0 x1 x5 x6 (wrap64 (x7 + 1)))) else (none)) else (if 0 ≤ x6 then (if x6 ≤ (x0.size : Int) then (if x5.length < 8796093022208 then (some (x5 ++ [x0.extract (x6 : Int).toNat x0.size])) else (none)) else (none)) else (none))
def spec_l1Split.f (k : Nat) (a0 : ByteArray) (a1 : Int) : Option (List ByteArray) := spec_l1Split.l0 k a0 a1 ([] : List ByteArray) 0 0
/-! ### spec_piRows: function 49 -/
def spec_piRows.f (k : Nat) (a0 : ByteArray) : Option (List ByteArray) := (spec_l1Split.f k a0 47).bind fun t120 => (some t120)
/-! ### spec_piIs: function 21 -/
mutual
def spec_piIs.j0 : Nat → ByteArray → Bool → Option (Bool)
  | 0, _, _ => none
  | k + 1, x0, x21 => if x21 = true then (some false) else ((spec_piRows.f k x0).bind fun t123 => (if 0 < (t123.length : Int) then (if ((rdOf ByteArray.empty t123 0).size : Int) = 0 then (some false) else (spec_piIs.l0 k x0 ((rdOf ByteArray.empty t123 0).size : Int) ([] : List Int) t123 (t123.length : Int) 0)) else (none)))
def spec_piIs.l0 : Nat → ByteArray → Int → List Int → List ByteArray → Int → Int → Option (Bool)
  | 0, _, _, _, _, _, _ => none
  | k + 1, x0, x4, x5, x30, x31, x32 => if x32 < x31 then (if 0 ≤ x32 then (if x32 < (x30.length : Int) then (if ((rdOf ByteArray.empty x30 x32).size : Int) = x4 then (spec_piIs.l1 k x0 x4 x5 x32 (rdOf ByteArray.empty x30 x32) 0 x30 x31 x32) else (some false)) else (none)) else (none)) else ((spec_l1In.f (x5.length : Int) 1 12).bind fun t131 => (if t131 = true then ((spec_piText.f k x4 x5).bind fun t132 => (spec_piIs.j3 k x4 x5 (t132.toList != x0.toList))) else (spec_piIs.j3 k x4 x5 true)))
def spec_piIs.l1 : Nat → ByteArray → Int → List Int → Int → ByteArray → Int → List ByteArray → Int → Int → Option (Bool)
  | 0, _, _, _, _, _, _, _, _, _ => none
  | k + 1, x0, x4, x5, x6, x7, x8, x30, x31, x32 => if x8 < x4 then (if 0 ≤ x8 then (if x8 < (x7.size : Int) then (if (bt x7 x8) = 111 then (if x5.length < 17592186044416 then (spec_piIs.l1 k x0 x4 (x5 ++ [wrap64 ((wrap64 (x6 * x4)) + x8)]) x6 x7 (wrap64 (x8 + 1)) x30 x31 x32) else (none)) else (if (bt x7 x8) = 46 then (spec_piIs.l1 k x0 x4 x5 x6 x7 (wrap64 (x8 + 1)) x30 x31 x32) else (some false))) else (none)) else (none)) else (spec_piIs.l0 k x0 x4 x5 x30 x31 (wrap64 (x32 + 1)))
def spec_piIs.j3 : Nat → Int → List Int → Bool → Option (Bool)
  | 0, _, _, _ => none
  | k + 1, x4, x5, x72 => if x72 = true then (some false) else (if 0 < (x5.length : Int) then (spec_piIs.l2 k x4 x5 (([rd x5 0] : List Int)) 0) else (none))
def spec_piIs.l2 : Nat → Int → List Int → List Int → Int → Option (Bool)
  | 0, _, _, _, _ => none
  | k + 1, x4, x5, x9, x10 => if x10 < (x9.length : Int) then (spec_piIs.l3 k x4 x5 x9 x10 x5 (x5.length : Int) 0) else (some ((x9.length : Int) == (x5.length : Int)))
def spec_piIs.l3 : Nat → Int → List Int → List Int → Int → List Int → Int → Int → Option (Bool)
  | 0, _, _, _, _, _, _, _ => none
  | k + 1, x4, x5, x9, x10, x83, x84, x85 => if x85 < x84 then (if 0 ≤ x85 then (if x85 < (x83.length : Int) then (if 0 ≤ x10 then (if x10 < (x9.length : Int) then (if (wrap64 ((rd x83 x85) - (rd x9 x10))) = x4 then ((spec_l1Has.f k x9 (rd x83 x85)).bind fun t139 => (if t139 = true then (spec_piIs.l3 k x4 x5 x9 x10 x83 x84 (wrap64 (x85 + 1))) else (if x9.length < 17592186044416 then (spec_piIs.l3 k x4 x5 (x9 ++ [rd x83 x85]) x10 x83 x84 (wrap64 (x85 + 1))) else (none)))) else (if (wrap64 ((rd x83 x85) - (rd x9 x10))) = (wrap64 (-x4)) then ((spec_l1Has.f k x9 (rd x83 x85)).bind fun t143 => (if t143 = true then (spec_piIs.l3 k x4 x5 x9 x10 x83 x84 (wrap64 (x85 + 1))) else (if x9.length < 17592186044416 then (spec_piIs.l3 k x4 x5 (x9 ++ [rd x83 x85]) x10 x83 x84 (wrap64 (x85 + 1))) else (none)))) else (if (wrap64 ((rd x83 x85) - (rd x9 x10))) = 1 then (if x4 = 0 then (none) else (if (Int.tmod (rd x83 x85) x4) = 0 then (if (wrap64 ((rd x83 x85) - (rd x9 x10))) = (-1) then (if (Int.tmod (rd x9 x10) x4) = 0 then (spec_piIs.l3 k x4 x5 x9 x10 x83 x84 (wrap64 (x85 + 1))) else ((spec_l1Has.f k x9 (rd x83 x85)).bind fun t148 => (if t148 = true then (spec_piIs.l3 k x4 x5 x9 x10 x83 x84 (wrap64 (x85 + 1))) else (if x9.length < 17592186044416 then (spec_piIs.l3 k x4 x5 (x9 ++ [rd x83 x85]) x10 x83 x84 (wrap64 (x85 + 1))) else (none))))) else (spec_piIs.l3 k x4 x5 x9 x10 x83 x84 (wrap64 (x85 + 1)))) else ((spec_l1Has.f k x9 (rd x83 x85)).bind fun t152 => (if t152 = true then (spec_piIs.l3 k x4 x5 x9 x10 x83 x84 (wrap64 (x85 + 1))) else (if x9.length < 17592186044416 then (spec_piIs.l3 k x4 x5 (x9 ++ [rd x83 x85]) x10 x83 x84 (wrap64 (x85 + 1))) else (none)))))) else (if (wrap64 ((rd x83 x85) - (rd x9 x10))) = (-1) then (if x4 = 0 then (none) else (if (Int.tmod (rd x9 x10) x4) = 0 then (spec_piIs.l3 k x4 x5 x9 x10 x83 x84 (wrap64 (x85 + 1))) else ((spec_l1Has.f k x9 (rd x83 x85)).bind fun t157 => (if t157 = true then (spec_piIs.l3 k x4 x5 x9 x10 x83 x84 (wrap64 (x85 + 1))) else (if x9.length < 17592186044416 then (spec_piIs.l3 k x4 x5 (x9 ++ [rd x83 x85]) x10 x83 x84 (wrap64 (x85 + 1))) else (none)))))) else (spec_piIs.l3 k x4 x5 x9 x10 x83 x84 (wrap64 (x85 + 1))))))) else (none)) else (none)) else (none)) else (none)) else (spec_piIs.l2 k x4 x5 x9 (wrap64 (x10 + 1)))
end
def spec_piIs.f (k : Nat) (a0 : ByteArray) : Option (Bool) := if (a0.size : Int) > 200 then (spec_piIs.j0 k a0 true) else (spec_piIs.j0 k a0 (a0.toList == ([] : List UInt8)))
/-! ### spec_IsShapeText: function 8 -/
def spec_IsShapeText.f (k : Nat) (a0 : ByteArray) : Option (Bool) := (spec_piIs.f k a0).bind fun t161 => (some t161)
/-! ### impl_IsShapeText: function 9 -/
/-- a text cut at each slash, as the library cuts it -/
def shPs (s : ByteArray) : List ByteArray := Lib.splitB ⟨#[47]⟩ 0 (Lib.countB s ⟨#[47]⟩) s
def shRow (y : Nat) : Nat → List UInt8 → List S45
  | _, [] => []
  | x, b :: r => (if b = 111 then [⟨(x : Int), (y : Int)⟩] else []) ++ shRow y (x + 1) r
def shCells : Nat → List (List UInt8) → List S45
  | _, [] => []
  | y, r :: rs => shRow y 0 r ++ shCells (y + 1) rs
def shTry (k : Nat) (cells L : List S45) (q : Int × Int) : Option (List S45) :=
  (impl_Corner_27.f k cells q.1 q.2).bind fun b => if b = true then (impl_Corner_27.f k L q.1 q.2).bind fun c => if c = true then some L else some (L ++ [⟨q.1, q.2⟩]) else some L
def shSteps (k : Nat) (cells : List S45) (p : S45) : List Int → List S45 → Option (List S45)
  | [], L => some L
  | d :: ds, L => (impl_Corner_next.f p.f0 p.f1 d).bind fun q => (shTry k cells L q).bind fun L' => shSteps k cells p ds L'
def shBfs (k : Nat) (cells : List S45) : Nat → Nat → List S45 → Option (List S45)
  | 0, _, _ => none
  | n + 1, i, L => if i < L.length then (if L.length ≤ 1000 then (shSteps k cells (rd_T45 L (i : Int)) [110, 101, 115, 119] L).bind fun L' => shBfs k cells n (i + 1) L' else none) else some L
def shLf (cs : List S45) : Bool := cs.any fun p => p.f0 == 0
def shTp (cs : List S45) : Bool := cs.any fun p => p.f1 == 0
def shRt (w : Int) (cs : List S45) : Bool := cs.any fun p => p.f0 == w - 1
def shBt (h : Int) (cs : List S45) : Bool := cs.any fun p => p.f1 == h - 1
def shRows (s : ByteArray) : List (List UInt8) := (shPs s).map (·.data.toList)
def shW (s : ByteArray) : Nat := (rdOf ByteArray.empty (shPs s) 0).size
def impl_IsShapeText.f (k : Nat) (s : ByteArray) : Option Bool :=
  if s.size ≤ 1000000 then
    if 1 ≤ Lib.countByte s.data.toList 111 ∧ Lib.countByte s.data.toList 111 ≤ 12 then
      if Lib.trimS s.data.toList [111, 46, 47] = [] then
        if ∀ r ∈ shPs s, r.size = shW s then
          (shBfs k (shCells 0 (shRows s)) k 0 ((shCells 0 (shRows s)).take 1)).bind fun L =>
            some ((shLf (shCells 0 (shRows s)) && shTp (shCells 0 (shRows s)) && shRt (shW s) (shCells 0 (shRows s)) && shBt ((shPs s).length : Int) (shCells 0 (shRows s))) && (L.length == (shCells 0 (shRows s)).length))
        else some false
      else some false
    else some false
  else none
/-! ### impl_turnedShape: function 29 -/
/-- the rows of a text turned by a quarter -/
def tnRow (ps : List ByteArray) (x : Nat) : List Int := ps.reverse.map fun r => bt r (x : Int)
def tnRows (ps : List ByteArray) (w : Nat) : List ByteArray := (List.range w).map fun x => strOfNums (tnRow ps x)
def tnJoin (xs : List ByteArray) : ByteArray := ⟨(Lib.join (xs.map (·.data.toList)) [47]).toArray⟩
def impl_turnedShape.f (s : ByteArray) : Option ByteArray := if s.size ≤ 1000000 ∧ (∀ r ∈ shPs s, r.size = shW s) ∧ 1 ≤ shW s then some (tnJoin (tnRows (shPs s) (shW s))) else none


/-! ### impl_mirroredShape: function 68 -/
def mlRow (q : ByteArray) : ByteArray := ⟨q.data.toList.reverse.toArray⟩
def mlJoin (ps : List ByteArray) : ByteArray := tnJoin (ps.map mlRow)
def impl_mirroredShape.f (s : ByteArray) : Option ByteArray := if s.size ≤ 1000000 then some (mlJoin (shPs s)) else none


/-! ### impl_leastShape: function 31 -/
def e8s : Nat → ByteArray → Option (List ByteArray)
  | 0, _ => some []
  | n + 1, x => (impl_mirroredShape.f x).bind fun m => (impl_turnedShape.f x).bind fun t => (e8s n t).bind fun r => some (x :: m :: r)
def impl_leastShape.f (s : ByteArray) : Option ByteArray := (e8s 4 s).bind fun L => some (Lib.minOfS L)


/-! ### spec_piTurn: function 28 -/
/-- the reference's turned text: columns, each from the last row up -/
def ptCol (ps : List ByteArray) (x : Nat) : Nat → ByteArray → ByteArray
  | 0, a => a
  | m + 1, a => ptCol ps x m (a ++ (rdOf ByteArray.empty ps (m : Int)).extract x (x + 1))
def ptAcc (ps : List ByteArray) : Nat → ByteArray
  | 0 => ⟨#[]⟩
  | x + 1 => ptCol ps x ps.length (if 0 < x then ptAcc ps x ++ ⟨#[47]⟩ else ptAcc ps x)
def ptF (ps : List ByteArray) : Option ByteArray := if (0 < ps.length ∧ ps.length ≤ 1000001) ∧ (∀ r ∈ ps, r.size = (rdOf ByteArray.empty ps 0).size) ∧ (rdOf ByteArray.empty ps 0).size ≤ 1000000 ∧ (∀ b ∈ (rdOf ByteArray.empty ps 0).data.toList, b.toNat < 128) then some (ptAcc ps (rdOf ByteArray.empty ps 0).size) else none
def spec_piTurn.f (k : Nat) (s : ByteArray) : Option ByteArray := (spec_piRows.f k s).bind ptF
/-! ### spec_piMirror: function 65 -/
mutual
def spec_piMirror.l0 : Nat → ByteArray → List ByteArray → Int → Int → Option (ByteArray)
  | 0, _, _, _, _ => none
  | k + 1, x3, x8, x9, x10 => if x10 < x9 then (if 0 ≤ x10 then (if x10 < (x8.length : Int) then (if x10 > 0 then (if x3.size + 1 ≤ 9223372036854775807 then (spec_piMirror.j1 k (x3 ++ (⟨#[47]⟩ : ByteArray)) (rdOf ByteArray.empty x8 x10) x8 x9 x10) else (none)) else (spec_piMirror.j1 k x3 (rdOf ByteArray.empty x8 x10) x8 x9 x10)) else (none)) else (none)) else (some x3)
def spec_piMirror.j1 : Nat → ByteArray → ByteArray → List ByteArray → Int → Int → Option (ByteArray)
  | 0, _, _, _, _, _ => none
  | k + 1, x3, x5, x8, x9, x10 => spec_piMirror.l1 k x3 x5 (wrap64 ((x5.size : Int) - 1)) x8 x9 x10
def spec_piMirror.l1 : Nat → ByteArray → ByteArray → Int → List ByteArray → Int → Int → Option (ByteArray)
  | 0, _, _, _, _, _, _ => none
  | k + 1, x3, x5, x6, x8, x9, x10 => if x6 ≥ 0 then (if 0 ≤ x6 then (if x6 ≤ (wrap64 (x6 + 1)) then (if (wrap64 (x6 + 1)) ≤ (x5.size : Int) then (if x3.size + (x5.extract (x6 : Int).toNat ((wrap64 (x6 + 1)) : Int).toNat).size ≤ 9223372036854775807 then (spec_piMirror.l1 k (x3 ++ (x5.extract (x6 : Int).toNat ((wrap64 (x6 + 1)) : Int).toNat)) x5 (wrap64 (x6 - 1)) x8 x9 x10) else (none)) else (none)) else (none)) else (none)) else (spec_piMirror.l0 k x3 x8 x9 (wrap64 (x10 + 1)))
end
def spec_piMirror.f (k : Nat) (a0 : ByteArray) : Option (ByteArray) := (spec_piRows.f k a0).bind fun t162 => (spec_piMirror.l0 k (⟨#[]⟩ : ByteArray) t162 (t162.length : Int) 0)
/-! ### spec_piMin: function 64 -/
def spec_piMin.f (a0 : ByteArray) (a1 : ByteArray) : Option (ByteArray) := if (Op.bytesLess a1.toList a0.toList) = true then (some a1) else (some a0)

/-! ### spec_piLeast: function 30 -/
def spec_piLeast.l0 : Nat → ByteArray → ByteArray → Int → Option (ByteArray)
  | 0, _, _, _ => none
  | k + 1, x0, x3, x4 => if x4 < 4 then ((spec_piMirror.f k x0).bind fun t166 => ((spec_piMin.f x0 t166).bind fun t167 => ((spec_piMin.f x3 t167).bind fun t168 => ((spec_piTurn.f k x0).bind fun t169 => (spec_piLeast.l0 k t169 t168 (wrap64 (x4 + 1))))))) else (some x3)
def spec_piLeast.f (k : Nat) (a0 : ByteArray) : Option (ByteArray) := spec_piLeast.l0 k a0 a0 0
/-! ### spec_LeastShape: function 12 -/
def spec_LeastShape.f (k : Nat) (a0 : ByteArray) : Option (ByteArray × Bool) := (spec_piIs.f k a0).bind fun t170 => (if t170 = true then ((spec_piLeast.f k a0).bind fun t171 => (some (t171, true))) else (some ((⟨#[]⟩ : ByteArray), false)))
/-! ### impl_LeastShape: function 13 -/
def impl_LeastShape.f (k : Nat) (a0 : ByteArray) : Option (ByteArray × Bool) := (impl_IsShapeText.f k a0).bind fun t172 => (if t172 = true then ((impl_leastShape.f a0).bind fun t173 => (some (t173, true))) else (some ((⟨#[]⟩ : ByteArray), false)))
/-! ### laws_FnExactLeastShape: function 5 -/
def laws_FnExactLeastShape.f (k : Nat) (a0 : ByteArray) : Option (Bool) := if (a0.size : Int) > 1000000 then (some true) else ((spec_LeastShape.f k a0).bind fun bt174 => ((impl_LeastShape.f k a0).bind fun bt176 => (if bt176.1.toList = bt174.1.toList then (if (bt176.2 != bt174.2) = true then (some false) else (some true)) else (some false))))
end Go.Proofs.YtfkbjflndkjlnaaDoor.L
