import Derived.Test.YtopifdmaaibcnaaGreatDoorHd
import Derived.Test.YtopifdmaaibcnaaGreatDoorHc0
import Derived.Test.YtopifdmaaibcnaaGreatDoorHc2
namespace Go.Proofs.YtopifdmaaibcnaaGreatDoor.H
open Go.RowKit Go.Proofs.YtopifdmaaibcnaaGreatDoorW.PrintWords Go.Proofs.YtopifdmaaibcnaaGreatDoorW.PrintLast Go.Proofs.YtopifdmaaibcnaaGreatDoorW.PrintMore
attribute [local go_sem] max2_int min2_int max_two min_two max_three min_three max_four min_four
set_option linter.unusedVariables false
set_option linter.unusedSimpArgs false

/-! ### impl_figureText: function 55 -/
theorem ft_info9 : (Tryz.prog.info? 9).map (fun i => (i.zero, i.size, i.bytes)) = some (some (.string ByteArray.empty), 1, 16) := by kernel_rfl
theorem ft_info5 : (Tryz.prog.info? 5).map (fun i => (i.zero, i.size, i.bytes)) = some (some (.int .u8 0), 1, 1) := by kernel_rfl
theorem ftLine_len (s sign : Int) (ed : Int → Int) : ∀ n, (ftLine s sign ed n).length = n
  | 0 => rfl
  | n + 1 => by simp [ftLine, ftLine_len s sign ed n]
theorem ftRows_len (w h : Nat) (s : Int) : ∀ y, (ftRows w h s y).length ≤ 2 * y
  | 0 => by simp [ftRows]
  | y + 1 => by
    have := ftRows_len w h s y
    simp only [ftRows, List.length_append, List.length_cons]
    split <;> simp <;> omega
theorem ft_mul {w y : Nat} (hw : w ≤ 5) (hy : y ≤ 5) : y * w ≤ 25 := Nat.mul_le_mul hy hw
theorem ft_w {n : Nat} (h : n ≤ 1000) : wrap64 (n : Int) = (n : Int) := by unfold wrap64; omega
theorem ft_wm {a b : Nat} (ha : a ≤ 5) (hb : b ≤ 5) : wrap64 ((a : Int) * (b : Int)) = ((a * b : Nat) : Int) := by
  rw [← Int.natCast_mul, ft_w (Nat.le_trans (ft_mul hb ha) (by decide))]
theorem ft_wa {a b : Nat} (h : a + b ≤ 1000) : wrap64 ((a : Int) + (b : Int)) = ((a + b : Nat) : Int) := by
  rw [← Int.natCast_add, ft_w h]
theorem ft_lev_eq {w y x : Nat} (hw : w ≤ 4) (hy : y ≤ 5) (hx : x ≤ 5) : wrap64 ((wrap64 ((y : Int) * (w : Int))) + (x : Int)) = ((y * w + x : Nat) : Int) := by
  have e := ft_mul (w := w) (y := y) (by omega) hy
  rw [ft_wm hy (by omega), ft_wa (by omega)]
theorem ft_up_eq {w h y x : Nat} (hw : w ≤ 4) (hh : h ≤ 4) (hy : y ≤ 5) (hx : x ≤ 5) : wrap64 ((wrap64 ((wrap64 ((w : Int) * (wrap64 ((h : Int) + 1)))) + (wrap64 ((y : Int) * (wrap64 ((w : Int) + 1)))))) + (x : Int)) = ((w * (h + 1) + y * (w + 1) + x : Nat) : Int) := by
  have e := ft_mul (w := w + 1) (y := y) (by omega) hy
  have e2 := ft_mul (w := h + 1) (y := w) (by omega) (by omega)
  have q1 : wrap64 ((w : Int) + 1) = ((w + 1 : Nat) : Int) := ft_wa (b := 1) (by omega)
  have q2 : wrap64 ((h : Int) + 1) = ((h + 1 : Nat) : Int) := ft_wa (b := 1) (by omega)
  rw [q1, q2, ft_wm (by omega) (by omega), ft_wm hy (by omega), ft_wa (by omega), ft_wa (by omega)]
theorem ft_lev (w h y x : Nat) (hw : w ≤ 4) (hy : y ≤ 5) (hx : x ≤ 5) : impl_grid_level.f w h x y = some (ftLev w y x) := by
  unfold impl_grid_level.f ftLev
  rw [ft_lev_eq hw hy hx, if_pos (Int.natCast_nonneg _)]
theorem ft_up (w h y x : Nat) (hw : w ≤ 4) (hh : h ≤ 4) (hy : y ≤ 5) (hx : x ≤ 5) : impl_grid_upright.f w h x y = some (ftUp w h y x) := by
  unfold impl_grid_upright.f impl_grid_levels.f ftUp
  rw [Option.bind_some, ft_up_eq hw hh hy hx, if_pos (Int.natCast_nonneg _)]
/-- the edges of a row, as the program asks for them -/
theorem ft_e2 (w h y x : Nat) (G Y : Nat) (W : World) (hw : w ≤ 4) (hy : y ≤ 5) (hx : x ≤ 5) (hG : W.heap[G]? = some (.cells #[.int .i64 w, .int .i64 h] 60 (0, 0))) (hY : W.heap[Y]? = some (.cells #[.int .i64 y] 3 (0, 0))) :
    Calls Tryz.prog 78 #[.int .i64 x, .pointer (some ⟨G, 0, none⟩), .pointer (some ⟨Y, 0, none⟩)] W fun e W' => e = .returned (.int .u64 (ftLev w y x)) ∧ Below W.heap.size W W' := by
  have g0 : W.cell? ⟨G, 0, none⟩ = some (.int .i64 w) := (blk_cell hG 0).trans rfl
  have g1 : W.cell? ⟨G, 1, none⟩ = some (.int .i64 h) := (blk_cell hG 1).trans rfl
  have y0 : W.cell? ⟨Y, 0, none⟩ = some (.int .i64 y) := (blk_cell hY 0).trans rfl
  have C := fun W => impl_grid_level.calls w h x y _ W (ft_lev w h y x hw hy hx)
  have hu := Tryz.underlying60
  clear hG hY hw hy hx
  go_enter Tryz.func78, Tryz.ntmps78
  go_wp2_with (go_at_call 75; refine (C _).mono ?_; rintro e w' ⟨rfl, hb⟩)
  go_ret
  exact ⟨rfl, hb⟩
theorem ft_e3 (w h y x : Nat) (G Y : Nat) (W : World) (hw : w ≤ 4) (hh : h ≤ 4) (hy : y ≤ 5) (hx : x ≤ 5) (hG : W.heap[G]? = some (.cells #[.int .i64 w, .int .i64 h] 60 (0, 0))) (hY : W.heap[Y]? = some (.cells #[.int .i64 y] 3 (0, 0))) :
    Calls Tryz.prog 79 #[.int .i64 x, .pointer (some ⟨G, 0, none⟩), .pointer (some ⟨Y, 0, none⟩)] W fun e W' => e = .returned (.int .u64 (ftUp w h y x)) ∧ Below W.heap.size W W' := by
  have g0 : W.cell? ⟨G, 0, none⟩ = some (.int .i64 w) := (blk_cell hG 0).trans rfl
  have g1 : W.cell? ⟨G, 1, none⟩ = some (.int .i64 h) := (blk_cell hG 1).trans rfl
  have y0 : W.cell? ⟨Y, 0, none⟩ = some (.int .i64 y) := (blk_cell hY 0).trans rfl
  have C := fun W => impl_grid_upright.calls w h x y _ W (ft_up w h y x hw hh hy hx)
  have hu := Tryz.underlying60
  clear hG hY hw hh hy hx
  go_enter Tryz.func79, Tryz.ntmps79
  go_wp2_with (go_at_call 74; refine (C _).mono ?_; rintro e w' ⟨rfl, hb⟩)
  go_ret
  exact ⟨rfl, hb⟩
def lays156_ren : Go.Shelf.Ren := ⟨fun | 156 => 80 | 165 => 100 | 166 => 101 | 169 => 102 | 240 => 125 | 241 => 126 | 276 => 148 | 277 => 149 | n => n, fun | 31 => 67 | 9 => 9 | 3 => 3 | 4 => 4 | 0 => 0 | 20 => 20 | 72 => 112 | 76 => 116 | 70 => 110 | 37 => 91 | 75 => 115 | 127 => 138 | 164 => 159 | 5 => 5 | 80 => 118 | n => n, fun | n => n⟩
theorem lays156 : Go.Proofs.Lays.n156 Tryz.prog lays156_ren := {
  mixed := by kernel_rfl
  f156 := Tryz.func80.trans (congrArg some (by kernel_rfl))
  f165 := Tryz.func100.trans (congrArg some (by kernel_rfl))
  f166 := Tryz.func101.trans (congrArg some (by kernel_rfl))
  f169 := Tryz.func102.trans (congrArg some (by kernel_rfl))
  f240 := Tryz.func125.trans (congrArg some (by kernel_rfl))
  f241 := Tryz.func126.trans (congrArg some (by kernel_rfl))
  f276 := Tryz.func148.trans (congrArg some (by kernel_rfl))
  f277 := Tryz.func149.trans (congrArg some (by kernel_rfl))
  t0 := Tryz.underlying0
  a0 := Tryz.isAgg0
  z0 := Tryz.sizeOf0
  v0 := Tryz.zeroValue0
  t3 := Tryz.underlying3
  a3 := Tryz.isAgg3
  z3 := Tryz.sizeOf3
  v3 := Tryz.zeroValue3
  t4 := Tryz.underlying4
  a4 := Tryz.isAgg4
  z4 := Tryz.sizeOf4
  v4 := Tryz.zeroValue4
  t9 := Tryz.underlying9
  a9 := Tryz.isAgg9
  z9 := Tryz.sizeOf9
  v9 := Tryz.zeroValue9
  t20 := Tryz.underlying20
  a20 := Tryz.isAgg20
  z20 := Tryz.sizeOf20
  v20 := Tryz.zeroValue20
  t31 := Tryz.underlying67
  a31 := Tryz.isAgg67
  z31 := Tryz.sizeOf67
  v31 := Tryz.zeroValue67
  t37 := Tryz.underlying91
  a37 := Tryz.isAgg91
  z37 := Tryz.sizeOf91
  v37 := Tryz.zeroValue91
  t70 := Tryz.underlying110
  a70 := Tryz.isAgg110
  z70 := Tryz.sizeOf110
  v70 := Tryz.zeroValue110
  t72 := Tryz.underlying112
  a72 := Tryz.isAgg112
  z72 := Tryz.sizeOf112
  v72 := Tryz.zeroValue112
  t75 := Tryz.underlying115
  a75 := Tryz.isAgg115
  z75 := Tryz.sizeOf115
  v75 := Tryz.zeroValue115
  t76 := Tryz.underlying116
  a76 := Tryz.isAgg116
  z76 := Tryz.sizeOf116
  v76 := Tryz.zeroValue116
  t127 := Tryz.underlying138
  a127 := Tryz.isAgg138
  z127 := Tryz.sizeOf138
  v127 := Tryz.zeroValue138
  t164 := Tryz.underlying159
  a164 := Tryz.isAgg159
  z164 := Tryz.sizeOf159
  v164 := Tryz.zeroValue159 }
theorem Builder_Extra_156 : Builder.Extra Tryz.prog lays156_ren := {
  sizeBuilder := by kernel_rfl
  liesBuilder := by kernel_rfl
  t5 := Tryz.underlying5
  a5 := Tryz.isAgg5
  z5 := Tryz.sizeOf5
  v5 := Tryz.zeroValue5
  infoByte := by kernel_rfl
  cellsByte := by kernel_rfl
  sizeByte := by kernel_rfl
  neB5 := by decide }
theorem ft_cells {w : World} {bk : Nat} {xs : List ByteArray} (h : Kd.C Kd.string w (some ⟨bk, 0, none⟩) xs.length xs) : ∀ (j : Nat) x, xs[j]? = some x → w.cell? ⟨bk, 0 + j, none⟩ = some (.string x) := by
  intro j x hj
  have hlt : j < xs.length := (List.getElem?_eq_some_iff.1 hj).1
  obtain ⟨ad, e, hc⟩ := Kd.at_string h (j : Int) (by omega) (by omega)
  obtain rfl := Option.some.inj e
  have e2 : rdOf ByteArray.empty xs (j : Int) = x := by simp [rdOf, hj]
  rw [e2] at hc
  rw [Int.toNat_natCast] at hc
  have e3 : Addr.add ⟨bk, 0, none⟩ j = ⟨bk, 0 + j, none⟩ := by
    by_cases h0 : j = 0
    · subst h0; simp [Addr.add]
    · simp [Addr.add, h0]
  rw [← e3]; exact hc
theorem ft_tailLen : ∀ (r : List (List UInt8)), (∀ x ∈ r, x.length ≤ 5) → (Lib.joinTail [47] r).length ≤ 6 * r.length
  | [], _ => by simp [Lib.joinTail]
  | x :: r, h => by
    have h1 := h x List.mem_cons_self
    have h2 := ft_tailLen r (fun y hy => h y (List.mem_cons_of_mem _ hy))
    simp only [Lib.joinTail, List.map_cons, List.flatten_cons, List.length_append, List.length_cons, List.length_nil] at h2 ⊢
    omega
theorem ft_strLen (l : List Int) : (strOfNums l).data.toList.length = l.length := by simp [strOfNums]
theorem ft_rowLen {w h : Nat} (hw : w ≤ 4) (s : Int) : ∀ y, ∀ x ∈ (ftRows w h s y).map (·.data.toList), x.length ≤ 5
  | 0 => by simp [ftRows]
  | y + 1 => by
    intro x hx
    simp only [ftRows, List.map_append, List.map_cons, List.mem_append, List.mem_cons] at hx
    rcases hx with hx | rfl | hx
    · exact ft_rowLen hw s y x hx
    · rw [ft_strLen, ftLine_len]; omega
    · split at hx
      · simp only [List.map_cons, List.map_nil, List.mem_cons, List.not_mem_nil, or_false] at hx
        subst hx
        rw [ft_strLen, ftLine_len]; omega
      · simp at hx
theorem ft_joinLen {w h : Nat} {s : Int} {y : Nat} (hw : w ≤ 4) (hy : y ≤ 5) : (Lib.join ((ftRows w h s y).map (·.data.toList)) (⟨#[47]⟩ : ByteArray).data.toList).length ≤ 140737488355328 := by
  have hr := ft_rowLen (h := h) hw s y
  have hl := ftRows_len w h s y
  generalize hxs : (ftRows w h s y).map (·.data.toList) = xs at hr
  have hl2 : xs.length ≤ 10 := by rw [← hxs, List.length_map]; omega
  show (Lib.join xs [47]).length ≤ _
  cases xs with
  | nil => simp [Lib.join_nil]
  | cons x r =>
    rw [Lib.join_cons, List.length_append]
    have h1 := hr x List.mem_cons_self
    have h2 := ft_tailLen r (fun y hy => hr y (List.mem_cons_of_mem _ hy))
    simp at hl2
    omega
theorem ft_Join (bk o c : Nat) (xs : List ByteArray) (sep : ByteArray) (w : World) (hcells : ∀ (j : Nat) x, xs[j]? = some x → w.cell? ⟨bk, o + j, none⟩ = some (.string x)) (hbk : bk < w.heap.size) (hN : xs.length ≤ 140737488355328) (hcap : xs.length ≤ c) (hlen : (Lib.join (xs.map (·.data.toList)) sep.data.toList).length ≤ 140737488355328) :
    Calls Tryz.prog 80 #[.slice (some ⟨bk, o, none⟩) xs.length c, .string sep] w fun e w' => e = .returned (.string ⟨(Lib.join (xs.map (·.data.toList)) sep.data.toList).toArray⟩) ∧ Below w.heap.size w w' :=
  Any.strings_Join lays156 Builder_Extra_156 bk o c xs sep w hcells hbk hN hcap hlen
/-! A region that draws its order, by what holds whatever has come up. -/
section
variable {P : Program} {ops : Array Oper} {Q : Exit → Act → World → Prop}
def topB (ops : Array Oper) : List Nat → List Nat → Bool
  | _, [] => true
  | d, i :: r => (match ops[i]? with
    | some o => o.after.all fun e => !Region.binds .any e || d.contains e.on
    | none => false) && topB ops (i :: d) r
theorem topB_all {l : Array Bool} (hr : Region.ready .any ops l = []) (hs : l.size = ops.size) : ∀ (r d : List Nat), (∀ j ∈ d, l.getD j false = true) → topB ops d r = true → ∀ i ∈ r, l.getD i false = true
  | [], _, _, _, i, hi => by cases hi
  | i :: r, d, hd, h, j, hj => by
    simp only [topB, Bool.and_eq_true] at h
    obtain ⟨h1, h2⟩ := h
    have hi : l.getD i false = true := by
      cases ho : ops[i]? with
      | none => rw [ho] at h1; cases h1
      | some o =>
        rw [ho] at h1
        have hlt : i < l.size := by rw [hs]; exact (Array.getElem?_eq_some_iff.1 ho).1
        cases hb : l.getD i false with
        | true => rfl
        | false =>
          have hb2 : l.getD i true = false := by simpa [Array.getD, hlt] using hb
          have hm : i ∈ Region.ready .any ops l := mem_ready.2 ⟨hb2, o, ho, fun e he hbe => by
            obtain ⟨q, hq, rfl⟩ := Array.getElem_of_mem he
            have := Array.all_eq_true.1 h1 q hq
            simp only [hbe, Bool.not_true, Bool.false_or] at this
            exact hd _ (by simpa using this)⟩
          rw [hr] at hm
          cases hm
    rcases List.mem_cons.1 hj with rfl | hj
    · exact hi
    · exact topB_all hr hs r (i :: d) (fun q hq => by
        rcases List.mem_cons.1 hq with rfl | hq
        · exact hi
        · exact hd q hq) h2 j hj
theorem inv_any (I : (Nat → Bool) → Act → World → Prop)
    (hstep : ∀ (F : Nat → Bool) a w i o, I F a w → ops[i]? = some o → F i = false → (∀ e ∈ o.after, Region.binds .any e = true → F e.on = true) →
      ∀ K : Act → World → Prop, (∀ a' w', I (fun j => if j = i then true else F j) a' w' → K a' w') → if Region.wanted o (yielded ops a.tmps) = true then Oper.wp P o a w K Q else K (a.put o.dst undef) w)
    (hext : ∀ F F' a w, (∀ j, j < ops.size → F j = F' j) → I F a w → I F' a w)
    (order : List Nat) (hord : topB ops [] order = true) (hall : ∀ i, i < ops.size → i ∈ order)
    (hdone : ∀ a w, I (fun _ => true) a w → Q .normal a w) :
    ∀ (fuel : Nat) (l : Array Bool) (a : Act) (w : World), l.size = ops.size → (l.toList.filter (· == false)).length ≤ fuel → I (fun j => l.getD j false) a w → wpAny P .any ops Q fuel l a w := by
  have fin : ∀ (l : Array Bool) a w, l.size = ops.size → Region.ready .any ops l = [] → I (fun j => l.getD j false) a w → Q .normal a w := fun l a w hs hr hI =>
    hdone a w (hext _ _ a w (fun j hj => topB_all hr hs order [] (fun _ h => by cases h) hord j (hall j hj)) hI)
  intro fuel
  induction fuel with
  | zero =>
    intro l a w hs hc hI
    have hr : Region.ready .any ops l = [] := by
      rw [List.eq_nil_iff_forall_not_mem]
      intro i hi
      obtain ⟨h1, o, ho, _⟩ := mem_ready.1 hi
      have hlt : i < l.size := by rw [hs]; exact (Array.getElem?_eq_some_iff.1 ho).1
      have h2 : l[i] = false := by simpa [Array.getD, hlt] using h1
      have h3 : l[i] ∈ l.toList.filter (· == false) := List.mem_filter.2 ⟨by simp, by simp [h2]⟩
      rw [List.eq_nil_of_length_eq_zero (Nat.le_zero.1 hc)] at h3
      cases h3
    exact ⟨hr, fin l a w hs hr hI⟩
  | succ fuel ih =>
    intro l a w hs hc hI
    refine ⟨fun hr => fin l a w hs hr hI, fun i hi => ?_⟩
    obtain ⟨h1, o, ho, hd⟩ := mem_ready.1 hi
    have hlt : i < l.size := by rw [hs]; exact (Array.getElem?_eq_some_iff.1 ho).1
    have h2 : l.getD i false = false := by simpa [Array.getD, hlt] using h1
    refine wpOp_step ho (fun K hK => hstep _ a w i o hI ho h2 hd K (fun a' w' hI' => hK a' w' (ih (l.setIfInBounds i true) a' w' (by simpa using hs) ?_ ?_)))
    · have e : l.toList = l.toList.take i ++ l[i] :: l.toList.drop (i + 1) := by
        have h5 : i < l.toList.length := by simpa using hlt
        have := List.take_append_drop i l.toList
        rw [List.drop_eq_getElem_cons h5] at this
        simpa using this.symm
      have h3 : l[i] = false := by simpa [Array.getD, hlt] using h2
      rw [e, h3] at hc
      rw [Array.toList_setIfInBounds, List.set_eq_take_append_cons_drop, if_pos (by simpa using hlt)]
      simp only [List.filter_append, List.length_append, List.filter_cons] at hc ⊢
      simp at hc ⊢
      omega
    · refine hext _ _ a' w' (fun j hj => ?_) hI'
      by_cases hij : j = i
      · subst hij; simp [Array.getD, hlt]
      · have hj2 : j < l.size := by omega
        simp [Array.getD, hij, hj2, Array.getElem_setIfInBounds, Ne.symm hij]
theorem region_inv {id : Nat} {a : Act} {w : World} (hm : P.follows .mixedOrders = true) (I : (Nat → Bool) → Act → World → Prop) (h0 : I (fun _ => false) a w.drew)
    (hstep : ∀ (F : Nat → Bool) a w i o, I F a w → ops[i]? = some o → F i = false → (∀ e ∈ o.after, Region.binds .any e = true → F e.on = true) →
      ∀ K : Act → World → Prop, (∀ a' w', I (fun j => if j = i then true else F j) a' w' → K a' w') → if Region.wanted o (yielded ops a.tmps) = true then Oper.wp P o a w K Q else K (a.put o.dst undef) w)
    (hext : ∀ F F' a w, (∀ j, j < ops.size → F j = F' j) → I F a w → I F' a w)
    (order : List Nat) (hord : topB ops [] order = true) (hall : ∀ i, i < ops.size → i ∈ order)
    (hdone : ∀ a w, I (fun _ => true) a w → Q .normal a w) : (Code.region id ops true).wp P Q a w :=
  wp_region_any hm (inv_any I hstep hext order hord hall hdone ops.size _ a _ (by simp) (by simp)
    (hext _ _ a _ (fun j hj => by simp [Array.getD, hj]) h0))
end
set_option maxHeartbeats 4000000 in
set_option maxRecDepth 100000 in
theorem ft_row_E (n : Nat) (N : Int) (hN : N = (n : Int)) (hn : n ≤ 5) (sign s : Int) (ed : Int → Int) (G Y SB R base : Nat) (v : Value) (xs : List ByteArray) (w : World) (hxs : xs.length ≤ 20) (hbase : base ≤ w.heap.size) (hbR : base ≤ R)
    (hS : w.heap[SB]? = some (.cells #[.int .u64 s] 56 (0, 0))) (hR : w.heap[R]? = some (.cells #[v] 67 (0, 0)))
    (hO : Kd.R Kd.string 9 w base (fun _ => True) v xs)
    (C : ∀ W (x : Nat), x < n → Below w.heap.size w W → Calls Tryz.prog 78 #[.int .i64 x, .pointer (some ⟨G, 0, none⟩), .pointer (some ⟨Y, 0, none⟩)] W fun e W' => e = .returned (.int .u64 (ed x)) ∧ Below W.heap.size W W') :
    Calls Tryz.prog 77 #[.int .i64 N, .int .u8 sign, .func (.func 78) #[] #[.pointer (some ⟨G, 0, none⟩), .pointer (some ⟨Y, 0, none⟩)], .pointer (some ⟨SB, 0, none⟩), .pointer (some ⟨R, 0, none⟩)] w fun e w' => e = .returned (.tuple #[]) ∧ ∃ v', w'.heap[R]? = some (.cells #[v'] 67 (0, 0)) ∧ Kd.R Kd.string 9 w' base (fun _ => True) v' (xs ++ [strOfNums (ftLine s sign ed n)]) ∧ KeepBut w w' R v.ownBlock ∧ Below base w w' := by
  subst hN
  have HC := Aside0.mk C
  have HS := Aside0.mk hS
  have HR := Aside0.mk hR
  have HO := Aside0.mk hO
  have HX := Aside0.mk hxs
  have HBA := Aside0.mk hbase
  have HBR := Aside0.mk hbR
  clear hbR
  clear C hS hR hO hxs hbase
  have hu8 := Tryz.underlying5
  have hus := Tryz.underlying56
  go_enter Tryz.func77, Tryz.ntmps77
  go_wp2_with ((with_reducible refine gate_dst (N := 10) rfl ?_); refine Kd.R_lit (Kd.int .u8) _ 5 ?hg (N := 10) ?hd (xs := ([] : List Int)) (inner := []) (ok := fun _ => True) (okp := fun _ => True) ?hr ?hp (fun _ hk => hk) trivial (Below.refl _ _) (Nat.le_refl _) (by simp) ?_; (case hd => rfl); (case hg => rfl); (case hr => first | (go_simp; done) | (go_simp; rfl)); (case hp => exact Reps.none _ _); intro v0 w0 ho hb hg_ hnew_; clear hg_ hnew_)
  have HL := Aside0.mk ho
  have HB := Aside0.mk hb
  clear ho hb
  go_loopg [8, 12] n (fun gg v8 v12 w' => ∃ i : Nat, i ≤ n ∧ n - i ≤ gg ∧ v12 = .int .i64 i ∧ Aside0 (Kd.R (Kd.int .u8) 5 w' w.heap.size (fun _ => True) v8 (ftLine s sign ed i)) ∧ Aside0 (Below w.heap.size w w'))
  case atStart => exact ⟨0, Nat.zero_le _, by omega, rfl, HL, HB⟩
  case round =>
    clear HL HB
    obtain ⟨i, hi, hg, rfl, HL, HB⟩ := hrel
    by_cases hlt : i < n
    · have hltz : (i : Int) < (n : Int) := by omega
      have cS : wr.cell? ⟨SB, 0, none⟩ = some (.int .u64 s) := (blk_cell (blk_below HS.out HB.out) 0).trans rfl
      have CC := Aside0.mk (fun W (hW : Below wr.heap.size wr W) => HC.out W i hlt (below_step HB.out hW))
      have HLT := Aside0.mk hlt
      clear hlt
      obtain ⟨b, hb⟩ : ∃ b, ftB s (ed i) = b := ⟨_, rfl⟩
      have hb' : (Go.bits .and .u64 s (ed i) != 0) = b := hb
      have HQ := Aside0.mk hb
      clear hb
      have hSg : ftSign s sign (ed i) = if b = true then sign else 46 := by unfold ftSign; rw [HQ.out]
      have HSg := Aside0.mk hSg
      clear hSg
      have hL1 : ((ftLine s sign ed i).length + 1) * 1 ≤ 140737488355328 := by rw [ftLine_len]; omega
      have HL1 := Aside0.mk hL1
      clear hL1
      cases b with
      | true =>
        go_wp2
        go_region_held3 (fun W => W.cell? ⟨SB, 0, none⟩ = some (.int .u64 s))
          (first
            | exact pw_cell_below hb cS
            | exact cS
            | go_keep)
          (first
            | (go_at_call 78; refine (CC.out _ (below_drew1 (Below.refl _ _))).mono ?_; rintro e w' ⟨rfl, hb⟩))
        go_wp2_with ((with_reducible refine gate_builtin (b := .append) (xs := #[.tmp 21, .tmp 23]) rfl ?_); at_builtin; refine Kd.R_append (Kd.int .u8) (w0 := w) w.heap.size rfl (.tmp 21) (.tmp 23) 91 5 (.int .u8 0) 1 rfl Tryz.underlying91 ft_info5 rfl (by decide) (by omega) _ (ftLine s sign ed i) sign [.int .u8 sign] (fun _ => True) (fun _ => False) rfl rfl ?aP (fun _ hk => hk.elim) ?aF ?aO ?aB ?aS ?aL ?_; (case aP => exact rfl); (case aB => exact below_step (below_drew1 HB.out) hb); (case aF => exact (fun _ _ => trivial)); (case aO => exact Kd.R_below (Kd.R_drew HL.out) hb); (case aS => exact below_size (below_step (below_drew1 HB.out) hb)); (case aL => exact HL1.out); intro v1 w1 ho hb2 hg2 hat)
        go_roundg (n - (i + 1))
        case measure => have := HLT.out; omega
        case rel => exact ⟨i + 1, HLT.out, by omega, by go_num, ⟨by rw [show ftLine s sign ed (i + 1) = ftLine s sign ed i ++ [sign] by rw [ftLine, HSg.out]; simp]; exact ho⟩, ⟨hb2⟩⟩
      | false =>
        go_wp2
        go_region_held3 (fun W => W.cell? ⟨SB, 0, none⟩ = some (.int .u64 s))
          (first
            | exact pw_cell_below hb cS
            | exact cS
            | go_keep)
          (first
            | (go_at_call 78; refine (CC.out _ (below_drew1 (Below.refl _ _))).mono ?_; rintro e w' ⟨rfl, hb⟩))
        go_wp2_with ((with_reducible refine gate_builtin (b := .append) (xs := #[.tmp 25, .tmp 26]) rfl ?_); at_builtin; refine Kd.R_append (Kd.int .u8) (w0 := w) w.heap.size rfl (.tmp 25) (.tmp 26) 91 5 (.int .u8 0) 1 rfl Tryz.underlying91 ft_info5 rfl (by decide) (by omega) _ (ftLine s sign ed i) 46 [.int .u8 46] (fun _ => True) (fun _ => False) rfl rfl ?aP (fun _ hk => hk.elim) ?aF ?aO ?aB ?aS ?aL ?_; (case aP => exact rfl); (case aB => exact below_step (below_drew1 HB.out) hb); (case aF => exact (fun _ _ => trivial)); (case aO => exact Kd.R_below (Kd.R_drew HL.out) hb); (case aS => exact below_size (below_step (below_drew1 HB.out) hb)); (case aL => exact HL1.out); intro v1 w1 ho hb2 hg2 hat)
        go_roundg (n - (i + 1))
        case measure => have := HLT.out; omega
        case rel => exact ⟨i + 1, HLT.out, by omega, by go_num, ⟨by rw [show ftLine s sign ed (i + 1) = ftLine s sign ed i ++ [46] by rw [ftLine, HSg.out]; simp]; exact ho⟩, ⟨hb2⟩⟩
    · have hltz : ¬ (i : Int) < (n : Int) := by omega
      obtain rfl : i = n := by omega
      clear hi hg hlt
      obtain ⟨A8, c8, e8⟩ := Kd.R_slice HL.out
      subst e8
      have cR : wr.cell? ⟨R, 0, none⟩ = some v := (blk_cell (blk_below HR.out HB.out) 0).trans rfl
      have hcv : (convert 91 9 (.slice A8 (ftLine s sign ed i).length c8)).run Tryz.prog wr = .ok (.string (strOfNums (ftLine s sign ed i))) wr := Kd.C_string Tryz.underlying91 Tryz.underlying5 Tryz.underlying9 (Kd.R_reads' HL.out).2.2
      have HOr := Aside0.mk (Kd.R_below HO.out HB.out)
      have HRr := Aside0.mk (blk_below HR.out HB.out)
      have HXl : (xs.length + 1) * 16 ≤ 140737488355328 := by have := HX.out; omega
      have HXl' := Aside0.mk HXl
      clear HXl
      go_wp2_with ((with_reducible refine gate_builtin (b := .append) (xs := #[.tmp 29, .tmp 32]) rfl ?_); at_builtin; refine Kd.R_append Kd.string (w0 := wr) base rfl (.tmp 29) (.tmp 32) 67 9 (.string ByteArray.empty) 16 rfl Tryz.underlying67 ft_info9 rfl (by decide) (by omega) v xs (strOfNums (ftLine s sign ed i)) [.string (strOfNums (ftLine s sign ed i))] (fun _ => True) (fun _ => False) rfl rfl ?aP (fun _ hk => hk.elim) ?aF ?aO ?aB ?aS ?aL ?_; (case aP => exact rfl); (case aB => exact Below.refl _ _); (case aF => exact (fun _ _ => trivial)); (case aO => exact HOr.out); (case aS => exact Nat.le_trans HBA.out (below_size HB.out)); (case aL => exact HXl'.out); intro v1 w1 ho hb2 hg2 hat; have nR : some R ≠ v.ownBlock := fun e => ((Kd.R_types HOr.out HRr.out (by decide)).1 R e.symm).2 rfl; have HR1 := Aside0.mk ((hg2.block R (blk_lt HRr.out) nR).trans HRr.out); have cR1 := (blk_cell HR1.out 0).trans rfl; have fR1 := blk_frozen HR1.out 0; obtain ⟨A1, c1, e1⟩ := Kd.R_slice ho; rw [List.length_append, List.length_singleton] at e1; subst e1)
      first | go_end0 | ((try simp only [Exit.inBlock, Exit.then]); refine bodyPost_ret (results_none rfl _ _ _) rfl ?_)
      have hlR := blk_lt HRr.out
      refine ⟨rfl, _, blk_put (cs := #[v]) HR1.out 0 _ rfl, ?_, ?_, ?_⟩
      · refine Kd.R_mono (Kd.R_far (p := ⟨R, 0, none⟩) (Kd.R_mono (ok' := fun k => k ≠ R) (Kd.R_types ho HR1.out (by decide)) (fun k hk => hk.2)) (fun _ hk => hk) _) (fun _ _ => trivial)
      · exact KeepBut.trans (KeepBut.of_below HB.out R _) (KeepBut.set_ (KeepBut.of_grown hg2 R) 0 _) (.inl rfl)
      · exact ((HB.out.mono HBA.out).trans hb2).setCell HBR.out _
set_option maxHeartbeats 4000000 in
set_option maxRecDepth 100000 in
theorem ft_row_U (n : Nat) (N : Int) (hN : N = (n : Int)) (hn : n ≤ 5) (sign s : Int) (ed : Int → Int) (G Y SB R base : Nat) (v : Value) (xs : List ByteArray) (w : World) (hxs : xs.length ≤ 20) (hbase : base ≤ w.heap.size) (hbR : base ≤ R)
    (hS : w.heap[SB]? = some (.cells #[.int .u64 s] 56 (0, 0))) (hR : w.heap[R]? = some (.cells #[v] 67 (0, 0)))
    (hO : Kd.R Kd.string 9 w base (fun _ => True) v xs)
    (C : ∀ W (x : Nat), x < n → Below w.heap.size w W → Calls Tryz.prog 79 #[.int .i64 x, .pointer (some ⟨G, 0, none⟩), .pointer (some ⟨Y, 0, none⟩)] W fun e W' => e = .returned (.int .u64 (ed x)) ∧ Below W.heap.size W W') :
    Calls Tryz.prog 77 #[.int .i64 N, .int .u8 sign, .func (.func 79) #[] #[.pointer (some ⟨G, 0, none⟩), .pointer (some ⟨Y, 0, none⟩)], .pointer (some ⟨SB, 0, none⟩), .pointer (some ⟨R, 0, none⟩)] w fun e w' => e = .returned (.tuple #[]) ∧ ∃ v', w'.heap[R]? = some (.cells #[v'] 67 (0, 0)) ∧ Kd.R Kd.string 9 w' base (fun _ => True) v' (xs ++ [strOfNums (ftLine s sign ed n)]) ∧ KeepBut w w' R v.ownBlock ∧ Below base w w' := by
  subst hN
  have HC := Aside0.mk C
  have HS := Aside0.mk hS
  have HR := Aside0.mk hR
  have HO := Aside0.mk hO
  have HX := Aside0.mk hxs
  have HBA := Aside0.mk hbase
  have HBR := Aside0.mk hbR
  clear hbR
  clear C hS hR hO hxs hbase
  have hu8 := Tryz.underlying5
  have hus := Tryz.underlying56
  go_enter Tryz.func77, Tryz.ntmps77
  go_wp2_with ((with_reducible refine gate_dst (N := 10) rfl ?_); refine Kd.R_lit (Kd.int .u8) _ 5 ?hg (N := 10) ?hd (xs := ([] : List Int)) (inner := []) (ok := fun _ => True) (okp := fun _ => True) ?hr ?hp (fun _ hk => hk) trivial (Below.refl _ _) (Nat.le_refl _) (by simp) ?_; (case hd => rfl); (case hg => rfl); (case hr => first | (go_simp; done) | (go_simp; rfl)); (case hp => exact Reps.none _ _); intro v0 w0 ho hb hg_ hnew_; clear hg_ hnew_)
  have HL := Aside0.mk ho
  have HB := Aside0.mk hb
  clear ho hb
  go_loopg [8, 12] n (fun gg v8 v12 w' => ∃ i : Nat, i ≤ n ∧ n - i ≤ gg ∧ v12 = .int .i64 i ∧ Aside0 (Kd.R (Kd.int .u8) 5 w' w.heap.size (fun _ => True) v8 (ftLine s sign ed i)) ∧ Aside0 (Below w.heap.size w w'))
  case atStart => exact ⟨0, Nat.zero_le _, by omega, rfl, HL, HB⟩
  case round =>
    clear HL HB
    obtain ⟨i, hi, hg, rfl, HL, HB⟩ := hrel
    by_cases hlt : i < n
    · have hltz : (i : Int) < (n : Int) := by omega
      have cS : wr.cell? ⟨SB, 0, none⟩ = some (.int .u64 s) := (blk_cell (blk_below HS.out HB.out) 0).trans rfl
      have CC := Aside0.mk (fun W (hW : Below wr.heap.size wr W) => HC.out W i hlt (below_step HB.out hW))
      have HLT := Aside0.mk hlt
      clear hlt
      obtain ⟨b, hb⟩ : ∃ b, ftB s (ed i) = b := ⟨_, rfl⟩
      have hb' : (Go.bits .and .u64 s (ed i) != 0) = b := hb
      have HQ := Aside0.mk hb
      clear hb
      have hSg : ftSign s sign (ed i) = if b = true then sign else 46 := by unfold ftSign; rw [HQ.out]
      have HSg := Aside0.mk hSg
      clear hSg
      have hL1 : ((ftLine s sign ed i).length + 1) * 1 ≤ 140737488355328 := by rw [ftLine_len]; omega
      have HL1 := Aside0.mk hL1
      clear hL1
      cases b with
      | true =>
        go_wp2
        go_region_held3 (fun W => W.cell? ⟨SB, 0, none⟩ = some (.int .u64 s))
          (first
            | exact pw_cell_below hb cS
            | exact cS
            | go_keep)
          (first
            | (go_at_call 79; refine (CC.out _ (below_drew1 (Below.refl _ _))).mono ?_; rintro e w' ⟨rfl, hb⟩))
        go_wp2_with ((with_reducible refine gate_builtin (b := .append) (xs := #[.tmp 21, .tmp 23]) rfl ?_); at_builtin; refine Kd.R_append (Kd.int .u8) (w0 := w) w.heap.size rfl (.tmp 21) (.tmp 23) 91 5 (.int .u8 0) 1 rfl Tryz.underlying91 ft_info5 rfl (by decide) (by omega) _ (ftLine s sign ed i) sign [.int .u8 sign] (fun _ => True) (fun _ => False) rfl rfl ?aP (fun _ hk => hk.elim) ?aF ?aO ?aB ?aS ?aL ?_; (case aP => exact rfl); (case aB => exact below_step (below_drew1 HB.out) hb); (case aF => exact (fun _ _ => trivial)); (case aO => exact Kd.R_below (Kd.R_drew HL.out) hb); (case aS => exact below_size (below_step (below_drew1 HB.out) hb)); (case aL => exact HL1.out); intro v1 w1 ho hb2 hg2 hat)
        go_roundg (n - (i + 1))
        case measure => have := HLT.out; omega
        case rel => exact ⟨i + 1, HLT.out, by omega, by go_num, ⟨by rw [show ftLine s sign ed (i + 1) = ftLine s sign ed i ++ [sign] by rw [ftLine, HSg.out]; simp]; exact ho⟩, ⟨hb2⟩⟩
      | false =>
        go_wp2
        go_region_held3 (fun W => W.cell? ⟨SB, 0, none⟩ = some (.int .u64 s))
          (first
            | exact pw_cell_below hb cS
            | exact cS
            | go_keep)
          (first
            | (go_at_call 79; refine (CC.out _ (below_drew1 (Below.refl _ _))).mono ?_; rintro e w' ⟨rfl, hb⟩))
        go_wp2_with ((with_reducible refine gate_builtin (b := .append) (xs := #[.tmp 25, .tmp 26]) rfl ?_); at_builtin; refine Kd.R_append (Kd.int .u8) (w0 := w) w.heap.size rfl (.tmp 25) (.tmp 26) 91 5 (.int .u8 0) 1 rfl Tryz.underlying91 ft_info5 rfl (by decide) (by omega) _ (ftLine s sign ed i) 46 [.int .u8 46] (fun _ => True) (fun _ => False) rfl rfl ?aP (fun _ hk => hk.elim) ?aF ?aO ?aB ?aS ?aL ?_; (case aP => exact rfl); (case aB => exact below_step (below_drew1 HB.out) hb); (case aF => exact (fun _ _ => trivial)); (case aO => exact Kd.R_below (Kd.R_drew HL.out) hb); (case aS => exact below_size (below_step (below_drew1 HB.out) hb)); (case aL => exact HL1.out); intro v1 w1 ho hb2 hg2 hat)
        go_roundg (n - (i + 1))
        case measure => have := HLT.out; omega
        case rel => exact ⟨i + 1, HLT.out, by omega, by go_num, ⟨by rw [show ftLine s sign ed (i + 1) = ftLine s sign ed i ++ [46] by rw [ftLine, HSg.out]; simp]; exact ho⟩, ⟨hb2⟩⟩
    · have hltz : ¬ (i : Int) < (n : Int) := by omega
      obtain rfl : i = n := by omega
      clear hi hg hlt
      obtain ⟨A8, c8, e8⟩ := Kd.R_slice HL.out
      subst e8
      have cR : wr.cell? ⟨R, 0, none⟩ = some v := (blk_cell (blk_below HR.out HB.out) 0).trans rfl
      have hcv : (convert 91 9 (.slice A8 (ftLine s sign ed i).length c8)).run Tryz.prog wr = .ok (.string (strOfNums (ftLine s sign ed i))) wr := Kd.C_string Tryz.underlying91 Tryz.underlying5 Tryz.underlying9 (Kd.R_reads' HL.out).2.2
      have HOr := Aside0.mk (Kd.R_below HO.out HB.out)
      have HRr := Aside0.mk (blk_below HR.out HB.out)
      have HXl : (xs.length + 1) * 16 ≤ 140737488355328 := by have := HX.out; omega
      have HXl' := Aside0.mk HXl
      clear HXl
      go_wp2_with ((with_reducible refine gate_builtin (b := .append) (xs := #[.tmp 29, .tmp 32]) rfl ?_); at_builtin; refine Kd.R_append Kd.string (w0 := wr) base rfl (.tmp 29) (.tmp 32) 67 9 (.string ByteArray.empty) 16 rfl Tryz.underlying67 ft_info9 rfl (by decide) (by omega) v xs (strOfNums (ftLine s sign ed i)) [.string (strOfNums (ftLine s sign ed i))] (fun _ => True) (fun _ => False) rfl rfl ?aP (fun _ hk => hk.elim) ?aF ?aO ?aB ?aS ?aL ?_; (case aP => exact rfl); (case aB => exact Below.refl _ _); (case aF => exact (fun _ _ => trivial)); (case aO => exact HOr.out); (case aS => exact Nat.le_trans HBA.out (below_size HB.out)); (case aL => exact HXl'.out); intro v1 w1 ho hb2 hg2 hat; have nR : some R ≠ v.ownBlock := fun e => ((Kd.R_types HOr.out HRr.out (by decide)).1 R e.symm).2 rfl; have HR1 := Aside0.mk ((hg2.block R (blk_lt HRr.out) nR).trans HRr.out); have cR1 := (blk_cell HR1.out 0).trans rfl; have fR1 := blk_frozen HR1.out 0; obtain ⟨A1, c1, e1⟩ := Kd.R_slice ho; rw [List.length_append, List.length_singleton] at e1; subst e1)
      first | go_end0 | ((try simp only [Exit.inBlock, Exit.then]); refine bodyPost_ret (results_none rfl _ _ _) rfl ?_)
      have hlR := blk_lt HRr.out
      refine ⟨rfl, _, blk_put (cs := #[v]) HR1.out 0 _ rfl, ?_, ?_, ?_⟩
      · refine Kd.R_mono (Kd.R_far (p := ⟨R, 0, none⟩) (Kd.R_mono (ok' := fun k => k ≠ R) (Kd.R_types ho HR1.out (by decide)) (fun k hk => hk.2)) (fun _ hk => hk) _) (fun _ _ => trivial)
      · exact KeepBut.trans (KeepBut.of_below HB.out R _) (KeepBut.set_ (KeepBut.of_grown hg2 R) 0 _) (.inl rfl)
      · exact ((HB.out.mono HBA.out).trans hb2).setCell HBR.out _
theorem ft_ne {w : World} {a b : Nat} {c d : Array Value} {t u : TypeId} (ha : w.heap[a]? = some (.cells c t (0, 0))) (hb : w.heap[b]? = some (.cells d u (0, 0))) (h : t ≠ u) : a ≠ b := by
  rintro rfl
  rw [ha] at hb
  injection hb with hb
  injection hb with _ hb
  exact h hb
/-- a variable's cell: where it lies, what it holds -/
def FtV (w0 w : World) (t : Value) (u : TypeId) (cs : Array Value) : Prop := ∃ g, t = .pointer (some ⟨g, 0, none⟩) ∧ w0.heap.size ≤ g ∧ w.heap[g]? = some (.cells cs u (0, 0))
theorem FtV.below {w0 w w' : World} {t : Value} {u : TypeId} {cs : Array Value} (h : FtV w0 w t u cs) (hb : Below w.heap.size w w') : FtV w0 w' t u cs := by
  obtain ⟨g, e, hg, hc⟩ := h
  exact ⟨g, e, hg, blk_below hc hb⟩
theorem FtV.far {w0 w : World} {t : Value} {u u' : TypeId} {cs ds : Array Value} {g j : Nat} {v : Value} (h : FtV w0 w t u cs) (hg : w.heap[g]? = some (.cells ds u' (0, 0))) (hne : u ≠ u') : FtV w0 (w.setCell ⟨g, j, none⟩ v) t u cs := by
  obtain ⟨g', e, hg', hc⟩ := h
  exact ⟨g', e, hg', blk_far hc (ft_ne hc hg hne) _⟩
structure FtM (B0 : Nat) (fc : Array Value) (wn hn : Nat) (s : Int) (w0 : World) (F : Nat → Bool) (t3 t4 t5 t12 : Value) (w : World) : Prop where
  HB : Below w0.heap.size w0 w
  hB : w.heap[B0]? = some (.cells fc 30 (0, 0))
  C4 : F 4 = true → Kd.R Kd.string 9 w w0.heap.size (fun _ => True) t12 []
  C5 : F 5 = true → FtV w0 w t3 60 (if F 8 = true then #[.int .i64 wn, .int .i64 hn] else #[.int .i64 0, .int .i64 0])
  C6 : F 6 = true → FtV w0 w t4 56 (if F 9 = true then #[.int .u64 s] else #[.int .u64 0])
  C7 : F 7 = true → FtV w0 w t5 67 (if F 10 = true then #[t12] else #[.slice none 0 0])
  D8 : F 8 = true → F 5 = true
  D9 : F 9 = true → F 6 = true
  D10 : F 10 = true → F 7 = true ∧ F 4 = true
section
variable {B0 : Nat} {fc : Array Value} {wn hn : Nat} {s : Int} {w0 w w' : World} {F : Nat → Bool} {t3 t4 t5 t12 : Value}
theorem FtM.below (h : FtM B0 fc wn hn s w0 F t3 t4 t5 t12 w) (hb : Below w.heap.size w w') : FtM B0 fc wn hn s w0 F t3 t4 t5 t12 w' :=
  ⟨below_step h.HB hb, blk_below h.hB hb, fun q => Kd.R_below (h.C4 q) hb, fun q => (h.C5 q).below hb, fun q => (h.C6 q).below hb, fun q => (h.C7 q).below hb, h.D8, h.D9, h.D10⟩
theorem FtM.ext {F' : Nat → Bool} (h : FtM B0 fc wn hn s w0 F t3 t4 t5 t12 w) (e : ∀ j, 4 ≤ j → j < 11 → F j = F' j) : FtM B0 fc wn hn s w0 F' t3 t4 t5 t12 w := by
  have e4 := e 4 (by omega) (by omega); have e5 := e 5 (by omega) (by omega); have e6 := e 6 (by omega) (by omega); have e7 := e 7 (by omega) (by omega)
  have e8 := e 8 (by omega) (by omega); have e9 := e 9 (by omega) (by omega); have e10 := e 10 (by omega) (by omega)
  obtain ⟨a, b, c4, c5, c6, c7, d8, d9, d10⟩ := h
  rw [e4] at c4; rw [e5, e8] at c5; rw [e6, e9] at c6; rw [e7, e10] at c7; rw [e5, e8] at d8; rw [e6, e9] at d9; rw [e4, e7, e10] at d10
  exact ⟨a, b, c4, c5, c6, c7, d8, d9, d10⟩
theorem FtM.lit {v : Value} (h : FtM B0 fc wn hn s w0 F t3 t4 t5 t12 w) (hF : F 4 = false) (hb : Below w.heap.size w w') (hR : Kd.R Kd.string 9 w' w0.heap.size (fun _ => True) v []) : FtM B0 fc wn hn s w0 (fun j => if j = 4 then true else F j) t3 t4 t5 v w' := by
  have h' := h.below hb
  refine ⟨h'.HB, h'.hB, fun _ => hR, h'.C5, h'.C6, fun q => ?_, h'.D8, h'.D9, fun q => ?_⟩
  · have := h'.C7 q
    cases q10 : F 10 with
    | true => have := (h'.D10 q10).2; rw [hF] at this; cases this
    | false => rw [q10] at this; simpa [q10] using this
  · have := (h'.D10 q).2; rw [hF] at this; cases this
theorem FtM.new5 {g : Nat} (h : FtM B0 fc wn hn s w0 F t3 t4 t5 t12 w) (hF : F 5 = false) (hb : Below w.heap.size w w') (hg : g = w.heap.size) (hn' : w'.heap[g]? = some (.cells #[.int .i64 0, .int .i64 0] 60 (0, 0))) : FtM B0 fc wn hn s w0 (fun j => if j = 5 then true else F j) (.pointer (some ⟨g, 0, none⟩)) t4 t5 t12 w' := by
  have h' := h.below hb
  refine ⟨h'.HB, h'.hB, h'.C4, fun _ => ⟨g, rfl, by rw [hg]; exact below_size h.HB, ?_⟩, h'.C6, h'.C7, fun q => ?_, h'.D9, h'.D10⟩
  · cases q8 : F 8 with
    | true => have := h'.D8 q8; rw [hF] at this; cases this
    | false => simpa [q8] using hn'
  · have := h'.D8 q; rw [hF] at this; cases this
theorem FtM.new6 {g : Nat} (h : FtM B0 fc wn hn s w0 F t3 t4 t5 t12 w) (hF : F 6 = false) (hb : Below w.heap.size w w') (hg : g = w.heap.size) (hn' : w'.heap[g]? = some (.cells #[.int .u64 0] 56 (0, 0))) : FtM B0 fc wn hn s w0 (fun j => if j = 6 then true else F j) t3 (.pointer (some ⟨g, 0, none⟩)) t5 t12 w' := by
  have h' := h.below hb
  refine ⟨h'.HB, h'.hB, h'.C4, h'.C5, fun _ => ⟨g, rfl, by rw [hg]; exact below_size h.HB, ?_⟩, h'.C7, h'.D8, fun q => ?_, h'.D10⟩
  · cases q8 : F 9 with
    | true => have := h'.D9 q8; rw [hF] at this; cases this
    | false => simpa [q8] using hn'
  · have := h'.D9 q; rw [hF] at this; cases this
theorem FtM.new7 {g : Nat} (h : FtM B0 fc wn hn s w0 F t3 t4 t5 t12 w) (hF : F 7 = false) (hb : Below w.heap.size w w') (hg : g = w.heap.size) (hn' : w'.heap[g]? = some (.cells #[.slice none 0 0] 67 (0, 0))) : FtM B0 fc wn hn s w0 (fun j => if j = 7 then true else F j) t3 t4 (.pointer (some ⟨g, 0, none⟩)) t12 w' := by
  have h' := h.below hb
  refine ⟨h'.HB, h'.hB, h'.C4, h'.C5, h'.C6, fun _ => ⟨g, rfl, by rw [hg]; exact below_size h.HB, ?_⟩, h'.D8, h'.D9, fun q => ?_⟩
  · cases q8 : F 10 with
    | true => have := (h'.D10 q8).1; rw [hF] at this; cases this
    | false => simpa [q8] using hn'
  · have := (h'.D10 q).1; rw [hF] at this; cases this
theorem FtM.set8 (h : FtM B0 fc wn hn s w0 F t3 t4 t5 t12 w) (h5 : F 5 = true) (hF : F 8 = false) : ∃ g, t3 = .pointer (some ⟨g, 0, none⟩) ∧ w.heap[g]? = some (.cells #[.int .i64 0, .int .i64 0] 60 (0, 0)) ∧ FtM B0 fc wn hn s w0 (fun j => if j = 8 then true else F j) t3 t4 t5 t12 ((w.setCell ⟨g, 0, none⟩ (.int .i64 wn)).setCell ⟨g, 1, none⟩ (.int .i64 hn)) := by
  obtain ⟨g, e, hg, hc⟩ := h.C5 h5
  rw [hF] at hc
  have hc : w.heap[g]? = some (.cells #[.int .i64 0, .int .i64 0] 60 (0, 0)) := hc
  have hc1 : (w.setCell ⟨g, 0, none⟩ (.int .i64 wn)).heap[g]? = some (.cells #[.int .i64 wn, .int .i64 0] 60 (0, 0)) := blk_put (cs := #[.int .i64 0, .int .i64 0]) hc 0 _ rfl
  have hc2 : ((w.setCell ⟨g, 0, none⟩ (.int .i64 wn)).setCell ⟨g, 1, none⟩ (.int .i64 hn)).heap[g]? = some (.cells #[.int .i64 wn, .int .i64 hn] 60 (0, 0)) := blk_put (cs := #[.int .i64 wn, .int .i64 0]) hc1 1 _ rfl
  refine ⟨g, e, hc, below_set (below_set h.HB hg) hg, blk_far (blk_far h.hB (ft_ne h.hB hc (by decide)) _) (ft_ne h.hB hc (by decide)) _, fun q => ?_, fun _ => ⟨g, e, hg, hc2⟩, fun q => ((h.C6 q).far hc (by decide)).far hc1 (by decide), fun q => ((h.C7 q).far hc (by decide)).far hc1 (by decide), fun _ => h5, h.D9, h.D10⟩
  exact Kd.R_mono (Kd.R_far (p := ⟨g, 1, none⟩) (Kd.R_far (p := ⟨g, 0, none⟩) (Kd.R_types (h.C4 q) hc (by decide)) (fun _ hk => hk.2) _) (fun _ hk => hk.2) _) (fun _ hk => hk.1)
theorem FtM.set9 (h : FtM B0 fc wn hn s w0 F t3 t4 t5 t12 w) (h5 : F 6 = true) (hF : F 9 = false) : ∃ g, t4 = .pointer (some ⟨g, 0, none⟩) ∧ w.heap[g]? = some (.cells #[.int .u64 0] 56 (0, 0)) ∧ FtM B0 fc wn hn s w0 (fun j => if j = 9 then true else F j) t3 t4 t5 t12 (w.setCell ⟨g, 0, none⟩ (.int .u64 s)) := by
  obtain ⟨g, e, hg, hc⟩ := h.C6 h5
  rw [hF] at hc
  have hc : w.heap[g]? = some (.cells #[.int .u64 0] 56 (0, 0)) := hc
  have hc1 : (w.setCell ⟨g, 0, none⟩ (.int .u64 s)).heap[g]? = some (.cells #[.int .u64 s] 56 (0, 0)) := blk_put (cs := #[.int .u64 0]) hc 0 _ rfl
  refine ⟨g, e, hc, below_set h.HB hg, blk_far h.hB (ft_ne h.hB hc (by decide)) _, fun q => ?_, fun q => (h.C5 q).far hc (by decide), fun _ => ⟨g, e, hg, hc1⟩, fun q => (h.C7 q).far hc (by decide), h.D8, fun _ => h5, h.D10⟩
  exact Kd.R_mono (Kd.R_far (p := ⟨g, 0, none⟩) (Kd.R_types (h.C4 q) hc (by decide)) (fun _ hk => hk.2) _) (fun _ hk => hk.1)
theorem FtM.set10 (h : FtM B0 fc wn hn s w0 F t3 t4 t5 t12 w) (h7 : F 7 = true) (h4 : F 4 = true) (hF : F 10 = false) : ∃ g, t5 = .pointer (some ⟨g, 0, none⟩) ∧ w.heap[g]? = some (.cells #[.slice none 0 0] 67 (0, 0)) ∧ FtM B0 fc wn hn s w0 (fun j => if j = 10 then true else F j) t3 t4 t5 t12 (w.setCell ⟨g, 0, none⟩ t12) := by
  obtain ⟨g, e, hg, hc⟩ := h.C7 h7
  rw [hF] at hc
  have hc : w.heap[g]? = some (.cells #[.slice none 0 0] 67 (0, 0)) := hc
  have hc1 : (w.setCell ⟨g, 0, none⟩ t12).heap[g]? = some (.cells #[t12] 67 (0, 0)) := blk_put (cs := #[.slice none 0 0]) hc 0 _ rfl
  refine ⟨g, e, hc, below_set h.HB hg, blk_far h.hB (ft_ne h.hB hc (by decide)) _, fun q => ?_, fun q => (h.C5 q).far hc (by decide), fun q => (h.C6 q).far hc (by decide), fun _ => ⟨g, e, hg, hc1⟩, h.D8, h.D9, fun _ => ⟨h7, h4⟩⟩
  exact Kd.R_mono (Kd.R_far (p := ⟨g, 0, none⟩) (Kd.R_types (h.C4 q) hc (by decide)) (fun _ hk => hk.2) _) (fun _ hk => hk.1)
end
def FtI (B0 : Nat) (fig : Value) (fc : Array Value) (wn hn : Nat) (s : Int) (w0 : World) (F : Nat → Bool) (a : Act) (w : World) : Prop :=
  ∃ t3 t4 t5 t8 t9 t10 t11 t12 : Value, a = ⟨List.toArray (fig :: .pointer (some ⟨B0, 0, none⟩) :: .string ⟨#[]⟩ :: t3 :: t4 :: t5 :: undef :: undef :: t8 :: t9 :: t10 :: t11 :: t12 :: undef :: undef :: undef :: undef :: undef :: undef :: undef :: undef :: undef :: undef :: undef :: undef :: undef :: undef :: undef :: undef :: undef :: undef :: undef :: undef :: undef :: undef :: undef :: undef :: undef :: []), []⟩ ∧
    FtM B0 fc wn hn s w0 F t3 t4 t5 t12 w ∧ (F 0 = true → t8 = fig) ∧ (F 1 = true → t9 = .agg #[.int .i64 wn, .int .i64 hn]) ∧ (F 2 = true → t10 = fig) ∧ (F 3 = true → t11 = .int .u64 s)
section
variable {P : Program} {ops : Array Oper} {o : Oper} {a : Act} {Q : Exit → Act → World → Prop} {Kc : Act → World → Prop}
theorem skip_step {W w1 : World} (hw : Region.wanted o (yielded ops a.tmps) = true) (hN : o.dst = none) (hrun : (execOp a.eval o).run P W = .ok .skip w1) (h : Kc a w1) : if Region.wanted o (yielded ops a.tmps) = true then Oper.wp P o a W Kc Q else Kc (a.put o.dst undef) W := by
  rw [if_pos hw]
  unfold Oper.wp
  rw [hrun]
  show Kc (a.put o.dst undef) w1
  rw [hN]
  exact h
end
theorem ft_kept {W W' : World} {R base g : Nat} {v : Value} {xs : List ByteArray} {cs : Array Value} {t : TypeId} (hk : KeepBut W W' R v.ownBlock) (ho : Kd.R Kd.string 9 W base (fun _ => True) v xs) (hg : W.heap[g]? = some (.cells cs t (0, 0))) (ht : t ≠ 9) (hne : g ≠ R) : W'.heap[g]? = some (.cells cs t (0, 0)) := by
  have hq : ∀ q, q ∈ 9 :: Kd.string.E → q ≠ t := by
    intro q hq
    have hq' : q = 9 := by simpa [Kd.string, Kd.scalar] using hq
    rw [hq']
    exact fun h => ht h.symm
  exact KeepBut.blk hk hg hne (fun e => ((Kd.R_types ho hg hq).1 g e.symm).2 rfl)
set_option maxHeartbeats 8000000 in
set_option maxRecDepth 100000 in
theorem ft_main (k wn hn : Nat) (A0_2 : Option Addr) (c0_2 : Nat) (l0_2 : List Int) (A0_3 : Option Addr) (c0_3 : Nat) (l0_3 : List Int) (s : Int) (w : World) (h1 : 1 ≤ wn) (h2 : wn ≤ 4) (h3 : 1 ≤ hn) (h4 : hn ≤ 4) (hr0_2 : Kd.C (Kd.int .i64) w A0_2 l0_2.length l0_2) (hc0_2 : l0_2.length ≤ c0_2) (hr0_3 : Kd.C (Kd.int .i64) w A0_3 l0_3.length l0_3) (hc0_3 : l0_3.length ≤ c0_3) (h : impl_Figure_set.f k wn hn l0_2 l0_3 = some s) :
  Calls Tryz.prog 55 #[.agg #[.int .i64 wn, .int .i64 hn, .slice A0_2 l0_2.length c0_2, .slice A0_3 l0_3.length c0_3]] w fun e w' => e = .returned (.string (ftJoin (ftRows wn hn s (hn + 1)))) ∧ Below w.heap.size w w' := by
  have C1 := Aside0.mk (fun W (hb : Below w.heap.size w W) => impl_Figure_grid.calls wn hn A0_2 c0_2 l0_2 A0_3 c0_3 l0_3 wn hn W (Kd.C_below hr0_2 hb) hc0_2 (Kd.C_below hr0_3 hb) hc0_3 rfl)
  have C3 := Aside0.mk (fun W (hb : Below w.heap.size w W) => impl_Figure_set.calls k wn hn A0_2 c0_2 l0_2 A0_3 c0_3 l0_3 s W (Kd.C_below hr0_2 hb) hc0_2 (Kd.C_below hr0_3 hb) hc0_3 h)
  clear hr0_2 hc0_2 hr0_3 hc0_3 h
  have hu1 := Tryz.underlying30
  have hu2 := Tryz.underlying60
  have hu3 := Tryz.underlying56
  have hu4 := Tryz.underlying67
  go_enter Tryz.func55, Tryz.ntmps55
  go_wp2_with ((with_reducible refine gate_dst (N := 1) rfl ?_); refine zbx 1 #[.int .i64 wn, .int .i64 hn, .slice A0_2 l0_2.length c0_2, .slice A0_3 l0_3.length c0_3] 30 ?_; intro B0 hg w1 hbox hb; have HBX := Aside0.mk hbox; have HBB := Aside0.mk hb; clear hg hbox hb)
  have M0 : FtM B0 #[.int .i64 wn, .int .i64 hn, .slice A0_2 l0_2.length c0_2, .slice A0_3 l0_3.length c0_3] wn hn s w (fun _ => false) undef undef undef undef w1.drew := ⟨below_drew1 (below_step (Below.refl _ _) HBB.out), blk_drew HBX.out, (fun h => (Bool.false_ne_true h).elim), (fun h => (Bool.false_ne_true h).elim), (fun h => (Bool.false_ne_true h).elim), (fun h => (Bool.false_ne_true h).elim), (fun h => (Bool.false_ne_true h).elim), (fun h => (Bool.false_ne_true h).elim), (fun h => (Bool.false_ne_true h).elim)⟩
  have HM0 := Aside0.mk M0
  clear M0 HBX HBB
  refine region_inv (by kernel_rfl) (FtI B0 (.agg #[.int .i64 wn, .int .i64 hn, .slice A0_2 l0_2.length c0_2, .slice A0_3 l0_3.length c0_3]) #[.int .i64 wn, .int .i64 hn, .slice A0_2 l0_2.length c0_2, .slice A0_3 l0_3.length c0_3] wn hn s w) ⟨undef, undef, undef, undef, undef, undef, undef, undef, rfl, HM0.out, (fun h => (Bool.false_ne_true h).elim), (fun h => (Bool.false_ne_true h).elim), (fun h => (Bool.false_ne_true h).elim), (fun h => (Bool.false_ne_true h).elim)⟩ ?hstep ?hext [0, 1, 2, 3, 5, 6, 7, 4, 8, 9, 10] (by kernel_rfl) ?hall ?hdone
  case hall => intro i hi; have : i < 11 := hi; simp only [List.mem_cons, List.not_mem_nil, or_false]; omega
  case hext =>
    rintro F F' a W e ⟨t3, t4, t5, t8, t9, t10, t11, t12, rfl, M, c0, c1, c2, c3⟩
    exact ⟨t3, t4, t5, t8, t9, t10, t11, t12, rfl, M.ext (fun j _ hj => e j hj), fun q => c0 ((e 0 (by decide)).trans q), fun q => c1 ((e 1 (by decide)).trans q), fun q => c2 ((e 2 (by decide)).trans q), fun q => c3 ((e 3 (by decide)).trans q)⟩
  case hstep =>
    clear HM0
    intro F a W i o hI ho hF hd K hK
    obtain ⟨t3, t4, t5, t8, t9, t10, t11, t12, rfl, M, c0, c1, c2, c3⟩ := hI
    have HBw := M.HB
    match i, ho, hF, hd, hK with
    | 0, ho, hF, hd, hK =>
      simp only [List.getElem?_toArray, List.getElem?_cons_zero, List.getElem?_cons_succ, Option.some.injEq] at ho
      subst ho
      have k0 : W.cell? ⟨B0, 0, none⟩ = some (.int .i64 wn) := (blk_cell M.hB 0).trans rfl
      have k1 : W.cell? ⟨B0, 1, none⟩ = some (.int .i64 hn) := (blk_cell M.hB 1).trans rfl
      have k2 : W.cell? ⟨B0, 2, none⟩ = some (.slice A0_2 l0_2.length c0_2) := (blk_cell M.hB 2).trans rfl
      have k3 : W.cell? ⟨B0, 3, none⟩ = some (.slice A0_3 l0_3.length c0_3) := (blk_cell M.hB 3).trans rfl
      exact event_step rfl (v := .agg #[.int .i64 wn, .int .i64 hn, .slice A0_2 l0_2.length c0_2, .slice A0_3 l0_3.length c0_3]) (w1 := W) (by first | (go_simp; done) | (go_simp; rfl)) (hK _ _ ⟨t3, t4, t5, _, t9, t10, t11, t12, rfl, M.ext (fun j h1 h2 => (if_neg (by omega)).symm), fun _ => rfl, c1, c2, c3⟩)
    | 1, ho, hF, hd, hK =>
      simp only [List.getElem?_toArray, List.getElem?_cons_zero, List.getElem?_cons_succ, Option.some.injEq] at ho
      subst ho
      have e0 := c0 (hd ⟨0, .data⟩ (by simp) rfl)
      subst e0
      refine zgo Tryz.func42 #[.agg #[.int .i64 wn, .int .i64 hn, .slice A0_2 l0_2.length c0_2, .slice A0_3 l0_3.length c0_3]] ((C1.out W HBw).mono ?_)
      rintro e w' ⟨rfl, hb⟩
      exact ⟨_, rfl, hK _ _ ⟨t3, t4, t5, _, _, t10, t11, t12, rfl, (M.below hb).ext (fun j h1 h2 => (if_neg (by omega)).symm), c0, fun _ => rfl, c2, c3⟩⟩
    | 2, ho, hF, hd, hK =>
      simp only [List.getElem?_toArray, List.getElem?_cons_zero, List.getElem?_cons_succ, Option.some.injEq] at ho
      subst ho
      have k0 : W.cell? ⟨B0, 0, none⟩ = some (.int .i64 wn) := (blk_cell M.hB 0).trans rfl
      have k1 : W.cell? ⟨B0, 1, none⟩ = some (.int .i64 hn) := (blk_cell M.hB 1).trans rfl
      have k2 : W.cell? ⟨B0, 2, none⟩ = some (.slice A0_2 l0_2.length c0_2) := (blk_cell M.hB 2).trans rfl
      have k3 : W.cell? ⟨B0, 3, none⟩ = some (.slice A0_3 l0_3.length c0_3) := (blk_cell M.hB 3).trans rfl
      exact event_step rfl (v := .agg #[.int .i64 wn, .int .i64 hn, .slice A0_2 l0_2.length c0_2, .slice A0_3 l0_3.length c0_3]) (w1 := W) (by first | (go_simp; done) | (go_simp; rfl)) (hK _ _ ⟨t3, t4, t5, t8, t9, _, t11, t12, rfl, M.ext (fun j h1 h2 => (if_neg (by omega)).symm), c0, c1, fun _ => rfl, c3⟩)
    | 3, ho, hF, hd, hK =>
      simp only [List.getElem?_toArray, List.getElem?_cons_zero, List.getElem?_cons_succ, Option.some.injEq] at ho
      subst ho
      have e2 := c2 (hd ⟨2, .data⟩ (by simp) rfl)
      subst e2
      refine zgo Tryz.func68 #[.agg #[.int .i64 wn, .int .i64 hn, .slice A0_2 l0_2.length c0_2, .slice A0_3 l0_3.length c0_3]] ((C3.out W HBw).mono ?_)
      rintro e w' ⟨rfl, hb⟩
      exact ⟨_, rfl, hK _ _ ⟨t3, t4, t5, t8, t9, _, _, t12, rfl, (M.below hb).ext (fun j h1 h2 => (if_neg (by omega)).symm), c0, c1, c2, fun _ => rfl⟩⟩
    | 4, ho, hF, hd, hK =>
      simp only [List.getElem?_toArray, List.getElem?_cons_zero, List.getElem?_cons_succ, Option.some.injEq] at ho
      subst ho
      refine Kd.R_lit_step Kd.string (w0 := W) W.heap.size 9 rfl (N := 12) rfl (xs := ([] : List ByteArray)) (inner := []) (ok := fun _ => True) (okp := fun _ => True) (by first | (go_simp; done) | (go_simp; rfl)) (Reps.none _ _) (fun _ hk => hk) trivial (Below.refl _ _) (Nat.le_refl _) (by simp) ?_
      intro v1 w2 hR hb1 _ _
      exact hK _ _ ⟨t3, t4, t5, t8, t9, t10, t11, v1, rfl, M.lit hF hb1 (Kd.R_lower hR (below_size HBw)), c0, c1, c2, c3⟩
    | 5, ho, hF, hd, hK =>
      simp only [List.getElem?_toArray, List.getElem?_cons_zero, List.getElem?_cons_succ, Option.some.injEq] at ho
      subst ho
      exact box_step rfl (N := 3) rfl (cs := #[.int .i64 0, .int .i64 0]) (t := 60) (by first | (go_simp; done) | (go_simp; rfl)) (fun g hg w2 hn2 hb => hK _ _ ⟨_, t4, t5, t8, t9, t10, t11, t12, rfl, M.new5 hF hb hg hn2, c0, c1, c2, c3⟩)
    | 6, ho, hF, hd, hK =>
      simp only [List.getElem?_toArray, List.getElem?_cons_zero, List.getElem?_cons_succ, Option.some.injEq] at ho
      subst ho
      exact box_step rfl (N := 4) rfl (cs := #[.int .u64 0]) (t := 56) (by first | (go_simp; done) | (go_simp; rfl)) (fun g hg w2 hn2 hb => hK _ _ ⟨t3, _, t5, t8, t9, t10, t11, t12, rfl, M.new6 hF hb hg hn2, c0, c1, c2, c3⟩)
    | 7, ho, hF, hd, hK =>
      simp only [List.getElem?_toArray, List.getElem?_cons_zero, List.getElem?_cons_succ, Option.some.injEq] at ho
      subst ho
      exact box_step rfl (N := 5) rfl (cs := #[.slice none 0 0]) (t := 67) (by first | (go_simp; done) | (go_simp; rfl)) (fun g hg w2 hn2 hb => hK _ _ ⟨t3, t4, _, t8, t9, t10, t11, t12, rfl, M.new7 hF hb hg hn2, c0, c1, c2, c3⟩)
    | 8, ho, hF, hd, hK =>
      simp only [List.getElem?_toArray, List.getElem?_cons_zero, List.getElem?_cons_succ, Option.some.injEq] at ho
      subst ho
      have e1 := c1 (hd ⟨1, .data⟩ (by simp) rfl)
      subst e1
      obtain ⟨g, rfl, hc, M'⟩ := M.set8 (hd ⟨5, .data⟩ (by simp) rfl) hF
      have k0 : W.cell? ⟨g, 0, none⟩ = some (.int .i64 0) := (blk_cell hc 0).trans rfl
      have k1 : W.cell? ⟨g, 1, none⟩ = some (.int .i64 0) := (blk_cell hc 1).trans rfl
      have f0 := blk_frozen hc 0
      have f1 := blk_frozen hc 1
      exact skip_step rfl rfl (w1 := (W.setCell ⟨g, 0, none⟩ (.int .i64 wn)).setCell ⟨g, 1, none⟩ (.int .i64 hn)) (by first | (go_simp; done) | (go_simp; rfl)) (hK _ _ ⟨_, t4, t5, t8, _, t10, t11, t12, rfl, M', c0, c1, c2, c3⟩)
    | 9, ho, hF, hd, hK =>
      simp only [List.getElem?_toArray, List.getElem?_cons_zero, List.getElem?_cons_succ, Option.some.injEq] at ho
      subst ho
      have e3 := c3 (hd ⟨3, .data⟩ (by simp) rfl)
      subst e3
      obtain ⟨g, rfl, hc, M'⟩ := M.set9 (hd ⟨6, .data⟩ (by simp) rfl) hF
      have k0 : W.cell? ⟨g, 0, none⟩ = some (.int .u64 0) := (blk_cell hc 0).trans rfl
      have f0 := blk_frozen hc 0
      exact skip_step rfl rfl (w1 := W.setCell ⟨g, 0, none⟩ (.int .u64 s)) (by first | (go_simp; done) | (go_simp; rfl)) (hK _ _ ⟨t3, _, t5, t8, t9, t10, _, t12, rfl, M', c0, c1, c2, c3⟩)
    | 10, ho, hF, hd, hK =>
      simp only [List.getElem?_toArray, List.getElem?_cons_zero, List.getElem?_cons_succ, Option.some.injEq] at ho
      subst ho
      obtain ⟨A12, c12, e12⟩ := Kd.R_slice (M.C4 (hd ⟨4, .data⟩ (by simp) rfl))
      subst e12
      obtain ⟨g, rfl, hc, M'⟩ := M.set10 (hd ⟨7, .data⟩ (by simp) rfl) (hd ⟨4, .data⟩ (by simp) rfl) hF
      have k0 : W.cell? ⟨g, 0, none⟩ = some (.slice none 0 0) := (blk_cell hc 0).trans rfl
      have f0 := blk_frozen hc 0
      exact skip_step rfl rfl (w1 := W.setCell ⟨g, 0, none⟩ (.slice A12 ([] : List ByteArray).length c12)) (by first | (go_simp; done) | (go_simp; rfl)) (hK _ _ ⟨t3, t4, _, t8, t9, t10, t11, _, rfl, M', c0, c1, c2, c3⟩)
    | i + 11, ho, hF, hd, hK => exact absurd ho (by simp)
  case hdone =>
    rintro a W ⟨t3, t4, t5, t8, t9, t10, t11, t12, rfl, M, c0, c1, c2, c3⟩
    clear HM0 C1 C3 c0 c1 c2 c3
    obtain ⟨G, rfl, hG0, hG⟩ := M.C5 rfl
    obtain ⟨SB, rfl, hS0, hS⟩ := M.C6 rfl
    obtain ⟨R, rfl, hR0, hR⟩ := M.C7 rfl
    have hO := M.C4 rfl
    have HG : Aside0 (W.heap[G]? = some (.cells #[.int .i64 wn, .int .i64 hn] 60 (0, 0))) := ⟨hG⟩
    have HS : Aside0 (W.heap[SB]? = some (.cells #[.int .u64 s] 56 (0, 0))) := ⟨hS⟩
    have HR : Aside0 (W.heap[R]? = some (.cells #[t12] 67 (0, 0))) := ⟨hR⟩
    have HO := Aside0.mk hO
    have HB := Aside0.mk M.HB
    have HR0 := Aside0.mk hR0
    clear M hG hS hR hO hG0 hS0 hR0
    have H1 := Aside0.mk h1
    have H2 := Aside0.mk h2
    have H3 := Aside0.mk h3
    have H4 := Aside0.mk h4
    have hi1 : (1 : Int) ≤ hn := by omega
    have hi2 : (hn : Int) ≤ 4 := by omega
    have hi3 : (1 : Int) ≤ wn := by omega
    have hi4 : (wn : Int) ≤ 4 := by omega
    clear h1 h2 h3 h4
    have g1 : W.cell? ⟨G, 1, none⟩ = some (.int .i64 hn) := (blk_cell HG.out 1).trans rfl
    go_wp2
    go_loopg [17] (hn + 1) (fun gg v17 w' => ∃ (y : Nat) (v : Value), y ≤ hn + 1 ∧ hn + 1 - y ≤ gg ∧ v17 = .int .i64 y ∧ Aside0 (w'.heap[R]? = some (.cells #[v] 67 (0, 0))) ∧ Aside0 (Kd.R Kd.string 9 w' w.heap.size (fun _ => True) v (ftRows wn hn s y)) ∧ Aside0 (w'.heap[G]? = some (.cells #[.int .i64 wn, .int .i64 hn] 60 (0, 0))) ∧ Aside0 (w'.heap[SB]? = some (.cells #[.int .u64 s] 56 (0, 0))) ∧ Aside0 (Below w.heap.size w w'))
    case atStart => exact ⟨0, t12, Nat.zero_le _, by omega, rfl, HR, HO, HG, HS, HB⟩
    case round =>
      clear HG HS HR HO HB g1
      obtain ⟨y, v, hy, hg, rfl, HR, HO, HG, HS, HB⟩ := hrel
      by_cases hlt : y < hn + 1
      · have hltz : (y : Int) < (hn : Int) + 1 := by omega
        have HLT := Aside0.mk hlt
        clear hlt
        have g0 : wr.cell? ⟨G, 0, none⟩ = some (.int .i64 wn) := (blk_cell HG.out 0).trans rfl
        have g1 : wr.cell? ⟨G, 1, none⟩ = some (.int .i64 hn) := (blk_cell HG.out 1).trans rfl
        have yc0 : (0 : Int) ≤ (y : Int) := by omega
        have gl := blk_lt HG.out
        have HXS : Aside0 ((ftRows wn hn s y).length ≤ 18) := ⟨by have := ftRows_len wn hn s y; have := HLT.out; have := H4.out; omega⟩
        have hY0 : y ≤ 5 := by have := HLT.out; have := H4.out; omega
        have HY0 := Aside0.mk hY0
        clear hY0
        have HG1 := Aside0.mk (blk_alloc HG.out (.cells #[.int .i64 y] 3 (0, 0)))
        have HS1 := Aside0.mk (blk_alloc HS.out (.cells #[.int .i64 y] 3 (0, 0)))
        have HR1 := Aside0.mk (blk_alloc HR.out (.cells #[.int .i64 y] 3 (0, 0)))
        have HY1 := Aside0.mk (blk_new wr (.cells #[.int .i64 y] 3 (0, 0)))
        have HO1 := Aside0.mk (Kd.R_alloc HO.out (.cells #[.int .i64 y] 3 (0, 0)))
        have HB1 := Aside0.mk (below_alloc HB.out (.cells #[.int .i64 y] 3 (0, 0)))
        have ROW1 := Aside0.mk (ft_row_E wn wn rfl (by have := H2.out; omega) 45 s (ftLev wn y) G wr.heap.size SB R w.heap.size v (ftRows wn hn s y) _ (by have := HXS.out; omega) (below_size HB1.out) HR0.out HS1.out HR1.out HO1.out
          (fun W x hx hW => ft_e2 wn hn y x G wr.heap.size W H2.out HY0.out (by have := H2.out; omega) (blk_below HG1.out hW) (blk_below HY1.out hW)))
        have nG : G ≠ R := ft_ne HG.out HR.out (by decide)
        have nS : SB ≠ R := ft_ne HS.out HR.out (by decide)
        have nY : wr.heap.size ≠ R := ft_ne HY1.out HR1.out (by decide)
        have NG := Aside0.mk nG
        have NS := Aside0.mk nS
        have NY := Aside0.mk nY
        clear nG nS nY
        by_cases hyh : y < hn
        · have hyz : (y : Int) < (hn : Int) := by omega
          have HYH := Aside0.mk hyh
          clear hyh
          go_wp2_with fail
          refine ROW1.out.mono ?_
          rintro e w2 ⟨rfl, v2, hR2, hO2, hk, hb2⟩
          have HG2 := Aside0.mk (ft_kept hk HO1.out HG1.out (by decide) NG.out)
          have HS2 := Aside0.mk (ft_kept hk HO1.out HS1.out (by decide) NS.out)
          have HY2 := Aside0.mk (ft_kept hk HO1.out HY1.out (by decide) NY.out)
          have HR2 := Aside0.mk hR2
          have HO2 := Aside0.mk hO2
          have HB2 := Aside0.mk (HB1.out.trans hb2)
          clear hR2 hO2 hk hb2 g0 g1 HG1 HS1 HR1 HY1 HO1 HB1 ROW1
          have g0 : w2.cell? ⟨G, 0, none⟩ = some (.int .i64 wn) := (blk_cell HG2.out 0).trans rfl
          have g1 : w2.cell? ⟨G, 1, none⟩ = some (.int .i64 hn) := (blk_cell HG2.out 1).trans rfl
          have y1 : w2.cell? ⟨wr.heap.size, 0, none⟩ = some (.int .i64 y) := (blk_cell HY2.out 0).trans rfl
          have ROW2 := Aside0.mk (ft_row_U (wn + 1) ((wn : Int) + 1) rfl (by have := H2.out; omega) 124 s (ftUp wn hn y) G wr.heap.size SB R w.heap.size v2 (ftRows wn hn s y ++ [strOfNums (ftLine s 45 (ftLev wn y) wn)]) w2 (by have := HXS.out; simp; omega) (below_size HB2.out) HR0.out HS2.out HR2.out HO2.out
            (fun W x hx hW => ft_e3 wn hn y x G wr.heap.size W H2.out H4.out HY0.out (by have := H2.out; omega) (blk_below HG2.out hW) (blk_below HY2.out hW)))
          go_wp2_with fail
          refine ROW2.out.mono ?_
          rintro e w3 ⟨rfl, v3, hR3, hO3, hk, hb3⟩
          have HG3 := Aside0.mk (ft_kept hk HO2.out HG2.out (by decide) NG.out)
          have HS3 := Aside0.mk (ft_kept hk HO2.out HS2.out (by decide) NS.out)
          have HR3 := Aside0.mk hR3
          have HO3 := Aside0.mk hO3
          have HB3 := Aside0.mk (HB2.out.trans hb3)
          clear hR3 hO3 hk hb3 g0 g1 y1 ROW2
          go_wp2
          go_roundg (hn - y)
          case measure => have := HLT.out; omega
          case rel => exact ⟨y + 1, v3, HLT.out, by omega, by go_num, HR3, ⟨by rw [show ftRows wn hn s (y + 1) = (ftRows wn hn s y ++ [strOfNums (ftLine s 45 (ftLev wn y) wn)]) ++ [strOfNums (ftLine s 124 (ftUp wn hn y) (wn + 1))] by rw [ftRows, if_pos HYH.out]; simp]; exact HO3.out⟩, HG3, HS3, HB3⟩
        · have hyz : ¬ (y : Int) < (hn : Int) := by omega
          have HYH := Aside0.mk hyh
          clear hyh
          go_wp2_with fail
          refine ROW1.out.mono ?_
          rintro e w2 ⟨rfl, v2, hR2, hO2, hk, hb2⟩
          have HG2 := Aside0.mk (ft_kept hk HO1.out HG1.out (by decide) NG.out)
          have HS2 := Aside0.mk (ft_kept hk HO1.out HS1.out (by decide) NS.out)
          have HY2 := Aside0.mk (ft_kept hk HO1.out HY1.out (by decide) NY.out)
          have HR2 := Aside0.mk hR2
          have HO2 := Aside0.mk hO2
          have HB2 := Aside0.mk (HB1.out.trans hb2)
          clear hR2 hO2 hk hb2 g0 g1 HG1 HS1 HR1 HY1 HO1 HB1 ROW1
          have g1 : w2.cell? ⟨G, 1, none⟩ = some (.int .i64 hn) := (blk_cell HG2.out 1).trans rfl
          have y1 : w2.cell? ⟨wr.heap.size, 0, none⟩ = some (.int .i64 y) := (blk_cell HY2.out 0).trans rfl
          go_wp2
          go_roundg (hn - y)
          case measure => have := HLT.out; omega
          case rel => exact ⟨y + 1, v2, HLT.out, by omega, by go_num, HR2, ⟨by rw [show ftRows wn hn s (y + 1) = ftRows wn hn s y ++ [strOfNums (ftLine s 45 (ftLev wn y) wn)] by rw [ftRows, if_neg HYH.out]]; exact HO2.out⟩, HG2, HS2, HB2⟩
      · have hltz : ¬ (y : Int) < (hn : Int) + 1 := by omega
        obtain rfl : y = hn + 1 := by omega
        have hlen : 0 < (ftRows wn hn s (hn + 1)).length := by simp only [ftRows, List.length_append, List.length_cons]; omega
        obtain ⟨bk, cap, ev, _, hbk, _⟩ := Kd.R_form HO.out hlen
        subst ev
        have r0 : wr.cell? ⟨R, 0, none⟩ = some (.slice (some ⟨bk, 0, none⟩) (ftRows wn hn s (hn + 1)).length cap) := (blk_cell HR.out 0).trans rfl
        have JOIN := Aside0.mk (ft_Join bk 0 cap (ftRows wn hn s (hn + 1)) ⟨#[47]⟩ wr (ft_cells (Kd.R_reads' HO.out).2.2) hbk (by have := ftRows_len wn hn s (hn + 1); have := H4.out; omega) (Kd.R_reads' HO.out).2.1 (ft_joinLen (by have := H2.out; omega) (by have := H4.out; omega)))
        clear hlen hbk hy hg hlt
        go_wp2_with (go_at_call 80; refine JOIN.out.mono ?_; rintro e w' ⟨rfl, hb⟩)
        go_ret
        exact ⟨rfl, below_step HB.out hb⟩
theorem impl_figureText.calls (k : Nat) (a0_0 : Int) (a0_1 : Int) (A0_2 : Option Addr) (c0_2 : Nat) (l0_2 : List Int) (A0_3 : Option Addr) (c0_3 : Nat) (l0_3 : List Int) (r : ByteArray) (w : World) (hr0_2 : Kd.C (Kd.int .i64) w A0_2 l0_2.length l0_2) (hc0_2 : l0_2.length ≤ c0_2) (hr0_3 : Kd.C (Kd.int .i64) w A0_3 l0_3.length l0_3) (hc0_3 : l0_3.length ≤ c0_3) (h : impl_figureText.f k a0_0 a0_1 l0_2 l0_3 = some r) :
  Calls Tryz.prog 55 #[.agg #[.int .i64 a0_0, .int .i64 a0_1, .slice A0_2 l0_2.length c0_2, .slice A0_3 l0_3.length c0_3]] w fun e w' => e = .returned (.string r) ∧ Below w.heap.size w w' := by
  unfold impl_figureText.f at h
  by_cases hd : 1 ≤ a0_0 ∧ a0_0 ≤ 4 ∧ 1 ≤ a0_1 ∧ a0_1 ≤ 4
  · rw [if_pos hd] at h
    obtain ⟨s, hs, h⟩ := Option.bind_eq_some_iff.mp h
    obtain rfl := Option.some.inj h
    obtain ⟨wn, rfl⟩ := Int.eq_ofNat_of_zero_le (show 0 ≤ a0_0 by omega)
    obtain ⟨hn, rfl⟩ := Int.eq_ofNat_of_zero_le (show 0 ≤ a0_1 by omega)
    simp only [Int.toNat_natCast]
    exact ft_main k wn hn A0_2 c0_2 l0_2 A0_3 c0_3 l0_3 s w (by omega) (by omega) (by omega) (by omega) hr0_2 hc0_2 hr0_3 hc0_3 hs
  · rw [if_neg hd] at h
    cases h

/-! ### strings_Compare: function 99 -/
def lays106_ren : Go.Shelf.Ren := ⟨fun | 106 => 99 | 213 => 124 | 265 => 147 | n => n, fun | 9 => 9 | 3 => 3 | n => n, fun | n => n⟩
theorem lays106 : Go.Proofs.Lays.n106 Tryz.prog lays106_ren := {
  mixed := by kernel_rfl
  f106 := Tryz.func99.trans (congrArg some (by kernel_rfl))
  f213 := Tryz.func124.trans (congrArg some (by kernel_rfl))
  f265 := Tryz.func147.trans (congrArg some (by kernel_rfl))
  t3 := Tryz.underlying3
  a3 := Tryz.isAgg3
  z3 := Tryz.sizeOf3
  v3 := Tryz.zeroValue3
  t9 := Tryz.underlying9
  a9 := Tryz.isAgg9
  z9 := Tryz.sizeOf9
  v9 := Tryz.zeroValue9 }
theorem strings_Compare.calls (a0 : ByteArray) (a1 : ByteArray) (r : Int) (w : World) (h : strings_Compare.f a0 a1 = some r) :
    Calls Tryz.prog 99 #[.string a0, .string a1] w fun e w' => e = .returned (.int .i64 r) ∧ w' = w := by
  obtain rfl := Option.some.inj h
  exact Any.strings_Compare lays106 a0 a1 w

/-! ### impl_compareFigures: function 76 -/
set_option maxHeartbeats 8000000 in
set_option maxRecDepth 100000 in
theorem impl_compareFigures.calls (k : Nat) (a0_0 : Int) (a0_1 : Int) (A0_2 : Option Addr) (c0_2 : Nat) (l0_2 : List Int) (A0_3 : Option Addr) (c0_3 : Nat) (l0_3 : List Int) (a1_0 : Int) (a1_1 : Int) (A1_2 : Option Addr) (c1_2 : Nat) (l1_2 : List Int) (A1_3 : Option Addr) (c1_3 : Nat) (l1_3 : List Int) (r : Int) (w : World) (hr0_2 : Kd.C (Kd.int .i64) w A0_2 l0_2.length l0_2) (hc0_2 : l0_2.length ≤ c0_2) (hr0_3 : Kd.C (Kd.int .i64) w A0_3 l0_3.length l0_3) (hc0_3 : l0_3.length ≤ c0_3) (hr1_2 : Kd.C (Kd.int .i64) w A1_2 l1_2.length l1_2) (hc1_2 : l1_2.length ≤ c1_2) (hr1_3 : Kd.C (Kd.int .i64) w A1_3 l1_3.length l1_3) (hc1_3 : l1_3.length ≤ c1_3) (h : impl_compareFigures.f k a0_0 a0_1 l0_2 l0_3 a1_0 a1_1 l1_2 l1_3 = some r) :
    Calls Tryz.prog 76 #[.agg #[.int .i64 a0_0, .int .i64 a0_1, .slice A0_2 l0_2.length c0_2, .slice A0_3 l0_3.length c0_3], .agg #[.int .i64 a1_0, .int .i64 a1_1, .slice A1_2 l1_2.length c1_2, .slice A1_3 l1_3.length c1_3]] w fun e w' => e = .returned (.int .i64 r) ∧ Below w.heap.size w w' := by
  have hu30 := Tryz.underlying30
  have HR0_2 := Aside0.mk hr0_2
  have HC0_2 := Aside0.mk hc0_2
  clear hr0_2 hc0_2
  have HR0_3 := Aside0.mk hr0_3
  have HC0_3 := Aside0.mk hc0_3
  clear hr0_3 hc0_3
  have HR1_2 := Aside0.mk hr1_2
  have HC1_2 := Aside0.mk hc1_2
  clear hr1_2 hc1_2
  have HR1_3 := Aside0.mk hr1_3
  have HC1_3 := Aside0.mk hc1_3
  clear hr1_3 hc1_3
  have HB := Aside0.mk (Below.refl w.heap.size w)
  have H : ((impl_figureText.f k a0_0 a0_1 l0_2 l0_3).bind fun t235 => ((impl_figureText.f k a1_0 a1_1 l1_2 l1_3).bind fun t236 => ((strings_Compare.f t235 t236).bind fun t237 => (some t237)))) = some r := h
  clear h
  replace H := Option.bind_eq_some_iff.mp H
  obtain ⟨t235, A30, H⟩ := H
  replace H : ((impl_figureText.f k a1_0 a1_1 l1_2 l1_3).bind fun t236 => ((strings_Compare.f t235 t236).bind fun t237 => (some t237))) = some r := H
  have A3 := Aside0.mk A30
  clear A30
  replace H := Option.bind_eq_some_iff.mp H
  obtain ⟨t236, A40, H⟩ := H
  replace H : ((strings_Compare.f t235 t236).bind fun t237 => (some t237)) = some r := H
  have A4 := Aside0.mk A40
  clear A40
  replace H := Option.bind_eq_some_iff.mp H
  obtain ⟨t237, A50, H⟩ := H
  replace H : (some t237) = some r := H
  have A5 := Aside0.mk A50
  clear A50
  obtain rfl := Option.some.inj H
  go_enter Tryz.func76, Tryz.ntmps76
  try go_wp2_with (first | ((with_reducible refine gate_dst (N := 2) rfl ?_); refine box_event ?hg (N := 2) ?hd (cs := #[.int .i64 a0_0, .int .i64 a0_1, .slice A0_2 l0_2.length c0_2, .slice A0_3 l0_3.length c0_3]) (t := 30) ?hr ?_; (case hd => rfl); (case hg => rfl); (case hr => first | (go_simp; done) | (go_simp; rfl)); intro gb233 hg w6 hbox hb; have n0_ := Aside0.mk (below_step (by repeat (first | (with_reducible first | exact HB.out | apply below_alloc | apply pw_below_drewN | apply below_drew1) | exact HB.out)) hb); have n1_ := Aside0.mk (hbox); have n2_ := Aside0.mk ((by rw [hg]; exact (below_size (by repeat (first | (with_reducible first | exact HB.out | apply below_alloc | apply pw_below_drewN | apply below_drew1) | exact HB.out))) : w.heap.size ≤ gb233)); have n3_ := Aside0.mk ((by rw [hg]; exact (below_size (by repeat (first | (with_reducible first | exact HB.out | apply below_alloc | apply pw_below_drewN | apply below_drew1) | exact HB.out))) : w.heap.size ≤ gb233)); clear HB; have HB := n0_; have BK233 := n1_; have GW233 := n2_; have GE233 := n3_; clear n0_ n1_ n2_ n3_; clear hb hbox hg) | ((with_reducible refine gate_dst (N := 3) rfl ?_); refine box_event ?hg (N := 3) ?hd (cs := #[.int .i64 a1_0, .int .i64 a1_1, .slice A1_2 l1_2.length c1_2, .slice A1_3 l1_3.length c1_3]) (t := 30) ?hr ?_; (case hd => rfl); (case hg => rfl); (case hr => first | (go_simp; done) | (go_simp; rfl)); intro gb234 hg w7 hbox hb; have n0_ := Aside0.mk (blk_below (g := gb233) (o := .cells #[.int .i64 a0_0, .int .i64 a0_1, .slice A0_2 l0_2.length c0_2, .slice A0_3 l0_3.length c0_3] 30 (0, 0)) (by (with_reducible repeat (first | refine blk_drewN ?_ _ | refine blk_drew ?_ | refine blk_alloc ?_ _)); exact BK233.out) hb); have n1_ := Aside0.mk (below_step (by repeat (first | (with_reducible first | exact HB.out | apply below_alloc | apply pw_below_drewN | apply below_drew1 | refine below_set ?_ GE233.out) | exact HB.out)) hb); have n2_ := Aside0.mk (hbox); have n3_ := Aside0.mk ((by rw [hg]; exact (below_size (by repeat (first | (with_reducible first | exact HB.out | apply below_alloc | apply pw_below_drewN | apply below_drew1 | refine below_set ?_ GE233.out) | exact HB.out))) : w.heap.size ≤ gb234)); have n4_ := Aside0.mk ((by rw [hg]; exact (below_size (by repeat (first | (with_reducible first | exact HB.out | apply below_alloc | apply pw_below_drewN | apply below_drew1 | refine below_set ?_ GE233.out) | exact HB.out))) : w.heap.size ≤ gb234)); have n5_ := Aside0.mk ((by rw [hg]; exact Nat.ne_of_lt (blk_lt (g := gb233) (o := .cells #[.int .i64 a0_0, .int .i64 a0_1, .slice A0_2 l0_2.length c0_2, .slice A0_3 l0_3.length c0_3] 30 (0, 0)) (by (with_reducible repeat (first | refine blk_drewN ?_ _ | refine blk_drew ?_ | refine blk_alloc ?_ _)); exact BK233.out)) : gb233 ≠ gb234)); have n6_ := Aside0.mk ((by rw [hg]; exact Nat.ne_of_gt (blk_lt (g := gb233) (o := .cells #[.int .i64 a0_0, .int .i64 a0_1, .slice A0_2 l0_2.length c0_2, .slice A0_3 l0_3.length c0_3] 30 (0, 0)) (by (with_reducible repeat (first | refine blk_drewN ?_ _ | refine blk_drew ?_ | refine blk_alloc ?_ _)); exact BK233.out)) : gb234 ≠ gb233)); clear BK233; clear HB; have BK233 := n0_; have HB := n1_; have BK234 := n2_; have GW234 := n3_; have GE234 := n4_; have NB233_234 := n5_; have NB234_233 := n6_; clear n0_ n1_ n2_ n3_ n4_ n5_ n6_; clear hb hbox hg))
  have n0_ := Aside0.mk (blk_drew BK233.out)
  have n1_ := Aside0.mk (blk_drew BK234.out)
  have n2_ := Aside0.mk (below_drew1 HB.out)
  clear BK233
  clear BK234
  clear HB
  have BK233 := n0_
  have BK234 := n1_
  have HB := n2_
  clear n0_ n1_ n2_
  refine start_ (n := 6) (S := fun w' => w'.cell? ⟨gb233, 0, none⟩ = some (.int .i64 a0_0) ∧ w'.cell? ⟨gb233, 1, none⟩ = some (.int .i64 a0_1) ∧ w'.cell? ⟨gb233, 2, none⟩ = some (.slice A0_2 l0_2.length c0_2) ∧ w'.cell? ⟨gb233, 3, none⟩ = some (.slice A0_3 l0_3.length c0_3) ∧ w'.cell? ⟨gb234, 0, none⟩ = some (.int .i64 a1_0) ∧ w'.cell? ⟨gb234, 1, none⟩ = some (.int .i64 a1_1) ∧ w'.cell? ⟨gb234, 2, none⟩ = some (.slice A1_2 l1_2.length c1_2) ∧ w'.cell? ⟨gb234, 3, none⟩ = some (.slice A1_3 l1_3.length c1_3)) (ds := []) #[false, false, false, false, false, false] (by kernel_rfl) rfl rfl ⟨(blk_cell BK233.out 0).trans rfl, (blk_cell BK233.out 1).trans rfl, (blk_cell BK233.out 2).trans rfl, (blk_cell BK233.out 3).trans rfl, (blk_cell BK234.out 0).trans rfl, (blk_cell BK234.out 1).trans rfl, (blk_cell BK234.out 2).trans rfl, (blk_cell BK234.out 3).trans rfl⟩ (fun hHeld => ?_)
  generalize w7.drew = w8 at BK233 BK234 HB hHeld ⊢
  refine take_ (i := 0) (N := some 5) (v := ?_) (a' := ?_) #[true, false, false, false, false, false] rfl rfl (by kernel_rfl) (fun _ _ _ h => h) (Or.inl ⟨by rfl, ?_⟩) hHeld ?_ ?_
  rotate_left
  · rintro w' ⟨s0, s1, s2, s3, s4, s5, s6, s7⟩
    go_simp
    with_reducible rfl
  rotate_left
  · simp only [Act.put, List.setIfInBounds_toArray, List.set_cons_zero, List.set_cons_succ, i64_w, i32_w]
    rfl
  refine take_ (i := 2) (N := some 7) (v := ?_) (a' := ?_) #[true, false, true, false, false, false] rfl rfl (by kernel_rfl) (fun _ _ _ h => h) (Or.inl ⟨by rfl, ?_⟩) hHeld ?_ ?_
  rotate_left
  · rintro w' ⟨s0, s1, s2, s3, s4, s5, s6, s7⟩
    go_simp
    with_reducible rfl
  rotate_left
  · simp only [Act.put, List.setIfInBounds_toArray, List.set_cons_zero, List.set_cons_succ, i64_w, i32_w]
    rfl
  refine one_ (i := 1) (N := some 6) #[true, true, true, false, false, false] rfl rfl (by kernel_rfl) (by decide) (fun K hK => ?_)
  refine goes_ Tryz.func55 (by kernel_rfl) rfl #[.agg #[.int .i64 a0_0, .int .i64 a0_1, .slice A0_2 l0_2.length c0_2, .slice A0_3 l0_3.length c0_3]] (by rfl) rfl rfl (by (try simp only [List.map_toArray, List.map_cons, List.map_nil]); first | done | rfl | (simp only [List.length_drop, List.length_take]; rfl)) ?_
  with_reducible refine (impl_figureText.calls k a0_0 a0_1 _ _ l0_2 _ _ l0_3 t235 _ ?side1 ?side2 ?side3 ?side4 A3.out).mono ?_
  (case side1 => repeat (first | exact (Kd.C_below HR0_2.out HB.out) | (with_reducible refine Kd.C_alloc ?_ _) | (with_reducible refine Kd.C_drewN ?_ _) | (with_reducible refine Kd.C_drew ?_)))
  (case side2 => exact HC0_2.out)
  (case side3 => repeat (first | exact (Kd.C_below HR0_3.out HB.out) | (with_reducible refine Kd.C_alloc ?_ _) | (with_reducible refine Kd.C_drewN ?_ _) | (with_reducible refine Kd.C_drew ?_)))
  (case side4 => exact HC0_3.out)
  rintro e w9 ⟨rfl, hb⟩
  refine ⟨_, rfl, ?_⟩
  have n0_ := Aside0.mk (blk_below (g := gb233) (o := .cells #[.int .i64 a0_0, .int .i64 a0_1, .slice A0_2 l0_2.length c0_2, .slice A0_3 l0_3.length c0_3] 30 (0, 0)) (by (with_reducible repeat (first | refine blk_drewN ?_ _ | refine blk_drew ?_ | refine blk_alloc ?_ _)); exact BK233.out) hb)
  have n1_ := Aside0.mk (blk_below (g := gb234) (o := .cells #[.int .i64 a1_0, .int .i64 a1_1, .slice A1_2 l1_2.length c1_2, .slice A1_3 l1_3.length c1_3] 30 (0, 0)) (by (with_reducible repeat (first | refine blk_drewN ?_ _ | refine blk_drew ?_ | refine blk_alloc ?_ _)); exact BK234.out) hb)
  have n2_ := Aside0.mk (below_step (by repeat (first | (with_reducible first | exact HB.out | apply below_alloc | apply pw_below_drewN | apply below_drew1 | refine below_set ?_ GE233.out | refine below_set ?_ GE234.out) | exact HB.out)) hb)
  clear BK233
  clear BK234
  clear HB
  have BK233 := n0_
  have BK234 := n1_
  have HB := n2_
  clear n0_ n1_ n2_
  (try clear hb)
  (try clear hb2)
  (try clear hk)
  (try clear hi)
  refine hK.out _ _ ⟨(blk_cell BK233.out 0).trans rfl, (blk_cell BK233.out 1).trans rfl, (blk_cell BK233.out 2).trans rfl, (blk_cell BK233.out 3).trans rfl, (blk_cell BK234.out 0).trans rfl, (blk_cell BK234.out 1).trans rfl, (blk_cell BK234.out 2).trans rfl, (blk_cell BK234.out 3).trans rfl⟩ (fun hHeld => ?_)
  clear hK K
  refine norm_ (a' := ?_) ?_ ?_
  rotate_left
  · show Act.put _ (some 6) _ = _
    simp only [Act.put, List.setIfInBounds_toArray, List.set_cons_zero, List.set_cons_succ, i64_w, i32_w]
    rfl
  refine one_ (i := 3) (N := some 8) #[true, true, true, true, false, false] rfl rfl (by kernel_rfl) (by decide) (fun K hK => ?_)
  refine goes_ Tryz.func55 (by kernel_rfl) rfl #[.agg #[.int .i64 a1_0, .int .i64 a1_1, .slice A1_2 l1_2.length c1_2, .slice A1_3 l1_3.length c1_3]] (by rfl) rfl rfl (by (try simp only [List.map_toArray, List.map_cons, List.map_nil]); first | done | rfl | (simp only [List.length_drop, List.length_take]; rfl)) ?_
  with_reducible refine (impl_figureText.calls k a1_0 a1_1 _ _ l1_2 _ _ l1_3 t236 _ ?side1 ?side2 ?side3 ?side4 A4.out).mono ?_
  (case side1 => repeat (first | exact (Kd.C_below HR1_2.out HB.out) | (with_reducible refine Kd.C_alloc ?_ _) | (with_reducible refine Kd.C_drewN ?_ _) | (with_reducible refine Kd.C_drew ?_)))
  (case side2 => exact HC1_2.out)
  (case side3 => repeat (first | exact (Kd.C_below HR1_3.out HB.out) | (with_reducible refine Kd.C_alloc ?_ _) | (with_reducible refine Kd.C_drewN ?_ _) | (with_reducible refine Kd.C_drew ?_)))
  (case side4 => exact HC1_3.out)
  rintro e w10 ⟨rfl, hb⟩
  refine ⟨_, rfl, ?_⟩
  have n0_ := Aside0.mk (blk_below (g := gb233) (o := .cells #[.int .i64 a0_0, .int .i64 a0_1, .slice A0_2 l0_2.length c0_2, .slice A0_3 l0_3.length c0_3] 30 (0, 0)) (by (with_reducible repeat (first | refine blk_drewN ?_ _ | refine blk_drew ?_ | refine blk_alloc ?_ _)); exact BK233.out) hb)
  have n1_ := Aside0.mk (blk_below (g := gb234) (o := .cells #[.int .i64 a1_0, .int .i64 a1_1, .slice A1_2 l1_2.length c1_2, .slice A1_3 l1_3.length c1_3] 30 (0, 0)) (by (with_reducible repeat (first | refine blk_drewN ?_ _ | refine blk_drew ?_ | refine blk_alloc ?_ _)); exact BK234.out) hb)
  have n2_ := Aside0.mk (below_step (by repeat (first | (with_reducible first | exact HB.out | apply below_alloc | apply pw_below_drewN | apply below_drew1 | refine below_set ?_ GE233.out | refine below_set ?_ GE234.out) | exact HB.out)) hb)
  clear BK233
  clear BK234
  clear HB
  have BK233 := n0_
  have BK234 := n1_
  have HB := n2_
  clear n0_ n1_ n2_
  (try clear hb)
  (try clear hb2)
  (try clear hk)
  (try clear hi)
  refine hK.out _ _ ⟨(blk_cell BK233.out 0).trans rfl, (blk_cell BK233.out 1).trans rfl, (blk_cell BK233.out 2).trans rfl, (blk_cell BK233.out 3).trans rfl, (blk_cell BK234.out 0).trans rfl, (blk_cell BK234.out 1).trans rfl, (blk_cell BK234.out 2).trans rfl, (blk_cell BK234.out 3).trans rfl⟩ (fun hHeld => ?_)
  clear hK K
  refine norm_ (a' := ?_) ?_ ?_
  rotate_left
  · show Act.put _ (some 8) _ = _
    simp only [Act.put, List.setIfInBounds_toArray, List.set_cons_zero, List.set_cons_succ, i64_w, i32_w]
    rfl
  refine one_ (i := 4) (N := some 9) #[true, true, true, true, true, false] rfl rfl (by kernel_rfl) (by decide) (fun K hK => ?_)
  refine goes_ Tryz.func99 (by kernel_rfl) rfl #[.string t235, .string t236] (by rfl) rfl rfl (by (try simp only [List.map_toArray, List.map_cons, List.map_nil]); first | done | rfl | (simp only [List.length_drop, List.length_take]; rfl)) ?_
  with_reducible refine (strings_Compare.calls t235 t236 t237 _ A5.out).mono ?_
  rintro e w' ⟨rfl, ⟨nd, rfl⟩⟩
  refine ⟨_, rfl, ?_⟩
  refine hK.out _ _ ⟨(blk_cell BK233.out 0).trans rfl, (blk_cell BK233.out 1).trans rfl, (blk_cell BK233.out 2).trans rfl, (blk_cell BK233.out 3).trans rfl, (blk_cell BK234.out 0).trans rfl, (blk_cell BK234.out 1).trans rfl, (blk_cell BK234.out 2).trans rfl, (blk_cell BK234.out 3).trans rfl⟩ (fun hHeld => ?_)
  clear hK K
  refine norm_ (a' := ?_) ?_ ?_
  rotate_left
  · show Act.put _ (some 9) _ = _
    simp only [Act.put, List.setIfInBounds_toArray, List.set_cons_zero, List.set_cons_succ, i64_w, i32_w]
    rfl
  refine pure_ (i := 5) (N := some 4) (v := ?_) (a' := ?_) #[true, true, true, true, true, true] rfl rfl (by kernel_rfl) (fun _ _ _ h => h) (Or.inl ⟨by rfl, ?_⟩) ?_ ?_
  rotate_left
  · intro w'
    go_simp
    with_reducible rfl
  rotate_left
  · simp only [Act.put, List.setIfInBounds_toArray, List.set_cons_zero, List.set_cons_succ, i64_w, i32_w]
    rfl
  refine done_ (by kernel_rfl) ?_
  try go_wp2
  go_ret
  exact ⟨by first | rfl | (simp [errW_none, errW_some] <;> rfl) | (simp [*, errW_none, errW_some] <;> rfl), by repeat (first | (with_reducible first | exact HB.out | apply below_alloc | apply pw_below_drewN | apply below_drew1 | refine below_set ?_ GE233.out | refine below_set ?_ GE234.out) | exact HB.out)⟩

/-! ### spec_sqFigure: function 40 -/
set_option maxHeartbeats 8000000 in
set_option maxRecDepth 100000 in
theorem spec_sqFigure.calls (k : Nat) (a0 : Int) (a1 : Int) (a2 : Int) (r1 : Int) (r2 : Int) (r3 : List Int) (r4 : List Int) (w : World) (h : spec_sqFigure.f k a0 a1 a2 = some (r1, r2, r3, r4)) :
    Calls Tryz.prog 40 #[.int .i64 a0, .int .i64 a1, .int .i64 a2] w fun e w' => ∃ v2_ v3_ : Value, e = .returned (.agg #[.int .i64 r1, .int .i64 r2, v2_, v3_]) ∧ Kd.R (Kd.int .i64) 3 w' w.heap.size (fun k_ => some k_ ≠ (v3_ : Value).ownBlock) v2_ r3 ∧ Kd.R (Kd.int .i64) 3 w' w.heap.size (fun k_ => some k_ ≠ (v2_ : Value).ownBlock) v3_ r4 ∧ Below w.heap.size w w' := by
  have hu30 := Tryz.underlying30
  have HB := Aside0.mk (Below.refl w.heap.size w)
  have H : (spec_sqFigure.l0 k a0 a1 a2 0 a0 a1 ([] : List Int)) = some (r1, r2, r3, r4) := h
  clear h
  have H' := Aside0.mk H
  clear H
  go_enter Tryz.func40, Tryz.ntmps40
  go_wp2_with (first | ((with_reducible refine gate_dst (N := 6) rfl ?_); refine box_event ?hg (N := 6) ?hd (cs := #[.int .i64 0, .int .i64 0, .slice none 0 0, .slice none 0 0]) (t := 30) ?hr ?_; (case hd => rfl); (case hg => rfl); (case hr => first | (go_simp; done) | (go_simp; rfl)); intro gb238 hg w4 hbox hb; have n0_ := Aside0.mk (below_step (by repeat (first | (with_reducible first | exact HB.out | apply below_alloc | apply pw_below_drewN | apply below_drew1) | exact HB.out)) hb); have n1_ := Aside0.mk (hbox); have n2_ := Aside0.mk ((by rw [hg]; exact (below_size (by repeat (first | (with_reducible first | exact HB.out | apply below_alloc | apply pw_below_drewN | apply below_drew1) | exact HB.out))) : w.heap.size ≤ gb238)); have n3_ := Aside0.mk ((by rw [hg]; exact (below_size (by repeat (first | (with_reducible first | exact HB.out | apply below_alloc | apply pw_below_drewN | apply below_drew1) | exact HB.out))) : w.heap.size ≤ gb238)); clear HB; have HB := n0_; have BK238 := n1_; have GW238 := n2_; have GE238 := n3_; clear n0_ n1_ n2_ n3_; clear hb hbox hg) | ((with_reducible refine gate_dst (N := 7) rfl ?_); refine box_event ?hg (N := 7) ?hd (cs := #[.int .i64 0, .int .i64 0, .slice none 0 0, .slice none 0 0]) (t := 30) ?hr ?_; (case hd => rfl); (case hg => rfl); (case hr => first | (go_simp; done) | (go_simp; rfl)); intro gb239 hg w5 hbox hb; have n0_ := Aside0.mk (blk_below (g := gb238) (o := .cells #[.int .i64 0, .int .i64 0, .slice none 0 0, .slice none 0 0] 30 (0, 0)) (by (with_reducible repeat (first | refine blk_drewN ?_ _ | refine blk_drew ?_ | refine blk_alloc ?_ _)); exact BK238.out) hb); have n1_ := Aside0.mk (below_step (by repeat (first | (with_reducible first | exact HB.out | apply below_alloc | apply pw_below_drewN | apply below_drew1 | refine below_set ?_ GE238.out) | exact HB.out)) hb); have n2_ := Aside0.mk (hbox); have n3_ := Aside0.mk ((by rw [hg]; exact (below_size (by repeat (first | (with_reducible first | exact HB.out | apply below_alloc | apply pw_below_drewN | apply below_drew1 | refine below_set ?_ GE238.out) | exact HB.out))) : w.heap.size ≤ gb239)); have n4_ := Aside0.mk ((by rw [hg]; exact (below_size (by repeat (first | (with_reducible first | exact HB.out | apply below_alloc | apply pw_below_drewN | apply below_drew1 | refine below_set ?_ GE238.out) | exact HB.out))) : w.heap.size ≤ gb239)); have n5_ := Aside0.mk ((by rw [hg]; exact Nat.ne_of_lt (blk_lt (g := gb238) (o := .cells #[.int .i64 0, .int .i64 0, .slice none 0 0, .slice none 0 0] 30 (0, 0)) (by (with_reducible repeat (first | refine blk_drewN ?_ _ | refine blk_drew ?_ | refine blk_alloc ?_ _)); exact BK238.out)) : gb238 ≠ gb239)); have n6_ := Aside0.mk ((by rw [hg]; exact Nat.ne_of_gt (blk_lt (g := gb238) (o := .cells #[.int .i64 0, .int .i64 0, .slice none 0 0, .slice none 0 0] 30 (0, 0)) (by (with_reducible repeat (first | refine blk_drewN ?_ _ | refine blk_drew ?_ | refine blk_alloc ?_ _)); exact BK238.out)) : gb239 ≠ gb238)); clear BK238; clear HB; have BK238 := n0_; have HB := n1_; have BK239 := n2_; have GW239 := n3_; have GE239 := n4_; have NB238_239 := n5_; have NB239_238 := n6_; clear n0_ n1_ n2_ n3_ n4_ n5_ n6_; clear hb hbox hg; have hnb6 := NB239_238.out; have hnc6 := NB238_239.out; have hcz7_0 : w5.cell? ⟨gb239, 0, none⟩ = some (.int .i64 0) := (blk_cell BK239.out 0).trans rfl; have hcz7_1 : w5.cell? ⟨gb239, 1, none⟩ = some (.int .i64 0) := (blk_cell BK239.out 1).trans rfl; have hcz7_2 : w5.cell? ⟨gb239, 2, none⟩ = some (.slice none 0 0) := (blk_cell BK239.out 2).trans rfl; have hcz7_3 : w5.cell? ⟨gb239, 3, none⟩ = some (.slice none 0 0) := (blk_cell BK239.out 3).trans rfl; have hfz7_0 := blk_frozen BK239.out 0; have hfz7_1 := blk_frozen BK239.out 1; have hfz7_2 := blk_frozen BK239.out 2; have hfz7_3 := blk_frozen BK239.out 3))
  go_loopg [8] k (fun kq v8 w' => ∃ (x8_1 : Int) (x240002_1 : List Int) (u240002 : Value), v8 = .int .i64 x8_1 ∧ Aside0 (spec_sqFigure.l0 kq a0 a1 a2 x8_1 a0 a1 x240002_1 = some (r1, r2, r3, r4)) ∧ Aside0 (kq ≤ k) ∧ Aside0 (Kd.R (Kd.int .i64) 3 w' w.heap.size (fun _ => True) u240002 x240002_1) ∧ Aside0 (w'.heap[gb238]? = some (.cells #[.int .i64 0, .int .i64 0, (.slice none 0 0), (.slice none 0 0)] 30 (0, 0))) ∧ Aside0 (w'.heap[gb239]? = some (.cells #[.int .i64 a0, .int .i64 a1, u240002, (.slice none 0 0)] 30 (0, 0))) ∧ Aside0 (Below w.heap.size w w'))
  case atStart => exact ⟨(0), (([] : List Int)), (.slice none 0 0), (by first | rfl | (simp; done) | (simp [*]; done)), H', ⟨Nat.le_refl _⟩, ⟨by first | exact Kd.R_nil _ _ _ _ _ | exact Kd.N_nil _ _ _ _ _ | exact Kd.V_nil _ _ _ _ _ | exact Kd.Q_nil _ _ _ _ _ | exact Kd.S_nil _ _ _ _ _⟩, ⟨by (with_reducible repeat (first | refine blk_drewN ?_ _ | refine blk_drew ?_ | refine blk_alloc ?_ _)); refine blk_far ?_ NB238_239.out _; (with_reducible repeat (first | refine blk_drewN ?_ _ | refine blk_drew ?_ | refine blk_alloc ?_ _)); refine blk_far ?_ NB238_239.out _; (with_reducible repeat (first | refine blk_drewN ?_ _ | refine blk_drew ?_ | refine blk_alloc ?_ _)); refine blk_far ?_ NB238_239.out _; (with_reducible repeat (first | refine blk_drewN ?_ _ | refine blk_drew ?_ | refine blk_alloc ?_ _)); refine blk_far ?_ NB238_239.out _; (with_reducible repeat (first | refine blk_drewN ?_ _ | refine blk_drew ?_ | refine blk_alloc ?_ _)); exact BK238.out⟩, ⟨by (with_reducible repeat (first | refine blk_drewN ?_ _ | refine blk_drew ?_ | refine blk_alloc ?_ _)); refine blk_put (cs := #[.int .i64 a0, .int .i64 a1, .slice none 0 0, .slice none 0 0]) ?_ 3 _ rfl; (with_reducible repeat (first | refine blk_drewN ?_ _ | refine blk_drew ?_ | refine blk_alloc ?_ _)); refine blk_put (cs := #[.int .i64 a0, .int .i64 a1, .slice none 0 0, .slice none 0 0]) ?_ 2 _ rfl; (with_reducible repeat (first | refine blk_drewN ?_ _ | refine blk_drew ?_ | refine blk_alloc ?_ _)); refine blk_put (cs := #[.int .i64 a0, .int .i64 0, .slice none 0 0, .slice none 0 0]) ?_ 1 _ rfl; (with_reducible repeat (first | refine blk_drewN ?_ _ | refine blk_drew ?_ | refine blk_alloc ?_ _)); refine blk_put (cs := #[.int .i64 0, .int .i64 0, .slice none 0 0, .slice none 0 0]) ?_ 0 _ rfl; (with_reducible repeat (first | refine blk_drewN ?_ _ | refine blk_drew ?_ | refine blk_alloc ?_ _)); exact BK239.out⟩, ⟨by repeat (first | (with_reducible first | exact HB.out | apply below_alloc | apply pw_below_drewN | apply below_drew1 | refine below_set ?_ GE238.out | refine below_set ?_ GE239.out) | exact HB.out)⟩⟩
  case round =>
    clear H'
    try clear p2
    try clear c4
    try clear c6
    try clear hcz7_0
    try clear hcz7_1
    try clear hcz7_2
    try clear hcz7_3
    try clear hfz7_0
    try clear hfz7_1
    try clear hfz7_2
    try clear hfz7_3
    obtain ⟨x8_1, x240002_1, u240002, rfl, HA, HK1, HO_240002, BK238, BK239, HB⟩ := hrel
    cases gk with
    | zero => exact absurd HA.out (by simp [spec_sqFigure.l0])
    | succ k1 =>
      have H := HA.out
      clear HA
      simp only [spec_sqFigure.l0] at H
      by_cases c8 : x8_1 < (wrap64 (a0 * (wrap64 (a1 + 1))))
      · rw [if_pos c8] at H
        have c8b0 : decide (x8_1 < (wrap64 (a0 * (wrap64 (a1 + 1))))) = true := decide_eq_true c8
        clear c8
        replace H := Option.bind_eq_some_iff.mp H
        obtain ⟨t240, A90, H⟩ := H
        replace H : (if (Go.bits .and .i64 a2 t240) = 0 then (spec_sqFigure.l0 k1 a0 a1 a2 (wrap64 (x8_1 + 1)) a0 a1 x240002_1) else (if x240002_1.length < 17592186044416 then (spec_sqFigure.l0 k1 a0 a1 a2 (wrap64 (x8_1 + 1)) a0 a1 (x240002_1 ++ [x8_1])) else (none))) = some (r1, r2, r3, r4) := H
        have A9 := Aside0.mk A90
        clear A90
        by_cases c10 : (Go.bits .and .i64 a2 t240) = 0
        · rw [if_pos c10] at H
          have c10b0 : ((Go.bits .and .i64 a2 t240) == 0) = true := beq_iff_eq.mpr c10
          have c10b1 : ((Go.bits .and .i64 a2 t240) != 0) = false := bne_eq_false_iff_eq.mpr c10
          clear c10
          have H' := Aside0.mk H
          clear H
          go_wp2_with (first | ((with_reducible refine gate_callee (f := 66) rfl ?_); refine goesL_ (some 25) rfl rfl Tryz.func66 (by kernel_rfl) rfl #[.int .i64 a0, .int .i64 a1, .bool false, .int .i64 x8_1] rfl (by (try simp only [List.map_toArray, List.map_cons, List.map_nil]); first | done | rfl | (simp only [List.length_drop, List.length_take]; rfl)) ?_; (with_reducible refine (spec_sqBit.calls a0 a1 false x8_1 t240 _ A9.out).mono ?_); rintro e w' ⟨rfl, ⟨nd, rfl⟩⟩; refine ⟨_, rfl, ?_⟩))
          go_roundg k1
          case measure => have := HK1.out; omega
          case rel => exact ⟨(wrap64 (x8_1 + 1)), (x240002_1), (u240002), (by first | rfl | (simp; done) | (simp [*]; done)), H', ⟨by have := HK1.out; omega⟩, ⟨by (with_reducible repeat (first | apply Kd.R_alloc | apply Kd.R_drewN | apply Kd.R_drew)); exact HO_240002.out⟩, ⟨by (with_reducible repeat (first | refine blk_drewN ?_ _ | refine blk_drew ?_ | refine blk_alloc ?_ _)); exact BK238.out⟩, ⟨by (with_reducible repeat (first | refine blk_drewN ?_ _ | refine blk_drew ?_ | refine blk_alloc ?_ _)); exact BK239.out⟩, ⟨by repeat (first | (with_reducible first | exact HB.out | apply below_alloc | apply pw_below_drewN | apply below_drew1 | refine below_set ?_ GE238.out | refine below_set ?_ GE239.out) | exact HB.out)⟩⟩
        · rw [if_neg c10] at H
          have c10b0 : ((Go.bits .and .i64 a2 t240) == 0) = false := beq_eq_false_iff_ne.mpr c10
          have c10b1 : ((Go.bits .and .i64 a2 t240) != 0) = true := bne_iff_ne.mpr c10
          by_cases c11 : x240002_1.length < 17592186044416
          · rw [if_pos c11] at H
            have LMc11 := Aside0.mk c11
            clear c11
            obtain ⟨y241, hy241⟩ : ∃ y_ : List Int, y_ = (x240002_1 ++ [x8_1]) := ⟨_, rfl⟩
            replace H : (spec_sqFigure.l0 k1 a0 a1 a2 (wrap64 (x8_1 + 1)) a0 a1 y241) = some (r1, r2, r3, r4) := by first | (rw [hy241]; with_reducible exact H) | (have H2_ := (Option.bind_some _ _).symm.trans H; rw [hy241]; with_reducible exact H2_) | (have H2_ := (Option.bind_some _ _).symm.trans H; with_reducible exact H2_) | with_reducible exact H | (rw [hy241]; exact H) | exact H
            have Ny241 := Aside0.mk hy241
            clear hy241
            have H' := Aside0.mk H
            clear H
            go_wp2_with (first | ((with_reducible refine gate_callee (f := 66) rfl ?_); refine goesL_ (some 25) rfl rfl Tryz.func66 (by kernel_rfl) rfl #[.int .i64 a0, .int .i64 a1, .bool false, .int .i64 x8_1] rfl (by (try simp only [List.map_toArray, List.map_cons, List.map_nil]); first | done | rfl | (simp only [List.length_drop, List.length_take]; rfl)) ?_; (with_reducible refine (spec_sqBit.calls a0 a1 false x8_1 t240 _ A9.out).mono ?_); rintro e w' ⟨rfl, ⟨nd, rfl⟩⟩; refine ⟨_, rfl, ?_⟩; (try (rw [drewN_self wr]; generalize hq_ : World.drewN wr _ = wr; have n0_ : Aside0 (Kd.R (Kd.int .i64) 3 wr w.heap.size (fun _ => True) u240002 x240002_1) := ⟨by rw [← hq_]; exact (by (with_reducible repeat (first | apply Kd.R_alloc | apply Kd.R_drewN | apply Kd.R_drew)); exact HO_240002.out)⟩; have n1_ : Aside0 (wr.heap[gb238]? = some (.cells #[.int .i64 0, .int .i64 0, .slice none 0 0, .slice none 0 0] 30 (0, 0))) := ⟨by rw [← hq_]; exact (by (with_reducible repeat (first | refine blk_drewN ?_ _ | refine blk_drew ?_ | refine blk_alloc ?_ _)); exact BK238.out)⟩; have n2_ : Aside0 (wr.heap[gb239]? = some (.cells #[.int .i64 a0, .int .i64 a1, u240002, .slice none 0 0] 30 (0, 0))) := ⟨by rw [← hq_]; exact (by (with_reducible repeat (first | refine blk_drewN ?_ _ | refine blk_drew ?_ | refine blk_alloc ?_ _)); exact BK239.out)⟩; have n3_ : Aside0 (Below w.heap.size w wr) := ⟨by rw [← hq_]; exact (by repeat (first | (with_reducible first | exact HB.out | apply below_alloc | apply pw_below_drewN | apply below_drew1 | refine below_set ?_ GE238.out | refine below_set ?_ GE239.out) | exact HB.out))⟩; clear HO_240002 BK238 BK239 HB hq_; have HO_240002 := n0_; have BK238 := n1_; have BK239 := n2_; have HB := n3_; clear n0_ n1_ n2_ n3_)); have hnb12 := NB239_238.out; have hnc12 := NB238_239.out; have hcz13_0 : wr.cell? ⟨gb239, 0, none⟩ = some (.int .i64 a0) := (blk_cell BK239.out 0).trans rfl; have hcz13_1 : wr.cell? ⟨gb239, 1, none⟩ = some (.int .i64 a1) := (blk_cell BK239.out 1).trans rfl; have hcz13_2 : wr.cell? ⟨gb239, 2, none⟩ = some (u240002) := (blk_cell BK239.out 2).trans rfl; have hcz13_3 : wr.cell? ⟨gb239, 3, none⟩ = some (.slice none 0 0) := (blk_cell BK239.out 3).trans rfl; have hfz13_0 := blk_frozen BK239.out 0; have hfz13_1 := blk_frozen BK239.out 1; have hfz13_2 := blk_frozen BK239.out 2; have hfz13_3 := blk_frozen BK239.out 3) | ((with_reducible refine gate_builtin (b := .append) (xs := #[.tmp 29, .tmp 31]) rfl ?_); at_builtin; refine Kd.R_append (Kd.int .i64) (w0 := w) w.heap.size rfl (.tmp 29) (.tmp 31) 22 3 (.int .i64 0) 8 rfl Tryz.underlying22 info3 rfl (by decide) (by omega) u240002 x240002_1 x8_1 [.int .i64 x8_1] (fun _ => True) (fun _ => False) rfl rfl ?aP (fun _ hk => hk.elim) ?aF ?aO ?aB ?aS ?aL ?_; (case aP => exact rfl); (case aB => exact (by repeat (first | (with_reducible first | exact HB.out | apply below_alloc | apply pw_below_drewN | apply below_drew1 | refine below_set ?_ GE238.out | refine below_set ?_ GE239.out) | exact HB.out))); (case aF => exact (fun _ _ => trivial)); (case aO => exact (by (with_reducible repeat (first | apply Kd.R_alloc | apply Kd.R_drewN | apply Kd.R_drew)); exact HO_240002.out)); (case aS => exact (below_size (by repeat (first | (with_reducible first | exact HB.out | apply below_alloc | apply pw_below_drewN | apply below_drew1 | refine below_set ?_ GE238.out | refine below_set ?_ GE239.out) | exact HB.out)))); (case aL => have := LMc11.out; omega); intro v242 w14 ho hb hg hat; rw [← Ny241.out] at ho; have n0_ := Aside0.mk (blk_grown (g := gb238) (o := .cells #[.int .i64 0, .int .i64 0, .slice none 0 0, .slice none 0 0] 30 (0, 0)) (by (with_reducible repeat (first | refine blk_drewN ?_ _ | refine blk_drew ?_ | refine blk_alloc ?_ _)); exact BK238.out) hg (Kd.R_ne HO_240002.out BK238.out (by decide))); have n1_ := Aside0.mk (blk_grown (g := gb239) (o := .cells #[.int .i64 a0, .int .i64 a1, u240002, .slice none 0 0] 30 (0, 0)) (by (with_reducible repeat (first | refine blk_drewN ?_ _ | refine blk_drew ?_ | refine blk_alloc ?_ _)); exact BK239.out) hg (Kd.R_ne HO_240002.out BK239.out (by decide))); have n2_ := Aside0.mk (hb); have n3_ := Aside0.mk (ho); clear BK238; clear BK239; clear HB; clear HO_240002; have BK238 := n0_; have BK239 := n1_; have HB := n2_; have HO243 := n3_; clear n0_ n1_ n2_ n3_; clear ho hb hg hat; obtain ⟨Ao15, co15, eo15⟩ := Kd.R_slice HO243.out; subst eo15; have hcz16_0 : w14.cell? ⟨gb239, 0, none⟩ = some (.int .i64 a0) := (blk_cell BK239.out 0).trans rfl; have hcz16_1 : w14.cell? ⟨gb239, 1, none⟩ = some (.int .i64 a1) := (blk_cell BK239.out 1).trans rfl; have hcz16_2 : w14.cell? ⟨gb239, 2, none⟩ = some (u240002) := (blk_cell BK239.out 2).trans rfl; have hcz16_3 : w14.cell? ⟨gb239, 3, none⟩ = some (.slice none 0 0) := (blk_cell BK239.out 3).trans rfl; have hfz16_0 := blk_frozen BK239.out 0; have hfz16_1 := blk_frozen BK239.out 1; have hfz16_2 := blk_frozen BK239.out 2; have hfz16_3 := blk_frozen BK239.out 3))
            go_roundg k1
            case measure => have := HK1.out; omega
            case rel => exact ⟨(wrap64 (x8_1 + 1)), (y241), (.slice Ao15 y241.length co15), (by first | rfl | (simp; done) | (simp [*]; done)), H', ⟨by have := HK1.out; omega⟩, ⟨by (with_reducible repeat (first | apply Kd.R_alloc | apply Kd.R_drewN | apply Kd.R_drew)); exact Kd.R_mono (Kd.R_far (p := ⟨gb239, 2, none⟩) (Kd.R_types HO243.out BK239.out (by decide)) (fun _ hk => hk.2) (.slice Ao15 y241.length co15)) (fun _ hk => trivial)⟩, ⟨by (with_reducible repeat (first | refine blk_drewN ?_ _ | refine blk_drew ?_ | refine blk_alloc ?_ _)); refine blk_far ?_ NB238_239.out _; (with_reducible repeat (first | refine blk_drewN ?_ _ | refine blk_drew ?_ | refine blk_alloc ?_ _)); exact BK238.out⟩, ⟨by (with_reducible repeat (first | refine blk_drewN ?_ _ | refine blk_drew ?_ | refine blk_alloc ?_ _)); refine blk_put (cs := #[.int .i64 a0, .int .i64 a1, u240002, .slice none 0 0]) ?_ 2 _ rfl; (with_reducible repeat (first | refine blk_drewN ?_ _ | refine blk_drew ?_ | refine blk_alloc ?_ _)); exact BK239.out⟩, ⟨by repeat (first | (with_reducible first | exact HB.out | apply below_alloc | apply pw_below_drewN | apply below_drew1 | refine below_set ?_ GE238.out | refine below_set ?_ GE239.out) | exact HB.out)⟩⟩
          · rw [if_neg c11] at H
            exact absurd H (by simp)
      · rw [if_neg c8] at H
        have c8b0 : decide (x8_1 < (wrap64 (a0 * (wrap64 (a1 + 1))))) = false := decide_eq_false c8
        clear c8
        have H' := Aside0.mk H
        clear H
        go_wp2
        go_loopg [9] k1 (fun kq v9 w' => ∃ (x9_2 : Int) (x240003_2 : List Int) (u240003 : Value), v9 = .int .i64 x9_2 ∧ Aside0 (spec_sqFigure.l1 kq a0 a1 a2 x9_2 a0 a1 x240002_1 x240003_2 = some (r1, r2, r3, r4)) ∧ Aside0 (kq ≤ k1) ∧ Aside0 (Kd.R (Kd.int .i64) 3 w' w.heap.size (fun k_ => some k_ ≠ (u240003 : Value).ownBlock) u240002 x240002_1) ∧ Aside0 (Kd.R (Kd.int .i64) 3 w' w.heap.size (fun k_ => some k_ ≠ (u240002 : Value).ownBlock) u240003 x240003_2) ∧ Aside0 (w'.heap[gb238]? = some (.cells #[.int .i64 0, .int .i64 0, (.slice none 0 0), (.slice none 0 0)] 30 (0, 0))) ∧ Aside0 (w'.heap[gb239]? = some (.cells #[.int .i64 a0, .int .i64 a1, u240002, u240003] 30 (0, 0))) ∧ Aside0 (Below w.heap.size w w'))
        case atStart => exact ⟨(0), (([] : List Int)), (.slice none 0 0), (by first | rfl | (simp; done) | (simp [*]; done)), H', ⟨Nat.le_refl _⟩, ⟨by (with_reducible repeat (first | apply Kd.R_alloc | apply Kd.R_drewN | apply Kd.R_drew)); exact Kd.R_mono HO_240002.out (fun _ hk => (by simp [Value.ownBlock]))⟩, ⟨by first | exact Kd.R_nil _ _ _ _ _ | exact Kd.N_nil _ _ _ _ _ | exact Kd.V_nil _ _ _ _ _ | exact Kd.Q_nil _ _ _ _ _ | exact Kd.S_nil _ _ _ _ _⟩, ⟨by (with_reducible repeat (first | refine blk_drewN ?_ _ | refine blk_drew ?_ | refine blk_alloc ?_ _)); exact BK238.out⟩, ⟨by (with_reducible repeat (first | refine blk_drewN ?_ _ | refine blk_drew ?_ | refine blk_alloc ?_ _)); exact BK239.out⟩, ⟨by repeat (first | (with_reducible first | exact HB.out | apply below_alloc | apply pw_below_drewN | apply below_drew1 | refine below_set ?_ GE238.out | refine below_set ?_ GE239.out) | exact HB.out)⟩⟩
        case round =>
          clear H'
          try clear c1
          try clear p2
          try clear c4
          try clear c6
          try clear p6
          try clear c8
          try clear c8b0
          try clear c10
          try clear c10b0
          try clear c10b1
          try clear c11
          try clear c12
          try clear hcz13_0
          try clear hcz13_1
          try clear hcz13_2
          try clear hcz13_3
          try clear hcz16_0
          try clear hcz16_1
          try clear hcz16_2
          try clear hcz16_3
          try clear hcz7_0
          try clear hcz7_1
          try clear hcz7_2
          try clear hcz7_3
          try clear hfz13_0
          try clear hfz13_1
          try clear hfz13_2
          try clear hfz13_3
          try clear hfz16_0
          try clear hfz16_1
          try clear hfz16_2
          try clear hfz16_3
          try clear hfz7_0
          try clear hfz7_1
          try clear hfz7_2
          try clear hfz7_3
          try clear p2
          obtain ⟨x9_2, x240003_2, u240003, rfl, HA, HK2, HO_240002, HO_240003, BK238, BK239, HB⟩ := hrel
          cases gk with
          | zero => exact absurd HA.out (by simp [spec_sqFigure.l1])
          | succ k2 =>
            have H := HA.out
            clear HA
            simp only [spec_sqFigure.l1] at H
            by_cases c17 : x9_2 < (wrap64 ((wrap64 (a0 + 1)) * a1))
            · rw [if_pos c17] at H
              have c17b0 : decide (x9_2 < (wrap64 ((wrap64 (a0 + 1)) * a1))) = true := decide_eq_true c17
              clear c17
              replace H := Option.bind_eq_some_iff.mp H
              obtain ⟨t244, A180, H⟩ := H
              replace H : (if (Go.bits .and .i64 a2 t244) = 0 then (spec_sqFigure.l1 k2 a0 a1 a2 (wrap64 (x9_2 + 1)) a0 a1 x240002_1 x240003_2) else (if x240003_2.length < 17592186044416 then (spec_sqFigure.l1 k2 a0 a1 a2 (wrap64 (x9_2 + 1)) a0 a1 x240002_1 (x240003_2 ++ [x9_2])) else (none))) = some (r1, r2, r3, r4) := H
              have A18 := Aside0.mk A180
              clear A180
              by_cases c19 : (Go.bits .and .i64 a2 t244) = 0
              · rw [if_pos c19] at H
                have c19b0 : ((Go.bits .and .i64 a2 t244) == 0) = true := beq_iff_eq.mpr c19
                have c19b1 : ((Go.bits .and .i64 a2 t244) != 0) = false := bne_eq_false_iff_eq.mpr c19
                clear c19
                have H' := Aside0.mk H
                clear H
                go_wp2_with (first | ((with_reducible refine gate_callee (f := 66) rfl ?_); refine goesL_ (some 46) rfl rfl Tryz.func66 (by kernel_rfl) rfl #[.int .i64 a0, .int .i64 a1, .bool true, .int .i64 x9_2] rfl (by (try simp only [List.map_toArray, List.map_cons, List.map_nil]); first | done | rfl | (simp only [List.length_drop, List.length_take]; rfl)) ?_; (with_reducible refine (spec_sqBit.calls a0 a1 true x9_2 t244 _ A18.out).mono ?_); rintro e w' ⟨rfl, ⟨nd, rfl⟩⟩; refine ⟨_, rfl, ?_⟩))
                go_roundg k2
                case measure => have := HK1.out; have := HK2.out; omega
                case rel => exact ⟨(wrap64 (x9_2 + 1)), (x240003_2), (u240003), (by first | rfl | (simp; done) | (simp [*]; done)), H', ⟨by have := HK1.out; have := HK2.out; omega⟩, ⟨by (with_reducible repeat (first | apply Kd.R_alloc | apply Kd.R_drewN | apply Kd.R_drew)); exact HO_240002.out⟩, ⟨by (with_reducible repeat (first | apply Kd.R_alloc | apply Kd.R_drewN | apply Kd.R_drew)); exact HO_240003.out⟩, ⟨by (with_reducible repeat (first | refine blk_drewN ?_ _ | refine blk_drew ?_ | refine blk_alloc ?_ _)); exact BK238.out⟩, ⟨by (with_reducible repeat (first | refine blk_drewN ?_ _ | refine blk_drew ?_ | refine blk_alloc ?_ _)); exact BK239.out⟩, ⟨by repeat (first | (with_reducible first | exact HB.out | apply below_alloc | apply pw_below_drewN | apply below_drew1 | refine below_set ?_ GE238.out | refine below_set ?_ GE239.out) | exact HB.out)⟩⟩
              · rw [if_neg c19] at H
                have c19b0 : ((Go.bits .and .i64 a2 t244) == 0) = false := beq_eq_false_iff_ne.mpr c19
                have c19b1 : ((Go.bits .and .i64 a2 t244) != 0) = true := bne_iff_ne.mpr c19
                by_cases c20 : x240003_2.length < 17592186044416
                · rw [if_pos c20] at H
                  have LMc20 := Aside0.mk c20
                  clear c20
                  obtain ⟨y245, hy245⟩ : ∃ y_ : List Int, y_ = (x240003_2 ++ [x9_2]) := ⟨_, rfl⟩
                  replace H : (spec_sqFigure.l1 k2 a0 a1 a2 (wrap64 (x9_2 + 1)) a0 a1 x240002_1 y245) = some (r1, r2, r3, r4) := by first | (rw [hy245]; with_reducible exact H) | (have H2_ := (Option.bind_some _ _).symm.trans H; rw [hy245]; with_reducible exact H2_) | (have H2_ := (Option.bind_some _ _).symm.trans H; with_reducible exact H2_) | with_reducible exact H | (rw [hy245]; exact H) | exact H
                  have Ny245 := Aside0.mk hy245
                  clear hy245
                  have H' := Aside0.mk H
                  clear H
                  go_wp2_with (first | ((with_reducible refine gate_callee (f := 66) rfl ?_); refine goesL_ (some 46) rfl rfl Tryz.func66 (by kernel_rfl) rfl #[.int .i64 a0, .int .i64 a1, .bool true, .int .i64 x9_2] rfl (by (try simp only [List.map_toArray, List.map_cons, List.map_nil]); first | done | rfl | (simp only [List.length_drop, List.length_take]; rfl)) ?_; (with_reducible refine (spec_sqBit.calls a0 a1 true x9_2 t244 _ A18.out).mono ?_); rintro e w' ⟨rfl, ⟨nd, rfl⟩⟩; refine ⟨_, rfl, ?_⟩; (try (rw [drewN_self wr]; generalize hq_ : World.drewN wr _ = wr; have n0_ : Aside0 (Kd.R (Kd.int .i64) 3 wr w.heap.size (fun k_ => some k_ ≠ (u240003 : Value).ownBlock) u240002 x240002_1) := ⟨by rw [← hq_]; exact (by (with_reducible repeat (first | apply Kd.R_alloc | apply Kd.R_drewN | apply Kd.R_drew)); exact HO_240002.out)⟩; have n1_ : Aside0 (Kd.R (Kd.int .i64) 3 wr w.heap.size (fun k_ => some k_ ≠ (u240002 : Value).ownBlock) u240003 x240003_2) := ⟨by rw [← hq_]; exact (by (with_reducible repeat (first | apply Kd.R_alloc | apply Kd.R_drewN | apply Kd.R_drew)); exact HO_240003.out)⟩; have n2_ : Aside0 (wr.heap[gb238]? = some (.cells #[.int .i64 0, .int .i64 0, .slice none 0 0, .slice none 0 0] 30 (0, 0))) := ⟨by rw [← hq_]; exact (by (with_reducible repeat (first | refine blk_drewN ?_ _ | refine blk_drew ?_ | refine blk_alloc ?_ _)); exact BK238.out)⟩; have n3_ : Aside0 (wr.heap[gb239]? = some (.cells #[.int .i64 a0, .int .i64 a1, u240002, u240003] 30 (0, 0))) := ⟨by rw [← hq_]; exact (by (with_reducible repeat (first | refine blk_drewN ?_ _ | refine blk_drew ?_ | refine blk_alloc ?_ _)); exact BK239.out)⟩; have n4_ : Aside0 (Below w.heap.size w wr) := ⟨by rw [← hq_]; exact (by repeat (first | (with_reducible first | exact HB.out | apply below_alloc | apply pw_below_drewN | apply below_drew1 | refine below_set ?_ GE238.out | refine below_set ?_ GE239.out) | exact HB.out))⟩; clear HO_240002 HO_240003 BK238 BK239 HB hq_; have HO_240002 := n0_; have HO_240003 := n1_; have BK238 := n2_; have BK239 := n3_; have HB := n4_; clear n0_ n1_ n2_ n3_ n4_)); have hnb21 := NB239_238.out; have hnc21 := NB238_239.out; have hcz22_0 : wr.cell? ⟨gb239, 0, none⟩ = some (.int .i64 a0) := (blk_cell BK239.out 0).trans rfl; have hcz22_1 : wr.cell? ⟨gb239, 1, none⟩ = some (.int .i64 a1) := (blk_cell BK239.out 1).trans rfl; have hcz22_2 : wr.cell? ⟨gb239, 2, none⟩ = some (u240002) := (blk_cell BK239.out 2).trans rfl; have hcz22_3 : wr.cell? ⟨gb239, 3, none⟩ = some (u240003) := (blk_cell BK239.out 3).trans rfl; have hfz22_0 := blk_frozen BK239.out 0; have hfz22_1 := blk_frozen BK239.out 1; have hfz22_2 := blk_frozen BK239.out 2; have hfz22_3 := blk_frozen BK239.out 3) | ((with_reducible refine gate_builtin (b := .append) (xs := #[.tmp 50, .tmp 52]) rfl ?_); at_builtin; refine Kd.R_append (Kd.int .i64) (w0 := w) w.heap.size rfl (.tmp 50) (.tmp 52) 22 3 (.int .i64 0) 8 rfl Tryz.underlying22 info3 rfl (by decide) (by omega) u240003 x240003_2 x9_2 [.int .i64 x9_2] (fun k_ => some k_ ≠ (u240002 : Value).ownBlock) (fun _ => False) rfl rfl ?aP (fun _ hk => hk.elim) ?aF ?aO ?aB ?aS ?aL ?_; (case aP => exact rfl); (case aB => exact (by repeat (first | (with_reducible first | exact HB.out | apply below_alloc | apply pw_below_drewN | apply below_drew1 | refine below_set ?_ GE238.out | refine below_set ?_ GE239.out) | exact HB.out))); (case aF => exact (fun k_ hk => Kd.fresh' (Kd.R_lt (by (with_reducible repeat (first | apply Kd.R_alloc | apply Kd.R_drewN | apply Kd.R_drew)); exact HO_240002.out)) k_ hk)); (case aO => exact (by (with_reducible repeat (first | apply Kd.R_alloc | apply Kd.R_drewN | apply Kd.R_drew)); exact HO_240003.out)); (case aS => exact (below_size (by repeat (first | (with_reducible first | exact HB.out | apply below_alloc | apply pw_below_drewN | apply below_drew1 | refine below_set ?_ GE238.out | refine below_set ?_ GE239.out) | exact HB.out)))); (case aL => have := LMc20.out; omega); intro v246 w23 ho hb hg hat; rw [← Ny245.out] at ho; have n0_ := Aside0.mk (Kd.R_after (ok := (fun _ => True)) (by (with_reducible repeat (first | apply Kd.R_alloc | apply Kd.R_drewN | apply Kd.R_drew)); exact Kd.R_mono HO_240002.out (fun _ hk => ⟨trivial, hk⟩)) hg hat); have n1_ := Aside0.mk (blk_grown (g := gb238) (o := .cells #[.int .i64 0, .int .i64 0, .slice none 0 0, .slice none 0 0] 30 (0, 0)) (by (with_reducible repeat (first | refine blk_drewN ?_ _ | refine blk_drew ?_ | refine blk_alloc ?_ _)); exact BK238.out) hg (Kd.R_ne HO_240003.out BK238.out (by decide))); have n2_ := Aside0.mk (blk_grown (g := gb239) (o := .cells #[.int .i64 a0, .int .i64 a1, u240002, u240003] 30 (0, 0)) (by (with_reducible repeat (first | refine blk_drewN ?_ _ | refine blk_drew ?_ | refine blk_alloc ?_ _)); exact BK239.out) hg (Kd.R_ne HO_240003.out BK239.out (by decide))); have n3_ := Aside0.mk (hb); have n4_ := Aside0.mk (ho); clear HO_240002; clear BK238; clear BK239; clear HB; clear HO_240003; have HO_240002 := n0_; have BK238 := n1_; have BK239 := n2_; have HB := n3_; have HO247 := n4_; clear n0_ n1_ n2_ n3_ n4_; clear ho hb hg hat; obtain ⟨Ao24, co24, eo24⟩ := Kd.R_slice HO247.out; subst eo24; have hcz25_0 : w23.cell? ⟨gb239, 0, none⟩ = some (.int .i64 a0) := (blk_cell BK239.out 0).trans rfl; have hcz25_1 : w23.cell? ⟨gb239, 1, none⟩ = some (.int .i64 a1) := (blk_cell BK239.out 1).trans rfl; have hcz25_2 : w23.cell? ⟨gb239, 2, none⟩ = some (u240002) := (blk_cell BK239.out 2).trans rfl; have hcz25_3 : w23.cell? ⟨gb239, 3, none⟩ = some (u240003) := (blk_cell BK239.out 3).trans rfl; have hfz25_0 := blk_frozen BK239.out 0; have hfz25_1 := blk_frozen BK239.out 1; have hfz25_2 := blk_frozen BK239.out 2; have hfz25_3 := blk_frozen BK239.out 3))
                  go_roundg k2
                  case measure => have := HK1.out; have := HK2.out; omega
                  case rel => exact ⟨(wrap64 (x9_2 + 1)), (y245), (.slice Ao24 y245.length co24), (by first | rfl | (simp; done) | (simp [*]; done)), H', ⟨by have := HK1.out; have := HK2.out; omega⟩, ⟨by (with_reducible repeat (first | apply Kd.R_alloc | apply Kd.R_drewN | apply Kd.R_drew)); exact Kd.R_mono (Kd.R_far (p := ⟨gb239, 3, none⟩) (Kd.R_types HO_240002.out BK239.out (by decide)) (fun _ hk => hk.2) (.slice Ao24 y245.length co24)) (fun _ hk => hk.1.2)⟩, ⟨by (with_reducible repeat (first | apply Kd.R_alloc | apply Kd.R_drewN | apply Kd.R_drew)); exact Kd.R_mono (Kd.R_far (p := ⟨gb239, 3, none⟩) (Kd.R_types HO247.out BK239.out (by decide)) (fun _ hk => hk.2) (.slice Ao24 y245.length co24)) (fun _ hk => hk.1)⟩, ⟨by (with_reducible repeat (first | refine blk_drewN ?_ _ | refine blk_drew ?_ | refine blk_alloc ?_ _)); refine blk_far ?_ NB238_239.out _; (with_reducible repeat (first | refine blk_drewN ?_ _ | refine blk_drew ?_ | refine blk_alloc ?_ _)); exact BK238.out⟩, ⟨by (with_reducible repeat (first | refine blk_drewN ?_ _ | refine blk_drew ?_ | refine blk_alloc ?_ _)); refine blk_put (cs := #[.int .i64 a0, .int .i64 a1, u240002, u240003]) ?_ 3 _ rfl; (with_reducible repeat (first | refine blk_drewN ?_ _ | refine blk_drew ?_ | refine blk_alloc ?_ _)); exact BK239.out⟩, ⟨by repeat (first | (with_reducible first | exact HB.out | apply below_alloc | apply pw_below_drewN | apply below_drew1 | refine below_set ?_ GE238.out | refine below_set ?_ GE239.out) | exact HB.out)⟩⟩
                · rw [if_neg c20] at H
                  exact absurd H (by simp)
            · rw [if_neg c17] at H
              have c17b0 : decide (x9_2 < (wrap64 ((wrap64 (a0 + 1)) * a1))) = false := decide_eq_false c17
              clear c17
              simp only [Option.some.injEq, Prod.mk.injEq] at H
              obtain ⟨rfl, rfl, rfl, rfl⟩ := H
              have hnb26 := NB239_238.out
              have hnc26 := NB238_239.out
              have hcz27_0 : wr.cell? ⟨gb239, 0, none⟩ = some (.int .i64 a0) := (blk_cell BK239.out 0).trans rfl
              have hcz27_1 : wr.cell? ⟨gb239, 1, none⟩ = some (.int .i64 a1) := (blk_cell BK239.out 1).trans rfl
              have hcz27_2 : wr.cell? ⟨gb239, 2, none⟩ = some (u240002) := (blk_cell BK239.out 2).trans rfl
              have hcz27_3 : wr.cell? ⟨gb239, 3, none⟩ = some (u240003) := (blk_cell BK239.out 3).trans rfl
              have hfz27_0 := blk_frozen BK239.out 0
              have hfz27_1 := blk_frozen BK239.out 1
              have hfz27_2 := blk_frozen BK239.out 2
              have hfz27_3 := blk_frozen BK239.out 3
              have hcz28_0 : wr.cell? ⟨gb238, 0, none⟩ = some (.int .i64 0) := (blk_cell BK238.out 0).trans rfl
              have hcz28_1 : wr.cell? ⟨gb238, 1, none⟩ = some (.int .i64 0) := (blk_cell BK238.out 1).trans rfl
              have hcz28_2 : wr.cell? ⟨gb238, 2, none⟩ = some (.slice none 0 0) := (blk_cell BK238.out 2).trans rfl
              have hcz28_3 : wr.cell? ⟨gb238, 3, none⟩ = some (.slice none 0 0) := (blk_cell BK238.out 3).trans rfl
              have hfz28_0 := blk_frozen BK238.out 0
              have hfz28_1 := blk_frozen BK238.out 1
              have hfz28_2 := blk_frozen BK238.out 2
              have hfz28_3 := blk_frozen BK238.out 3
              obtain ⟨Ao29, co29, eo29⟩ := Kd.R_slice HO_240002.out
              subst eo29
              obtain ⟨Ao30, co30, eo30⟩ := Kd.R_slice HO_240003.out
              subst eo30
              go_wp2
              refine bodyPost_ret (results_cell_row rfl _ _ gb238 30 #[.int .i64 a0, .int .i64 a1, .slice Ao29 x240002_1.length co29, .slice Ao30 x240003_2.length co30] (0, 0) _ rfl (by (with_reducible repeat (first | refine blk_drewN ?_ _ | refine blk_drew ?_ | refine blk_alloc ?_ _)); refine blk_put (cs := #[.int .i64 a0, .int .i64 a1, .slice Ao29 x240002_1.length co29, .slice none 0 0]) ?_ 3 _ rfl; (with_reducible repeat (first | refine blk_drewN ?_ _ | refine blk_drew ?_ | refine blk_alloc ?_ _)); refine blk_put (cs := #[.int .i64 a0, .int .i64 a1, .slice none 0 0, .slice none 0 0]) ?_ 2 _ rfl; (with_reducible repeat (first | refine blk_drewN ?_ _ | refine blk_drew ?_ | refine blk_alloc ?_ _)); refine blk_put (cs := #[.int .i64 a0, .int .i64 0, .slice none 0 0, .slice none 0 0]) ?_ 1 _ rfl; (with_reducible repeat (first | refine blk_drewN ?_ _ | refine blk_drew ?_ | refine blk_alloc ?_ _)); refine blk_put (cs := #[.int .i64 0, .int .i64 0, .slice none 0 0, .slice none 0 0]) ?_ 0 _ rfl; (with_reducible repeat (first | refine blk_drewN ?_ _ | refine blk_drew ?_ | refine blk_alloc ?_ _)); exact BK238.out) Tryz.underlying30 rfl (by kernel_rfl)) rfl ?_
              exact ⟨_, _, by first | rfl | (simp [errW_none, errW_some] <;> rfl) | (simp [*, errW_none, errW_some] <;> rfl), by (with_reducible repeat (first | apply Kd.R_alloc | apply Kd.R_drewN | apply Kd.R_drew)); exact Kd.R_mono (Kd.R_far (p := ⟨gb238, 3, none⟩) (Kd.R_far (p := ⟨gb238, 2, none⟩) (Kd.R_far (p := ⟨gb238, 1, none⟩) (Kd.R_far (p := ⟨gb238, 0, none⟩) (Kd.R_types HO_240002.out BK238.out (by decide)) (fun _ hk => hk.2) (.int .i64 a0)) (fun _ hk => hk.2) (.int .i64 a1)) (fun _ hk => hk.2) (.slice Ao29 x240002_1.length co29)) (fun _ hk => hk.2) (.slice Ao30 x240003_2.length co30)) (fun _ hk => hk.1), by (with_reducible repeat (first | apply Kd.R_alloc | apply Kd.R_drewN | apply Kd.R_drew)); exact Kd.R_mono (Kd.R_far (p := ⟨gb238, 3, none⟩) (Kd.R_far (p := ⟨gb238, 2, none⟩) (Kd.R_far (p := ⟨gb238, 1, none⟩) (Kd.R_far (p := ⟨gb238, 0, none⟩) (Kd.R_types HO_240003.out BK238.out (by decide)) (fun _ hk => hk.2) (.int .i64 a0)) (fun _ hk => hk.2) (.int .i64 a1)) (fun _ hk => hk.2) (.slice Ao29 x240002_1.length co29)) (fun _ hk => hk.2) (.slice Ao30 x240003_2.length co30)) (fun _ hk => hk.1), by repeat (first | (with_reducible first | exact HB.out | apply below_alloc | apply pw_below_drewN | apply below_drew1 | refine below_set ?_ GE238.out | refine below_set ?_ GE239.out) | exact HB.out)⟩

/-! ### spec_l1In: function 104 -/
set_option maxHeartbeats 8000000 in
set_option maxRecDepth 100000 in
theorem spec_l1In.calls (a0 : Int) (a1 : Int) (a2 : Int) (r : Bool) (w : World) (h : spec_l1In.f a0 a1 a2 = some r) :
    Calls Tryz.prog 104 #[.int .i64 a0, .int .i64 a1, .int .i64 a2] w fun e w' => e = .returned (.bool r) ∧ Drawn0 w w' := by
  have H : (if a0 ≥ a1 then (some (decide (a0 ≤ a2))) else (some false)) = some r := h
  clear h
  by_cases c4 : a0 ≥ a1
  · rw [if_pos c4] at H
    have c4b0 : decide (a1 ≤ a0) = true := decide_eq_true c4
    clear c4
    obtain rfl := Option.some.inj H
    go_enter Tryz.func104, Tryz.ntmps104
    go_wp2
    go_ret
    exact ⟨by first | rfl | (simp; done) | (simp [*]; done), by repeat (first | exact Drawn0.refl _ | apply Drawn0.step)⟩
  · rw [if_neg c4] at H
    have c4b0 : decide (a1 ≤ a0) = false := decide_eq_false c4
    clear c4
    obtain rfl := Option.some.inj H
    go_enter Tryz.func104, Tryz.ntmps104
    go_wp2
    go_ret
    exact ⟨by first | rfl | (simp; done) | (simp [*]; done), by repeat (first | exact Drawn0.refl _ | apply Drawn0.step)⟩

/-! ### spec_fiEdge: function 120 -/
set_option maxHeartbeats 8000000 in
set_option maxRecDepth 100000 in
theorem spec_fiEdge.calls (a0_0 : Int) (a0_1 : Int) (A0_2 : Option Addr) (c0_2 : Nat) (l0_2 : List Int) (A0_3 : Option Addr) (c0_3 : Nat) (l0_3 : List Int) (a1 : Bool) (a2 : Int) (a3 : Int) (r1 : Int) (r2 : Bool) (w : World) (hr0_2 : Kd.C (Kd.int .i64) w A0_2 l0_2.length l0_2) (hc0_2 : l0_2.length ≤ c0_2) (hr0_3 : Kd.C (Kd.int .i64) w A0_3 l0_3.length l0_3) (hc0_3 : l0_3.length ≤ c0_3) (h : spec_fiEdge.f a0_0 a0_1 l0_2 l0_3 a1 a2 a3 = some (r1, r2)) :
    Calls Tryz.prog 120 #[.agg #[.int .i64 a0_0, .int .i64 a0_1, .slice A0_2 l0_2.length c0_2, .slice A0_3 l0_3.length c0_3], .bool a1, .int .i64 a2, .int .i64 a3] w fun e w' => e = .returned (.tuple #[.int .i64 r1, .bool r2]) ∧ Below w.heap.size w w' := by
  have hu30 := Tryz.underlying30
  have HR0_2 := Aside0.mk hr0_2
  have HC0_2 := Aside0.mk hc0_2
  clear hr0_2 hc0_2
  have HR0_3 := Aside0.mk hr0_3
  have HC0_3 := Aside0.mk hc0_3
  clear hr0_3 hc0_3
  have HB := Aside0.mk (Below.refl w.heap.size w)
  have H : (if a1 = true then ((spec_l1In.f a2 0 a0_0).bind fun t249 => (if t249 = true then ((spec_l1In.f a3 0 (wrap64 (a0_1 - 1))).bind fun t250 => (some (wrap64 ((wrap64 (a3 * (wrap64 (a0_0 + 1)))) + a2), t250))) else (some (wrap64 ((wrap64 (a3 * (wrap64 (a0_0 + 1)))) + a2), false)))) else ((spec_l1In.f a2 0 (wrap64 (a0_0 - 1))).bind fun t251 => (if t251 = true then ((spec_l1In.f a3 0 a0_1).bind fun t252 => (some (wrap64 ((wrap64 (a3 * a0_0)) + a2), t252))) else (some (wrap64 ((wrap64 (a3 * a0_0)) + a2), false))))) = some (r1, r2) := h
  clear h
  by_cases c5 : a1 = true
  · subst c5
    have H1 : ((spec_l1In.f a2 0 a0_0).bind fun t249 => (if t249 = true then ((spec_l1In.f a3 0 (wrap64 (a0_1 - 1))).bind fun t250 => (some (wrap64 ((wrap64 (a3 * (wrap64 (a0_0 + 1)))) + a2), t250))) else (some (wrap64 ((wrap64 (a3 * (wrap64 (a0_0 + 1)))) + a2), false)))) = some (r1, r2) := by rw [if_pos rfl] at H; exact H
    clear H
    have H := H1
    clear H1
    replace H := Option.bind_eq_some_iff.mp H
    obtain ⟨t249, A60, H⟩ := H
    replace H : (if t249 = true then ((spec_l1In.f a3 0 (wrap64 (a0_1 - 1))).bind fun t250 => (some (wrap64 ((wrap64 (a3 * (wrap64 (a0_0 + 1)))) + a2), t250))) else (some (wrap64 ((wrap64 (a3 * (wrap64 (a0_0 + 1)))) + a2), false))) = some (r1, r2) := H
    have A6 := Aside0.mk A60
    clear A60
    by_cases c7 : t249 = true
    · subst c7
      have H1 : ((spec_l1In.f a3 0 (wrap64 (a0_1 - 1))).bind fun t250 => (some (wrap64 ((wrap64 (a3 * (wrap64 (a0_0 + 1)))) + a2), t250))) = some (r1, r2) := by rw [if_pos rfl] at H; exact H
      clear H
      have H := H1
      clear H1
      replace H := Option.bind_eq_some_iff.mp H
      obtain ⟨t250, A80, H⟩ := H
      replace H : (some (wrap64 ((wrap64 (a3 * (wrap64 (a0_0 + 1)))) + a2), t250)) = some (r1, r2) := H
      have A8 := Aside0.mk A80
      clear A80
      simp only [Option.some.injEq, Prod.mk.injEq] at H
      obtain ⟨rfl, rfl⟩ := H
      go_enter Tryz.func120, Tryz.ntmps120
      go_wp2_with (first | ((with_reducible refine gate_dst (N := 4) rfl ?_); refine box_event ?hg (N := 4) ?hd (cs := #[.int .i64 a0_0, .int .i64 a0_1, .slice A0_2 l0_2.length c0_2, .slice A0_3 l0_3.length c0_3]) (t := 30) ?hr ?_; (case hd => rfl); (case hg => rfl); (case hr => first | (go_simp; done) | (go_simp; rfl)); intro gb248 hg w9 hbox hb; have n0_ := Aside0.mk (below_step (by repeat (first | (with_reducible first | exact HB.out | apply below_alloc | apply pw_below_drewN | apply below_drew1) | exact HB.out)) hb); have n1_ := Aside0.mk (hbox); have n2_ := Aside0.mk ((by rw [hg]; exact (below_size (by repeat (first | (with_reducible first | exact HB.out | apply below_alloc | apply pw_below_drewN | apply below_drew1) | exact HB.out))) : w.heap.size ≤ gb248)); have n3_ := Aside0.mk ((by rw [hg]; exact (below_size (by repeat (first | (with_reducible first | exact HB.out | apply below_alloc | apply pw_below_drewN | apply below_drew1) | exact HB.out))) : w.heap.size ≤ gb248)); clear HB; have HB := n0_; have BK248 := n1_; have GW248 := n2_; have GE248 := n3_; clear n0_ n1_ n2_ n3_; clear hb hbox hg; have hcz10_0 : w9.cell? ⟨gb248, 0, none⟩ = some (.int .i64 a0_0) := (blk_cell BK248.out 0).trans rfl; have hcz10_1 : w9.cell? ⟨gb248, 1, none⟩ = some (.int .i64 a0_1) := (blk_cell BK248.out 1).trans rfl; have hcz10_2 : w9.cell? ⟨gb248, 2, none⟩ = some (.slice A0_2 l0_2.length c0_2) := (blk_cell BK248.out 2).trans rfl; have hcz10_3 : w9.cell? ⟨gb248, 3, none⟩ = some (.slice A0_3 l0_3.length c0_3) := (blk_cell BK248.out 3).trans rfl; have hfz10_0 := blk_frozen BK248.out 0; have hfz10_1 := blk_frozen BK248.out 1; have hfz10_2 := blk_frozen BK248.out 2; have hfz10_3 := blk_frozen BK248.out 3) | (go_at_call 104; (with_reducible refine (spec_l1In.calls a2 0 a0_0 true _ A6.out).mono ?_); rintro e w' ⟨rfl, ⟨nd, rfl⟩⟩; (try first | exact ⟨rfl, _, World.drewN_drewN _ _ _⟩ | exact ⟨rfl, _, Eq.trans (World.drewN_drewN _ _ _) (congrArg (World.drewN _) (Nat.add_assoc _ _ _))⟩)) | (go_at_call 104; (with_reducible refine (spec_l1In.calls a3 0 (wrap64 (a0_1 - 1)) t250 _ A8.out).mono ?_); rintro e w' ⟨rfl, ⟨nd, rfl⟩⟩; (try first | exact ⟨rfl, _, World.drewN_drewN _ _ _⟩ | exact ⟨rfl, _, Eq.trans (World.drewN_drewN _ _ _) (congrArg (World.drewN _) (Nat.add_assoc _ _ _))⟩)))
      repeat (go_quiet (first | ((with_reducible refine gate_dst (N := 4) rfl ?_); refine box_event ?hg (N := 4) ?hd (cs := #[.int .i64 a0_0, .int .i64 a0_1, .slice A0_2 l0_2.length c0_2, .slice A0_3 l0_3.length c0_3]) (t := 30) ?hr ?_; (case hd => rfl); (case hg => rfl); (case hr => first | (go_simp; done) | (go_simp; rfl)); intro gb248 hg w9 hbox hb; have n0_ := Aside0.mk (below_step (by repeat (first | (with_reducible first | exact HB.out | apply below_alloc | apply pw_below_drewN | apply below_drew1) | exact HB.out)) hb); have n1_ := Aside0.mk (hbox); have n2_ := Aside0.mk ((by rw [hg]; exact (below_size (by repeat (first | (with_reducible first | exact HB.out | apply below_alloc | apply pw_below_drewN | apply below_drew1) | exact HB.out))) : w.heap.size ≤ gb248)); have n3_ := Aside0.mk ((by rw [hg]; exact (below_size (by repeat (first | (with_reducible first | exact HB.out | apply below_alloc | apply pw_below_drewN | apply below_drew1) | exact HB.out))) : w.heap.size ≤ gb248)); clear HB; have HB := n0_; have BK248 := n1_; have GW248 := n2_; have GE248 := n3_; clear n0_ n1_ n2_ n3_; clear hb hbox hg; have hcz10_0 : w9.cell? ⟨gb248, 0, none⟩ = some (.int .i64 a0_0) := (blk_cell BK248.out 0).trans rfl; have hcz10_1 : w9.cell? ⟨gb248, 1, none⟩ = some (.int .i64 a0_1) := (blk_cell BK248.out 1).trans rfl; have hcz10_2 : w9.cell? ⟨gb248, 2, none⟩ = some (.slice A0_2 l0_2.length c0_2) := (blk_cell BK248.out 2).trans rfl; have hcz10_3 : w9.cell? ⟨gb248, 3, none⟩ = some (.slice A0_3 l0_3.length c0_3) := (blk_cell BK248.out 3).trans rfl; have hfz10_0 := blk_frozen BK248.out 0; have hfz10_1 := blk_frozen BK248.out 1; have hfz10_2 := blk_frozen BK248.out 2; have hfz10_3 := blk_frozen BK248.out 3) | (go_at_call 104; (with_reducible refine (spec_l1In.calls a2 0 a0_0 true _ A6.out).mono ?_); rintro e w' ⟨rfl, ⟨nd, rfl⟩⟩; (try first | exact ⟨rfl, _, World.drewN_drewN _ _ _⟩ | exact ⟨rfl, _, Eq.trans (World.drewN_drewN _ _ _) (congrArg (World.drewN _) (Nat.add_assoc _ _ _))⟩)) | (go_at_call 104; (with_reducible refine (spec_l1In.calls a3 0 (wrap64 (a0_1 - 1)) t250 _ A8.out).mono ?_); rintro e w' ⟨rfl, ⟨nd, rfl⟩⟩; (try first | exact ⟨rfl, _, World.drewN_drewN _ _ _⟩ | exact ⟨rfl, _, Eq.trans (World.drewN_drewN _ _ _) (congrArg (World.drewN _) (Nat.add_assoc _ _ _))⟩))); try go_wp2_with (first | ((with_reducible refine gate_dst (N := 4) rfl ?_); refine box_event ?hg (N := 4) ?hd (cs := #[.int .i64 a0_0, .int .i64 a0_1, .slice A0_2 l0_2.length c0_2, .slice A0_3 l0_3.length c0_3]) (t := 30) ?hr ?_; (case hd => rfl); (case hg => rfl); (case hr => first | (go_simp; done) | (go_simp; rfl)); intro gb248 hg w9 hbox hb; have n0_ := Aside0.mk (below_step (by repeat (first | (with_reducible first | exact HB.out | apply below_alloc | apply pw_below_drewN | apply below_drew1) | exact HB.out)) hb); have n1_ := Aside0.mk (hbox); have n2_ := Aside0.mk ((by rw [hg]; exact (below_size (by repeat (first | (with_reducible first | exact HB.out | apply below_alloc | apply pw_below_drewN | apply below_drew1) | exact HB.out))) : w.heap.size ≤ gb248)); have n3_ := Aside0.mk ((by rw [hg]; exact (below_size (by repeat (first | (with_reducible first | exact HB.out | apply below_alloc | apply pw_below_drewN | apply below_drew1) | exact HB.out))) : w.heap.size ≤ gb248)); clear HB; have HB := n0_; have BK248 := n1_; have GW248 := n2_; have GE248 := n3_; clear n0_ n1_ n2_ n3_; clear hb hbox hg; have hcz10_0 : w9.cell? ⟨gb248, 0, none⟩ = some (.int .i64 a0_0) := (blk_cell BK248.out 0).trans rfl; have hcz10_1 : w9.cell? ⟨gb248, 1, none⟩ = some (.int .i64 a0_1) := (blk_cell BK248.out 1).trans rfl; have hcz10_2 : w9.cell? ⟨gb248, 2, none⟩ = some (.slice A0_2 l0_2.length c0_2) := (blk_cell BK248.out 2).trans rfl; have hcz10_3 : w9.cell? ⟨gb248, 3, none⟩ = some (.slice A0_3 l0_3.length c0_3) := (blk_cell BK248.out 3).trans rfl; have hfz10_0 := blk_frozen BK248.out 0; have hfz10_1 := blk_frozen BK248.out 1; have hfz10_2 := blk_frozen BK248.out 2; have hfz10_3 := blk_frozen BK248.out 3) | (go_at_call 104; (with_reducible refine (spec_l1In.calls a2 0 a0_0 true _ A6.out).mono ?_); rintro e w' ⟨rfl, ⟨nd, rfl⟩⟩; (try first | exact ⟨rfl, _, World.drewN_drewN _ _ _⟩ | exact ⟨rfl, _, Eq.trans (World.drewN_drewN _ _ _) (congrArg (World.drewN _) (Nat.add_assoc _ _ _))⟩)) | (go_at_call 104; (with_reducible refine (spec_l1In.calls a3 0 (wrap64 (a0_1 - 1)) t250 _ A8.out).mono ?_); rintro e w' ⟨rfl, ⟨nd, rfl⟩⟩; (try first | exact ⟨rfl, _, World.drewN_drewN _ _ _⟩ | exact ⟨rfl, _, Eq.trans (World.drewN_drewN _ _ _) (congrArg (World.drewN _) (Nat.add_assoc _ _ _))⟩))))
      go_ret2
      exact ⟨by first | rfl | (simp [errW_none, errW_some] <;> rfl) | (simp [*, errW_none, errW_some] <;> rfl), by repeat (first | (with_reducible first | exact HB.out | apply below_alloc | apply pw_below_drewN | apply below_drew1 | refine below_set ?_ GE248.out) | exact HB.out)⟩
    · replace c7 := Bool.eq_false_iff.mpr c7
      subst c7
      have H1 : (some (wrap64 ((wrap64 (a3 * (wrap64 (a0_0 + 1)))) + a2), false)) = some (r1, r2) := by rw [if_neg (show ¬ (false = true) by decide)] at H; exact H
      clear H
      have H := H1
      clear H1
      simp only [Option.some.injEq, Prod.mk.injEq] at H
      obtain ⟨rfl, rfl⟩ := H
      go_enter Tryz.func120, Tryz.ntmps120
      go_wp2_with (first | ((with_reducible refine gate_dst (N := 4) rfl ?_); refine box_event ?hg (N := 4) ?hd (cs := #[.int .i64 a0_0, .int .i64 a0_1, .slice A0_2 l0_2.length c0_2, .slice A0_3 l0_3.length c0_3]) (t := 30) ?hr ?_; (case hd => rfl); (case hg => rfl); (case hr => first | (go_simp; done) | (go_simp; rfl)); intro gb248 hg w11 hbox hb; have n0_ := Aside0.mk (below_step (by repeat (first | (with_reducible first | exact HB.out | apply below_alloc | apply pw_below_drewN | apply below_drew1) | exact HB.out)) hb); have n1_ := Aside0.mk (hbox); have n2_ := Aside0.mk ((by rw [hg]; exact (below_size (by repeat (first | (with_reducible first | exact HB.out | apply below_alloc | apply pw_below_drewN | apply below_drew1) | exact HB.out))) : w.heap.size ≤ gb248)); have n3_ := Aside0.mk ((by rw [hg]; exact (below_size (by repeat (first | (with_reducible first | exact HB.out | apply below_alloc | apply pw_below_drewN | apply below_drew1) | exact HB.out))) : w.heap.size ≤ gb248)); clear HB; have HB := n0_; have BK248 := n1_; have GW248 := n2_; have GE248 := n3_; clear n0_ n1_ n2_ n3_; clear hb hbox hg; have hcz12_0 : w11.cell? ⟨gb248, 0, none⟩ = some (.int .i64 a0_0) := (blk_cell BK248.out 0).trans rfl; have hcz12_1 : w11.cell? ⟨gb248, 1, none⟩ = some (.int .i64 a0_1) := (blk_cell BK248.out 1).trans rfl; have hcz12_2 : w11.cell? ⟨gb248, 2, none⟩ = some (.slice A0_2 l0_2.length c0_2) := (blk_cell BK248.out 2).trans rfl; have hcz12_3 : w11.cell? ⟨gb248, 3, none⟩ = some (.slice A0_3 l0_3.length c0_3) := (blk_cell BK248.out 3).trans rfl; have hfz12_0 := blk_frozen BK248.out 0; have hfz12_1 := blk_frozen BK248.out 1; have hfz12_2 := blk_frozen BK248.out 2; have hfz12_3 := blk_frozen BK248.out 3) | (go_at_call 104; (with_reducible refine (spec_l1In.calls a2 0 a0_0 false _ A6.out).mono ?_); rintro e w' ⟨rfl, ⟨nd, rfl⟩⟩; (try first | exact ⟨rfl, _, World.drewN_drewN _ _ _⟩ | exact ⟨rfl, _, Eq.trans (World.drewN_drewN _ _ _) (congrArg (World.drewN _) (Nat.add_assoc _ _ _))⟩)))
      repeat (go_quiet (first | ((with_reducible refine gate_dst (N := 4) rfl ?_); refine box_event ?hg (N := 4) ?hd (cs := #[.int .i64 a0_0, .int .i64 a0_1, .slice A0_2 l0_2.length c0_2, .slice A0_3 l0_3.length c0_3]) (t := 30) ?hr ?_; (case hd => rfl); (case hg => rfl); (case hr => first | (go_simp; done) | (go_simp; rfl)); intro gb248 hg w11 hbox hb; have n0_ := Aside0.mk (below_step (by repeat (first | (with_reducible first | exact HB.out | apply below_alloc | apply pw_below_drewN | apply below_drew1) | exact HB.out)) hb); have n1_ := Aside0.mk (hbox); have n2_ := Aside0.mk ((by rw [hg]; exact (below_size (by repeat (first | (with_reducible first | exact HB.out | apply below_alloc | apply pw_below_drewN | apply below_drew1) | exact HB.out))) : w.heap.size ≤ gb248)); have n3_ := Aside0.mk ((by rw [hg]; exact (below_size (by repeat (first | (with_reducible first | exact HB.out | apply below_alloc | apply pw_below_drewN | apply below_drew1) | exact HB.out))) : w.heap.size ≤ gb248)); clear HB; have HB := n0_; have BK248 := n1_; have GW248 := n2_; have GE248 := n3_; clear n0_ n1_ n2_ n3_; clear hb hbox hg; have hcz12_0 : w11.cell? ⟨gb248, 0, none⟩ = some (.int .i64 a0_0) := (blk_cell BK248.out 0).trans rfl; have hcz12_1 : w11.cell? ⟨gb248, 1, none⟩ = some (.int .i64 a0_1) := (blk_cell BK248.out 1).trans rfl; have hcz12_2 : w11.cell? ⟨gb248, 2, none⟩ = some (.slice A0_2 l0_2.length c0_2) := (blk_cell BK248.out 2).trans rfl; have hcz12_3 : w11.cell? ⟨gb248, 3, none⟩ = some (.slice A0_3 l0_3.length c0_3) := (blk_cell BK248.out 3).trans rfl; have hfz12_0 := blk_frozen BK248.out 0; have hfz12_1 := blk_frozen BK248.out 1; have hfz12_2 := blk_frozen BK248.out 2; have hfz12_3 := blk_frozen BK248.out 3) | (go_at_call 104; (with_reducible refine (spec_l1In.calls a2 0 a0_0 false _ A6.out).mono ?_); rintro e w' ⟨rfl, ⟨nd, rfl⟩⟩; (try first | exact ⟨rfl, _, World.drewN_drewN _ _ _⟩ | exact ⟨rfl, _, Eq.trans (World.drewN_drewN _ _ _) (congrArg (World.drewN _) (Nat.add_assoc _ _ _))⟩))); try go_wp2_with (first | ((with_reducible refine gate_dst (N := 4) rfl ?_); refine box_event ?hg (N := 4) ?hd (cs := #[.int .i64 a0_0, .int .i64 a0_1, .slice A0_2 l0_2.length c0_2, .slice A0_3 l0_3.length c0_3]) (t := 30) ?hr ?_; (case hd => rfl); (case hg => rfl); (case hr => first | (go_simp; done) | (go_simp; rfl)); intro gb248 hg w11 hbox hb; have n0_ := Aside0.mk (below_step (by repeat (first | (with_reducible first | exact HB.out | apply below_alloc | apply pw_below_drewN | apply below_drew1) | exact HB.out)) hb); have n1_ := Aside0.mk (hbox); have n2_ := Aside0.mk ((by rw [hg]; exact (below_size (by repeat (first | (with_reducible first | exact HB.out | apply below_alloc | apply pw_below_drewN | apply below_drew1) | exact HB.out))) : w.heap.size ≤ gb248)); have n3_ := Aside0.mk ((by rw [hg]; exact (below_size (by repeat (first | (with_reducible first | exact HB.out | apply below_alloc | apply pw_below_drewN | apply below_drew1) | exact HB.out))) : w.heap.size ≤ gb248)); clear HB; have HB := n0_; have BK248 := n1_; have GW248 := n2_; have GE248 := n3_; clear n0_ n1_ n2_ n3_; clear hb hbox hg; have hcz12_0 : w11.cell? ⟨gb248, 0, none⟩ = some (.int .i64 a0_0) := (blk_cell BK248.out 0).trans rfl; have hcz12_1 : w11.cell? ⟨gb248, 1, none⟩ = some (.int .i64 a0_1) := (blk_cell BK248.out 1).trans rfl; have hcz12_2 : w11.cell? ⟨gb248, 2, none⟩ = some (.slice A0_2 l0_2.length c0_2) := (blk_cell BK248.out 2).trans rfl; have hcz12_3 : w11.cell? ⟨gb248, 3, none⟩ = some (.slice A0_3 l0_3.length c0_3) := (blk_cell BK248.out 3).trans rfl; have hfz12_0 := blk_frozen BK248.out 0; have hfz12_1 := blk_frozen BK248.out 1; have hfz12_2 := blk_frozen BK248.out 2; have hfz12_3 := blk_frozen BK248.out 3) | (go_at_call 104; (with_reducible refine (spec_l1In.calls a2 0 a0_0 false _ A6.out).mono ?_); rintro e w' ⟨rfl, ⟨nd, rfl⟩⟩; (try first | exact ⟨rfl, _, World.drewN_drewN _ _ _⟩ | exact ⟨rfl, _, Eq.trans (World.drewN_drewN _ _ _) (congrArg (World.drewN _) (Nat.add_assoc _ _ _))⟩))))
      go_ret2
      exact ⟨by first | rfl | (simp [errW_none, errW_some] <;> rfl) | (simp [*, errW_none, errW_some] <;> rfl), by repeat (first | (with_reducible first | exact HB.out | apply below_alloc | apply pw_below_drewN | apply below_drew1 | refine below_set ?_ GE248.out) | exact HB.out)⟩
  · replace c5 := Bool.eq_false_iff.mpr c5
    subst c5
    have H1 : ((spec_l1In.f a2 0 (wrap64 (a0_0 - 1))).bind fun t251 => (if t251 = true then ((spec_l1In.f a3 0 a0_1).bind fun t252 => (some (wrap64 ((wrap64 (a3 * a0_0)) + a2), t252))) else (some (wrap64 ((wrap64 (a3 * a0_0)) + a2), false)))) = some (r1, r2) := by rw [if_neg (show ¬ (false = true) by decide)] at H; exact H
    clear H
    have H := H1
    clear H1
    replace H := Option.bind_eq_some_iff.mp H
    obtain ⟨t251, A130, H⟩ := H
    replace H : (if t251 = true then ((spec_l1In.f a3 0 a0_1).bind fun t252 => (some (wrap64 ((wrap64 (a3 * a0_0)) + a2), t252))) else (some (wrap64 ((wrap64 (a3 * a0_0)) + a2), false))) = some (r1, r2) := H
    have A13 := Aside0.mk A130
    clear A130
    by_cases c14 : t251 = true
    · subst c14
      have H1 : ((spec_l1In.f a3 0 a0_1).bind fun t252 => (some (wrap64 ((wrap64 (a3 * a0_0)) + a2), t252))) = some (r1, r2) := by rw [if_pos rfl] at H; exact H
      clear H
      have H := H1
      clear H1
      replace H := Option.bind_eq_some_iff.mp H
      obtain ⟨t252, A150, H⟩ := H
      replace H : (some (wrap64 ((wrap64 (a3 * a0_0)) + a2), t252)) = some (r1, r2) := H
      have A15 := Aside0.mk A150
      clear A150
      simp only [Option.some.injEq, Prod.mk.injEq] at H
      obtain ⟨rfl, rfl⟩ := H
      go_enter Tryz.func120, Tryz.ntmps120
      go_wp2_with (first | ((with_reducible refine gate_dst (N := 4) rfl ?_); refine box_event ?hg (N := 4) ?hd (cs := #[.int .i64 a0_0, .int .i64 a0_1, .slice A0_2 l0_2.length c0_2, .slice A0_3 l0_3.length c0_3]) (t := 30) ?hr ?_; (case hd => rfl); (case hg => rfl); (case hr => first | (go_simp; done) | (go_simp; rfl)); intro gb248 hg w16 hbox hb; have n0_ := Aside0.mk (below_step (by repeat (first | (with_reducible first | exact HB.out | apply below_alloc | apply pw_below_drewN | apply below_drew1) | exact HB.out)) hb); have n1_ := Aside0.mk (hbox); have n2_ := Aside0.mk ((by rw [hg]; exact (below_size (by repeat (first | (with_reducible first | exact HB.out | apply below_alloc | apply pw_below_drewN | apply below_drew1) | exact HB.out))) : w.heap.size ≤ gb248)); have n3_ := Aside0.mk ((by rw [hg]; exact (below_size (by repeat (first | (with_reducible first | exact HB.out | apply below_alloc | apply pw_below_drewN | apply below_drew1) | exact HB.out))) : w.heap.size ≤ gb248)); clear HB; have HB := n0_; have BK248 := n1_; have GW248 := n2_; have GE248 := n3_; clear n0_ n1_ n2_ n3_; clear hb hbox hg; have hcz17_0 : w16.cell? ⟨gb248, 0, none⟩ = some (.int .i64 a0_0) := (blk_cell BK248.out 0).trans rfl; have hcz17_1 : w16.cell? ⟨gb248, 1, none⟩ = some (.int .i64 a0_1) := (blk_cell BK248.out 1).trans rfl; have hcz17_2 : w16.cell? ⟨gb248, 2, none⟩ = some (.slice A0_2 l0_2.length c0_2) := (blk_cell BK248.out 2).trans rfl; have hcz17_3 : w16.cell? ⟨gb248, 3, none⟩ = some (.slice A0_3 l0_3.length c0_3) := (blk_cell BK248.out 3).trans rfl; have hfz17_0 := blk_frozen BK248.out 0; have hfz17_1 := blk_frozen BK248.out 1; have hfz17_2 := blk_frozen BK248.out 2; have hfz17_3 := blk_frozen BK248.out 3) | (go_at_call 104; (with_reducible refine (spec_l1In.calls a2 0 (wrap64 (a0_0 - 1)) true _ A13.out).mono ?_); rintro e w' ⟨rfl, ⟨nd, rfl⟩⟩; (try first | exact ⟨rfl, _, World.drewN_drewN _ _ _⟩ | exact ⟨rfl, _, Eq.trans (World.drewN_drewN _ _ _) (congrArg (World.drewN _) (Nat.add_assoc _ _ _))⟩)) | (go_at_call 104; (with_reducible refine (spec_l1In.calls a3 0 a0_1 t252 _ A15.out).mono ?_); rintro e w' ⟨rfl, ⟨nd, rfl⟩⟩; (try first | exact ⟨rfl, _, World.drewN_drewN _ _ _⟩ | exact ⟨rfl, _, Eq.trans (World.drewN_drewN _ _ _) (congrArg (World.drewN _) (Nat.add_assoc _ _ _))⟩)))
      repeat (go_quiet (first | ((with_reducible refine gate_dst (N := 4) rfl ?_); refine box_event ?hg (N := 4) ?hd (cs := #[.int .i64 a0_0, .int .i64 a0_1, .slice A0_2 l0_2.length c0_2, .slice A0_3 l0_3.length c0_3]) (t := 30) ?hr ?_; (case hd => rfl); (case hg => rfl); (case hr => first | (go_simp; done) | (go_simp; rfl)); intro gb248 hg w16 hbox hb; have n0_ := Aside0.mk (below_step (by repeat (first | (with_reducible first | exact HB.out | apply below_alloc | apply pw_below_drewN | apply below_drew1) | exact HB.out)) hb); have n1_ := Aside0.mk (hbox); have n2_ := Aside0.mk ((by rw [hg]; exact (below_size (by repeat (first | (with_reducible first | exact HB.out | apply below_alloc | apply pw_below_drewN | apply below_drew1) | exact HB.out))) : w.heap.size ≤ gb248)); have n3_ := Aside0.mk ((by rw [hg]; exact (below_size (by repeat (first | (with_reducible first | exact HB.out | apply below_alloc | apply pw_below_drewN | apply below_drew1) | exact HB.out))) : w.heap.size ≤ gb248)); clear HB; have HB := n0_; have BK248 := n1_; have GW248 := n2_; have GE248 := n3_; clear n0_ n1_ n2_ n3_; clear hb hbox hg; have hcz17_0 : w16.cell? ⟨gb248, 0, none⟩ = some (.int .i64 a0_0) := (blk_cell BK248.out 0).trans rfl; have hcz17_1 : w16.cell? ⟨gb248, 1, none⟩ = some (.int .i64 a0_1) := (blk_cell BK248.out 1).trans rfl; have hcz17_2 : w16.cell? ⟨gb248, 2, none⟩ = some (.slice A0_2 l0_2.length c0_2) := (blk_cell BK248.out 2).trans rfl; have hcz17_3 : w16.cell? ⟨gb248, 3, none⟩ = some (.slice A0_3 l0_3.length c0_3) := (blk_cell BK248.out 3).trans rfl; have hfz17_0 := blk_frozen BK248.out 0; have hfz17_1 := blk_frozen BK248.out 1; have hfz17_2 := blk_frozen BK248.out 2; have hfz17_3 := blk_frozen BK248.out 3) | (go_at_call 104; (with_reducible refine (spec_l1In.calls a2 0 (wrap64 (a0_0 - 1)) true _ A13.out).mono ?_); rintro e w' ⟨rfl, ⟨nd, rfl⟩⟩; (try first | exact ⟨rfl, _, World.drewN_drewN _ _ _⟩ | exact ⟨rfl, _, Eq.trans (World.drewN_drewN _ _ _) (congrArg (World.drewN _) (Nat.add_assoc _ _ _))⟩)) | (go_at_call 104; (with_reducible refine (spec_l1In.calls a3 0 a0_1 t252 _ A15.out).mono ?_); rintro e w' ⟨rfl, ⟨nd, rfl⟩⟩; (try first | exact ⟨rfl, _, World.drewN_drewN _ _ _⟩ | exact ⟨rfl, _, Eq.trans (World.drewN_drewN _ _ _) (congrArg (World.drewN _) (Nat.add_assoc _ _ _))⟩))); try go_wp2_with (first | ((with_reducible refine gate_dst (N := 4) rfl ?_); refine box_event ?hg (N := 4) ?hd (cs := #[.int .i64 a0_0, .int .i64 a0_1, .slice A0_2 l0_2.length c0_2, .slice A0_3 l0_3.length c0_3]) (t := 30) ?hr ?_; (case hd => rfl); (case hg => rfl); (case hr => first | (go_simp; done) | (go_simp; rfl)); intro gb248 hg w16 hbox hb; have n0_ := Aside0.mk (below_step (by repeat (first | (with_reducible first | exact HB.out | apply below_alloc | apply pw_below_drewN | apply below_drew1) | exact HB.out)) hb); have n1_ := Aside0.mk (hbox); have n2_ := Aside0.mk ((by rw [hg]; exact (below_size (by repeat (first | (with_reducible first | exact HB.out | apply below_alloc | apply pw_below_drewN | apply below_drew1) | exact HB.out))) : w.heap.size ≤ gb248)); have n3_ := Aside0.mk ((by rw [hg]; exact (below_size (by repeat (first | (with_reducible first | exact HB.out | apply below_alloc | apply pw_below_drewN | apply below_drew1) | exact HB.out))) : w.heap.size ≤ gb248)); clear HB; have HB := n0_; have BK248 := n1_; have GW248 := n2_; have GE248 := n3_; clear n0_ n1_ n2_ n3_; clear hb hbox hg; have hcz17_0 : w16.cell? ⟨gb248, 0, none⟩ = some (.int .i64 a0_0) := (blk_cell BK248.out 0).trans rfl; have hcz17_1 : w16.cell? ⟨gb248, 1, none⟩ = some (.int .i64 a0_1) := (blk_cell BK248.out 1).trans rfl; have hcz17_2 : w16.cell? ⟨gb248, 2, none⟩ = some (.slice A0_2 l0_2.length c0_2) := (blk_cell BK248.out 2).trans rfl; have hcz17_3 : w16.cell? ⟨gb248, 3, none⟩ = some (.slice A0_3 l0_3.length c0_3) := (blk_cell BK248.out 3).trans rfl; have hfz17_0 := blk_frozen BK248.out 0; have hfz17_1 := blk_frozen BK248.out 1; have hfz17_2 := blk_frozen BK248.out 2; have hfz17_3 := blk_frozen BK248.out 3) | (go_at_call 104; (with_reducible refine (spec_l1In.calls a2 0 (wrap64 (a0_0 - 1)) true _ A13.out).mono ?_); rintro e w' ⟨rfl, ⟨nd, rfl⟩⟩; (try first | exact ⟨rfl, _, World.drewN_drewN _ _ _⟩ | exact ⟨rfl, _, Eq.trans (World.drewN_drewN _ _ _) (congrArg (World.drewN _) (Nat.add_assoc _ _ _))⟩)) | (go_at_call 104; (with_reducible refine (spec_l1In.calls a3 0 a0_1 t252 _ A15.out).mono ?_); rintro e w' ⟨rfl, ⟨nd, rfl⟩⟩; (try first | exact ⟨rfl, _, World.drewN_drewN _ _ _⟩ | exact ⟨rfl, _, Eq.trans (World.drewN_drewN _ _ _) (congrArg (World.drewN _) (Nat.add_assoc _ _ _))⟩))))
      go_ret2
      exact ⟨by first | rfl | (simp [errW_none, errW_some] <;> rfl) | (simp [*, errW_none, errW_some] <;> rfl), by repeat (first | (with_reducible first | exact HB.out | apply below_alloc | apply pw_below_drewN | apply below_drew1 | refine below_set ?_ GE248.out) | exact HB.out)⟩
    · replace c14 := Bool.eq_false_iff.mpr c14
      subst c14
      have H1 : (some (wrap64 ((wrap64 (a3 * a0_0)) + a2), false)) = some (r1, r2) := by rw [if_neg (show ¬ (false = true) by decide)] at H; exact H
      clear H
      have H := H1
      clear H1
      simp only [Option.some.injEq, Prod.mk.injEq] at H
      obtain ⟨rfl, rfl⟩ := H
      go_enter Tryz.func120, Tryz.ntmps120
      go_wp2_with (first | ((with_reducible refine gate_dst (N := 4) rfl ?_); refine box_event ?hg (N := 4) ?hd (cs := #[.int .i64 a0_0, .int .i64 a0_1, .slice A0_2 l0_2.length c0_2, .slice A0_3 l0_3.length c0_3]) (t := 30) ?hr ?_; (case hd => rfl); (case hg => rfl); (case hr => first | (go_simp; done) | (go_simp; rfl)); intro gb248 hg w18 hbox hb; have n0_ := Aside0.mk (below_step (by repeat (first | (with_reducible first | exact HB.out | apply below_alloc | apply pw_below_drewN | apply below_drew1) | exact HB.out)) hb); have n1_ := Aside0.mk (hbox); have n2_ := Aside0.mk ((by rw [hg]; exact (below_size (by repeat (first | (with_reducible first | exact HB.out | apply below_alloc | apply pw_below_drewN | apply below_drew1) | exact HB.out))) : w.heap.size ≤ gb248)); have n3_ := Aside0.mk ((by rw [hg]; exact (below_size (by repeat (first | (with_reducible first | exact HB.out | apply below_alloc | apply pw_below_drewN | apply below_drew1) | exact HB.out))) : w.heap.size ≤ gb248)); clear HB; have HB := n0_; have BK248 := n1_; have GW248 := n2_; have GE248 := n3_; clear n0_ n1_ n2_ n3_; clear hb hbox hg; have hcz19_0 : w18.cell? ⟨gb248, 0, none⟩ = some (.int .i64 a0_0) := (blk_cell BK248.out 0).trans rfl; have hcz19_1 : w18.cell? ⟨gb248, 1, none⟩ = some (.int .i64 a0_1) := (blk_cell BK248.out 1).trans rfl; have hcz19_2 : w18.cell? ⟨gb248, 2, none⟩ = some (.slice A0_2 l0_2.length c0_2) := (blk_cell BK248.out 2).trans rfl; have hcz19_3 : w18.cell? ⟨gb248, 3, none⟩ = some (.slice A0_3 l0_3.length c0_3) := (blk_cell BK248.out 3).trans rfl; have hfz19_0 := blk_frozen BK248.out 0; have hfz19_1 := blk_frozen BK248.out 1; have hfz19_2 := blk_frozen BK248.out 2; have hfz19_3 := blk_frozen BK248.out 3) | (go_at_call 104; (with_reducible refine (spec_l1In.calls a2 0 (wrap64 (a0_0 - 1)) false _ A13.out).mono ?_); rintro e w' ⟨rfl, ⟨nd, rfl⟩⟩; (try first | exact ⟨rfl, _, World.drewN_drewN _ _ _⟩ | exact ⟨rfl, _, Eq.trans (World.drewN_drewN _ _ _) (congrArg (World.drewN _) (Nat.add_assoc _ _ _))⟩)))
      repeat (go_quiet (first | ((with_reducible refine gate_dst (N := 4) rfl ?_); refine box_event ?hg (N := 4) ?hd (cs := #[.int .i64 a0_0, .int .i64 a0_1, .slice A0_2 l0_2.length c0_2, .slice A0_3 l0_3.length c0_3]) (t := 30) ?hr ?_; (case hd => rfl); (case hg => rfl); (case hr => first | (go_simp; done) | (go_simp; rfl)); intro gb248 hg w18 hbox hb; have n0_ := Aside0.mk (below_step (by repeat (first | (with_reducible first | exact HB.out | apply below_alloc | apply pw_below_drewN | apply below_drew1) | exact HB.out)) hb); have n1_ := Aside0.mk (hbox); have n2_ := Aside0.mk ((by rw [hg]; exact (below_size (by repeat (first | (with_reducible first | exact HB.out | apply below_alloc | apply pw_below_drewN | apply below_drew1) | exact HB.out))) : w.heap.size ≤ gb248)); have n3_ := Aside0.mk ((by rw [hg]; exact (below_size (by repeat (first | (with_reducible first | exact HB.out | apply below_alloc | apply pw_below_drewN | apply below_drew1) | exact HB.out))) : w.heap.size ≤ gb248)); clear HB; have HB := n0_; have BK248 := n1_; have GW248 := n2_; have GE248 := n3_; clear n0_ n1_ n2_ n3_; clear hb hbox hg; have hcz19_0 : w18.cell? ⟨gb248, 0, none⟩ = some (.int .i64 a0_0) := (blk_cell BK248.out 0).trans rfl; have hcz19_1 : w18.cell? ⟨gb248, 1, none⟩ = some (.int .i64 a0_1) := (blk_cell BK248.out 1).trans rfl; have hcz19_2 : w18.cell? ⟨gb248, 2, none⟩ = some (.slice A0_2 l0_2.length c0_2) := (blk_cell BK248.out 2).trans rfl; have hcz19_3 : w18.cell? ⟨gb248, 3, none⟩ = some (.slice A0_3 l0_3.length c0_3) := (blk_cell BK248.out 3).trans rfl; have hfz19_0 := blk_frozen BK248.out 0; have hfz19_1 := blk_frozen BK248.out 1; have hfz19_2 := blk_frozen BK248.out 2; have hfz19_3 := blk_frozen BK248.out 3) | (go_at_call 104; (with_reducible refine (spec_l1In.calls a2 0 (wrap64 (a0_0 - 1)) false _ A13.out).mono ?_); rintro e w' ⟨rfl, ⟨nd, rfl⟩⟩; (try first | exact ⟨rfl, _, World.drewN_drewN _ _ _⟩ | exact ⟨rfl, _, Eq.trans (World.drewN_drewN _ _ _) (congrArg (World.drewN _) (Nat.add_assoc _ _ _))⟩))); try go_wp2_with (first | ((with_reducible refine gate_dst (N := 4) rfl ?_); refine box_event ?hg (N := 4) ?hd (cs := #[.int .i64 a0_0, .int .i64 a0_1, .slice A0_2 l0_2.length c0_2, .slice A0_3 l0_3.length c0_3]) (t := 30) ?hr ?_; (case hd => rfl); (case hg => rfl); (case hr => first | (go_simp; done) | (go_simp; rfl)); intro gb248 hg w18 hbox hb; have n0_ := Aside0.mk (below_step (by repeat (first | (with_reducible first | exact HB.out | apply below_alloc | apply pw_below_drewN | apply below_drew1) | exact HB.out)) hb); have n1_ := Aside0.mk (hbox); have n2_ := Aside0.mk ((by rw [hg]; exact (below_size (by repeat (first | (with_reducible first | exact HB.out | apply below_alloc | apply pw_below_drewN | apply below_drew1) | exact HB.out))) : w.heap.size ≤ gb248)); have n3_ := Aside0.mk ((by rw [hg]; exact (below_size (by repeat (first | (with_reducible first | exact HB.out | apply below_alloc | apply pw_below_drewN | apply below_drew1) | exact HB.out))) : w.heap.size ≤ gb248)); clear HB; have HB := n0_; have BK248 := n1_; have GW248 := n2_; have GE248 := n3_; clear n0_ n1_ n2_ n3_; clear hb hbox hg; have hcz19_0 : w18.cell? ⟨gb248, 0, none⟩ = some (.int .i64 a0_0) := (blk_cell BK248.out 0).trans rfl; have hcz19_1 : w18.cell? ⟨gb248, 1, none⟩ = some (.int .i64 a0_1) := (blk_cell BK248.out 1).trans rfl; have hcz19_2 : w18.cell? ⟨gb248, 2, none⟩ = some (.slice A0_2 l0_2.length c0_2) := (blk_cell BK248.out 2).trans rfl; have hcz19_3 : w18.cell? ⟨gb248, 3, none⟩ = some (.slice A0_3 l0_3.length c0_3) := (blk_cell BK248.out 3).trans rfl; have hfz19_0 := blk_frozen BK248.out 0; have hfz19_1 := blk_frozen BK248.out 1; have hfz19_2 := blk_frozen BK248.out 2; have hfz19_3 := blk_frozen BK248.out 3) | (go_at_call 104; (with_reducible refine (spec_l1In.calls a2 0 (wrap64 (a0_0 - 1)) false _ A13.out).mono ?_); rintro e w' ⟨rfl, ⟨nd, rfl⟩⟩; (try first | exact ⟨rfl, _, World.drewN_drewN _ _ _⟩ | exact ⟨rfl, _, Eq.trans (World.drewN_drewN _ _ _) (congrArg (World.drewN _) (Nat.add_assoc _ _ _))⟩))))
      go_ret2
      exact ⟨by first | rfl | (simp [errW_none, errW_some] <;> rfl) | (simp [*, errW_none, errW_some] <;> rfl), by repeat (first | (with_reducible first | exact HB.out | apply below_alloc | apply pw_below_drewN | apply below_drew1 | refine below_set ?_ GE248.out) | exact HB.out)⟩

end Go.Proofs.YtopifdmaaibcnaaGreatDoor.H
