import Derived.Test.YtfkbjflndkjlnaaDoorPd
import Derived.Test.YtfkbjflndkjlnaaDoorPc0
import Derived.Test.YtfkbjflndkjlnaaDoorPc1
import Derived.Test.YtfkbjflndkjlnaaDoorPc2
import Derived.Test.YtfkbjflndkjlnaaDoorPc3
import Derived.Test.YtfkbjflndkjlnaaDoorPc4
import Derived.Test.YtfkbjflndkjlnaaDoorPc5
import Derived.Test.YtfkbjflndkjlnaaDoorPc6
import Derived.Test.YtfkbjflndkjlnaaDoorPc7
import Derived.Test.YtfkbjflndkjlnaaDoorPc8
import Derived.Test.YtfkbjflndkjlnaaDoorPc9
namespace Go.Proofs.YtfkbjflndkjlnaaDoor.P
open Go.RowKit Go.Proofs.YtfkbjflndkjlnaaDoorW.PrintWords Go.Proofs.YtfkbjflndkjlnaaDoorW.PrintLast Go.Proofs.YtfkbjflndkjlnaaDoorW.PrintMore
attribute [local go_sem] max2_int min2_int max_two min_two max_three min_three max_four min_four
set_option linter.unusedVariables false
set_option linter.unusedSimpArgs false

attribute [local go_sem high] eqA45
/-! ### impl_PiecesOf: function 46 -/
def impl_PiecesOf.f (k : Nat) (a0_0 : Int) (a0_1 : Int) (l0_2 : List Int) (l0_3 : List Int) : Option ((List (List Int)) × Bool) := (impl_IsFigure.f k a0_0 a0_1 l0_2 l0_3).bind fun t331 => (if t331 = true then ((impl_Figure_grid.f a0_0 a0_1 l0_2 l0_3).bind fun bt332 => ((impl_Figure_set.f k a0_0 a0_1 l0_2 l0_3).bind fun t334 => ((impl_grid_pieces.f k bt332.1 bt332.2 t334).bind fun t335 => (some (t335, true))))) else (some (([] : List (List Int)), false)))
/-! ### impl_PiecesOf: function 46 -/
set_option maxHeartbeats 8000000 in
set_option maxRecDepth 100000 in
theorem impl_PiecesOf.calls (k : Nat) (a0_0 : Int) (a0_1 : Int) (A0_2 : Option Addr) (c0_2 : Nat) (l0_2 : List Int) (A0_3 : Option Addr) (c0_3 : Nat) (l0_3 : List Int) (r1 : List (List Int)) (r2 : Bool) (w : World) (hr0_2 : Kd.C (Kd.int .i64) w A0_2 l0_2.length l0_2) (hc0_2 : l0_2.length ≤ c0_2) (hr0_3 : Kd.C (Kd.int .i64) w A0_3 l0_3.length l0_3) (hc0_3 : l0_3.length ≤ c0_3) (h : impl_PiecesOf.f k a0_0 a0_1 l0_2 l0_3 = some (r1, r2)) :
    Calls Tryd.prog 46 #[.agg #[.int .i64 a0_0, .int .i64 a0_1, .slice A0_2 l0_2.length c0_2, .slice A0_3 l0_3.length c0_3]] w fun e w' => ∃ v0_ : Value, e = .returned (.tuple #[v0_, .bool r2]) ∧ Kd.S (Kd.slice 3 (Kd.int .i64)) 25 w' w.heap.size (fun _ => True) v0_ r1 ∧ Below w.heap.size w w' := by
  have hu30 := Tryd.underlying30
  have HR0_2 := Aside0.mk hr0_2
  have HC0_2 := Aside0.mk hc0_2
  clear hr0_2 hc0_2
  have HR0_3 := Aside0.mk hr0_3
  have HC0_3 := Aside0.mk hc0_3
  clear hr0_3 hc0_3
  have HB := Aside0.mk (Below.refl w.heap.size w)
  have H : ((impl_IsFigure.f k a0_0 a0_1 l0_2 l0_3).bind fun t331 => (if t331 = true then ((impl_Figure_grid.f a0_0 a0_1 l0_2 l0_3).bind fun bt332 => ((impl_Figure_set.f k a0_0 a0_1 l0_2 l0_3).bind fun t334 => ((impl_grid_pieces.f k bt332.1 bt332.2 t334).bind fun t335 => (some (t335, true))))) else (some (([] : List (List Int)), false)))) = some (r1, r2) := h
  clear h
  replace H := Option.bind_eq_some_iff.mp H
  obtain ⟨t331, A20, H⟩ := H
  replace H : (if t331 = true then ((impl_Figure_grid.f a0_0 a0_1 l0_2 l0_3).bind fun bt332 => ((impl_Figure_set.f k a0_0 a0_1 l0_2 l0_3).bind fun t334 => ((impl_grid_pieces.f k bt332.1 bt332.2 t334).bind fun t335 => (some (t335, true))))) else (some (([] : List (List Int)), false))) = some (r1, r2) := H
  have A2 := Aside0.mk A20
  clear A20
  by_cases c3 : t331 = true
  · subst c3
    have H1 : ((impl_Figure_grid.f a0_0 a0_1 l0_2 l0_3).bind fun bt332 => ((impl_Figure_set.f k a0_0 a0_1 l0_2 l0_3).bind fun t334 => ((impl_grid_pieces.f k bt332.1 bt332.2 t334).bind fun t335 => (some (t335, true))))) = some (r1, r2) := by rw [if_pos rfl] at H; exact H
    clear H
    have H := H1
    clear H1
    replace H := Option.bind_eq_some_iff.mp H
    obtain ⟨⟨t332, t333⟩, A40, H⟩ := H
    replace H : ((impl_Figure_set.f k a0_0 a0_1 l0_2 l0_3).bind fun t334 => ((impl_grid_pieces.f k t332 t333 t334).bind fun t335 => (some (t335, true)))) = some (r1, r2) := H
    have A4 := Aside0.mk A40
    clear A40
    replace H := Option.bind_eq_some_iff.mp H
    obtain ⟨t334, A50, H⟩ := H
    replace H : ((impl_grid_pieces.f k t332 t333 t334).bind fun t335 => (some (t335, true))) = some (r1, r2) := H
    have A5 := Aside0.mk A50
    clear A50
    replace H := Option.bind_eq_some_iff.mp H
    obtain ⟨t335, A60, H⟩ := H
    replace H : (some (t335, true)) = some (r1, r2) := H
    have A6 := Aside0.mk A60
    clear A60
    simp only [Option.some.injEq, Prod.mk.injEq] at H
    obtain ⟨rfl, rfl⟩ := H
    go_enter Tryd.func46, Tryd.ntmps46
    try go_wp2_with (first | ((with_reducible refine gate_dst (N := 1) rfl ?_); refine box_event ?hg (N := 1) ?hd (cs := #[.int .i64 a0_0, .int .i64 a0_1, .slice A0_2 l0_2.length c0_2, .slice A0_3 l0_3.length c0_3]) (t := 30) ?hr ?_; (case hd => rfl); (case hg => rfl); (case hr => first | (go_simp; done) | (go_simp; rfl)); intro gb330 hg w7 hbox hb; have n0_ := Aside0.mk (below_step (by repeat (first | (with_reducible first | exact HB.out | apply below_alloc | apply pw_below_drewN | apply below_drew1) | exact HB.out)) hb); have n1_ := Aside0.mk (hbox); have n2_ := Aside0.mk ((by rw [hg]; exact (below_size (by repeat (first | (with_reducible first | exact HB.out | apply below_alloc | apply pw_below_drewN | apply below_drew1) | exact HB.out))) : w.heap.size ≤ gb330)); have n3_ := Aside0.mk ((by rw [hg]; exact (below_size (by repeat (first | (with_reducible first | exact HB.out | apply below_alloc | apply pw_below_drewN | apply below_drew1) | exact HB.out))) : w.heap.size ≤ gb330)); clear HB; have HB := n0_; have BK330 := n1_; have GW330 := n2_; have GE330 := n3_; clear n0_ n1_ n2_ n3_; clear hb hbox hg; have hcz8_0 : w7.cell? ⟨gb330, 0, none⟩ = some (.int .i64 a0_0) := (blk_cell BK330.out 0).trans rfl; have hcz8_1 : w7.cell? ⟨gb330, 1, none⟩ = some (.int .i64 a0_1) := (blk_cell BK330.out 1).trans rfl; have hcz8_2 : w7.cell? ⟨gb330, 2, none⟩ = some (.slice A0_2 l0_2.length c0_2) := (blk_cell BK330.out 2).trans rfl; have hcz8_3 : w7.cell? ⟨gb330, 3, none⟩ = some (.slice A0_3 l0_3.length c0_3) := (blk_cell BK330.out 3).trans rfl; have hfz8_0 := blk_frozen BK330.out 0; have hfz8_1 := blk_frozen BK330.out 1; have hfz8_2 := blk_frozen BK330.out 2; have hfz8_3 := blk_frozen BK330.out 3) | ((with_reducible refine gate_callee (f := 39) rfl ?_); refine goesL_ (some 5) rfl rfl Tryd.func39 (by kernel_rfl) rfl #[.agg #[.int .i64 a0_0, .int .i64 a0_1, .slice A0_2 l0_2.length c0_2, .slice A0_3 l0_3.length c0_3]] rfl (by (try simp only [List.map_toArray, List.map_cons, List.map_nil]); first | done | rfl | (simp only [List.length_drop, List.length_take]; rfl)) ?_; (with_reducible refine (impl_IsFigure.calls k a0_0 a0_1 _ _ l0_2 _ _ l0_3 true _ ?side1 ?side2 ?side3 ?side4 A2.out).mono ?_); (case side1 => repeat (first | exact (Kd.C_below HR0_2.out HB.out) | (with_reducible refine Kd.C_alloc ?_ _) | (with_reducible refine Kd.C_drewN ?_ _) | (with_reducible refine Kd.C_drew ?_))); (case side2 => exact HC0_2.out); (case side3 => repeat (first | exact (Kd.C_below HR0_3.out HB.out) | (with_reducible refine Kd.C_alloc ?_ _) | (with_reducible refine Kd.C_drewN ?_ _) | (with_reducible refine Kd.C_drew ?_))); (case side4 => exact HC0_3.out); rintro e w9 ⟨rfl, hb⟩; refine ⟨_, rfl, ?_⟩; have n0_ := Aside0.mk (blk_below (g := gb330) (o := .cells #[.int .i64 a0_0, .int .i64 a0_1, .slice A0_2 l0_2.length c0_2, .slice A0_3 l0_3.length c0_3] 30 (0, 0)) (by (with_reducible repeat (first | refine blk_drewN ?_ _ | refine blk_drew ?_ | refine blk_alloc ?_ _)); exact BK330.out) hb); have n1_ := Aside0.mk (below_step (by repeat (first | (with_reducible first | exact HB.out | apply below_alloc | apply pw_below_drewN | apply below_drew1 | refine below_set ?_ GE330.out) | exact HB.out)) hb); clear BK330; clear HB; have BK330 := n0_; have HB := n1_; clear n0_ n1_; (try clear hb); (try clear hb2); (try clear hk); (try clear hi)))
    have n0_ := Aside0.mk (blk_drew BK330.out)
    have n1_ := Aside0.mk (below_drew1 HB.out)
    clear BK330
    clear HB
    have BK330 := n0_
    have HB := n1_
    clear n0_ n1_
    refine start_ (n := 7) (S := fun w' => w'.cell? ⟨gb330, 0, none⟩ = some (.int .i64 a0_0) ∧ w'.cell? ⟨gb330, 1, none⟩ = some (.int .i64 a0_1) ∧ w'.cell? ⟨gb330, 2, none⟩ = some (.slice A0_2 l0_2.length c0_2) ∧ w'.cell? ⟨gb330, 3, none⟩ = some (.slice A0_3 l0_3.length c0_3)) (ds := []) #[false, false, false, false, false, false, false] (by kernel_rfl) rfl rfl ⟨(blk_cell BK330.out 0).trans rfl, (blk_cell BK330.out 1).trans rfl, (blk_cell BK330.out 2).trans rfl, (blk_cell BK330.out 3).trans rfl⟩ (fun hHeld => ?_)
    generalize w9.drew = w10 at BK330 HB hHeld ⊢
    refine take_ (i := 0) (N := some 7) (v := ?_) (a' := ?_) #[true, false, false, false, false, false, false] rfl rfl (by kernel_rfl) (fun _ _ _ h => h) (Or.inl ⟨by rfl, ?_⟩) hHeld ?_ ?_
    rotate_left
    · rintro w' ⟨s0, s1, s2, s3⟩
      go_simp
      with_reducible rfl
    rotate_left
    · simp only [Act.put, List.setIfInBounds_toArray, List.set_cons_zero, List.set_cons_succ, i64_w, i32_w]
      rfl
    refine take_ (i := 2) (N := some 9) (v := ?_) (a' := ?_) #[true, false, true, false, false, false, false] rfl rfl (by kernel_rfl) (fun _ _ _ h => h) (Or.inl ⟨by rfl, ?_⟩) hHeld ?_ ?_
    rotate_left
    · rintro w' ⟨s0, s1, s2, s3⟩
      go_simp
      with_reducible rfl
    rotate_left
    · simp only [Act.put, List.setIfInBounds_toArray, List.set_cons_zero, List.set_cons_succ, i64_w, i32_w]
      rfl
    refine one_ (i := 1) (N := some 8) #[true, true, true, false, false, false, false] rfl rfl (by kernel_rfl) (by decide) (fun K hK => ?_)
    refine goes_ Tryd.func40 (by kernel_rfl) rfl #[.agg #[.int .i64 a0_0, .int .i64 a0_1, .slice A0_2 l0_2.length c0_2, .slice A0_3 l0_3.length c0_3]] (by rfl) rfl rfl (by (try simp only [List.map_toArray, List.map_cons, List.map_nil]); first | done | rfl | (simp only [List.length_drop, List.length_take]; rfl)) ?_
    with_reducible refine (impl_Figure_grid.calls a0_0 a0_1 _ _ l0_2 _ _ l0_3 t332 t333 _ ?side1 ?side2 ?side3 ?side4 A4.out).mono ?_
    (case side1 => repeat (first | exact (Kd.C_below HR0_2.out HB.out) | (with_reducible refine Kd.C_alloc ?_ _) | (with_reducible refine Kd.C_drewN ?_ _) | (with_reducible refine Kd.C_drew ?_)))
    (case side2 => exact HC0_2.out)
    (case side3 => repeat (first | exact (Kd.C_below HR0_3.out HB.out) | (with_reducible refine Kd.C_alloc ?_ _) | (with_reducible refine Kd.C_drewN ?_ _) | (with_reducible refine Kd.C_drew ?_)))
    (case side4 => exact HC0_3.out)
    rintro e w11 ⟨rfl, hb⟩
    refine ⟨_, rfl, ?_⟩
    have n0_ := Aside0.mk (blk_below (g := gb330) (o := .cells #[.int .i64 a0_0, .int .i64 a0_1, .slice A0_2 l0_2.length c0_2, .slice A0_3 l0_3.length c0_3] 30 (0, 0)) (by (with_reducible repeat (first | refine blk_drewN ?_ _ | refine blk_drew ?_ | refine blk_alloc ?_ _)); exact BK330.out) hb)
    have n1_ := Aside0.mk (below_step (by repeat (first | (with_reducible first | exact HB.out | apply below_alloc | apply pw_below_drewN | apply below_drew1 | refine below_set ?_ GE330.out) | exact HB.out)) hb)
    clear BK330
    clear HB
    have BK330 := n0_
    have HB := n1_
    clear n0_ n1_
    (try clear hb)
    (try clear hb2)
    (try clear hk)
    (try clear hi)
    refine hK.out _ _ ⟨(blk_cell BK330.out 0).trans rfl, (blk_cell BK330.out 1).trans rfl, (blk_cell BK330.out 2).trans rfl, (blk_cell BK330.out 3).trans rfl⟩ (fun hHeld => ?_)
    clear hK K
    refine norm_ (a' := ?_) ?_ ?_
    rotate_left
    · show Act.put _ (some 8) _ = _
      simp only [Act.put, List.setIfInBounds_toArray, List.set_cons_zero, List.set_cons_succ, i64_w, i32_w]
      rfl
    refine one_ (i := 3) (N := some 10) #[true, true, true, true, false, false, false] rfl rfl (by kernel_rfl) (by decide) (fun K hK => ?_)
    refine goes_ Tryd.func42 (by kernel_rfl) rfl #[.agg #[.int .i64 a0_0, .int .i64 a0_1, .slice A0_2 l0_2.length c0_2, .slice A0_3 l0_3.length c0_3]] (by rfl) rfl rfl (by (try simp only [List.map_toArray, List.map_cons, List.map_nil]); first | done | rfl | (simp only [List.length_drop, List.length_take]; rfl)) ?_
    with_reducible refine (impl_Figure_set.calls k a0_0 a0_1 _ _ l0_2 _ _ l0_3 t334 _ ?side1 ?side2 ?side3 ?side4 A5.out).mono ?_
    (case side1 => repeat (first | exact (Kd.C_below HR0_2.out HB.out) | (with_reducible refine Kd.C_alloc ?_ _) | (with_reducible refine Kd.C_drewN ?_ _) | (with_reducible refine Kd.C_drew ?_)))
    (case side2 => exact HC0_2.out)
    (case side3 => repeat (first | exact (Kd.C_below HR0_3.out HB.out) | (with_reducible refine Kd.C_alloc ?_ _) | (with_reducible refine Kd.C_drewN ?_ _) | (with_reducible refine Kd.C_drew ?_)))
    (case side4 => exact HC0_3.out)
    rintro e w12 ⟨rfl, hb⟩
    refine ⟨_, rfl, ?_⟩
    have n0_ := Aside0.mk (blk_below (g := gb330) (o := .cells #[.int .i64 a0_0, .int .i64 a0_1, .slice A0_2 l0_2.length c0_2, .slice A0_3 l0_3.length c0_3] 30 (0, 0)) (by (with_reducible repeat (first | refine blk_drewN ?_ _ | refine blk_drew ?_ | refine blk_alloc ?_ _)); exact BK330.out) hb)
    have n1_ := Aside0.mk (below_step (by repeat (first | (with_reducible first | exact HB.out | apply below_alloc | apply pw_below_drewN | apply below_drew1 | refine below_set ?_ GE330.out) | exact HB.out)) hb)
    clear BK330
    clear HB
    have BK330 := n0_
    have HB := n1_
    clear n0_ n1_
    (try clear hb)
    (try clear hb2)
    (try clear hk)
    (try clear hi)
    refine hK.out _ _ ⟨(blk_cell BK330.out 0).trans rfl, (blk_cell BK330.out 1).trans rfl, (blk_cell BK330.out 2).trans rfl, (blk_cell BK330.out 3).trans rfl⟩ (fun hHeld => ?_)
    clear hK K
    refine norm_ (a' := ?_) ?_ ?_
    rotate_left
    · show Act.put _ (some 10) _ = _
      simp only [Act.put, List.setIfInBounds_toArray, List.set_cons_zero, List.set_cons_succ, i64_w, i32_w]
      rfl
    refine one_ (i := 4) (N := some 11) #[true, true, true, true, true, false, false] rfl rfl (by kernel_rfl) (by decide) (fun K hK => ?_)
    refine goes_ Tryd.func41 (by kernel_rfl) rfl #[.agg #[.int .i64 t332, .int .i64 t333], .int .u64 t334] (by rfl) rfl rfl (by (try simp only [List.map_toArray, List.map_cons, List.map_nil]); first | done | rfl | (simp only [List.length_drop, List.length_take]; rfl)) ?_
    with_reducible refine (impl_grid_pieces.calls k t332 t333 t334 t335 _ A6.out).mono ?_
    rintro e w13 ⟨v336, rfl, ho0, hb⟩
    refine ⟨_, rfl, ?_⟩
    have n0_ := Aside0.mk (Kd.S_lower ho0 (below_size (by repeat (first | (with_reducible first | exact HB.out | apply below_alloc | apply pw_below_drewN | apply below_drew1 | refine below_set ?_ GE330.out) | exact HB.out))))
    have n1_ := Aside0.mk (blk_below (g := gb330) (o := .cells #[.int .i64 a0_0, .int .i64 a0_1, .slice A0_2 l0_2.length c0_2, .slice A0_3 l0_3.length c0_3] 30 (0, 0)) (by (with_reducible repeat (first | refine blk_drewN ?_ _ | refine blk_drew ?_ | refine blk_alloc ?_ _)); exact BK330.out) hb)
    have n2_ := Aside0.mk (below_step (by repeat (first | (with_reducible first | exact HB.out | apply below_alloc | apply pw_below_drewN | apply below_drew1 | refine below_set ?_ GE330.out) | exact HB.out)) hb)
    clear BK330
    clear HB
    have HO337 := n0_
    have BK330 := n1_
    have HB := n2_
    clear n0_ n1_ n2_
    (try clear hb)
    (try clear hb2)
    (try clear hk)
    (try clear hi)
    (try clear ho0)
    refine hK.out _ _ ⟨(blk_cell BK330.out 0).trans rfl, (blk_cell BK330.out 1).trans rfl, (blk_cell BK330.out 2).trans rfl, (blk_cell BK330.out 3).trans rfl⟩ (fun hHeld => ?_)
    clear hK K
    refine norm_ (a' := ?_) ?_ ?_
    rotate_left
    · show Act.put _ (some 11) _ = _
      simp only [Act.put, List.setIfInBounds_toArray, List.set_cons_zero, List.set_cons_succ, i64_w, i32_w]
      rfl
    refine pure_ (i := 5) (N := some 2) (v := ?_) (a' := ?_) #[true, true, true, true, true, true, false] rfl rfl (by kernel_rfl) (fun _ _ _ h => h) (Or.inl ⟨by rfl, ?_⟩) ?_ ?_
    rotate_left
    · intro w'
      go_simp
      with_reducible rfl
    rotate_left
    · simp only [Act.put, List.setIfInBounds_toArray, List.set_cons_zero, List.set_cons_succ, i64_w, i32_w]
      rfl
    refine pure_ (i := 6) (N := some 3) (v := ?_) (a' := ?_) #[true, true, true, true, true, true, true] rfl rfl (by kernel_rfl) (fun _ _ _ h => h) (Or.inl ⟨by rfl, ?_⟩) ?_ ?_
    rotate_left
    · intro w'
      go_simp
      with_reducible rfl
    rotate_left
    · simp only [Act.put, List.setIfInBounds_toArray, List.set_cons_zero, List.set_cons_succ, i64_w, i32_w]
      rfl
    refine done_ (by kernel_rfl) ?_
    try go_wp2
    go_ret2
    exact ⟨_, by first | rfl | (simp [errW_none, errW_some] <;> rfl) | (simp [*, errW_none, errW_some] <;> rfl), by (with_reducible repeat (first | apply Kd.S_alloc | apply Kd.S_drewN | apply Kd.S_drew)); exact HO337.out, by repeat (first | (with_reducible first | exact HB.out | apply below_alloc | apply pw_below_drewN | apply below_drew1 | refine below_set ?_ GE330.out) | exact HB.out)⟩
  · replace c3 := Bool.eq_false_iff.mpr c3
    subst c3
    have H1 : (some (([] : List (List Int)), false)) = some (r1, r2) := by rw [if_neg (show ¬ (false = true) by decide)] at H; exact H
    clear H
    have H := H1
    clear H1
    simp only [Option.some.injEq, Prod.mk.injEq] at H
    obtain ⟨rfl, rfl⟩ := H
    go_enter Tryd.func46, Tryd.ntmps46
    go_wp2_with (first | ((with_reducible refine gate_dst (N := 1) rfl ?_); refine box_event ?hg (N := 1) ?hd (cs := #[.int .i64 a0_0, .int .i64 a0_1, .slice A0_2 l0_2.length c0_2, .slice A0_3 l0_3.length c0_3]) (t := 30) ?hr ?_; (case hd => rfl); (case hg => rfl); (case hr => first | (go_simp; done) | (go_simp; rfl)); intro gb330 hg w14 hbox hb; have n0_ := Aside0.mk (below_step (by repeat (first | (with_reducible first | exact HB.out | apply below_alloc | apply pw_below_drewN | apply below_drew1) | exact HB.out)) hb); have n1_ := Aside0.mk (hbox); have n2_ := Aside0.mk ((by rw [hg]; exact (below_size (by repeat (first | (with_reducible first | exact HB.out | apply below_alloc | apply pw_below_drewN | apply below_drew1) | exact HB.out))) : w.heap.size ≤ gb330)); have n3_ := Aside0.mk ((by rw [hg]; exact (below_size (by repeat (first | (with_reducible first | exact HB.out | apply below_alloc | apply pw_below_drewN | apply below_drew1) | exact HB.out))) : w.heap.size ≤ gb330)); clear HB; have HB := n0_; have BK330 := n1_; have GW330 := n2_; have GE330 := n3_; clear n0_ n1_ n2_ n3_; clear hb hbox hg; have hcz15_0 : w14.cell? ⟨gb330, 0, none⟩ = some (.int .i64 a0_0) := (blk_cell BK330.out 0).trans rfl; have hcz15_1 : w14.cell? ⟨gb330, 1, none⟩ = some (.int .i64 a0_1) := (blk_cell BK330.out 1).trans rfl; have hcz15_2 : w14.cell? ⟨gb330, 2, none⟩ = some (.slice A0_2 l0_2.length c0_2) := (blk_cell BK330.out 2).trans rfl; have hcz15_3 : w14.cell? ⟨gb330, 3, none⟩ = some (.slice A0_3 l0_3.length c0_3) := (blk_cell BK330.out 3).trans rfl; have hfz15_0 := blk_frozen BK330.out 0; have hfz15_1 := blk_frozen BK330.out 1; have hfz15_2 := blk_frozen BK330.out 2; have hfz15_3 := blk_frozen BK330.out 3) | ((with_reducible refine gate_callee (f := 39) rfl ?_); refine goesL_ (some 5) rfl rfl Tryd.func39 (by kernel_rfl) rfl #[.agg #[.int .i64 a0_0, .int .i64 a0_1, .slice A0_2 l0_2.length c0_2, .slice A0_3 l0_3.length c0_3]] rfl (by (try simp only [List.map_toArray, List.map_cons, List.map_nil]); first | done | rfl | (simp only [List.length_drop, List.length_take]; rfl)) ?_; (with_reducible refine (impl_IsFigure.calls k a0_0 a0_1 _ _ l0_2 _ _ l0_3 false _ ?side1 ?side2 ?side3 ?side4 A2.out).mono ?_); (case side1 => repeat (first | exact (Kd.C_below HR0_2.out HB.out) | (with_reducible refine Kd.C_alloc ?_ _) | (with_reducible refine Kd.C_drewN ?_ _) | (with_reducible refine Kd.C_drew ?_))); (case side2 => exact HC0_2.out); (case side3 => repeat (first | exact (Kd.C_below HR0_3.out HB.out) | (with_reducible refine Kd.C_alloc ?_ _) | (with_reducible refine Kd.C_drewN ?_ _) | (with_reducible refine Kd.C_drew ?_))); (case side4 => exact HC0_3.out); rintro e w16 ⟨rfl, hb⟩; refine ⟨_, rfl, ?_⟩; have n0_ := Aside0.mk (blk_below (g := gb330) (o := .cells #[.int .i64 a0_0, .int .i64 a0_1, .slice A0_2 l0_2.length c0_2, .slice A0_3 l0_3.length c0_3] 30 (0, 0)) (by (with_reducible repeat (first | refine blk_drewN ?_ _ | refine blk_drew ?_ | refine blk_alloc ?_ _)); exact BK330.out) hb); have n1_ := Aside0.mk (below_step (by repeat (first | (with_reducible first | exact HB.out | apply below_alloc | apply pw_below_drewN | apply below_drew1 | refine below_set ?_ GE330.out) | exact HB.out)) hb); clear BK330; clear HB; have BK330 := n0_; have HB := n1_; clear n0_ n1_; (try clear hb); (try clear hb2); (try clear hk); (try clear hi)))
    go_ret2
    exact ⟨_, by first | rfl | (simp [errW_none, errW_some] <;> rfl) | (simp [*, errW_none, errW_some] <;> rfl), by first | exact Kd.S_nil _ _ _ _ _ | exact Kd.N_nil _ _ _ _ _ | exact Kd.V_nil _ _ _ _ _ | exact Kd.Q_nil _ _ _ _ _ | exact Kd.R_nil _ _ _ _ _, by repeat (first | (with_reducible first | exact HB.out | apply below_alloc | apply pw_below_drewN | apply below_drew1 | refine below_set ?_ GE330.out) | exact HB.out)⟩
/-! ### spec_AreEqualPieces: function 19 -/
def spec_AreEqualPieces.l0 : Nat → ByteArray → List (List Int) → Int → Int → Int → Int → List Int → List Int → Option (Bool × Bool)
  | 0, _, _, _, _, _, _, _, _ => none
  | k + 1, x4, x12, x13, x14, x339000, x339001, x339002, x339003 => if x14 < x13 then (if 0 ≤ x14 then (if x14 < (x12.length : Int) then ((spec_piText.f k x339000 (rd_L3 x12 x14)).bind fun t344 => ((spec_piLeast.f k t344).bind fun t345 => (if x14 > 0 then (if t345.toList = x4.toList then (spec_AreEqualPieces.l0 k t345 x12 x13 (wrap64 (x14 + 1)) x339000 x339001 x339002 x339003) else (some (false, true))) else (spec_AreEqualPieces.l0 k t345 x12 x13 (wrap64 (x14 + 1)) x339000 x339001 x339002 x339003)))) else (none)) else (none)) else (some (true, true))
def spec_AreEqualPieces.f (k : Nat) (a0_0 : Int) (a0_1 : Int) (l0_2 : List Int) (l0_3 : List Int) : Option (Bool × Bool) := (spec_fiGood.f k a0_0 a0_1 l0_2 l0_3).bind fun t339 => (if t339 = true then ((spec_piPieces.f k a0_0 a0_1 l0_2 l0_3).bind fun t340 => (spec_AreEqualPieces.l0 k (⟨#[]⟩ : ByteArray) t340 (t340.length : Int) 0 a0_0 a0_1 l0_2 l0_3)) else (some (false, false)))
/-! ### spec_AreEqualPieces: function 19 -/
set_option maxHeartbeats 8000000 in
set_option maxRecDepth 100000 in
theorem spec_AreEqualPieces.calls (k : Nat) (a0_0 : Int) (a0_1 : Int) (A0_2 : Option Addr) (c0_2 : Nat) (l0_2 : List Int) (A0_3 : Option Addr) (c0_3 : Nat) (l0_3 : List Int) (r1 : Bool) (r2 : Bool) (w : World) (hr0_2 : Kd.C (Kd.int .i64) w A0_2 l0_2.length l0_2) (hc0_2 : l0_2.length ≤ c0_2) (hr0_3 : Kd.C (Kd.int .i64) w A0_3 l0_3.length l0_3) (hc0_3 : l0_3.length ≤ c0_3) (h : spec_AreEqualPieces.f k a0_0 a0_1 l0_2 l0_3 = some (r1, r2)) :
    Calls Tryd.prog 19 #[.agg #[.int .i64 a0_0, .int .i64 a0_1, .slice A0_2 l0_2.length c0_2, .slice A0_3 l0_3.length c0_3]] w fun e w' => e = .returned (.tuple #[.bool r1, .bool r2]) ∧ Below w.heap.size w w' := by
  have hu30 := Tryd.underlying30
  have HR0_2 := Aside0.mk hr0_2
  have HC0_2 := Aside0.mk hc0_2
  clear hr0_2 hc0_2
  have HR0_3 := Aside0.mk hr0_3
  have HC0_3 := Aside0.mk hc0_3
  clear hr0_3 hc0_3
  have HB := Aside0.mk (Below.refl w.heap.size w)
  have H : ((spec_fiGood.f k a0_0 a0_1 l0_2 l0_3).bind fun t339 => (if t339 = true then ((spec_piPieces.f k a0_0 a0_1 l0_2 l0_3).bind fun t340 => (spec_AreEqualPieces.l0 k (⟨#[]⟩ : ByteArray) t340 (t340.length : Int) 0 a0_0 a0_1 l0_2 l0_3)) else (some (false, false)))) = some (r1, r2) := h
  clear h
  replace H := Option.bind_eq_some_iff.mp H
  obtain ⟨t339, A20, H⟩ := H
  replace H : (if t339 = true then ((spec_piPieces.f k a0_0 a0_1 l0_2 l0_3).bind fun t340 => (spec_AreEqualPieces.l0 k (⟨#[]⟩ : ByteArray) t340 (t340.length : Int) 0 a0_0 a0_1 l0_2 l0_3)) else (some (false, false))) = some (r1, r2) := H
  have A2 := Aside0.mk A20
  clear A20
  by_cases c3 : t339 = true
  · subst c3
    have H1 : ((spec_piPieces.f k a0_0 a0_1 l0_2 l0_3).bind fun t340 => (spec_AreEqualPieces.l0 k (⟨#[]⟩ : ByteArray) t340 (t340.length : Int) 0 a0_0 a0_1 l0_2 l0_3)) = some (r1, r2) := by rw [if_pos rfl] at H; exact H
    clear H
    have H := H1
    clear H1
    replace H := Option.bind_eq_some_iff.mp H
    obtain ⟨t340, A40, H⟩ := H
    replace H : (spec_AreEqualPieces.l0 k (⟨#[]⟩ : ByteArray) t340 (t340.length : Int) 0 a0_0 a0_1 l0_2 l0_3) = some (r1, r2) := H
    have A4 := Aside0.mk A40
    clear A40
    have H' := Aside0.mk H
    clear H
    go_enter Tryd.func19, Tryd.ntmps19
    go_wp2_with (first | ((with_reducible refine gate_dst (N := 1) rfl ?_); refine box_event ?hg (N := 1) ?hd (cs := #[.int .i64 a0_0, .int .i64 a0_1, .slice A0_2 l0_2.length c0_2, .slice A0_3 l0_3.length c0_3]) (t := 30) ?hr ?_; (case hd => rfl); (case hg => rfl); (case hr => first | (go_simp; done) | (go_simp; rfl)); intro gb338 hg w5 hbox hb; have n0_ := Aside0.mk (below_step (by repeat (first | (with_reducible first | exact HB.out | apply below_alloc | apply pw_below_drewN | apply below_drew1) | exact HB.out)) hb); have n1_ := Aside0.mk (hbox); have n2_ := Aside0.mk ((by rw [hg]; exact (below_size (by repeat (first | (with_reducible first | exact HB.out | apply below_alloc | apply pw_below_drewN | apply below_drew1) | exact HB.out))) : w.heap.size ≤ gb338)); have n3_ := Aside0.mk ((by rw [hg]; exact (below_size (by repeat (first | (with_reducible first | exact HB.out | apply below_alloc | apply pw_below_drewN | apply below_drew1) | exact HB.out))) : w.heap.size ≤ gb338)); clear HB; have HB := n0_; have BK338 := n1_; have GW338 := n2_; have GE338 := n3_; clear n0_ n1_ n2_ n3_; clear hb hbox hg; have hcz6_0 : w5.cell? ⟨gb338, 0, none⟩ = some (.int .i64 a0_0) := (blk_cell BK338.out 0).trans rfl; have hcz6_1 : w5.cell? ⟨gb338, 1, none⟩ = some (.int .i64 a0_1) := (blk_cell BK338.out 1).trans rfl; have hcz6_2 : w5.cell? ⟨gb338, 2, none⟩ = some (.slice A0_2 l0_2.length c0_2) := (blk_cell BK338.out 2).trans rfl; have hcz6_3 : w5.cell? ⟨gb338, 3, none⟩ = some (.slice A0_3 l0_3.length c0_3) := (blk_cell BK338.out 3).trans rfl; have hfz6_0 := blk_frozen BK338.out 0; have hfz6_1 := blk_frozen BK338.out 1; have hfz6_2 := blk_frozen BK338.out 2; have hfz6_3 := blk_frozen BK338.out 3) | ((with_reducible refine gate_callee (f := 33) rfl ?_); refine goesL_ (some 9) rfl rfl Tryd.func33 (by kernel_rfl) rfl #[.agg #[.int .i64 a0_0, .int .i64 a0_1, .slice A0_2 l0_2.length c0_2, .slice A0_3 l0_3.length c0_3]] rfl (by (try simp only [List.map_toArray, List.map_cons, List.map_nil]); first | done | rfl | (simp only [List.length_drop, List.length_take]; rfl)) ?_; (with_reducible refine (spec_fiGood.calls k a0_0 a0_1 _ _ l0_2 _ _ l0_3 true _ ?side1 ?side2 ?side3 ?side4 A2.out).mono ?_); (case side1 => repeat (first | exact (Kd.C_below HR0_2.out HB.out) | (with_reducible refine Kd.C_alloc ?_ _) | (with_reducible refine Kd.C_drewN ?_ _) | (with_reducible refine Kd.C_drew ?_))); (case side2 => exact HC0_2.out); (case side3 => repeat (first | exact (Kd.C_below HR0_3.out HB.out) | (with_reducible refine Kd.C_alloc ?_ _) | (with_reducible refine Kd.C_drewN ?_ _) | (with_reducible refine Kd.C_drew ?_))); (case side4 => exact HC0_3.out); rintro e w7 ⟨rfl, hb⟩; refine ⟨_, rfl, ?_⟩; have n0_ := Aside0.mk (blk_below (g := gb338) (o := .cells #[.int .i64 a0_0, .int .i64 a0_1, .slice A0_2 l0_2.length c0_2, .slice A0_3 l0_3.length c0_3] 30 (0, 0)) (by (with_reducible repeat (first | refine blk_drewN ?_ _ | refine blk_drew ?_ | refine blk_alloc ?_ _)); exact BK338.out) hb); have n1_ := Aside0.mk (below_step (by repeat (first | (with_reducible first | exact HB.out | apply below_alloc | apply pw_below_drewN | apply below_drew1 | refine below_set ?_ GE338.out) | exact HB.out)) hb); clear BK338; clear HB; have BK338 := n0_; have HB := n1_; clear n0_ n1_; (try clear hb); (try clear hb2); (try clear hk); (try clear hi); have hcz8_0 : w7.cell? ⟨gb338, 0, none⟩ = some (.int .i64 a0_0) := (blk_cell BK338.out 0).trans rfl; have hcz8_1 : w7.cell? ⟨gb338, 1, none⟩ = some (.int .i64 a0_1) := (blk_cell BK338.out 1).trans rfl; have hcz8_2 : w7.cell? ⟨gb338, 2, none⟩ = some (.slice A0_2 l0_2.length c0_2) := (blk_cell BK338.out 2).trans rfl; have hcz8_3 : w7.cell? ⟨gb338, 3, none⟩ = some (.slice A0_3 l0_3.length c0_3) := (blk_cell BK338.out 3).trans rfl; have hfz8_0 := blk_frozen BK338.out 0; have hfz8_1 := blk_frozen BK338.out 1; have hfz8_2 := blk_frozen BK338.out 2; have hfz8_3 := blk_frozen BK338.out 3) | ((with_reducible refine gate_callee (f := 35) rfl ?_); refine goesL_ (some 12) rfl rfl Tryd.func35 (by kernel_rfl) rfl #[.agg #[.int .i64 a0_0, .int .i64 a0_1, .slice A0_2 l0_2.length c0_2, .slice A0_3 l0_3.length c0_3]] rfl (by (try simp only [List.map_toArray, List.map_cons, List.map_nil]); first | done | rfl | (simp only [List.length_drop, List.length_take]; rfl)) ?_; (with_reducible refine (spec_piPieces.calls k a0_0 a0_1 _ _ l0_2 _ _ l0_3 t340 _ ?side1 ?side2 ?side3 ?side4 A4.out).mono ?_); (case side1 => repeat (first | exact (Kd.C_below HR0_2.out HB.out) | (with_reducible refine Kd.C_alloc ?_ _) | (with_reducible refine Kd.C_drewN ?_ _) | (with_reducible refine Kd.C_drew ?_))); (case side2 => exact HC0_2.out); (case side3 => repeat (first | exact (Kd.C_below HR0_3.out HB.out) | (with_reducible refine Kd.C_alloc ?_ _) | (with_reducible refine Kd.C_drewN ?_ _) | (with_reducible refine Kd.C_drew ?_))); (case side4 => exact HC0_3.out); rintro e w9 ⟨v341, rfl, ho0, hb⟩; refine ⟨_, rfl, ?_⟩; have n0_ := Aside0.mk (Kd.S_lower ho0 (below_size (by repeat (first | (with_reducible first | exact HB.out | apply below_alloc | apply pw_below_drewN | apply below_drew1 | refine below_set ?_ GE338.out) | exact HB.out)))); have n1_ := Aside0.mk (blk_below (g := gb338) (o := .cells #[.int .i64 a0_0, .int .i64 a0_1, .slice A0_2 l0_2.length c0_2, .slice A0_3 l0_3.length c0_3] 30 (0, 0)) (by (with_reducible repeat (first | refine blk_drewN ?_ _ | refine blk_drew ?_ | refine blk_alloc ?_ _)); exact BK338.out) hb); have n2_ := Aside0.mk (below_step (by repeat (first | (with_reducible first | exact HB.out | apply below_alloc | apply pw_below_drewN | apply below_drew1 | refine below_set ?_ GE338.out) | exact HB.out)) hb); clear BK338; clear HB; have HO342 := n0_; have BK338 := n1_; have HB := n2_; clear n0_ n1_ n2_; (try clear hb); (try clear hb2); (try clear hk); (try clear hi); (try clear ho0); obtain ⟨Ao10, co10, eo10⟩ := Kd.S_slice HO342.out; subst eo10))
    go_loopg [4, 14] k (fun kq v4 v14 w' => ∃ (x4_1 : ByteArray) (x14_1 : Int), v4 = .string x4_1 ∧ v14 = .int .i64 x14_1 ∧ Aside0 (spec_AreEqualPieces.l0 kq x4_1 t340 (t340.length : Int) x14_1 a0_0 a0_1 l0_2 l0_3 = some (r1, r2)) ∧ Aside0 (kq ≤ k) ∧ Aside0 (Kd.S (Kd.slice 3 (Kd.int .i64)) 25 w' w.heap.size (fun _ => True) (.slice Ao10 t340.length co10) t340) ∧ Aside0 (w'.heap[gb338]? = some (.cells #[.int .i64 a0_0, .int .i64 a0_1, (.slice A0_2 l0_2.length c0_2), (.slice A0_3 l0_3.length c0_3)] 30 (0, 0))) ∧ Aside0 (Below w.heap.size w w'))
    case atStart => exact ⟨((⟨#[]⟩ : ByteArray)), (0), (by first | rfl | (simp; done) | (simp [*]; done)), (by first | rfl | (simp; done) | (simp [*]; done)), H', ⟨Nat.le_refl _⟩, ⟨by (with_reducible repeat (first | apply Kd.S_alloc | apply Kd.S_drewN | apply Kd.S_drew)); exact HO342.out⟩, ⟨by (with_reducible repeat (first | refine blk_drewN ?_ _ | refine blk_drew ?_ | refine blk_alloc ?_ _)); exact BK338.out⟩, ⟨by repeat (first | (with_reducible first | exact HB.out | apply below_alloc | apply pw_below_drewN | apply below_drew1 | refine below_set ?_ GE338.out) | exact HB.out)⟩⟩
    case round =>
      clear H'
      try clear c1
      try clear p2
      try clear c3
      try clear hcz6_0
      try clear hcz6_1
      try clear hcz6_2
      try clear hcz6_3
      try clear hcz8_0
      try clear hcz8_1
      try clear hcz8_2
      try clear hcz8_3
      try clear hfz6_0
      try clear hfz6_1
      try clear hfz6_2
      try clear hfz6_3
      try clear hfz8_0
      try clear hfz8_1
      try clear hfz8_2
      try clear hfz8_3
      obtain ⟨x4_1, x14_1, rfl, rfl, HA, HK1, HO_12, BK338, HB⟩ := hrel
      cases gk with
      | zero => exact absurd HA.out (by simp [spec_AreEqualPieces.l0])
      | succ k1 =>
        have H := HA.out
        clear HA
        simp only [spec_AreEqualPieces.l0] at H
        by_cases c11 : x14_1 < (t340.length : Int)
        · rw [if_pos c11] at H
          have c11b0 : decide (x14_1 < (t340.length : Int)) = true := decide_eq_true c11
          clear c11
          by_cases c12 : 0 ≤ x14_1
          · rw [if_pos c12] at H
            have c12b0 : decide (0 ≤ x14_1) = true := decide_eq_true c12
            clear c12
            by_cases c13 : x14_1 < (t340.length : Int)
            · rw [if_pos c13] at H
              have c13b0 : decide (x14_1 < (t340.length : Int)) = true := decide_eq_true c13
              clear c13
              replace H := Option.bind_eq_some_iff.mp H
              obtain ⟨t344, A140, H⟩ := H
              replace H : ((spec_piLeast.f k1 t344).bind fun t345 => (if x14_1 > 0 then (if t345.toList = x4_1.toList then (spec_AreEqualPieces.l0 k1 t345 t340 (t340.length : Int) (wrap64 (x14_1 + 1)) a0_0 a0_1 l0_2 l0_3) else (some (false, true))) else (spec_AreEqualPieces.l0 k1 t345 t340 (t340.length : Int) (wrap64 (x14_1 + 1)) a0_0 a0_1 l0_2 l0_3))) = some (r1, r2) := H
              have A14 := Aside0.mk A140
              clear A140
              replace H := Option.bind_eq_some_iff.mp H
              obtain ⟨t345, A150, H⟩ := H
              replace H : (if x14_1 > 0 then (if t345.toList = x4_1.toList then (spec_AreEqualPieces.l0 k1 t345 t340 (t340.length : Int) (wrap64 (x14_1 + 1)) a0_0 a0_1 l0_2 l0_3) else (some (false, true))) else (spec_AreEqualPieces.l0 k1 t345 t340 (t340.length : Int) (wrap64 (x14_1 + 1)) a0_0 a0_1 l0_2 l0_3)) = some (r1, r2) := H
              have A15 := Aside0.mk A150
              clear A150
              by_cases c16 : x14_1 > 0
              · rw [if_pos c16] at H
                have c16b0 : decide (0 < x14_1) = true := decide_eq_true c16
                clear c16
                by_cases c17 : t345.toList = x4_1.toList
                · rw [if_pos c17] at H
                  have c17b0 : (t345.toList == x4_1.toList) = true := beq_iff_eq.mpr c17
                  have c17b1 : (t345.toList != x4_1.toList) = false := bne_eq_false_iff_eq.mpr c17
                  clear c17
                  have H' := Aside0.mk H
                  clear H
                  have p343 : 0 ≤ (x14_1 : Int) := of_decide_eq_true (by first | (with_reducible assumption) | assumption)
                  have q343 : x14_1 < (t340.length : Int) := of_decide_eq_true (by first | (with_reducible assumption) | assumption)
                  obtain ⟨ad343, A343_0, c343_0, e343, hx343_0, hl343_0, hi343_0⟩ := at_L3 (Kd.S_reads' HO_12.out).2.2 x14_1 p343 q343
                  cases e343
                  obtain ⟨ce343, hce343, hMe343, hcc343⟩ := Kd.S_get HO_12.out [] x14_1 p343 (by first | exact q343 | exact of_decide_eq_true (by first | (with_reducible assumption) | assumption) | (have e_ := (Kd.S_reads' HO_12.out).1; omega))
                  obtain ⟨ve343_0, rfl, ge343_0⟩ := hMe343
                  have hv343_0 := hcc343 0 _ rfl
                  rw [Nat.add_zero, show ((Kd.slice 3 (Kd.int .i64))).sz = 1 from rfl, Nat.mul_one] at hv343_0
                  replace hv343_0 := Option.some.inj (hv343_0.symm.trans hx343_0)
                  rw [hv343_0] at ge343_0
                  have HL343_0 := Aside0.mk (show Kd.R (Kd.int .i64) 3 _ _ _ _ (rd_L3 t340 x14_1) from ge343_0)
                  clear hv343_0 ge343_0
                  clear hcc343 hce343
                  have HR343_0 := Aside0.mk hi343_0
                  have HC343_0 := Aside0.mk hl343_0
                  clear hi343_0 hl343_0
                  replace p343 := eq_true p343
                  replace q343 := eq_true q343
                  have hcz18_0 : wr.cell? ⟨gb338, 0, none⟩ = some (.int .i64 a0_0) := (blk_cell BK338.out 0).trans rfl
                  have hcz18_1 : wr.cell? ⟨gb338, 1, none⟩ = some (.int .i64 a0_1) := (blk_cell BK338.out 1).trans rfl
                  have hcz18_2 : wr.cell? ⟨gb338, 2, none⟩ = some (.slice A0_2 l0_2.length c0_2) := (blk_cell BK338.out 2).trans rfl
                  have hcz18_3 : wr.cell? ⟨gb338, 3, none⟩ = some (.slice A0_3 l0_3.length c0_3) := (blk_cell BK338.out 3).trans rfl
                  have hfz18_0 := blk_frozen BK338.out 0
                  have hfz18_1 := blk_frozen BK338.out 1
                  have hfz18_2 := blk_frozen BK338.out 2
                  have hfz18_3 := blk_frozen BK338.out 3
                  go_wp2_with (first | ((with_reducible refine gate_callee (f := 37) rfl ?_); refine goesL_ (some 22) rfl rfl Tryd.func37 (by kernel_rfl) rfl #[.int .i64 a0_0, .slice A343_0 (rd_L3 t340 x14_1).length c343_0] rfl (by (try simp only [List.map_toArray, List.map_cons, List.map_nil]); first | done | rfl | (simp only [List.length_drop, List.length_take]; rfl)) ?_; (with_reducible refine (spec_piText.calls k1 a0_0 _ _ (rd_L3 t340 x14_1) t344 _ ?side1 ?side2 A14.out).mono ?_); (case side1 => repeat (first | exact (by repeat (first | (with_reducible exact HR343_0.out) | (with_reducible refine Kd.C_alloc ?_ _) | (with_reducible refine Kd.C_drewN ?_ _) | (with_reducible refine Kd.C_drew ?_) | exact HR343_0.out)) | (with_reducible refine Kd.C_alloc ?_ _) | (with_reducible refine Kd.C_drewN ?_ _) | (with_reducible refine Kd.C_drew ?_))); (case side2 => exact HC343_0.out); rintro e w' ⟨rfl, ⟨nd, rfl⟩⟩; refine ⟨_, rfl, ?_⟩) | ((with_reducible refine gate_callee (f := 30) rfl ?_); refine goesL_ (some 23) rfl rfl Tryd.func30 (by kernel_rfl) rfl #[.string t344] rfl (by (try simp only [List.map_toArray, List.map_cons, List.map_nil]); first | done | rfl | (simp only [List.length_drop, List.length_take]; rfl)) ?_; (with_reducible refine (spec_piLeast.calls k1 t344 t345 _ A15.out).mono ?_); rintro e w19 ⟨rfl, hb⟩; refine ⟨_, rfl, ?_⟩; have n0_ := Aside0.mk (Kd.S_below (by (with_reducible repeat (first | apply Kd.S_alloc | apply Kd.S_drewN | apply Kd.S_drew)); exact HO_12.out) hb); have n1_ := Aside0.mk (Kd.R_below (by (with_reducible repeat (first | apply Kd.R_alloc | apply Kd.R_drewN | apply Kd.R_drew)); exact HL343_0.out) hb); have n2_ := Aside0.mk (blk_below (g := gb338) (o := .cells #[.int .i64 a0_0, .int .i64 a0_1, .slice A0_2 l0_2.length c0_2, .slice A0_3 l0_3.length c0_3] 30 (0, 0)) (by (with_reducible repeat (first | refine blk_drewN ?_ _ | refine blk_drew ?_ | refine blk_alloc ?_ _)); exact BK338.out) hb); have n3_ := Aside0.mk (Kd.C_below (by repeat (first | (with_reducible exact HR343_0.out) | (with_reducible refine Kd.C_alloc ?_ _) | (with_reducible refine Kd.C_drewN ?_ _) | (with_reducible refine Kd.C_drew ?_) | exact HR343_0.out)) hb); have n4_ := Aside0.mk (below_step (by repeat (first | (with_reducible first | exact HB.out | apply below_alloc | apply pw_below_drewN | apply below_drew1 | refine below_set ?_ GE338.out) | exact HB.out)) hb); clear HO_12; clear HL343_0; clear BK338; clear HR343_0; clear HB; have HO_12 := n0_; have HL343_0 := n1_; have BK338 := n2_; have HR343_0 := n3_; have HB := n4_; clear n0_ n1_ n2_ n3_ n4_; (try clear hb); (try clear hb2); (try clear hk); (try clear hi)))
                  go_roundg k1
                  case measure => have := HK1.out; omega
                  case rel => exact ⟨(t345), (wrap64 (x14_1 + 1)), (by first | rfl | (simp; done) | (simp [*]; done)), (by first | rfl | (simp; done) | (simp [*]; done)), H', ⟨by have := HK1.out; omega⟩, ⟨by (with_reducible repeat (first | apply Kd.S_alloc | apply Kd.S_drewN | apply Kd.S_drew)); exact HO_12.out⟩, ⟨by (with_reducible repeat (first | refine blk_drewN ?_ _ | refine blk_drew ?_ | refine blk_alloc ?_ _)); exact BK338.out⟩, ⟨by repeat (first | (with_reducible first | exact HB.out | apply below_alloc | apply pw_below_drewN | apply below_drew1 | refine below_set ?_ GE338.out) | exact HB.out)⟩⟩
                · rw [if_neg c17] at H
                  have c17b0 : (t345.toList == x4_1.toList) = false := beq_eq_false_iff_ne.mpr c17
                  have c17b1 : (t345.toList != x4_1.toList) = true := bne_iff_ne.mpr c17
                  simp only [Option.some.injEq, Prod.mk.injEq] at H
                  obtain ⟨rfl, rfl⟩ := H
                  have p343 : 0 ≤ (x14_1 : Int) := of_decide_eq_true (by first | (with_reducible assumption) | assumption)
                  have q343 : x14_1 < (t340.length : Int) := of_decide_eq_true (by first | (with_reducible assumption) | assumption)
                  obtain ⟨ad343, A343_0, c343_0, e343, hx343_0, hl343_0, hi343_0⟩ := at_L3 (Kd.S_reads' HO_12.out).2.2 x14_1 p343 q343
                  cases e343
                  obtain ⟨ce343, hce343, hMe343, hcc343⟩ := Kd.S_get HO_12.out [] x14_1 p343 (by first | exact q343 | exact of_decide_eq_true (by first | (with_reducible assumption) | assumption) | (have e_ := (Kd.S_reads' HO_12.out).1; omega))
                  obtain ⟨ve343_0, rfl, ge343_0⟩ := hMe343
                  have hv343_0 := hcc343 0 _ rfl
                  rw [Nat.add_zero, show ((Kd.slice 3 (Kd.int .i64))).sz = 1 from rfl, Nat.mul_one] at hv343_0
                  replace hv343_0 := Option.some.inj (hv343_0.symm.trans hx343_0)
                  rw [hv343_0] at ge343_0
                  have HL343_0 := Aside0.mk (show Kd.R (Kd.int .i64) 3 _ _ _ _ (rd_L3 t340 x14_1) from ge343_0)
                  clear hv343_0 ge343_0
                  clear hcc343 hce343
                  have HR343_0 := Aside0.mk hi343_0
                  have HC343_0 := Aside0.mk hl343_0
                  clear hi343_0 hl343_0
                  replace p343 := eq_true p343
                  replace q343 := eq_true q343
                  have hcz20_0 : wr.cell? ⟨gb338, 0, none⟩ = some (.int .i64 a0_0) := (blk_cell BK338.out 0).trans rfl
                  have hcz20_1 : wr.cell? ⟨gb338, 1, none⟩ = some (.int .i64 a0_1) := (blk_cell BK338.out 1).trans rfl
                  have hcz20_2 : wr.cell? ⟨gb338, 2, none⟩ = some (.slice A0_2 l0_2.length c0_2) := (blk_cell BK338.out 2).trans rfl
                  have hcz20_3 : wr.cell? ⟨gb338, 3, none⟩ = some (.slice A0_3 l0_3.length c0_3) := (blk_cell BK338.out 3).trans rfl
                  have hfz20_0 := blk_frozen BK338.out 0
                  have hfz20_1 := blk_frozen BK338.out 1
                  have hfz20_2 := blk_frozen BK338.out 2
                  have hfz20_3 := blk_frozen BK338.out 3
                  go_wp2_with (first | ((with_reducible refine gate_callee (f := 37) rfl ?_); refine goesL_ (some 22) rfl rfl Tryd.func37 (by kernel_rfl) rfl #[.int .i64 a0_0, .slice A343_0 (rd_L3 t340 x14_1).length c343_0] rfl (by (try simp only [List.map_toArray, List.map_cons, List.map_nil]); first | done | rfl | (simp only [List.length_drop, List.length_take]; rfl)) ?_; (with_reducible refine (spec_piText.calls k1 a0_0 _ _ (rd_L3 t340 x14_1) t344 _ ?side1 ?side2 A14.out).mono ?_); (case side1 => repeat (first | exact (by repeat (first | (with_reducible exact HR343_0.out) | (with_reducible refine Kd.C_alloc ?_ _) | (with_reducible refine Kd.C_drewN ?_ _) | (with_reducible refine Kd.C_drew ?_) | exact HR343_0.out)) | (with_reducible refine Kd.C_alloc ?_ _) | (with_reducible refine Kd.C_drewN ?_ _) | (with_reducible refine Kd.C_drew ?_))); (case side2 => exact HC343_0.out); rintro e w' ⟨rfl, ⟨nd, rfl⟩⟩; refine ⟨_, rfl, ?_⟩) | ((with_reducible refine gate_callee (f := 30) rfl ?_); refine goesL_ (some 23) rfl rfl Tryd.func30 (by kernel_rfl) rfl #[.string t344] rfl (by (try simp only [List.map_toArray, List.map_cons, List.map_nil]); first | done | rfl | (simp only [List.length_drop, List.length_take]; rfl)) ?_; (with_reducible refine (spec_piLeast.calls k1 t344 t345 _ A15.out).mono ?_); rintro e w21 ⟨rfl, hb⟩; refine ⟨_, rfl, ?_⟩; have n0_ := Aside0.mk (Kd.S_below (by (with_reducible repeat (first | apply Kd.S_alloc | apply Kd.S_drewN | apply Kd.S_drew)); exact HO_12.out) hb); have n1_ := Aside0.mk (Kd.R_below (by (with_reducible repeat (first | apply Kd.R_alloc | apply Kd.R_drewN | apply Kd.R_drew)); exact HL343_0.out) hb); have n2_ := Aside0.mk (blk_below (g := gb338) (o := .cells #[.int .i64 a0_0, .int .i64 a0_1, .slice A0_2 l0_2.length c0_2, .slice A0_3 l0_3.length c0_3] 30 (0, 0)) (by (with_reducible repeat (first | refine blk_drewN ?_ _ | refine blk_drew ?_ | refine blk_alloc ?_ _)); exact BK338.out) hb); have n3_ := Aside0.mk (Kd.C_below (by repeat (first | (with_reducible exact HR343_0.out) | (with_reducible refine Kd.C_alloc ?_ _) | (with_reducible refine Kd.C_drewN ?_ _) | (with_reducible refine Kd.C_drew ?_) | exact HR343_0.out)) hb); have n4_ := Aside0.mk (below_step (by repeat (first | (with_reducible first | exact HB.out | apply below_alloc | apply pw_below_drewN | apply below_drew1 | refine below_set ?_ GE338.out) | exact HB.out)) hb); clear HO_12; clear HL343_0; clear BK338; clear HR343_0; clear HB; have HO_12 := n0_; have HL343_0 := n1_; have BK338 := n2_; have HR343_0 := n3_; have HB := n4_; clear n0_ n1_ n2_ n3_ n4_; (try clear hb); (try clear hb2); (try clear hk); (try clear hi)))
                  go_ret2
                  exact ⟨by first | rfl | (simp [errW_none, errW_some] <;> rfl) | (simp [*, errW_none, errW_some] <;> rfl), by repeat (first | (with_reducible first | exact HB.out | apply below_alloc | apply pw_below_drewN | apply below_drew1 | refine below_set ?_ GE338.out) | exact HB.out)⟩
              · rw [if_neg c16] at H
                have c16b0 : decide (0 < x14_1) = false := decide_eq_false c16
                clear c16
                have H' := Aside0.mk H
                clear H
                have p343 : 0 ≤ (x14_1 : Int) := of_decide_eq_true (by first | (with_reducible assumption) | assumption)
                have q343 : x14_1 < (t340.length : Int) := of_decide_eq_true (by first | (with_reducible assumption) | assumption)
                obtain ⟨ad343, A343_0, c343_0, e343, hx343_0, hl343_0, hi343_0⟩ := at_L3 (Kd.S_reads' HO_12.out).2.2 x14_1 p343 q343
                cases e343
                obtain ⟨ce343, hce343, hMe343, hcc343⟩ := Kd.S_get HO_12.out [] x14_1 p343 (by first | exact q343 | exact of_decide_eq_true (by first | (with_reducible assumption) | assumption) | (have e_ := (Kd.S_reads' HO_12.out).1; omega))
                obtain ⟨ve343_0, rfl, ge343_0⟩ := hMe343
                have hv343_0 := hcc343 0 _ rfl
                rw [Nat.add_zero, show ((Kd.slice 3 (Kd.int .i64))).sz = 1 from rfl, Nat.mul_one] at hv343_0
                replace hv343_0 := Option.some.inj (hv343_0.symm.trans hx343_0)
                rw [hv343_0] at ge343_0
                have HL343_0 := Aside0.mk (show Kd.R (Kd.int .i64) 3 _ _ _ _ (rd_L3 t340 x14_1) from ge343_0)
                clear hv343_0 ge343_0
                clear hcc343 hce343
                have HR343_0 := Aside0.mk hi343_0
                have HC343_0 := Aside0.mk hl343_0
                clear hi343_0 hl343_0
                replace p343 := eq_true p343
                replace q343 := eq_true q343
                have hcz22_0 : wr.cell? ⟨gb338, 0, none⟩ = some (.int .i64 a0_0) := (blk_cell BK338.out 0).trans rfl
                have hcz22_1 : wr.cell? ⟨gb338, 1, none⟩ = some (.int .i64 a0_1) := (blk_cell BK338.out 1).trans rfl
                have hcz22_2 : wr.cell? ⟨gb338, 2, none⟩ = some (.slice A0_2 l0_2.length c0_2) := (blk_cell BK338.out 2).trans rfl
                have hcz22_3 : wr.cell? ⟨gb338, 3, none⟩ = some (.slice A0_3 l0_3.length c0_3) := (blk_cell BK338.out 3).trans rfl
                have hfz22_0 := blk_frozen BK338.out 0
                have hfz22_1 := blk_frozen BK338.out 1
                have hfz22_2 := blk_frozen BK338.out 2
                have hfz22_3 := blk_frozen BK338.out 3
                go_wp2_with (first | ((with_reducible refine gate_callee (f := 37) rfl ?_); refine goesL_ (some 22) rfl rfl Tryd.func37 (by kernel_rfl) rfl #[.int .i64 a0_0, .slice A343_0 (rd_L3 t340 x14_1).length c343_0] rfl (by (try simp only [List.map_toArray, List.map_cons, List.map_nil]); first | done | rfl | (simp only [List.length_drop, List.length_take]; rfl)) ?_; (with_reducible refine (spec_piText.calls k1 a0_0 _ _ (rd_L3 t340 x14_1) t344 _ ?side1 ?side2 A14.out).mono ?_); (case side1 => repeat (first | exact (by repeat (first | (with_reducible exact HR343_0.out) | (with_reducible refine Kd.C_alloc ?_ _) | (with_reducible refine Kd.C_drewN ?_ _) | (with_reducible refine Kd.C_drew ?_) | exact HR343_0.out)) | (with_reducible refine Kd.C_alloc ?_ _) | (with_reducible refine Kd.C_drewN ?_ _) | (with_reducible refine Kd.C_drew ?_))); (case side2 => exact HC343_0.out); rintro e w' ⟨rfl, ⟨nd, rfl⟩⟩; refine ⟨_, rfl, ?_⟩) | ((with_reducible refine gate_callee (f := 30) rfl ?_); refine goesL_ (some 23) rfl rfl Tryd.func30 (by kernel_rfl) rfl #[.string t344] rfl (by (try simp only [List.map_toArray, List.map_cons, List.map_nil]); first | done | rfl | (simp only [List.length_drop, List.length_take]; rfl)) ?_; (with_reducible refine (spec_piLeast.calls k1 t344 t345 _ A15.out).mono ?_); rintro e w23 ⟨rfl, hb⟩; refine ⟨_, rfl, ?_⟩; have n0_ := Aside0.mk (Kd.S_below (by (with_reducible repeat (first | apply Kd.S_alloc | apply Kd.S_drewN | apply Kd.S_drew)); exact HO_12.out) hb); have n1_ := Aside0.mk (Kd.R_below (by (with_reducible repeat (first | apply Kd.R_alloc | apply Kd.R_drewN | apply Kd.R_drew)); exact HL343_0.out) hb); have n2_ := Aside0.mk (blk_below (g := gb338) (o := .cells #[.int .i64 a0_0, .int .i64 a0_1, .slice A0_2 l0_2.length c0_2, .slice A0_3 l0_3.length c0_3] 30 (0, 0)) (by (with_reducible repeat (first | refine blk_drewN ?_ _ | refine blk_drew ?_ | refine blk_alloc ?_ _)); exact BK338.out) hb); have n3_ := Aside0.mk (Kd.C_below (by repeat (first | (with_reducible exact HR343_0.out) | (with_reducible refine Kd.C_alloc ?_ _) | (with_reducible refine Kd.C_drewN ?_ _) | (with_reducible refine Kd.C_drew ?_) | exact HR343_0.out)) hb); have n4_ := Aside0.mk (below_step (by repeat (first | (with_reducible first | exact HB.out | apply below_alloc | apply pw_below_drewN | apply below_drew1 | refine below_set ?_ GE338.out) | exact HB.out)) hb); clear HO_12; clear HL343_0; clear BK338; clear HR343_0; clear HB; have HO_12 := n0_; have HL343_0 := n1_; have BK338 := n2_; have HR343_0 := n3_; have HB := n4_; clear n0_ n1_ n2_ n3_ n4_; (try clear hb); (try clear hb2); (try clear hk); (try clear hi)))
                go_roundg k1
                case measure => have := HK1.out; omega
                case rel => exact ⟨(t345), (wrap64 (x14_1 + 1)), (by first | rfl | (simp; done) | (simp [*]; done)), (by first | rfl | (simp; done) | (simp [*]; done)), H', ⟨by have := HK1.out; omega⟩, ⟨by (with_reducible repeat (first | apply Kd.S_alloc | apply Kd.S_drewN | apply Kd.S_drew)); exact HO_12.out⟩, ⟨by (with_reducible repeat (first | refine blk_drewN ?_ _ | refine blk_drew ?_ | refine blk_alloc ?_ _)); exact BK338.out⟩, ⟨by repeat (first | (with_reducible first | exact HB.out | apply below_alloc | apply pw_below_drewN | apply below_drew1 | refine below_set ?_ GE338.out) | exact HB.out)⟩⟩
            · rw [if_neg c13] at H
              exact absurd H (by simp)
          · rw [if_neg c12] at H
            exact absurd H (by simp)
        · rw [if_neg c11] at H
          have c11b0 : decide (x14_1 < (t340.length : Int)) = false := decide_eq_false c11
          clear c11
          simp only [Option.some.injEq, Prod.mk.injEq] at H
          obtain ⟨rfl, rfl⟩ := H
          go_wp2
          go_ret2
          exact ⟨by first | rfl | (simp [errW_none, errW_some] <;> rfl) | (simp [*, errW_none, errW_some] <;> rfl), by repeat (first | (with_reducible first | exact HB.out | apply below_alloc | apply pw_below_drewN | apply below_drew1 | refine below_set ?_ GE338.out) | exact HB.out)⟩
  · replace c3 := Bool.eq_false_iff.mpr c3
    subst c3
    have H1 : (some (false, false)) = some (r1, r2) := by rw [if_neg (show ¬ (false = true) by decide)] at H; exact H
    clear H
    have H := H1
    clear H1
    simp only [Option.some.injEq, Prod.mk.injEq] at H
    obtain ⟨rfl, rfl⟩ := H
    go_enter Tryd.func19, Tryd.ntmps19
    go_wp2_with (first | ((with_reducible refine gate_dst (N := 1) rfl ?_); refine box_event ?hg (N := 1) ?hd (cs := #[.int .i64 a0_0, .int .i64 a0_1, .slice A0_2 l0_2.length c0_2, .slice A0_3 l0_3.length c0_3]) (t := 30) ?hr ?_; (case hd => rfl); (case hg => rfl); (case hr => first | (go_simp; done) | (go_simp; rfl)); intro gb338 hg w24 hbox hb; have n0_ := Aside0.mk (below_step (by repeat (first | (with_reducible first | exact HB.out | apply below_alloc | apply pw_below_drewN | apply below_drew1) | exact HB.out)) hb); have n1_ := Aside0.mk (hbox); have n2_ := Aside0.mk ((by rw [hg]; exact (below_size (by repeat (first | (with_reducible first | exact HB.out | apply below_alloc | apply pw_below_drewN | apply below_drew1) | exact HB.out))) : w.heap.size ≤ gb338)); have n3_ := Aside0.mk ((by rw [hg]; exact (below_size (by repeat (first | (with_reducible first | exact HB.out | apply below_alloc | apply pw_below_drewN | apply below_drew1) | exact HB.out))) : w.heap.size ≤ gb338)); clear HB; have HB := n0_; have BK338 := n1_; have GW338 := n2_; have GE338 := n3_; clear n0_ n1_ n2_ n3_; clear hb hbox hg; have hcz25_0 : w24.cell? ⟨gb338, 0, none⟩ = some (.int .i64 a0_0) := (blk_cell BK338.out 0).trans rfl; have hcz25_1 : w24.cell? ⟨gb338, 1, none⟩ = some (.int .i64 a0_1) := (blk_cell BK338.out 1).trans rfl; have hcz25_2 : w24.cell? ⟨gb338, 2, none⟩ = some (.slice A0_2 l0_2.length c0_2) := (blk_cell BK338.out 2).trans rfl; have hcz25_3 : w24.cell? ⟨gb338, 3, none⟩ = some (.slice A0_3 l0_3.length c0_3) := (blk_cell BK338.out 3).trans rfl; have hfz25_0 := blk_frozen BK338.out 0; have hfz25_1 := blk_frozen BK338.out 1; have hfz25_2 := blk_frozen BK338.out 2; have hfz25_3 := blk_frozen BK338.out 3) | ((with_reducible refine gate_callee (f := 33) rfl ?_); refine goesL_ (some 9) rfl rfl Tryd.func33 (by kernel_rfl) rfl #[.agg #[.int .i64 a0_0, .int .i64 a0_1, .slice A0_2 l0_2.length c0_2, .slice A0_3 l0_3.length c0_3]] rfl (by (try simp only [List.map_toArray, List.map_cons, List.map_nil]); first | done | rfl | (simp only [List.length_drop, List.length_take]; rfl)) ?_; (with_reducible refine (spec_fiGood.calls k a0_0 a0_1 _ _ l0_2 _ _ l0_3 false _ ?side1 ?side2 ?side3 ?side4 A2.out).mono ?_); (case side1 => repeat (first | exact (Kd.C_below HR0_2.out HB.out) | (with_reducible refine Kd.C_alloc ?_ _) | (with_reducible refine Kd.C_drewN ?_ _) | (with_reducible refine Kd.C_drew ?_))); (case side2 => exact HC0_2.out); (case side3 => repeat (first | exact (Kd.C_below HR0_3.out HB.out) | (with_reducible refine Kd.C_alloc ?_ _) | (with_reducible refine Kd.C_drewN ?_ _) | (with_reducible refine Kd.C_drew ?_))); (case side4 => exact HC0_3.out); rintro e w26 ⟨rfl, hb⟩; refine ⟨_, rfl, ?_⟩; have n0_ := Aside0.mk (blk_below (g := gb338) (o := .cells #[.int .i64 a0_0, .int .i64 a0_1, .slice A0_2 l0_2.length c0_2, .slice A0_3 l0_3.length c0_3] 30 (0, 0)) (by (with_reducible repeat (first | refine blk_drewN ?_ _ | refine blk_drew ?_ | refine blk_alloc ?_ _)); exact BK338.out) hb); have n1_ := Aside0.mk (below_step (by repeat (first | (with_reducible first | exact HB.out | apply below_alloc | apply pw_below_drewN | apply below_drew1 | refine below_set ?_ GE338.out) | exact HB.out)) hb); clear BK338; clear HB; have BK338 := n0_; have HB := n1_; clear n0_ n1_; (try clear hb); (try clear hb2); (try clear hk); (try clear hi)))
    go_ret2
    exact ⟨by first | rfl | (simp [errW_none, errW_some] <;> rfl) | (simp [*, errW_none, errW_some] <;> rfl), by repeat (first | (with_reducible first | exact HB.out | apply below_alloc | apply pw_below_drewN | apply below_drew1 | refine below_set ?_ GE338.out) | exact HB.out)⟩
/-- is there a piece whose text is another one than the first -/
def aeAny (k : Nat) (gw gh : Int) (first : ByteArray) : List (List Int) → Option Bool
  | [] => some false
  | p :: ps => (impl_grid_shape.f k gw gh p).bind fun s => if s.toList = first.toList then aeAny k gw gh first ps else some true
def impl_AreEqualPieces.f (k : Nat) (a0 a1 : Int) (l2 l3 : List Int) : Option (Bool × Bool) := (impl_PiecesOf.f k a0 a1 l2 l3).bind fun r => if r.2 = true then (if 0 < r.1.length then ((impl_Figure_grid.f a0 a1 l2 l3).bind fun g => (impl_grid_shape.f k g.1 g.2 (rd_L3 r.1 0)).bind fun first => (aeAny k g.1 g.2 first r.1).bind fun b => some (!b, true)) else none) else some (false, false)

theorem ae_at {W : World} {o : Obj} : (W.alloc o).heap[W.heap.size]? = some o := by
  show (W.heap.push o)[W.heap.size]? = _
  simp
set_option maxHeartbeats 8000000 in
set_option maxRecDepth 100000 in
theorem ae_one (k : Nat) (B1 B2 : Nat) (a0 a1 : Int) (A2 : Option Addr) (c2 : Nat) (l2 : List Int) (A3 : Option Addr) (c3 : Nat) (l3 : List Int) (first s : ByteArray) (gw gh : Int) (Ap : Option Addr) (cp : Nat) (p : List Int) (W : World) (hT : TzTab W)
    (hx : W.heap[B1]? = some (.cells #[.int .i64 a0, .int .i64 a1, .slice A2 l2.length c2, .slice A3 l3.length c3] 30 (0, 0))) (hf : W.heap[B2]? = some (.cells #[.string first] 9 (0, 0)))
    (hr2 : Kd.C (Kd.int .i64) W A2 l2.length l2) (hc2 : l2.length ≤ c2) (hr3 : Kd.C (Kd.int .i64) W A3 l3.length l3) (hc3 : l3.length ≤ c3) (hrp : Kd.C (Kd.int .i64) W Ap p.length p) (hcp : p.length ≤ cp)
    (hg : impl_Figure_grid.f a0 a1 l2 l3 = some (gw, gh)) (hs : impl_grid_shape.f k gw gh p = some s) :
    Calls Tryd.prog 48 #[.slice Ap p.length cp, .pointer (some ⟨B1, 0, none⟩), .pointer (some ⟨B2, 0, none⟩)] W fun e W' => e = .returned (.bool (s.toList != first.toList)) ∧ Below W.heap.size W W' := by
  have BX := Aside0.mk (show W.drew.heap[B1]? = _ from hx)
  have BF := Aside0.mk (show W.drew.heap[B2]? = _ from hf)
  have HR2 := Aside0.mk (Kd.C_drew hr2)
  have HR3 := Aside0.mk (Kd.C_drew hr3)
  have HRp := Aside0.mk (Kd.C_drew hrp)
  have HT := Aside0.mk (tz_below hT (below_drew1 (Below.refl W.heap.size W)))
  have HC2 := Aside0.mk hc2
  have HC3 := Aside0.mk hc3
  have HCp := Aside0.mk hcp
  have HG := Aside0.mk hg
  have HSh := Aside0.mk hs
  have HB0 := Aside0.mk (below_drew1 (Below.refl W.heap.size W))
  have hu1 := Tryd.underlying30
  clear hx hf hr2 hr3 hrp hT hc2 hc3 hcp hg hs
  go_enter Tryd.func48, Tryd.ntmps48
  go_wp2
  refine start_ (n := 7) (S := fun w' => w'.cell? ⟨B1, 0, none⟩ = some (.int .i64 a0) ∧ w'.cell? ⟨B1, 1, none⟩ = some (.int .i64 a1) ∧ w'.cell? ⟨B1, 2, none⟩ = some (.slice A2 l2.length c2) ∧ w'.cell? ⟨B1, 3, none⟩ = some (.slice A3 l3.length c3) ∧ w'.cell? ⟨B2, 0, none⟩ = some (.string first)) (ds := []) #[false, false, false, false, false, false, false] (by kernel_rfl) rfl rfl ⟨(blk_cell BX.out 0).trans rfl, (blk_cell BX.out 1).trans rfl, (blk_cell BX.out 2).trans rfl, (blk_cell BX.out 3).trans rfl, (blk_cell BF.out 0).trans rfl⟩ (fun hHeld => ?_)
  generalize W.drew = wd at BX BF HR2 HR3 HRp HT HB0 hHeld ⊢
  have HWd := Aside0.mk (Below.refl wd.heap.size wd)
  refine pure_ (i := 2) (N := some 7) (v := ?_) (a' := ?_) #[false, false, true, false, false, false, false] rfl rfl (by kernel_rfl) (fun _ _ _ h => h) (Or.inl ⟨by rfl, ?_⟩) ?_ ?_
  rotate_left
  · intro w'
    go_simp
    with_reducible rfl
  rotate_left
  · simp only [Act.put, List.setIfInBounds_toArray, List.set_cons_zero, List.set_cons_succ, i64_w, i32_w]
    rfl
  refine take_ (i := 0) (N := some 5) (v := ?_) (a' := ?_) #[true, false, true, false, false, false, false] rfl rfl (by kernel_rfl) (fun _ _ _ h => h) (Or.inl ⟨by rfl, ?_⟩) hHeld ?_ ?_
  rotate_left
  · rintro w' ⟨s0, s1, s2, s3, s4⟩
    go_simp
    with_reducible rfl
  rotate_left
  · simp only [Act.put, List.setIfInBounds_toArray, List.set_cons_zero, List.set_cons_succ, i64_w, i32_w]
    rfl
  refine take_ (i := 4) (N := some 9) (v := ?_) (a' := ?_) #[true, false, true, false, true, false, false] rfl rfl (by kernel_rfl) (fun _ _ _ h => h) (Or.inl ⟨by rfl, ?_⟩) hHeld ?_ ?_
  rotate_left
  · rintro w' ⟨s0, s1, s2, s3, s4⟩
    go_simp
    with_reducible rfl
  rotate_left
  · simp only [Act.put, List.setIfInBounds_toArray, List.set_cons_zero, List.set_cons_succ, i64_w, i32_w]
    rfl
  refine one_ (i := 1) (N := some 6) #[true, true, true, false, true, false, false] rfl rfl (by kernel_rfl) (by decide) (fun K hK => ?_)
  refine goes_ Tryd.func40 (by kernel_rfl) rfl #[.agg #[.int .i64 a0, .int .i64 a1, .slice A2 l2.length c2, .slice A3 l3.length c3]] (by rfl) rfl rfl (by simp only [List.map_toArray, List.map_cons, List.map_nil]; rfl) ?_
  with_reducible refine (impl_Figure_grid.calls a0 a1 A2 c2 l2 A3 c3 l3 gw gh _ (Kd.C_below HR2.out HWd.out) HC2.out (Kd.C_below HR3.out HWd.out) HC3.out HG.out).mono ?_
  rintro e w1 ⟨rfl, hb⟩
  refine ⟨_, rfl, ?_⟩
  have HW1 := Aside0.mk (below_step HWd.out hb)
  clear hb
  refine hK.out _ _ ⟨(blk_cell (blk_below BX.out HW1.out) 0).trans rfl, (blk_cell (blk_below BX.out HW1.out) 1).trans rfl, (blk_cell (blk_below BX.out HW1.out) 2).trans rfl, (blk_cell (blk_below BX.out HW1.out) 3).trans rfl, (blk_cell (blk_below BF.out HW1.out) 0).trans rfl⟩ (fun hHeld => ?_)
  clear hK K
  refine norm_ (a' := ?_) ?_ ?_
  rotate_left
  · show Act.put _ (some 6) _ = _
    simp only [Act.put, List.setIfInBounds_toArray, List.set_cons_zero, List.set_cons_succ, i64_w, i32_w]
    rfl
  refine one_ (i := 3) (N := some 8) #[true, true, true, true, true, false, false] rfl rfl (by kernel_rfl) (by decide) (fun K hK => ?_)
  refine goes_ Tryd.func44 (by kernel_rfl) rfl #[.agg #[.int .i64 gw, .int .i64 gh], .slice Ap p.length cp] (by rfl) rfl rfl (by simp only [List.map_toArray, List.map_cons, List.map_nil]; rfl) ?_
  with_reducible refine (impl_grid_shape.calls k gw gh Ap cp p s _ (tz_below HT.out HW1.out) (Kd.C_below HRp.out HW1.out) HCp.out HSh.out).mono ?_
  rintro e w2 ⟨rfl, hb⟩
  refine ⟨_, rfl, ?_⟩
  have HW2 := Aside0.mk (below_step HW1.out hb)
  clear hb
  refine hK.out _ _ ⟨(blk_cell (blk_below BX.out HW2.out) 0).trans rfl, (blk_cell (blk_below BX.out HW2.out) 1).trans rfl, (blk_cell (blk_below BX.out HW2.out) 2).trans rfl, (blk_cell (blk_below BX.out HW2.out) 3).trans rfl, (blk_cell (blk_below BF.out HW2.out) 0).trans rfl⟩ (fun hHeld => ?_)
  clear hK K
  refine norm_ (a' := ?_) ?_ ?_
  rotate_left
  · show Act.put _ (some 8) _ = _
    simp only [Act.put, List.setIfInBounds_toArray, List.set_cons_zero, List.set_cons_succ, i64_w, i32_w]
    rfl
  refine pure_ (i := 5) (N := some 10) (v := ?_) (a' := ?_) #[true, true, true, true, true, true, false] rfl rfl (by kernel_rfl) (fun _ _ _ h => h) (Or.inl ⟨by rfl, ?_⟩) ?_ ?_
  rotate_left
  · intro w'
    go_simp
    with_reducible rfl
  rotate_left
  · simp only [Act.put, List.setIfInBounds_toArray, List.set_cons_zero, List.set_cons_succ, i64_w, i32_w]
    rfl
  refine pure_ (i := 6) (N := some 4) (v := ?_) (a' := ?_) #[true, true, true, true, true, true, true] rfl rfl (by kernel_rfl) (fun _ _ _ h => h) (Or.inl ⟨by rfl, ?_⟩) ?_ ?_
  rotate_left
  · intro w'
    go_simp
    with_reducible rfl
  rotate_left
  · simp only [Act.put, List.setIfInBounds_toArray, List.set_cons_zero, List.set_cons_succ, i64_w, i32_w]
    rfl
  refine done_ (by kernel_rfl) ?_
  go_wp2
  go_ret
  exact ⟨rfl, below_step HB0.out HW2.out⟩
structure AeTells (i : Int) (b : Bool) : Prop where mk :: (out : 0 ≤ i ↔ b = true)
/-- what the closure's calls lean on -/
structure AeIn (k : Nat) (B1 B2 : Nat) (a0 a1 : Int) (A2 : Option Addr) (c2 : Nat) (l2 : List Int) (A3 : Option Addr) (c3 : Nat) (l3 : List Int) (first : ByteArray) (gw gh : Int) (W : World) : Prop where
  T : TzTab W
  box : W.heap[B1]? = some (.cells #[.int .i64 a0, .int .i64 a1, .slice A2 l2.length c2, .slice A3 l3.length c3] 30 (0, 0))
  fst : W.heap[B2]? = some (.cells #[.string first] 9 (0, 0))
  r2 : Kd.C (Kd.int .i64) W A2 l2.length l2
  c2 : l2.length ≤ c2
  r3 : Kd.C (Kd.int .i64) W A3 l3.length l3
  c3 : l3.length ≤ c3
  g : impl_Figure_grid.f a0 a1 l2 l3 = some (gw, gh)
theorem AeIn.below {k B1 B2 : Nat} {a0 a1 : Int} {A2 : Option Addr} {c2 : Nat} {l2 : List Int} {A3 : Option Addr} {c3 : Nat} {l3 : List Int} {first : ByteArray} {gw gh : Int} {W W' : World} (h : AeIn k B1 B2 a0 a1 A2 c2 l2 A3 c3 l3 first gw gh W) (hb : Below W.heap.size W W') : AeIn k B1 B2 a0 a1 A2 c2 l2 A3 c3 l3 first gw gh W' :=
  ⟨tz_below h.T hb, blk_below h.box hb, blk_below h.fst hb, Kd.C_below h.r2 hb, h.c2, Kd.C_below h.r3 hb, h.c3, h.g⟩
theorem AeIn.one {k B1 B2 : Nat} {a0 a1 : Int} {A2 : Option Addr} {c2 : Nat} {l2 : List Int} {A3 : Option Addr} {c3 : Nat} {l3 : List Int} {first : ByteArray} {gw gh : Int} {W : World} (h : AeIn k B1 B2 a0 a1 A2 c2 l2 A3 c3 l3 first gw gh W) {Ap : Option Addr} {cp : Nat} {p : List Int} {s : ByteArray} (hrp : Kd.C (Kd.int .i64) W Ap p.length p) (hcp : p.length ≤ cp) (hs : impl_grid_shape.f k gw gh p = some s) :
    Calls Tryd.prog 48 #[.slice Ap p.length cp, .pointer (some ⟨B1, 0, none⟩), .pointer (some ⟨B2, 0, none⟩)] W fun e W' => e = .returned (.bool (s.toList != first.toList)) ∧ Below W.heap.size W W' :=
  ae_one k B1 B2 a0 a1 A2 c2 l2 A3 c3 l3 first s gw gh Ap cp p W h.T h.box h.fst h.r2 h.c2 h.r3 h.c3 hrp hcp h.g hs
set_option maxHeartbeats 4000000 in
set_option maxRecDepth 100000 in
theorem ae_idx (k B1 B2 : Nat) (a0 a1 : Int) (A2 : Option Addr) (c2 : Nat) (l2 : List Int) (A3 : Option Addr) (c3 : Nat) (l3 : List Int) (first : ByteArray) (gw gh : Int) (A : Option Addr) (c base : Nat) (ps : List (List Int)) (b : Bool) (W : World)
    (hI : AeIn k B1 B2 a0 a1 A2 c2 l2 A3 c3 l3 first gw gh W) (hS : Kd.S (Kd.slice 3 (Kd.int .i64)) 25 W base (fun _ => True) (.slice A ps.length c) ps) (hN : ps.length ≤ 9223372036854775807) (hb : aeAny k gw gh first ps = some b) :
    Calls Tryd.prog 83 #[.slice A ps.length c, .func (.func 48) #[] #[.pointer (some ⟨B1, 0, none⟩), .pointer (some ⟨B2, 0, none⟩)]] W fun e W' => (∃ i : Int, e = .returned (.int .i64 i) ∧ AeTells i b) ∧ Below W.heap.size W W' := by
  have HI := Aside0.mk hI
  have HS := Aside0.mk hS
  have HB := Aside0.mk hb
  clear hI hS hb
  go_enter Tryd.func83, Tryd.ntmps83
  go_wp2
  go_loopg [5, 8] ps.length (fun gg _ s8 wr => ∃ kk : Nat, kk ≤ ps.length ∧ ps.length - kk ≤ gg ∧ s8 = .int .i64 kk ∧ Aside0 (Below W.heap.size W wr) ∧ Aside0 (aeAny k gw gh first (ps.drop kk) = some b))
  case atStart => exact ⟨0, Nat.zero_le _, by omega, rfl, ⟨Below.refl _ _⟩, HB⟩
  case round =>
    clear HB
    obtain ⟨kk, hkk, hg, rfl, HW, HA⟩ := hrel
    by_cases hlt : kk < ps.length
    · have hltz : (kk : Int) < (ps.length : Int) := by omega
      have hk0 : (0 : Int) ≤ (kk : Int) := Int.natCast_nonneg _
      obtain ⟨ad, Ap, cp, e1, hx, hl, hi⟩ := at_L3 (Kd.S_reads' HS.out).2.2 (kk : Int) hk0 hltz
      cases e1
      have hA := HA.out
      rw [List.drop_eq_getElem_cons hlt, aeAny] at hA
      obtain ⟨s, hs, hA⟩ := Option.bind_eq_some_iff.mp hA
      have er : rd_L3 ps (kk : Int) = ps[kk] := by simp [rd_L3, hlt]
      rw [er] at hx hl hi
      generalize ps[kk] = p at hx hl hi hs
      have hcell := pw_cell_below HW.out hx
      rw [Int.toNat_natCast] at hcell
      have hcall := (HI.out.below HW.out).one (Kd.C_below hi HW.out) hl hs
      have HC := Aside0.mk hcall
      have HA' := Aside0.mk hA
      clear hcall hA hx hi hs er HA
      by_cases hq : s.toList = first.toList
      · have e2 : (s.toList != first.toList) = false := by simp [hq]
        have hA := HA'.out
        rw [if_pos hq] at hA
        have HA2 := Aside0.mk hA
        have HC2 := HC.out
        rw [e2] at HC2
        have HC3 := Aside0.mk HC2
        clear hA HC2 HC HA' e2 hq
        go_wp2_with (go_at_call 48; refine HC3.out.mono ?_; rintro e w' ⟨rfl, hbw⟩; have HW2 := Aside0.mk (below_step HW.out hbw); clear hbw)
        go_roundg (ps.length - (kk + 1))
        case measure => omega
        case rel => exact ⟨kk + 1, by omega, Nat.le_refl _, by go_num, HW2, HA2⟩
      · have e2 : (s.toList != first.toList) = true := by simpa using hq
        have hA := HA'.out
        rw [if_neg hq] at hA
        obtain rfl := Option.some.inj hA
        have HC2 := HC.out
        rw [e2] at HC2
        have HC3 := Aside0.mk HC2
        clear hA HC2 HC HA' e2 hq
        go_wp2_with (go_at_call 48; refine HC3.out.mono ?_; rintro e w' ⟨rfl, hbw⟩; have HW2 := Aside0.mk (below_step HW.out hbw); clear hbw)
        go_ret
        exact ⟨⟨_, rfl, ⟨⟨fun _ => rfl, fun _ => Int.natCast_nonneg _⟩⟩⟩, HW2.out⟩
    · have hltz : ¬ (kk : Int) < (ps.length : Int) := by omega
      have : kk = ps.length := by omega
      subst this
      have hA := HA.out
      rw [List.drop_length, aeAny] at hA
      obtain rfl := Option.some.inj hA
      clear hA HA
      go_wp2
      go_ret
      exact ⟨⟨_, rfl, ⟨⟨fun h => absurd h (by decide), fun h => by cases h⟩⟩⟩, HW.out⟩
set_option maxHeartbeats 4000000 in
set_option maxRecDepth 100000 in
theorem ae_has (k B1 B2 : Nat) (a0 a1 : Int) (A2 : Option Addr) (c2 : Nat) (l2 : List Int) (A3 : Option Addr) (c3 : Nat) (l3 : List Int) (first : ByteArray) (gw gh : Int) (A : Option Addr) (c base : Nat) (ps : List (List Int)) (b : Bool) (W : World)
    (hI : AeIn k B1 B2 a0 a1 A2 c2 l2 A3 c3 l3 first gw gh W) (hS : Kd.S (Kd.slice 3 (Kd.int .i64)) 25 W base (fun _ => True) (.slice A ps.length c) ps) (hN : ps.length ≤ 9223372036854775807) (hb : aeAny k gw gh first ps = some b) :
    Calls Tryd.prog 47 #[.slice A ps.length c, .func (.func 48) #[] #[.pointer (some ⟨B1, 0, none⟩), .pointer (some ⟨B2, 0, none⟩)]] W fun e W' => e = .returned (.bool b) ∧ Below W.heap.size W W' := by
  have HC := Aside0.mk (ae_idx k B1 B2 a0 a1 A2 c2 l2 A3 c3 l3 first gw gh A c base ps b W hI hS hN hb)
  clear hI hS hb hN
  go_enter Tryd.func47, Tryd.ntmps47
  go_wp2_with (go_at_call 83; refine HC.out.mono ?_; rintro e w' ⟨⟨i, rfl, HI⟩, hbw⟩; have HW := Aside0.mk hbw; clear hbw)
  go_ret
  refine ⟨?_, HW.out⟩
  rw [show decide (0 ≤ i) = b from by rw [Bool.eq_iff_iff]; simp only [decide_eq_true_eq]; exact HI.out]
  rfl
set_option maxHeartbeats 8000000 in
set_option maxRecDepth 100000 in
theorem impl_AreEqualPieces.calls (k : Nat) (a0 a1 : Int) (A2 : Option Addr) (c2 : Nat) (l2 : List Int) (A3 : Option Addr) (c3 : Nat) (l3 : List Int) (r1 r2 : Bool) (w : World) (hT : TzTab w) (hr2 : Kd.C (Kd.int .i64) w A2 l2.length l2) (hc2 : l2.length ≤ c2) (hr3 : Kd.C (Kd.int .i64) w A3 l3.length l3) (hc3 : l3.length ≤ c3) (h : impl_AreEqualPieces.f k a0 a1 l2 l3 = some (r1, r2)) :
    Calls Tryd.prog 20 #[.agg #[.int .i64 a0, .int .i64 a1, .slice A2 l2.length c2, .slice A3 l3.length c3]] w fun e w' => e = .returned (.tuple #[.bool r1, .bool r2]) ∧ Below w.heap.size w w' := by
  unfold impl_AreEqualPieces.f at h
  obtain ⟨⟨ps, ok⟩, h1, h⟩ := Option.bind_eq_some_iff.mp h
  have HPi := Aside0.mk h1
  have HT0 := Aside0.mk hT
  have HR2_ := Aside0.mk hr2
  have HR3_ := Aside0.mk hr3
  have HC2 := Aside0.mk hc2
  have HC3 := Aside0.mk hc3
  clear h1 hT hr2 hr3 hc2 hc3
  have hu1 := Tryd.underlying30
  cases ok with
  | false =>
    simp only [Bool.false_eq_true, if_false, Option.some.injEq, Prod.mk.injEq] at h
    obtain ⟨rfl, rfl⟩ := h
    go_enter Tryd.func20, Tryd.ntmps20
    go_wp2_with (first
      | ((with_reducible refine gate_dst (N := 1) rfl ?_); refine zbx 1 #[.int .i64 a0, .int .i64 a1, .slice A2 l2.length c2, .slice A3 l3.length c3] 30 ?_; intro B1 hgB w1 hbox hb; have BX1 := Aside0.mk hbox; have HB1 := Aside0.mk hb; have q0 : w1.cell? ⟨B1, 0, none⟩ = some (.int .i64 a0) := (blk_cell hbox 0).trans rfl; have q1 : w1.cell? ⟨B1, 1, none⟩ = some (.int .i64 a1) := (blk_cell hbox 1).trans rfl; have q2 : w1.cell? ⟨B1, 2, none⟩ = some (.slice A2 l2.length c2) := (blk_cell hbox 2).trans rfl; have q3 : w1.cell? ⟨B1, 3, none⟩ = some (.slice A3 l3.length c3) := (blk_cell hbox 3).trans rfl; clear hgB hbox hb)
      | (go_at_call 46; (with_reducible refine (impl_PiecesOf.calls k a0 a1 A2 c2 l2 A3 c3 l3 ps _ w1 (Kd.C_below HR2_.out HB1.out) HC2.out (Kd.C_below HR3_.out HB1.out) HC3.out HPi.out).mono ?_); rintro e w2 ⟨v, rfl, ho, hb⟩; have HB2 := Aside0.mk (below_step HB1.out hb); clear ho hb q0 q1 q2 q3))
    go_ret2
    exact ⟨rfl, HB2.out⟩
  | true =>
    rw [if_pos rfl] at h
    by_cases hn : 0 < ps.length
    · rw [if_pos hn] at h
      obtain ⟨⟨gw, gh⟩, hg, h⟩ := Option.bind_eq_some_iff.mp h
      obtain ⟨first, hs, h⟩ := Option.bind_eq_some_iff.mp h
      obtain ⟨b, hb, h⟩ := Option.bind_eq_some_iff.mp h
      simp only [Option.some.injEq, Prod.mk.injEq] at h
      obtain ⟨rfl, rfl⟩ := h
      have HG := Aside0.mk hg
      have HSh0 := Aside0.mk hs
      have HAny := Aside0.mk hb
      have HN := Aside0.mk hn
      have qi : (0 < ps.length) = True := eq_true hn
      have hn0 : (0 : Int) < (ps.length : Int) := by omega
      clear hg hs hb hn
      go_enter Tryd.func20, Tryd.ntmps20
      go_wp2_with (first
        | ((with_reducible refine gate_dst (N := 1) rfl ?_); refine zbx 1 #[.int .i64 a0, .int .i64 a1, .slice A2 l2.length c2, .slice A3 l3.length c3] 30 ?_; intro B1 hgB w1 hbox hb; have HGE := Aside0.mk (Nat.le_of_eq hgB.symm); have BX1 := Aside0.mk hbox; have HB1 := Aside0.mk hb; have q0 : w1.cell? ⟨B1, 0, none⟩ = some (.int .i64 a0) := (blk_cell hbox 0).trans rfl; have q1 : w1.cell? ⟨B1, 1, none⟩ = some (.int .i64 a1) := (blk_cell hbox 1).trans rfl; have q2 : w1.cell? ⟨B1, 2, none⟩ = some (.slice A2 l2.length c2) := (blk_cell hbox 2).trans rfl; have q3 : w1.cell? ⟨B1, 3, none⟩ = some (.slice A3 l3.length c3) := (blk_cell hbox 3).trans rfl; clear hgB hbox hb)
        | (go_at_call 46; (with_reducible refine (impl_PiecesOf.calls k a0 a1 A2 c2 l2 A3 c3 l3 ps _ w1 (Kd.C_below HR2_.out HB1.out) HC2.out (Kd.C_below HR3_.out HB1.out) HC3.out HPi.out).mono ?_); rintro e w2 ⟨v, rfl, ho, hb⟩; have HB2 := Aside0.mk (below_step HB1.out hb); have BX2 := Aside0.mk (blk_below BX1.out hb); have HS2 := Aside0.mk ho; obtain ⟨Av, cv, rfl⟩ := Kd.S_slice ho; have HB12 := Aside0.mk hb; clear ho hb q0 q1 q2 q3))
      obtain ⟨ad, Ap, cp, e1, hx0, hlp, hip⟩ := at_L3 (Kd.S_reads' HS2.out).2.2 0 (by decide) hn0
      cases e1
      rw [show ((0 : Int)).toNat = 0 from rfl, Addr.add_zero'] at hx0
      generalize hp0 : rd_L3 ps 0 = p at hx0 hlp hip
      have HSh : Aside0 (impl_grid_shape.f k gw gh p = some first) := ⟨by rw [← hp0]; exact HSh0.out⟩
      have HCp := Aside0.mk hlp
      have HRp := Aside0.mk (Kd.C_drew hip)
      have HX0 := Aside0.mk (show w2.drew.cell? ad = _ from hx0)
      have BX := Aside0.mk (show w2.drew.heap[B1]? = _ from BX2.out)
      have HR2 := Aside0.mk (Kd.C_drew (Kd.C_below HR2_.out HB2.out))
      have HR3 := Aside0.mk (Kd.C_drew (Kd.C_below HR3_.out HB2.out))
      have HT := Aside0.mk (tz_below HT0.out (below_drew1 HB2.out))
      have HBd := Aside0.mk (below_drew1 HB2.out)
      have HSd := Aside0.mk (Kd.S_below HS2.out (below_drew1 (Below.refl w2.heap.size w2)))
      clear hx0 hlp hip BX2 BX1 hp0 HS2
      refine start_ (n := 8) (S := fun w' => w'.cell? ⟨B1, 0, none⟩ = some (.int .i64 a0) ∧ w'.cell? ⟨B1, 1, none⟩ = some (.int .i64 a1) ∧ w'.cell? ⟨B1, 2, none⟩ = some (.slice A2 l2.length c2) ∧ w'.cell? ⟨B1, 3, none⟩ = some (.slice A3 l3.length c3) ∧ w'.cell? ad = some (.slice Ap p.length cp)) (ds := [7]) #[false, false, false, false, false, false, false, false] (by kernel_rfl) rfl rfl ⟨(blk_cell BX.out 0).trans rfl, (blk_cell BX.out 1).trans rfl, (blk_cell BX.out 2).trans rfl, (blk_cell BX.out 3).trans rfl, HX0.out⟩ (fun hHeld => ?_)
      generalize w2.drew = wd at BX HR2 HR3 HRp HX0 HT HBd HSd hHeld ⊢
      have HWd := Aside0.mk (Below.refl wd.heap.size wd)
      refine pure_ (i := 2) (N := some 16) (v := ?_) (a' := ?_) #[false, false, true, false, false, false, false, false] rfl rfl (by kernel_rfl) (fun _ _ _ h => h) (Or.inl ⟨by rfl, ?_⟩) ?_ ?_
      rotate_left
      · intro w'
        go_simp
        with_reducible rfl
      rotate_left
      · simp only [Act.put, List.setIfInBounds_toArray, List.set_cons_zero, List.set_cons_succ, i64_w, i32_w]
        rfl
      refine pure_ (i := 3) (N := some 17) (v := ?_) (a' := ?_) #[false, false, true, true, false, false, false, false] rfl rfl (by kernel_rfl) (fun _ _ _ h => h) (Or.inl ⟨by rfl, ?_⟩) ?_ ?_
      rotate_left
      · intro w'
        go_simp
        with_reducible rfl
      rotate_left
      · simp only [Act.put, List.setIfInBounds_toArray, List.set_cons_zero, List.set_cons_succ, i64_w, i32_w]
        rfl
      refine take_ (i := 0) (N := some 14) (v := ?_) (a' := ?_) #[true, false, true, true, false, false, false, false] rfl rfl (by kernel_rfl) (fun _ _ _ h => h) (Or.inl ⟨by rfl, ?_⟩) hHeld ?_ ?_
      rotate_left
      · rintro w' ⟨s0, s1, s2, s3, s4⟩
        go_simp
        with_reducible rfl
      rotate_left
      · simp only [Act.put, List.setIfInBounds_toArray, List.set_cons_zero, List.set_cons_succ, i64_w, i32_w]
        rfl
      refine take_ (i := 4) (N := some 18) (v := ?_) (a' := ?_) #[true, false, true, true, true, false, false, false] rfl rfl (by kernel_rfl) (fun _ _ _ h => h) (Or.inl ⟨by rfl, ?_⟩) hHeld ?_ ?_
      rotate_left
      · rintro w' ⟨s0, s1, s2, s3, s4⟩
        go_simp
        with_reducible rfl
      rotate_left
      · simp only [Act.put, List.setIfInBounds_toArray, List.set_cons_zero, List.set_cons_succ, i64_w, i32_w]
        rfl
      refine join_ (σ := Nat) 1 #[true, true, true, true, true, true, true, false] (fun s => [(15, .agg #[.int .i64 gw, .int .i64 gh]), (19, .string first), (6, .pointer (some ⟨s, 0, none⟩))]) (fun s w' => Below wd.heap.size wd w' ∧ wd.heap.size ≤ s ∧ w'.heap[s]? = some (.cells #[.string ⟨#[]⟩] 9 (0, 0))) ?_ ?_
      rotate_left
      · intro hCont
        refine two_ (i := 1) (j := 6) (Ni := some 15) (Nj := some 6) #[true, true, true, true, true, false, false, false] #[true, false, true, true, true, false, true, false] rfl rfl rfl rfl (by kernel_rfl) (by decide) (by decide) (fun K hK => ?_) (fun K hK => ?_)
        · skip
          refine goes_ Tryd.func40 (by kernel_rfl) rfl #[.agg #[.int .i64 a0, .int .i64 a1, .slice A2 l2.length c2, .slice A3 l3.length c3]] (by rfl) rfl rfl (by simp only [List.map_toArray, List.map_cons, List.map_nil]; rfl) ?_
          with_reducible refine (impl_Figure_grid.calls a0 a1 A2 c2 l2 A3 c3 l3 gw gh _ (Kd.C_below HR2.out HWd.out) HC2.out (Kd.C_below HR3.out HWd.out) HC3.out HG.out).mono ?_
          rintro e w1 ⟨rfl, hb⟩
          refine ⟨_, rfl, ?_⟩
          have HX1 := Aside0.mk (below_step HWd.out hb)
          clear hb
          refine hK.out _ _ ⟨(blk_cell (blk_below BX.out HX1.out) 0).trans rfl, (blk_cell (blk_below BX.out HX1.out) 1).trans rfl, (blk_cell (blk_below BX.out HX1.out) 2).trans rfl, (blk_cell (blk_below BX.out HX1.out) 3).trans rfl, pw_cell_below HX1.out HX0.out⟩ (fun hHeld => ?_)
          clear hK K
          refine norm_ (a' := ?_) ?_ ?_
          rotate_left
          · show Act.put _ (some 15) _ = _
            simp only [Act.put, List.setIfInBounds_toArray, List.set_cons_zero, List.set_cons_succ, i64_w, i32_w]
            rfl
          refine two_ (i := 5) (j := 6) (Ni := some 19) (Nj := some 6) #[true, true, true, true, true, true, false, false] #[true, true, true, true, true, false, true, false] rfl rfl rfl rfl (by kernel_rfl) (by decide) (by decide) (fun K hK => ?_) (fun K hK => ?_)
          · skip
            refine goes_ Tryd.func44 (by kernel_rfl) rfl #[.agg #[.int .i64 gw, .int .i64 gh], .slice Ap p.length cp] (by rfl) rfl rfl (by simp only [List.map_toArray, List.map_cons, List.map_nil]; rfl) ?_
            with_reducible refine (impl_grid_shape.calls k gw gh Ap cp p first _ (tz_below HT.out HX1.out) (Kd.C_below HRp.out HX1.out) HCp.out HSh.out).mono ?_
            rintro e w5 ⟨rfl, hb⟩
            refine ⟨_, rfl, ?_⟩
            have HX15 := Aside0.mk (below_step HX1.out hb)
            clear hb
            refine hK.out _ _ ⟨(blk_cell (blk_below BX.out HX15.out) 0).trans rfl, (blk_cell (blk_below BX.out HX15.out) 1).trans rfl, (blk_cell (blk_below BX.out HX15.out) 2).trans rfl, (blk_cell (blk_below BX.out HX15.out) 3).trans rfl, pw_cell_below HX15.out HX0.out⟩ (fun hHeld => ?_)
            clear hK K
            refine norm_ (a' := ?_) ?_ ?_
            rotate_left
            · show Act.put _ (some 19) _ = _
              simp only [Act.put, List.setIfInBounds_toArray, List.set_cons_zero, List.set_cons_succ, i64_w, i32_w]
              rfl
            refine one_ (i := 6) (N := some 6) #[true, true, true, true, true, true, true, false] rfl rfl (by kernel_rfl) (by decide) (fun K hK => ?_)
            refine value_ (w1 := ?_) (v := ?_) (by rfl) rfl ?_ ?_
            rotate_left 2
            · go_simp
              constructor
              · rfl
              · rfl
            have HX156 := Aside0.mk (below_alloc HX15.out (.cells #[.string ⟨#[]⟩] 9))
            have BA156 := Aside0.mk (ae_at (W := w5) (o := .cells #[.string ⟨#[]⟩] 9))
            refine hK.out _ _ ⟨(blk_cell (blk_below BX.out HX156.out) 0).trans rfl, (blk_cell (blk_below BX.out HX156.out) 1).trans rfl, (blk_cell (blk_below BX.out HX156.out) 2).trans rfl, (blk_cell (blk_below BX.out HX156.out) 3).trans rfl, pw_cell_below HX156.out HX0.out⟩ (fun hHeld => ?_)
            clear hK K
            refine norm_ (a' := ?_) ?_ ?_
            rotate_left
            · show Act.put _ (some 6) _ = _
              simp only [Act.put, List.setIfInBounds_toArray, List.set_cons_zero, List.set_cons_succ, i64_w, i32_w]
              rfl
            exact norm_ (by simp only [putAll, Act.put, List.setIfInBounds_toArray, List.set_cons_zero, List.set_cons_succ]) (hCont w5.heap.size _ ⟨HX156.out, below_size HX15.out, BA156.out⟩)
          · skip
            refine value_ (w1 := ?_) (v := ?_) (by rfl) rfl ?_ ?_
            rotate_left 2
            · go_simp
              constructor
              · rfl
              · rfl
            have HX16 := Aside0.mk (below_alloc HX1.out (.cells #[.string ⟨#[]⟩] 9))
            have BA16 := Aside0.mk (ae_at (W := w1) (o := .cells #[.string ⟨#[]⟩] 9))
            refine hK.out _ _ ⟨(blk_cell (blk_below BX.out HX16.out) 0).trans rfl, (blk_cell (blk_below BX.out HX16.out) 1).trans rfl, (blk_cell (blk_below BX.out HX16.out) 2).trans rfl, (blk_cell (blk_below BX.out HX16.out) 3).trans rfl, pw_cell_below HX16.out HX0.out⟩ (fun hHeld => ?_)
            clear hK K
            refine norm_ (a' := ?_) ?_ ?_
            rotate_left
            · show Act.put _ (some 6) _ = _
              simp only [Act.put, List.setIfInBounds_toArray, List.set_cons_zero, List.set_cons_succ, i64_w, i32_w]
              rfl
            refine one_ (i := 5) (N := some 19) #[true, true, true, true, true, true, true, false] rfl rfl (by kernel_rfl) (by decide) (fun K hK => ?_)
            refine goes_ Tryd.func44 (by kernel_rfl) rfl #[.agg #[.int .i64 gw, .int .i64 gh], .slice Ap p.length cp] (by rfl) rfl rfl (by simp only [List.map_toArray, List.map_cons, List.map_nil]; rfl) ?_
            with_reducible refine (impl_grid_shape.calls k gw gh Ap cp p first _ (tz_below HT.out HX16.out) (Kd.C_below HRp.out HX16.out) HCp.out HSh.out).mono ?_
            rintro e w5 ⟨rfl, hb⟩
            refine ⟨_, rfl, ?_⟩
            have HX165 := Aside0.mk (below_step HX16.out hb)
            have BA165 := Aside0.mk (blk_below BA16.out hb)
            clear hb
            refine hK.out _ _ ⟨(blk_cell (blk_below BX.out HX165.out) 0).trans rfl, (blk_cell (blk_below BX.out HX165.out) 1).trans rfl, (blk_cell (blk_below BX.out HX165.out) 2).trans rfl, (blk_cell (blk_below BX.out HX165.out) 3).trans rfl, pw_cell_below HX165.out HX0.out⟩ (fun hHeld => ?_)
            clear hK K
            refine norm_ (a' := ?_) ?_ ?_
            rotate_left
            · show Act.put _ (some 19) _ = _
              simp only [Act.put, List.setIfInBounds_toArray, List.set_cons_zero, List.set_cons_succ, i64_w, i32_w]
              rfl
            exact norm_ (by simp only [putAll, Act.put, List.setIfInBounds_toArray, List.set_cons_zero, List.set_cons_succ]) (hCont w1.heap.size _ ⟨HX165.out, below_size HX1.out, BA165.out⟩)
        · skip
          refine value_ (w1 := ?_) (v := ?_) (by rfl) rfl ?_ ?_
          rotate_left 2
          · go_simp
            constructor
            · rfl
            · rfl
          have HX6 := Aside0.mk (below_alloc HWd.out (.cells #[.string ⟨#[]⟩] 9))
          have BA6 := Aside0.mk (ae_at (W := wd) (o := .cells #[.string ⟨#[]⟩] 9))
          refine hK.out _ _ ⟨(blk_cell (blk_below BX.out HX6.out) 0).trans rfl, (blk_cell (blk_below BX.out HX6.out) 1).trans rfl, (blk_cell (blk_below BX.out HX6.out) 2).trans rfl, (blk_cell (blk_below BX.out HX6.out) 3).trans rfl, pw_cell_below HX6.out HX0.out⟩ (fun hHeld => ?_)
          clear hK K
          refine norm_ (a' := ?_) ?_ ?_
          rotate_left
          · show Act.put _ (some 6) _ = _
            simp only [Act.put, List.setIfInBounds_toArray, List.set_cons_zero, List.set_cons_succ, i64_w, i32_w]
            rfl
          refine one_ (i := 1) (N := some 15) #[true, true, true, true, true, false, true, false] rfl rfl (by kernel_rfl) (by decide) (fun K hK => ?_)
          refine goes_ Tryd.func40 (by kernel_rfl) rfl #[.agg #[.int .i64 a0, .int .i64 a1, .slice A2 l2.length c2, .slice A3 l3.length c3]] (by rfl) rfl rfl (by simp only [List.map_toArray, List.map_cons, List.map_nil]; rfl) ?_
          with_reducible refine (impl_Figure_grid.calls a0 a1 A2 c2 l2 A3 c3 l3 gw gh _ (Kd.C_below HR2.out HX6.out) HC2.out (Kd.C_below HR3.out HX6.out) HC3.out HG.out).mono ?_
          rintro e w1 ⟨rfl, hb⟩
          refine ⟨_, rfl, ?_⟩
          have HX61 := Aside0.mk (below_step HX6.out hb)
          have BA61 := Aside0.mk (blk_below BA6.out hb)
          clear hb
          refine hK.out _ _ ⟨(blk_cell (blk_below BX.out HX61.out) 0).trans rfl, (blk_cell (blk_below BX.out HX61.out) 1).trans rfl, (blk_cell (blk_below BX.out HX61.out) 2).trans rfl, (blk_cell (blk_below BX.out HX61.out) 3).trans rfl, pw_cell_below HX61.out HX0.out⟩ (fun hHeld => ?_)
          clear hK K
          refine norm_ (a' := ?_) ?_ ?_
          rotate_left
          · show Act.put _ (some 15) _ = _
            simp only [Act.put, List.setIfInBounds_toArray, List.set_cons_zero, List.set_cons_succ, i64_w, i32_w]
            rfl
          refine one_ (i := 5) (N := some 19) #[true, true, true, true, true, true, true, false] rfl rfl (by kernel_rfl) (by decide) (fun K hK => ?_)
          refine goes_ Tryd.func44 (by kernel_rfl) rfl #[.agg #[.int .i64 gw, .int .i64 gh], .slice Ap p.length cp] (by rfl) rfl rfl (by simp only [List.map_toArray, List.map_cons, List.map_nil]; rfl) ?_
          with_reducible refine (impl_grid_shape.calls k gw gh Ap cp p first _ (tz_below HT.out HX61.out) (Kd.C_below HRp.out HX61.out) HCp.out HSh.out).mono ?_
          rintro e w5 ⟨rfl, hb⟩
          refine ⟨_, rfl, ?_⟩
          have HX615 := Aside0.mk (below_step HX61.out hb)
          have BA615 := Aside0.mk (blk_below BA61.out hb)
          clear hb
          refine hK.out _ _ ⟨(blk_cell (blk_below BX.out HX615.out) 0).trans rfl, (blk_cell (blk_below BX.out HX615.out) 1).trans rfl, (blk_cell (blk_below BX.out HX615.out) 2).trans rfl, (blk_cell (blk_below BX.out HX615.out) 3).trans rfl, pw_cell_below HX615.out HX0.out⟩ (fun hHeld => ?_)
          clear hK K
          refine norm_ (a' := ?_) ?_ ?_
          rotate_left
          · show Act.put _ (some 19) _ = _
            simp only [Act.put, List.setIfInBounds_toArray, List.set_cons_zero, List.set_cons_succ, i64_w, i32_w]
            rfl
          exact norm_ (by simp only [putAll, Act.put, List.setIfInBounds_toArray, List.set_cons_zero, List.set_cons_succ]) (hCont wd.heap.size _ ⟨HX615.out, below_size HWd.out, BA615.out⟩)
      rintro B2 w6 ⟨hb6, hs6, ha6⟩
      have HX6 := Aside0.mk hb6
      have HS6 := Aside0.mk hs6
      have BA6 := Aside0.mk ha6
      have q0 : w6.cell? ⟨B2, 0, none⟩ = some (.string ⟨#[]⟩) := (blk_cell ha6 0).trans rfl
      have f0 := blk_frozen ha6 0
      clear hb6 hs6 ha6
      refine norm_ (a' := ?_) ?_ ?_
      rotate_left
      · simp only [putAll, Act.put, List.setIfInBounds_toArray, List.set_cons_zero, List.set_cons_succ]
        rfl
      refine last_ (i := 7) (N := none) #[true, true, true, true, true, true, true, true] rfl rfl (by kernel_rfl) (by decide) (fun K hK => ?_)
      refine skip_ (w1 := ?_) (by rfl) rfl ?_ ?_
      rotate_left
      · go_simp
        rfl
      refine hK.out _ _ ?_
      clear hK K
      refine done_ (by kernel_rfl) ?_
      have hB7 : Below wd.heap.size wd (w6.setCell ⟨B2, 0, none⟩ (.string first)) := below_set HX6.out HS6.out
      have hF7 := blk_put (cs' := #[.string first]) BA6.out 0 (.string first) rfl
      have HI7 := Aside0.mk (show AeIn k B1 B2 a0 a1 A2 c2 l2 A3 c3 l3 first gw gh (w6.setCell ⟨B2, 0, none⟩ (.string first)) from ⟨tz_below HT.out hB7, blk_below BX.out hB7, hF7, Kd.C_below HR2.out hB7, HC2.out, Kd.C_below HR3.out hB7, HC3.out, HG.out⟩)
      have HS7 := Aside0.mk (Kd.S_below HSd.out hB7)
      have HN7 := Aside0.mk (Kd.C_max (Kd.S_reads' HSd.out).2.2)
      have HB7 := Aside0.mk (below_step HBd.out hB7)
      clear hB7 hF7 q0 f0 hHeld
      have hmf : ∀ (fn : Fn) (first cap : Array Value) (w : World), (Instr.makeFunc fn first cap).run Tryd.prog w = .ok (.func fn first cap) w := fun _ _ _ _ => rfl
      go_wp2_with (go_at_call 47; (with_reducible refine (ae_has k B1 B2 a0 a1 A2 c2 l2 A3 c3 l3 first gw gh _ cv _ ps b _ HI7.out HS7.out HN7.out HAny.out).mono ?_); rintro e w8 ⟨rfl, hbw⟩; have HB8 := Aside0.mk (below_step HB7.out hbw); clear hbw)
      go_ret2
      exact ⟨rfl, HB8.out⟩
    · rw [if_neg hn] at h; cases h
end Go.Proofs.YtfkbjflndkjlnaaDoor.P
