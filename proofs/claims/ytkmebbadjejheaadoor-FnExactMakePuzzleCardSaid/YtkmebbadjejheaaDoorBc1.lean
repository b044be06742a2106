import Derived.Test.YtkmebbadjejheaaDoorBd
import Derived.Test.YtkmebbadjejheaaDoorBc0
namespace Go.Proofs.YtkmebbadjejheaaDoor.B
open Go.RowKit Go.Proofs.YtkmebbadjejheaaDoorW.PrintWords Go.Proofs.YtkmebbadjejheaaDoorW.PrintLast Go.Proofs.YtkmebbadjejheaaDoorW.PrintMore
attribute [local go_sem] max2_int min2_int max_two min_two max_three min_three max_four min_four
set_option linter.unusedVariables false
set_option linter.unusedSimpArgs false

/-! ### impl_grid_figure: function 30 -/
def impl_grid_figure.T2 : Bool × List (List Nat × List Nat) := (true, [([], []), ([0], [0]), ([], []), ([2], [2]), ([], []), ([], []), ([4, 5], [4, 5]), ([6], [6]), ([], []), ([], []), ([9, 7], [9]), ([8, 10], [8, 10]), ([11, 10], [11]), ([1, 3, 7, 12], [1, 3, 7, 12]), ([13, 12, 0, 1, 2, 3, 4, 5, 6, 7, 8, 9, 10, 11, 12, 13], [13])])
def impl_grid_figure.B2 : List Nat := [0, 1, 0, 4, 0, 0, 48, 112, 0, 0, 752, 2032, 4080, 8191, 16383]
theorem impl_grid_figure.tab2 : rtab .any (opsOf Tryd.f30 2) = impl_grid_figure.T2 := by kernel_rfl
theorem impl_grid_figure.bits2 : waitsOk impl_grid_figure.T2.2 impl_grid_figure.B2 = true := by kernel_rfl
set_option maxHeartbeats 8000000 in
set_option maxRecDepth 100000 in
theorem impl_grid_figure.calls (k : Nat) (a0_0 : Int) (a0_1 : Int) (a1 : Int) (r1 : Int) (r2 : Int) (r3 : List Int) (r4 : List Int) (w : World) (hT : TzTab w) (h : impl_grid_figure.f k a0_0 a0_1 a1 = some (r1, r2, r3, r4)) :
    Calls Tryd.prog 30 #[.agg #[.int .i64 a0_0, .int .i64 a0_1], .int .u64 a1] w fun e w' => ∃ v2_ v3_ : Value, e = .returned (.agg #[.int .i64 r1, .int .i64 r2, v2_, v3_]) ∧ Kd.R (Kd.int .i64) 3 w' w.heap.size (fun k_ => some k_ ≠ (v3_ : Value).ownBlock) v2_ r3 ∧ Kd.R (Kd.int .i64) 3 w' w.heap.size (fun k_ => some k_ ≠ (v2_ : Value).ownBlock) v3_ r4 ∧ Below w.heap.size w w' := by
  have hu49 := Tryd.underlying49
  have hu24 := Tryd.underlying24
  have HT := Aside0.mk hT
  clear hT
  have HB := Aside0.mk (Below.refl w.heap.size w)
  have H : ((impl_grid_levels.f a0_0 a0_1).bind fun t116 => (if 0 ≤ t116 then ((impl_set_listed.f k (Go.bits .and .u64 a1 (IntKind.u64.wrap ((shl .u64 1 t116) - 1)))).bind fun t117 => ((impl_grid_levels.f a0_0 a0_1).bind fun t120 => (if 0 ≤ t120 then ((impl_set_listed.f k (shr .u64 a1 t120)).bind fun t121 => (some (a0_0, a0_1, t117, t121))) else (none)))) else (none))) = some (r1, r2, r3, r4) := h
  clear h
  replace H := Option.bind_eq_some_iff.mp H
  obtain ⟨t116, A30, H⟩ := H
  replace H : (if 0 ≤ t116 then ((impl_set_listed.f k (Go.bits .and .u64 a1 (IntKind.u64.wrap ((shl .u64 1 t116) - 1)))).bind fun t117 => ((impl_grid_levels.f a0_0 a0_1).bind fun t120 => (if 0 ≤ t120 then ((impl_set_listed.f k (shr .u64 a1 t120)).bind fun t121 => (some (a0_0, a0_1, t117, t121))) else (none)))) else (none)) = some (r1, r2, r3, r4) := H
  have A3 := Aside0.mk A30
  clear A30
  by_cases c4 : 0 ≤ t116
  · rw [if_pos c4] at H
    have c4b0 := eq_true c4
    have c4b1 : decide (0 ≤ t116) = true := decide_eq_true c4
    clear c4
    obtain ⟨ji5, hji5⟩ : ∃ j_ : Int, (shl .u64 1 t116) = j_ := ⟨_, rfl⟩
    replace H : ((impl_set_listed.f k (Go.bits .and .u64 a1 (IntKind.u64.wrap ((ji5) - 1)))).bind fun t117 => ((impl_grid_levels.f a0_0 a0_1).bind fun t120 => (if 0 ≤ t120 then ((impl_set_listed.f k (shr .u64 a1 t120)).bind fun t121 => (some (a0_0, a0_1, t117, t121))) else (none)))) = some (r1, r2, r3, r4) := by first | (rw [hji5] at H; exact H) | (simp only [hji5] at H ⊢; exact H)
    (try rw [hji5] at A3)
    have hji5_ : (IntKind.u64.wrap (1 * 2 ^ min t116.toNat 64)) = ji5 := hji5
    have hji5z : t116 ≤ 64 → (IntKind.u64.wrap (1 * 2 ^ t116.toNat)) = ji5 := shl_small hji5
    have hji5u : (IntKind.u64.wrap (2 ^ min t116.toNat 64)) = ji5 := by have h_ := hji5_; rw [Int.one_mul] at h_; exact h_
    have hji5v : t116 ≤ 64 → (IntKind.u64.wrap (2 ^ t116.toNat)) = ji5 := fun hle_ => by have h_ := hji5z hle_; rw [Int.one_mul] at h_; exact h_
    replace H := Option.bind_eq_some_iff.mp H
    obtain ⟨t117, A60, H⟩ := H
    replace H : ((impl_grid_levels.f a0_0 a0_1).bind fun t120 => (if 0 ≤ t120 then ((impl_set_listed.f k (shr .u64 a1 t120)).bind fun t121 => (some (a0_0, a0_1, t117, t121))) else (none))) = some (r1, r2, r3, r4) := H
    have A6 := Aside0.mk A60
    clear A60
    replace H := Option.bind_eq_some_iff.mp H
    obtain ⟨t120, A70, H⟩ := H
    replace H : (if 0 ≤ t120 then ((impl_set_listed.f k (shr .u64 a1 t120)).bind fun t121 => (some (a0_0, a0_1, t117, t121))) else (none)) = some (r1, r2, r3, r4) := H
    have A7 := Aside0.mk A70
    clear A70
    by_cases c8 : 0 ≤ t120
    · rw [if_pos c8] at H
      have c8b0 := eq_true c8
      have c8b1 : decide (0 ≤ t120) = true := decide_eq_true c8
      clear c8
      obtain ⟨ji9, hji9⟩ : ∃ j_ : Int, (shr .u64 a1 t120) = j_ := ⟨_, rfl⟩
      replace H : ((impl_set_listed.f k (ji9)).bind fun t121 => (some (a0_0, a0_1, t117, t121))) = some (r1, r2, r3, r4) := by first | (rw [hji9] at H; exact H) | (simp only [hji9] at H ⊢; exact H)
      (try rw [hji9] at A3)
      (try rw [hji9] at A6)
      (try rw [hji9] at A7)
      have hji9_ : (a1 / 2 ^ min t120.toNat 64) = ji9 := hji9
      have hji9z : t120 ≤ 64 → (a1 / 2 ^ t120.toNat) = ji9 := shr_small hji9
      replace H := Option.bind_eq_some_iff.mp H
      obtain ⟨t121, A100, H⟩ := H
      replace H : (some (a0_0, a0_1, t117, t121)) = some (r1, r2, r3, r4) := H
      have A10 := Aside0.mk A100
      clear A100
      simp only [Option.some.injEq, Prod.mk.injEq] at H
      obtain ⟨rfl, rfl, rfl, rfl⟩ := H
      go_enter Tryd.func30, Tryd.ntmps30
      try go_wp2_with (first | ((with_reducible refine gate_dst (N := 2) rfl ?_); refine box_event ?hg (N := 2) ?hd (cs := #[.int .i64 a0_0, .int .i64 a0_1]) (t := 49) ?hr ?_; (case hd => rfl); (case hg => rfl); (case hr => first | (go_simp; done) | (go_simp; rfl)); intro gb114 hg w11 hbox hb; have n0_ := Aside0.mk (below_step (by repeat (first | (with_reducible first | exact HB.out | apply below_alloc | apply pw_below_drewN | apply below_drew1) | exact HB.out)) hb); have n1_ := Aside0.mk (hbox); have n2_ := Aside0.mk ((by rw [hg]; exact (below_size (by repeat (first | (with_reducible first | exact HB.out | apply below_alloc | apply pw_below_drewN | apply below_drew1) | exact HB.out))) : w.heap.size ≤ gb114)); have n3_ := Aside0.mk ((by rw [hg]; exact (below_size (by repeat (first | (with_reducible first | exact HB.out | apply below_alloc | apply pw_below_drewN | apply below_drew1) | exact HB.out))) : w.heap.size ≤ gb114)); clear HB; have HB := n0_; have BK114 := n1_; have GW114 := n2_; have GE114 := n3_; clear n0_ n1_ n2_ n3_; clear hb hbox hg) | ((with_reducible refine gate_dst (N := 4) rfl ?_); refine box_event ?hg (N := 4) ?hd (cs := #[.int .i64 0, .int .i64 0, .slice none 0 0, .slice none 0 0]) (t := 24) ?hr ?_; (case hd => rfl); (case hg => rfl); (case hr => first | (go_simp; done) | (go_simp; rfl)); intro gb115 hg w12 hbox hb; have n0_ := Aside0.mk (blk_below (g := gb114) (o := .cells #[.int .i64 a0_0, .int .i64 a0_1] 49 (0, 0)) (by (with_reducible repeat (first | refine blk_drewN ?_ _ | refine blk_drew ?_ | refine blk_alloc ?_ _)); exact BK114.out) hb); have n1_ := Aside0.mk (below_step (by repeat (first | (with_reducible first | exact HB.out | apply below_alloc | apply pw_below_drewN | apply below_drew1 | refine below_set ?_ GE114.out) | exact HB.out)) hb); have n2_ := Aside0.mk (hbox); have n3_ := Aside0.mk ((by rw [hg]; exact (below_size (by repeat (first | (with_reducible first | exact HB.out | apply below_alloc | apply pw_below_drewN | apply below_drew1 | refine below_set ?_ GE114.out) | exact HB.out))) : w.heap.size ≤ gb115)); have n4_ := Aside0.mk ((by rw [hg]; exact (below_size (by repeat (first | (with_reducible first | exact HB.out | apply below_alloc | apply pw_below_drewN | apply below_drew1 | refine below_set ?_ GE114.out) | exact HB.out))) : w.heap.size ≤ gb115)); have n5_ := Aside0.mk ((by rw [hg]; exact Nat.ne_of_lt (blk_lt (g := gb114) (o := .cells #[.int .i64 a0_0, .int .i64 a0_1] 49 (0, 0)) (by (with_reducible repeat (first | refine blk_drewN ?_ _ | refine blk_drew ?_ | refine blk_alloc ?_ _)); exact BK114.out)) : gb114 ≠ gb115)); have n6_ := Aside0.mk ((by rw [hg]; exact Nat.ne_of_gt (blk_lt (g := gb114) (o := .cells #[.int .i64 a0_0, .int .i64 a0_1] 49 (0, 0)) (by (with_reducible repeat (first | refine blk_drewN ?_ _ | refine blk_drew ?_ | refine blk_alloc ?_ _)); exact BK114.out)) : gb115 ≠ gb114)); clear BK114; clear HB; have BK114 := n0_; have HB := n1_; have BK115 := n2_; have GW115 := n3_; have GE115 := n4_; have NB114_115 := n5_; have NB115_114 := n6_; clear n0_ n1_ n2_ n3_ n4_ n5_ n6_; clear hb hbox hg; have hnb13 := NB114_115.out; have hnc13 := NB115_114.out; have hcz14_0 : w12.cell? ⟨gb114, 0, none⟩ = some (.int .i64 a0_0) := (blk_cell BK114.out 0).trans rfl; have hcz14_1 : w12.cell? ⟨gb114, 1, none⟩ = some (.int .i64 a0_1) := (blk_cell BK114.out 1).trans rfl; have hfz14_0 := blk_frozen BK114.out 0; have hfz14_1 := blk_frozen BK114.out 1) | ((with_reducible refine gate_callee (f := 37) rfl ?_); refine goesL_ (some 7) rfl rfl Tryd.func37 (by kernel_rfl) rfl #[.agg #[.int .i64 a0_0, .int .i64 a0_1]] rfl (by (try simp only [List.map_toArray, List.map_cons, List.map_nil]); first | done | rfl | (simp only [List.length_drop, List.length_take]; rfl)) ?_; (with_reducible refine (impl_grid_levels.calls a0_0 a0_1 t116 _ A3.out).mono ?_); rintro e w15 ⟨rfl, hb⟩; refine ⟨_, rfl, ?_⟩; have n0_ := Aside0.mk (blk_below (g := gb114) (o := .cells #[.int .i64 a0_0, .int .i64 a0_1] 49 (0, 0)) (by (with_reducible repeat (first | refine blk_drewN ?_ _ | refine blk_drew ?_ | refine blk_alloc ?_ _)); exact BK114.out) hb); have n1_ := Aside0.mk (blk_below (g := gb115) (o := .cells #[.int .i64 0, .int .i64 0, .slice none 0 0, .slice none 0 0] 24 (0, 0)) (by (with_reducible repeat (first | refine blk_drewN ?_ _ | refine blk_drew ?_ | refine blk_alloc ?_ _)); exact BK115.out) hb); have n2_ := Aside0.mk (below_step (by repeat (first | (with_reducible first | exact HB.out | apply below_alloc | apply pw_below_drewN | apply below_drew1 | refine below_set ?_ GE114.out | refine below_set ?_ GE115.out) | exact HB.out)) hb); clear BK114; clear BK115; clear HB; have BK114 := n0_; have BK115 := n1_; have HB := n2_; clear n0_ n1_ n2_; (try clear hb); (try clear hb2); (try clear hk); (try clear hi)))
      have n0_ := Aside0.mk (blk_drew BK114.out)
      have n1_ := Aside0.mk (blk_drew BK115.out)
      have n2_ := Aside0.mk (below_drew1 HB.out)
      clear BK114
      clear BK115
      clear HB
      have BK114 := n0_
      have BK115 := n1_
      have HB := n2_
      clear n0_ n1_ n2_
      refine start_ (n := 15) (S := fun w' => w'.cell? ⟨gb114, 0, none⟩ = some (.int .i64 a0_0) ∧ w'.cell? ⟨gb114, 1, none⟩ = some (.int .i64 a0_1)) (ds := []) #[false, false, false, false, false, false, false, false, false, false, false, false, false, false, false] (by kernel_rfl) rfl rfl ⟨(blk_cell BK114.out 0).trans rfl, (blk_cell BK114.out 1).trans rfl⟩ (fun hHeld => ?_); refine with_tabW impl_grid_figure.tab2 impl_grid_figure.bits2 (fun HT_ HW_ => ?_)
      generalize w15.drew = w16 at BK114 BK115 HB hHeld ⊢
      refine pure_ (i := 0) (N := some 10) (v := ?_) (a' := ?_) #[true, false, false, false, false, false, false, false, false, false, false, false, false, false, false] rfl rfl (any_of HT_.out (by kernel_rfl)) (fun _ _ _ h => h) (Or.inl ⟨by rfl, ?_⟩) ?_ ?_
      rotate_left
      · intro w'
        go_simp
        with_reducible rfl
      rotate_left
      · simp only [Act.put, List.setIfInBounds_toArray, List.set_cons_zero, List.set_cons_succ, i64_w, i32_w]
        rfl
      refine pure_ (i := 2) (N := some 12) (v := ?_) (a' := ?_) #[true, false, true, false, false, false, false, false, false, false, false, false, false, false, false] rfl rfl (any_of HT_.out (by kernel_rfl)) (fun _ _ _ h => h) (Or.inl ⟨by rfl, ?_⟩) ?_ ?_
      rotate_left
      · intro w'
        go_simp
        with_reducible rfl
      rotate_left
      · simp only [Act.put, List.setIfInBounds_toArray, List.set_cons_zero, List.set_cons_succ, i64_w, i32_w]
        rfl
      refine pure_ (i := 4) (N := some 14) (v := ?_) (a' := ?_) #[true, false, true, false, true, false, false, false, false, false, false, false, false, false, false] rfl rfl (any_of HT_.out (by kernel_rfl)) (fun _ _ _ h => h) (Or.inl ⟨by rfl, ?_⟩) ?_ ?_
      rotate_left
      · intro w'
        go_simp
        with_reducible rfl
      rotate_left
      · simp only [Act.put, List.setIfInBounds_toArray, List.set_cons_zero, List.set_cons_succ, i64_w, i32_w]
        rfl
      refine pure_ (i := 5) (N := some 15) (v := ?_) (a' := ?_) #[true, false, true, false, true, true, false, false, false, false, false, false, false, false, false] rfl rfl (any_of HT_.out (by kernel_rfl)) (fun _ _ _ h => h) (Or.inl ⟨by rfl, ?_⟩) ?_ ?_
      rotate_left
      · intro w'
        go_simp
        with_reducible rfl
      rotate_left
      · simp only [Act.put, List.setIfInBounds_toArray, List.set_cons_zero, List.set_cons_succ, i64_w, i32_w]
        rfl
      refine pure_ (i := 6) (N := some 16) (v := ?_) (a' := ?_) #[true, false, true, false, true, true, true, false, false, false, false, false, false, false, false] rfl rfl (any_of HT_.out (by kernel_rfl)) (fun _ _ _ h => h) (Or.inl ⟨by rfl, ?_⟩) ?_ ?_
      rotate_left
      · intro w'
        go_simp
        with_reducible rfl
      rotate_left
      · simp only [Act.put, List.setIfInBounds_toArray, List.set_cons_zero, List.set_cons_succ, i64_w, i32_w]
        rfl
      refine pure_ (i := 8) (N := some 18) (v := ?_) (a' := ?_) #[true, false, true, false, true, true, true, false, true, false, false, false, false, false, false] rfl rfl (any_of HT_.out (by kernel_rfl)) (fun _ _ _ h => h) (Or.inl ⟨by rfl, ?_⟩) ?_ ?_
      rotate_left
      · intro w'
        go_simp
        with_reducible rfl
      rotate_left
      · simp only [Act.put, List.setIfInBounds_toArray, List.set_cons_zero, List.set_cons_succ, i64_w, i32_w]
        rfl
      refine take_ (i := 1) (N := some 11) (v := ?_) (a' := ?_) #[true, true, true, false, true, true, true, false, true, false, false, false, false, false, false] rfl rfl (take_ofW HT_.out HW_.out (by kernel_rfl)) (fun _ _ _ h => h) (Or.inl ⟨by rfl, ?_⟩) hHeld ?_ ?_
      rotate_left
      · rintro w' ⟨s0, s1⟩
        go_simp
        with_reducible rfl
      rotate_left
      · simp only [Act.put, List.setIfInBounds_toArray, List.set_cons_zero, List.set_cons_succ, i64_w, i32_w]
        rfl
      refine take_ (i := 3) (N := some 13) (v := ?_) (a' := ?_) #[true, true, true, true, true, true, true, false, true, false, false, false, false, false, false] rfl rfl (take_ofW HT_.out HW_.out (by kernel_rfl)) (fun _ _ _ h => h) (Or.inl ⟨by rfl, ?_⟩) hHeld ?_ ?_
      rotate_left
      · rintro w' ⟨s0, s1⟩
        go_simp
        with_reducible rfl
      rotate_left
      · simp only [Act.put, List.setIfInBounds_toArray, List.set_cons_zero, List.set_cons_succ, i64_w, i32_w]
        rfl
      refine take_ (i := 9) (N := some 19) (v := ?_) (a' := ?_) #[true, true, true, true, true, true, true, false, true, true, false, false, false, false, false] rfl rfl (take_ofW HT_.out HW_.out (by kernel_rfl)) (fun _ _ _ h => h) (Or.inl ⟨by rfl, ?_⟩) hHeld ?_ ?_
      rotate_left
      · rintro w' ⟨s0, s1⟩
        go_simp
        with_reducible rfl
      rotate_left
      · simp only [Act.put, List.setIfInBounds_toArray, List.set_cons_zero, List.set_cons_succ, i64_w, i32_w]
        rfl
      refine one_ (i := 7) (N := some 17) #[true, true, true, true, true, true, true, true, true, true, false, false, false, false, false] rfl rfl (one_of HT_.out (by kernel_rfl)) (by decide) (fun K hK => ?_)
      refine goes_ Tryd.func28 (by kernel_rfl) rfl #[.int .u64 (Go.bits .and .u64 a1 (IntKind.u64.wrap ((ji5) - 1)))] (by rfl) rfl rfl (by (try simp only [List.map_toArray, List.map_cons, List.map_nil]); first | done | (simp only [hji5]; rfl) | rfl | (simp only [List.length_drop, List.length_take]; rfl)) ?_
      with_reducible refine (impl_set_listed.calls k (Go.bits .and .u64 a1 (IntKind.u64.wrap ((ji5) - 1))) t117 _ ?side1 A6.out).mono ?_
      (case side1 => exact tz_below HT.out (by repeat (first | (with_reducible first | exact HB.out | apply below_alloc | apply pw_below_drewN | apply below_drew1 | refine below_set ?_ GE114.out | refine below_set ?_ GE115.out) | exact HB.out)))
      rintro e w17 ⟨v118, rfl, ho0, hb⟩
      refine ⟨_, rfl, ?_⟩
      have n0_ := Aside0.mk (Kd.R_lower ho0 (below_size (by repeat (first | (with_reducible first | exact HB.out | apply below_alloc | apply pw_below_drewN | apply below_drew1 | refine below_set ?_ GE114.out | refine below_set ?_ GE115.out) | exact HB.out))))
      have n1_ := Aside0.mk (blk_below (g := gb114) (o := .cells #[.int .i64 a0_0, .int .i64 a0_1] 49 (0, 0)) (by (with_reducible repeat (first | refine blk_drewN ?_ _ | refine blk_drew ?_ | refine blk_alloc ?_ _)); exact BK114.out) hb)
      have n2_ := Aside0.mk (blk_below (g := gb115) (o := .cells #[.int .i64 0, .int .i64 0, .slice none 0 0, .slice none 0 0] 24 (0, 0)) (by (with_reducible repeat (first | refine blk_drewN ?_ _ | refine blk_drew ?_ | refine blk_alloc ?_ _)); exact BK115.out) hb)
      have n3_ := Aside0.mk (below_step (by repeat (first | (with_reducible first | exact HB.out | apply below_alloc | apply pw_below_drewN | apply below_drew1 | refine below_set ?_ GE114.out | refine below_set ?_ GE115.out) | exact HB.out)) hb)
      clear BK114
      clear BK115
      clear HB
      have HO119 := n0_
      have BK114 := n1_
      have BK115 := n2_
      have HB := n3_
      clear n0_ n1_ n2_ n3_
      (try clear hb)
      (try clear hb2)
      (try clear hk)
      (try clear hi)
      (try clear ho0)
      refine hK.out _ _ ⟨(blk_cell BK114.out 0).trans rfl, (blk_cell BK114.out 1).trans rfl⟩ (fun hHeld => ?_)
      clear hK K
      refine norm_ (a' := ?_) ?_ ?_
      rotate_left
      · show Act.put _ (some 17) _ = _
        simp only [Act.put, List.setIfInBounds_toArray, List.set_cons_zero, List.set_cons_succ, i64_w, i32_w]
        rfl
      refine one_ (i := 10) (N := some 20) #[true, true, true, true, true, true, true, true, true, true, true, false, false, false, false] rfl rfl (one_of HT_.out (by kernel_rfl)) (by decide) (fun K hK => ?_)
      refine goes_ Tryd.func37 (by kernel_rfl) rfl #[.agg #[.int .i64 a0_0, .int .i64 a0_1]] (by rfl) rfl rfl (by (try simp only [List.map_toArray, List.map_cons, List.map_nil]); first | done | rfl | (simp only [List.length_drop, List.length_take]; rfl)) ?_
      with_reducible refine (impl_grid_levels.calls a0_0 a0_1 t120 _ A7.out).mono ?_
      rintro e w18 ⟨rfl, hb⟩
      refine ⟨_, rfl, ?_⟩
      have n0_ := Aside0.mk (Kd.R_below (by (with_reducible repeat (first | apply Kd.R_alloc | apply Kd.R_drewN | apply Kd.R_drew)); exact HO119.out) hb)
      have n1_ := Aside0.mk (blk_below (g := gb114) (o := .cells #[.int .i64 a0_0, .int .i64 a0_1] 49 (0, 0)) (by (with_reducible repeat (first | refine blk_drewN ?_ _ | refine blk_drew ?_ | refine blk_alloc ?_ _)); exact BK114.out) hb)
      have n2_ := Aside0.mk (blk_below (g := gb115) (o := .cells #[.int .i64 0, .int .i64 0, .slice none 0 0, .slice none 0 0] 24 (0, 0)) (by (with_reducible repeat (first | refine blk_drewN ?_ _ | refine blk_drew ?_ | refine blk_alloc ?_ _)); exact BK115.out) hb)
      have n3_ := Aside0.mk (below_step (by repeat (first | (with_reducible first | exact HB.out | apply below_alloc | apply pw_below_drewN | apply below_drew1 | refine below_set ?_ GE114.out | refine below_set ?_ GE115.out) | exact HB.out)) hb)
      clear HO119
      clear BK114
      clear BK115
      clear HB
      have HO119 := n0_
      have BK114 := n1_
      have BK115 := n2_
      have HB := n3_
      clear n0_ n1_ n2_ n3_
      (try clear hb)
      (try clear hb2)
      (try clear hk)
      (try clear hi)
      refine hK.out _ _ ⟨(blk_cell BK114.out 0).trans rfl, (blk_cell BK114.out 1).trans rfl⟩ (fun hHeld => ?_)
      clear hK K
      refine norm_ (a' := ?_) ?_ ?_
      rotate_left
      · show Act.put _ (some 20) _ = _
        simp only [Act.put, List.setIfInBounds_toArray, List.set_cons_zero, List.set_cons_succ, i64_w, i32_w]
        rfl
      refine pure_ (i := 11) (N := some 21) (v := ?_) (a' := ?_) #[true, true, true, true, true, true, true, true, true, true, true, true, false, false, false] rfl rfl (any_of HT_.out (by kernel_rfl)) (fun _ _ _ h => h) (Or.inl ⟨by rfl, ?_⟩) ?_ ?_
      rotate_left
      · intro w'
        go_simp
        with_reducible rfl
      rotate_left
      · simp only [Act.put, List.setIfInBounds_toArray, List.set_cons_zero, List.set_cons_succ, i64_w, i32_w]
        rfl
      refine one_ (i := 12) (N := some 22) #[true, true, true, true, true, true, true, true, true, true, true, true, true, false, false] rfl rfl (one_of HT_.out (by kernel_rfl)) (by decide) (fun K hK => ?_)
      refine goes_ Tryd.func28 (by kernel_rfl) rfl #[.int .u64 ji9] (by rfl) rfl rfl (by (try simp only [List.map_toArray, List.map_cons, List.map_nil]); first | done | (simp only [hji9]; rfl) | rfl | (simp only [List.length_drop, List.length_take]; rfl)) ?_
      with_reducible refine (impl_set_listed.calls k ji9 t121 _ ?side1 A10.out).mono ?_
      (case side1 => exact tz_below HT.out (by repeat (first | (with_reducible first | exact HB.out | apply below_alloc | apply pw_below_drewN | apply below_drew1 | refine below_set ?_ GE114.out | refine below_set ?_ GE115.out) | exact HB.out)))
      rintro e w19 ⟨v122, rfl, ho0, hb⟩
      refine ⟨_, rfl, ?_⟩
      have n0_ := Aside0.mk (Kd.R_elder' (by (with_reducible repeat (first | apply Kd.R_alloc | apply Kd.R_drewN | apply Kd.R_drew)); exact HO119.out) (Kd.R_base ho0) hb)
      have n1_ := Aside0.mk (Kd.R_lower (Kd.R_new' ho0 (Kd.R_lt (by (with_reducible repeat (first | apply Kd.R_alloc | apply Kd.R_drewN | apply Kd.R_drew)); exact HO119.out))) (below_size (by repeat (first | (with_reducible first | exact HB.out | apply below_alloc | apply pw_below_drewN | apply below_drew1 | refine below_set ?_ GE114.out | refine below_set ?_ GE115.out) | exact HB.out))))
      have n2_ := Aside0.mk (blk_below (g := gb114) (o := .cells #[.int .i64 a0_0, .int .i64 a0_1] 49 (0, 0)) (by (with_reducible repeat (first | refine blk_drewN ?_ _ | refine blk_drew ?_ | refine blk_alloc ?_ _)); exact BK114.out) hb)
      have n3_ := Aside0.mk (blk_below (g := gb115) (o := .cells #[.int .i64 0, .int .i64 0, .slice none 0 0, .slice none 0 0] 24 (0, 0)) (by (with_reducible repeat (first | refine blk_drewN ?_ _ | refine blk_drew ?_ | refine blk_alloc ?_ _)); exact BK115.out) hb)
      have n4_ := Aside0.mk (below_step (by repeat (first | (with_reducible first | exact HB.out | apply below_alloc | apply pw_below_drewN | apply below_drew1 | refine below_set ?_ GE114.out | refine below_set ?_ GE115.out) | exact HB.out)) hb)
      clear HO119
      clear BK114
      clear BK115
      clear HB
      have HO119 := n0_
      have HO123 := n1_
      have BK114 := n2_
      have BK115 := n3_
      have HB := n4_
      clear n0_ n1_ n2_ n3_ n4_
      (try clear hb)
      (try clear hb2)
      (try clear hk)
      (try clear hi)
      (try clear ho0)
      obtain ⟨Ao20, co20, eo20⟩ := Kd.R_slice HO123.out
      (first | subst eo20 | (injection eo20 with f1_ f2_ f3_; have f4_ := f1_.symm; have f5_ := f3_.symm; clear f1_ f2_ f3_; subst f4_; subst f5_))
      obtain ⟨Ao21, co21, eo21⟩ := Kd.R_slice HO119.out
      (first | subst eo21 | (injection eo21 with f1_ f2_ f3_; have f4_ := f1_.symm; have f5_ := f3_.symm; clear f1_ f2_ f3_; subst f4_; subst f5_))
      refine hK.out _ _ ⟨(blk_cell BK114.out 0).trans rfl, (blk_cell BK114.out 1).trans rfl⟩ (fun hHeld => ?_)
      clear hK K
      refine norm_ (a' := ?_) ?_ ?_
      rotate_left
      · show Act.put _ (some 22) _ = _
        simp only [Act.put, List.setIfInBounds_toArray, List.set_cons_zero, List.set_cons_succ, i64_w, i32_w]
        rfl
      refine pure_ (i := 13) (N := some 23) (v := ?_) (a' := ?_) #[true, true, true, true, true, true, true, true, true, true, true, true, true, true, false] rfl rfl (any_of HT_.out (by kernel_rfl)) (fun _ _ _ h => h) (Or.inl ⟨by rfl, ?_⟩) ?_ ?_
      rotate_left
      · intro w'
        go_simp
        with_reducible rfl
      rotate_left
      · simp only [Act.put, List.setIfInBounds_toArray, List.set_cons_zero, List.set_cons_succ, i64_w, i32_w]
        rfl
      refine one_ (i := 14) (N := none) #[true, true, true, true, true, true, true, true, true, true, true, true, true, true, true] rfl rfl (one_of HT_.out (by kernel_rfl)) (by decide) (fun K hK => ?_)
      have hs22 : w19.cell? ⟨gb115, 0, none⟩ = some (.int .i64 0) := (blk_cell BK115.out 0).trans rfl
      have hfs22 := blk_frozen BK115.out 0
      have hns22_0 := NB114_115.out
      have hms22_0 := NB115_114.out
      have hs23 : w19.cell? ⟨gb115, 1, none⟩ = some (.int .i64 0) := (blk_cell BK115.out 1).trans rfl
      have hfs23 := blk_frozen BK115.out 1
      have hns23_0 := NB114_115.out
      have hms23_0 := NB115_114.out
      have hs24 : w19.cell? ⟨gb115, 2, none⟩ = some (.slice none 0 0) := (blk_cell BK115.out 2).trans rfl
      have hfs24 := blk_frozen BK115.out 2
      have hns24_0 := NB114_115.out
      have hms24_0 := NB115_114.out
      have hs25 : w19.cell? ⟨gb115, 3, none⟩ = some (.slice none 0 0) := (blk_cell BK115.out 3).trans rfl
      have hfs25 := blk_frozen BK115.out 3
      have hns25_0 := NB114_115.out
      have hms25_0 := NB115_114.out
      refine skip_ (w1 := ?_) (by rfl) rfl ?_ ?_
      rotate_left
      · go_simp
        rfl
      refine hK.out _ _ ⟨((cell_far (p := ⟨gb115, _, none⟩) NB114_115.out _).trans (((cell_far (p := ⟨gb115, _, none⟩) NB114_115.out _).trans (((cell_far (p := ⟨gb115, _, none⟩) NB114_115.out _).trans (((cell_far (p := ⟨gb115, _, none⟩) NB114_115.out _).trans (hHeld.1)))))))), ((cell_far (p := ⟨gb115, _, none⟩) NB114_115.out _).trans (((cell_far (p := ⟨gb115, _, none⟩) NB114_115.out _).trans (((cell_far (p := ⟨gb115, _, none⟩) NB114_115.out _).trans (((cell_far (p := ⟨gb115, _, none⟩) NB114_115.out _).trans (hHeld.2))))))))⟩ (fun hHeld => ?_)
      clear hK K
      refine done_ (done_of HT_.out (by kernel_rfl)) ?_
      try go_wp2
      refine bodyPost_ret (results_cell_row rfl _ _ gb115 24 #[.int .i64 a0_0, .int .i64 a0_1, .slice Ao21 t117.length co21, .slice Ao20 t121.length co20] (0, 0) _ rfl (by (with_reducible repeat (first | refine blk_drewN ?_ _ | refine blk_drew ?_ | refine blk_alloc ?_ _)); refine blk_put (cs := #[.int .i64 a0_0, .int .i64 a0_1, .slice Ao21 t117.length co21, .slice none 0 0]) ?_ 3 _ rfl; (with_reducible repeat (first | refine blk_drewN ?_ _ | refine blk_drew ?_ | refine blk_alloc ?_ _)); refine blk_put (cs := #[.int .i64 a0_0, .int .i64 a0_1, .slice none 0 0, .slice none 0 0]) ?_ 2 _ rfl; (with_reducible repeat (first | refine blk_drewN ?_ _ | refine blk_drew ?_ | refine blk_alloc ?_ _)); refine blk_put (cs := #[.int .i64 a0_0, .int .i64 0, .slice none 0 0, .slice none 0 0]) ?_ 1 _ rfl; (with_reducible repeat (first | refine blk_drewN ?_ _ | refine blk_drew ?_ | refine blk_alloc ?_ _)); refine blk_put (cs := #[.int .i64 0, .int .i64 0, .slice none 0 0, .slice none 0 0]) ?_ 0 _ rfl; (with_reducible repeat (first | refine blk_drewN ?_ _ | refine blk_drew ?_ | refine blk_alloc ?_ _)); exact BK115.out) Tryd.underlying24 rfl (by kernel_rfl)) rfl ?_
      exact ⟨_, _, by first | rfl | (simp [errW_none, errW_some] <;> rfl) | (simp only [← hji5, ← hji9]; first | rfl | (simp [errW_none, errW_some] <;> rfl)) | (simp [*, errW_none, errW_some] <;> rfl), by (with_reducible repeat (first | apply Kd.R_alloc | apply Kd.R_drewN | apply Kd.R_drew)); exact Kd.R_mono (Kd.R_far (p := ⟨gb115, 3, none⟩) (Kd.R_far (p := ⟨gb115, 2, none⟩) (Kd.R_far (p := ⟨gb115, 1, none⟩) (Kd.R_far (p := ⟨gb115, 0, none⟩) (Kd.R_types HO119.out BK115.out (by decide)) (fun _ hk => hk.2) (.int .i64 a0_0)) (fun _ hk => hk.2) (.int .i64 a0_1)) (fun _ hk => hk.2) (.slice Ao21 t117.length co21)) (fun _ hk => hk.2) (.slice Ao20 t121.length co20)) (fun _ hk => hk.1.2), by (with_reducible repeat (first | apply Kd.R_alloc | apply Kd.R_drewN | apply Kd.R_drew)); exact Kd.R_mono (Kd.R_far (p := ⟨gb115, 3, none⟩) (Kd.R_far (p := ⟨gb115, 2, none⟩) (Kd.R_far (p := ⟨gb115, 1, none⟩) (Kd.R_far (p := ⟨gb115, 0, none⟩) (Kd.R_types HO123.out BK115.out (by decide)) (fun _ hk => hk.2) (.int .i64 a0_0)) (fun _ hk => hk.2) (.int .i64 a0_1)) (fun _ hk => hk.2) (.slice Ao21 t117.length co21)) (fun _ hk => hk.2) (.slice Ao20 t121.length co20)) (fun _ hk => hk.1.2), by repeat (first | (with_reducible first | exact HB.out | apply below_alloc | apply pw_below_drewN | apply below_drew1 | refine below_set ?_ GE114.out | refine below_set ?_ GE115.out) | exact HB.out)⟩
    · rw [if_neg c8] at H
      exact absurd H (by simp)
  · rw [if_neg c4] at H
    exact absurd H (by simp)

/-! ### impl_within: function 25 -/
set_option maxHeartbeats 8000000 in
set_option maxRecDepth 100000 in
theorem impl_within.calls (a0 : Int) (a1 : Int) (a2 : Int) (r : Bool) (w : World) (h : impl_within.f a0 a1 a2 = some r) :
    Calls Tryd.prog 25 #[.int .i64 a0, .int .i64 a1, .int .i64 a2] w fun e w' => e = .returned (.bool r) ∧ Drawn0 w w' := by
  have H : (if a1 ≤ a0 then (some (decide (a0 ≤ a2))) else (some false)) = some r := h
  clear h
  by_cases c4 : a1 ≤ a0
  · rw [if_pos c4] at H
    have c4b0 : decide (a1 ≤ a0) = true := decide_eq_true c4
    clear c4
    obtain rfl := Option.some.inj H
    go_enter Tryd.func25, Tryd.ntmps25
    go_wp2
    go_ret
    exact ⟨by first | rfl | (simp; done) | (simp [*]; done), by repeat (first | exact Drawn0.refl _ | apply Drawn0.step)⟩
  · rw [if_neg c4] at H
    have c4b0 : decide (a1 ≤ a0) = false := decide_eq_false c4
    clear c4
    obtain rfl := Option.some.inj H
    go_enter Tryd.func25, Tryd.ntmps25
    go_wp2
    go_ret
    exact ⟨by first | rfl | (simp; done) | (simp [*]; done), by repeat (first | exact Drawn0.refl _ | apply Drawn0.step)⟩

/-! ### impl_MakePuzzle: function 11 -/
theorem nx_range {z : Int} (h0 : 0 ≤ z) (h : z ≤ 16380) : 0 ≤ nx z ∧ nx z ≤ 16380 := by unfold nx; omega
theorem mkl_range : ∀ (l : List Int) (z s : Int), 0 ≤ z → z ≤ 16380 → 0 ≤ (mkl l z s).1 ∧ (mkl l z s).1 ≤ 16380 := by
  intro l
  induction l with
  | nil => intro z s h0 h; exact ⟨h0, h⟩
  | cons x l ih => intro z s h0 h; exact ih _ _ (nx_range h0 h).1 (nx_range h0 h).2
set_option maxHeartbeats 2000000 in
theorem mk_next (z : Int) (h0 : 0 ≤ z) (h : z ≤ 16380) (B : Nat) (W : World) (hB : W.heap[B]? = some (.cells #[.int .i64 z] 3 (0, 0))) :
    Calls Tryd.prog 26 #[.pointer (some ⟨B, 0, none⟩)] W fun e W' => e = .returned (.int .i64 (nx z)) ∧ W' = W.setCell ⟨B, 0, none⟩ (.int .i64 (nx z)) := by
  have k0 : W.cell? ⟨B, 0, none⟩ = some (.int .i64 z) := (blk_cell hB 0).trans rfl
  have f0 : W.frozen? ⟨B, 0, none⟩ = false := blk_frozen hB 0
  have hz : z * 97 + 3001 ≤ 9223372036854775807 := by omega
  unfold nx
  clear hB
  go_enter Tryd.func26, Tryd.ntmps26
  go_wp2
  go_ret
  exact ⟨rfl, rfl⟩
theorem mk_at2 (w : World) (o0 o1 : Obj) : ((w.alloc o0).alloc o1).heap[w.heap.size]? = some o0 ∧ ((w.alloc o0).alloc o1).heap[w.heap.size + 1]? = some o1 := by
  refine ⟨?_, ?_⟩
  · show ((w.heap.push o0).push o1)[w.heap.size]? = _
    rw [Array.getElem?_push, if_neg (by simp), Array.getElem?_push, if_pos rfl]
  · show ((w.heap.push o0).push o1)[w.heap.size + 1]? = _
    rw [Array.getElem?_push, if_pos (by simp)]
theorem mk_new3 (w : World) (o0 o1 o2 : Obj) (q : Nat) : ((((w.alloc o0).alloc o1).drewN q).alloc o2).heap[w.heap.size + 1 + 1]? = some o2 := by
  show (((w.heap.push o0).push o1).push o2)[w.heap.size + 1 + 1]? = _
  rw [Array.getElem?_push, if_pos (by simp)]
theorem mk_later {w w' : World} {g : Nat} {o : Obj} (h : w.heap[g]? = some o) (hb : Below w.heap.size w w') : w'.heap[g]? = some o := (hb.block g (blk_lt h)).trans h
theorem within_f (a lo hi : Int) : impl_within.f a lo hi = some (decide (lo ≤ a) && decide (a ≤ hi)) := by
  unfold impl_within.f
  by_cases h : lo ≤ a
  · rw [if_pos h]; simp [h]
  · rw [if_neg h]; simp [h]
abbrev Z7 : Array Value := #[.int .i64 0, .int .i64 0, .slice none 0 0, .slice none 0 0, .int .i64 0, .bool false, .int .i64 0]
theorem mk_zero7 {W : World} {g t : Nat} (h : W.heap[g]? = some (.cells Z7 t (0, 0))) :
    (((((((W.setCell ⟨g, 0, none⟩ (.int .i64 0)).setCell ⟨g, 1, none⟩ (.int .i64 0)).setCell ⟨g, 2, none⟩ (.slice none 0 0)).setCell ⟨g, 3, none⟩ (.slice none 0 0)).setCell ⟨g, 4, none⟩ (.int .i64 0)).setCell ⟨g, 5, none⟩ (.bool false)).setCell ⟨g, 6, none⟩ (.int .i64 0)).heap[g]? = some (.cells Z7 t (0, 0)) :=
  blk_put (cs := Z7) (blk_put (cs := Z7) (blk_put (cs := Z7) (blk_put (cs := Z7) (blk_put (cs := Z7) (blk_put (cs := Z7) (blk_put (cs := Z7) h 0 _ rfl) 1 _ rfl) 2 _ rfl) 3 _ rfl) 4 _ rfl) 5 _ rfl) 6 _ rfl
theorem mk_below7 {w W : World} {g : Nat} (h : Below w.heap.size w W) (hg : w.heap.size ≤ g) {v0 v1 v2 v3 v4 v5 v6 : Value} :
    Below w.heap.size w (((((((W.setCell ⟨g, 0, none⟩ v0).setCell ⟨g, 1, none⟩ v1).setCell ⟨g, 2, none⟩ v2).setCell ⟨g, 3, none⟩ v3).setCell ⟨g, 4, none⟩ v4).setCell ⟨g, 5, none⟩ v5).setCell ⟨g, 6, none⟩ v6) :=
  below_set (below_set (below_set (below_set (below_set (below_set (below_set h hg) hg) hg) hg) hg) hg) hg
set_option maxHeartbeats 8000000 in
set_option maxRecDepth 100000 in
theorem mk_fail1 (a0 a1 a2 : Int) (w : World) (h1 : impl_within.f a0 1 3 = some false) :
    Calls Tryd.prog 11 #[.int .i64 a0, .int .i64 a1, .int .i64 a2] w fun e w' => e = .returned (.tuple #[.agg #[.int .i64 0, .int .i64 0, .slice none 0 0, .slice none 0 0, .int .i64 0, .bool false, .int .i64 0], .bool false]) ∧ Below w.heap.size w w' := by
  have hu := Tryd.underlying32
  have C1 := fun W => impl_within.calls a0 1 3 false W h1
  clear h1
  go_enter Tryd.func11, Tryd.ntmps11
  go_wp2_with fail
  refine (C1 _).mono ?_
  rintro e w1 ⟨rfl, ⟨q1, rfl⟩⟩
  go_wp2_with fail
  refine bodyPost_ret (results_ct rfl _ _ (w.heap.size + 1) 32 #[.int .i64 0, .int .i64 0, .slice none 0 0, .slice none 0 0, .int .i64 0, .bool false, .int .i64 0] (0, 0) _ rfl ?blk Tryd.underlying32 rfl (by kernel_rfl)) rfl ?_
  case blk =>
    refine mk_zero7 ?_
    repeat (first | refine blk_drewN ?_ _ | refine blk_drew ?_)
    exact (mk_at2 w _ _).2
  exact ⟨rfl, mk_below7 (by repeat (first | (with_reducible first | apply below_alloc | apply pw_below_drewN | apply below_drew1) | exact Below.refl _ _)) (by omega)⟩
set_option maxHeartbeats 8000000 in
set_option maxRecDepth 100000 in
theorem mk_fail2 (a0 a1 a2 : Int) (w : World) (h1 : impl_within.f a0 1 3 = some true) (h2 : impl_within.f a1 1 3 = some false) :
    Calls Tryd.prog 11 #[.int .i64 a0, .int .i64 a1, .int .i64 a2] w fun e w' => e = .returned (.tuple #[.agg #[.int .i64 0, .int .i64 0, .slice none 0 0, .slice none 0 0, .int .i64 0, .bool false, .int .i64 0], .bool false]) ∧ Below w.heap.size w w' := by
  have hu := Tryd.underlying32
  have C1 := fun W => impl_within.calls a0 1 3 true W h1
  have C2 := fun W => impl_within.calls a1 1 3 false W h2
  clear h1 h2
  go_enter Tryd.func11, Tryd.ntmps11
  go_wp2_with fail
  refine (C1 _).mono ?_
  rintro e w1 ⟨rfl, ⟨q1, rfl⟩⟩
  go_wp2_with fail
  refine (C2 _).mono ?_
  rintro e w2 ⟨rfl, ⟨q2, rfl⟩⟩
  go_wp2_with fail
  refine bodyPost_ret (results_ct rfl _ _ (w.heap.size + 1) 32 #[.int .i64 0, .int .i64 0, .slice none 0 0, .slice none 0 0, .int .i64 0, .bool false, .int .i64 0] (0, 0) _ rfl ?blk Tryd.underlying32 rfl (by kernel_rfl)) rfl ?_
  case blk =>
    refine mk_zero7 ?_
    repeat (first | refine blk_drewN ?_ _ | refine blk_drew ?_)
    exact (mk_at2 w _ _).2
  exact ⟨rfl, mk_below7 (by repeat (first | (with_reducible first | apply below_alloc | apply pw_below_drewN | apply below_drew1) | exact Below.refl _ _)) (by omega)⟩
set_option maxHeartbeats 8000000 in
set_option maxRecDepth 100000 in
theorem mk_fail3 (a0 a1 a2 : Int) (w : World) (h1 : impl_within.f a0 1 3 = some true) (h2 : impl_within.f a1 1 3 = some true) (h3 : impl_within.f a2 0 9999 = some false) :
    Calls Tryd.prog 11 #[.int .i64 a0, .int .i64 a1, .int .i64 a2] w fun e w' => e = .returned (.tuple #[.agg #[.int .i64 0, .int .i64 0, .slice none 0 0, .slice none 0 0, .int .i64 0, .bool false, .int .i64 0], .bool false]) ∧ Below w.heap.size w w' := by
  have hu := Tryd.underlying32
  have C1 := fun W => impl_within.calls a0 1 3 true W h1
  have C2 := fun W => impl_within.calls a1 1 3 true W h2
  have C3 := fun W => impl_within.calls a2 0 9999 false W h3
  clear h1 h2 h3
  go_enter Tryd.func11, Tryd.ntmps11
  go_wp2_with fail
  refine (C1 _).mono ?_
  rintro e w1 ⟨rfl, ⟨q1, rfl⟩⟩
  go_wp2_with fail
  refine (C2 _).mono ?_
  rintro e w2 ⟨rfl, ⟨q2, rfl⟩⟩
  go_wp2_with fail
  refine (C3 _).mono ?_
  rintro e w3 ⟨rfl, ⟨q3, rfl⟩⟩
  go_wp2_with fail
  refine bodyPost_ret (results_ct rfl _ _ (w.heap.size + 1) 32 #[.int .i64 0, .int .i64 0, .slice none 0 0, .slice none 0 0, .int .i64 0, .bool false, .int .i64 0] (0, 0) _ rfl ?blk Tryd.underlying32 rfl (by kernel_rfl)) rfl ?_
  case blk =>
    refine mk_zero7 ?_
    repeat (first | refine blk_drewN ?_ _ | refine blk_drew ?_)
    exact (mk_at2 w _ _).2
  exact ⟨rfl, mk_below7 (by repeat (first | (with_reducible first | apply below_alloc | apply pw_below_drewN | apply below_drew1) | exact Below.refl _ _)) (by omega)⟩
theorem mk_put7 {W : World} {g t : Nat} (h : W.heap[g]? = some (.cells Z7 t (0, 0))) {v0 v1 v2 v3 v4 v5 v6 : Value} :
    (((((((W.setCell ⟨g, 0, none⟩ v0).setCell ⟨g, 1, none⟩ v1).setCell ⟨g, 2, none⟩ v2).setCell ⟨g, 3, none⟩ v3).setCell ⟨g, 4, none⟩ v4).setCell ⟨g, 5, none⟩ v5).setCell ⟨g, 6, none⟩ v6).heap[g]? = some (.cells #[v0, v1, v2, v3, v4, v5, v6] t (0, 0)) :=
  blk_put (cs := #[v0, v1, v2, v3, v4, v5, .int .i64 0]) (blk_put (cs := #[v0, v1, v2, v3, v4, .bool false, .int .i64 0]) (blk_put (cs := #[v0, v1, v2, v3, .int .i64 0, .bool false, .int .i64 0]) (blk_put (cs := #[v0, v1, v2, .slice none 0 0, .int .i64 0, .bool false, .int .i64 0]) (blk_put (cs := #[v0, v1, .slice none 0 0, .slice none 0 0, .int .i64 0, .bool false, .int .i64 0]) (blk_put (cs := #[v0, .int .i64 0, .slice none 0 0, .slice none 0 0, .int .i64 0, .bool false, .int .i64 0]) (blk_put (cs := Z7) h 0 _ rfl) 1 _ rfl) 2 _ rfl) 3 _ rfl) 4 _ rfl) 5 _ rfl) 6 _ rfl
theorem mk_tail {W : World} {g base : Nat} {v : Value} {x : Nat → Prop} {xs : List Int} (hg : g + 1 < base) (h : Kd.R (Kd.int .i64) 3 W base x v xs) : Kd.R (Kd.int .i64) 3 W g (fun q => x q ∧ q ≠ g ∧ q ≠ g + 1) v xs :=
  Kd.R_lower (Kd.R_reok rfl h (fun q hq => ⟨h.1 q hq, by have := Kd.R_base h q hq; omega, by have := Kd.R_base h q hq; omega⟩)) (by omega)
theorem mk_far7 {W : World} {g : Nat} {v v0 v1 v2 v3 v4 v5 v6 : Value} {x : Nat → Prop} {xs : List Int} (h : Kd.R (Kd.int .i64) 3 W g (fun q => x q ∧ q ≠ g ∧ q ≠ g + 1) v xs) :
    Kd.R (Kd.int .i64) 3 (((((((W.setCell ⟨g + 1, 0, none⟩ v0).setCell ⟨g + 1, 1, none⟩ v1).setCell ⟨g + 1, 2, none⟩ v2).setCell ⟨g + 1, 3, none⟩ v3).setCell ⟨g + 1, 4, none⟩ v4).setCell ⟨g + 1, 5, none⟩ v5).setCell ⟨g + 1, 6, none⟩ v6) g x v xs :=
  Kd.R_mono (Kd.R_far (Kd.R_far (Kd.R_far (Kd.R_far (Kd.R_far (Kd.R_far (Kd.R_far h (fun q hq => hq.2.2) _) (fun q hq => hq.2.2) _) (fun q hq => hq.2.2) _) (fun q hq => hq.2.2) _) (fun q hq => hq.2.2) _) (fun q hq => hq.2.2) _) (fun q hq => hq.2.2) _) (fun q hq => hq.1)
theorem mk_away7 {W : World} {g base : Nat} {v v0 v1 v2 v3 v4 v5 v6 : Value} {x : Nat → Prop} {xs : List Int} (h : Kd.R (Kd.int .i64) 3 W base (fun q => x q ∧ q ≠ g) v xs) :
    Kd.R (Kd.int .i64) 3 (((((((W.setCell ⟨g, 0, none⟩ v0).setCell ⟨g, 1, none⟩ v1).setCell ⟨g, 2, none⟩ v2).setCell ⟨g, 3, none⟩ v3).setCell ⟨g, 4, none⟩ v4).setCell ⟨g, 5, none⟩ v5).setCell ⟨g, 6, none⟩ v6) base x v xs :=
  Kd.R_mono (Kd.R_far (Kd.R_far (Kd.R_far (Kd.R_far (Kd.R_far (Kd.R_far (Kd.R_far h (fun q hq => hq.2) _) (fun q hq => hq.2) _) (fun q hq => hq.2) _) (fun q hq => hq.2) _) (fun q hq => hq.2) _) (fun q hq => hq.2) _) (fun q hq => hq.2) _) (fun q hq => hq.1)
/-- what stands in memory while the edges are gone through -/
structure MkSt (w0 : World) (l : List Int) (Z S a0 a1 : Int) (A : Option Addr) (cap kk : Nat) (z s : Int) (wr : World) : Prop where
  b5 : wr.heap[w0.heap.size]? = some (.cells #[.int .i64 z] 3 (0, 0))
  b6 : wr.heap[w0.heap.size + 1]? = some (.cells Z7 32 (0, 0))
  b9 : wr.heap[w0.heap.size + 1 + 1]? = some (.cells #[.int .i64 a0, .int .i64 a1] 49 (0, 0))
  row : Kd.R (Kd.int .i64) 3 wr w0.heap.size (fun q => q ≠ w0.heap.size) (.slice A l.length cap) l
  bel : Below w0.heap.size w0 wr
  zr : 0 ≤ z ∧ z ≤ 16380
  acc : mkl (l.drop kk) z s = (Z, S)
theorem MkSt.step {w0 : World} {l : List Int} {Z S a0 a1 : Int} {A : Option Addr} {cap kk : Nat} {z s : Int} {wr : World} (M : MkSt w0 l Z S a0 a1 A cap kk z s wr) (hk : kk < l.length) :
    MkSt w0 l Z S a0 a1 A cap (kk + 1) (nx z) (if nx z % 5 = 0 then s else Go.bits .or .u64 s (shl .u64 1 (rd l (kk : Int)))) (wr.setCell ⟨w0.heap.size, 0, none⟩ (.int .i64 (nx z))) := by
  refine ⟨blk_put M.b5 0 _ rfl, blk_far M.b6 (by show w0.heap.size + 1 ≠ w0.heap.size; omega) _, blk_far M.b9 (by show w0.heap.size + 1 + 1 ≠ w0.heap.size; omega) _, Kd.R_far M.row (fun q h => h) _, below_set M.bel (Nat.le_refl _), nx_range M.zr.1 M.zr.2, ?_⟩
  have h := M.acc
  rw [List.drop_eq_getElem_cons hk] at h
  have e : rd l (kk : Int) = l[kk] := by simp [rd, hk]
  rw [e]
  exact h
set_option maxHeartbeats 8000000 in
set_option maxRecDepth 100000 in
theorem mk_main (k : Nat) (a0 a1 a2 a c Z S f1 f2 : Int) (l f3 f4 : List Int) (w : World) (hT : TzTab w) (h1 : impl_within.f a0 1 3 = some true) (h2 : impl_within.f a1 1 3 = some true) (h3 : impl_within.f a2 0 9999 = some true) (hz : 0 ≤ a2 ∧ a2 ≤ 9999)
    (ha : impl_grid_all.f a0 a1 = some a) (hl : impl_set_listed.f k a = some l) (hlr : ∀ x ∈ l, 0 ≤ x ∧ x < 64) (hll : l.length ≤ 1000) (hm : mkl l a2 0 = (Z, S)) (CO : ∀ W, Calls Tryd.prog 29 #[.int .u64 S] W fun e w' => e = .returned (.int .i64 c) ∧ Drawn0 W w') (hf : impl_grid_figure.f k a0 a1 S = some (f1, f2, f3, f4)) :
    Calls Tryd.prog 11 #[.int .i64 a0, .int .i64 a1, .int .i64 a2] w fun e w' => ∃ v2_ v3_ : Value, e = .returned (.tuple #[.agg #[.int .i64 f1, .int .i64 f2, v2_, v3_, .int .i64 (mn (nx Z % 3 + 1) c), .bool false, .int .i64 (nx (nx Z) % 4)], .bool true]) ∧ Kd.R (Kd.int .i64) 3 w' w.heap.size (fun k_ => some k_ ≠ (v3_ : Value).ownBlock) v2_ f3 ∧ Kd.R (Kd.int .i64) 3 w' w.heap.size (fun k_ => some k_ ≠ (v2_ : Value).ownBlock) v3_ f4 ∧ Below w.heap.size w w' := by
  have hu := Tryd.underlying32
  have hg := Tryd.underlying49
  have C1 := fun W => impl_within.calls a0 1 3 true W h1
  have C2 := fun W => impl_within.calls a1 1 3 true W h2
  have C3 := fun W => impl_within.calls a2 0 9999 true W h3
  have GA := fun W => impl_grid_all.calls a0 a1 a W ha
  have LI := fun W hT => impl_set_listed.calls k a l W hT hl
  have GF := fun W hT => impl_grid_figure.calls k a0 a1 S f1 f2 f3 f4 W hT hf
  have HT := Aside0.mk hT
  clear h1 h2 h3 ha hl hf hT
  go_enter Tryd.func11, Tryd.ntmps11
  go_wp2_with fail
  refine (C1 _).mono ?_
  rintro e w1 ⟨rfl, ⟨q1, rfl⟩⟩
  go_wp2_with fail
  refine (C2 _).mono ?_
  rintro e w2 ⟨rfl, ⟨q2, rfl⟩⟩
  go_wp2_with fail
  refine (C3 _).mono ?_
  rintro e w3 ⟨rfl, ⟨q3, rfl⟩⟩
  go_wp2_with fail
  clear C1 C2 C3
  refine (GA _).mono ?_
  rintro e w4 ⟨rfl, hb⟩
  have X5 := Aside0.mk (mk_later (blk_alloc (blk_drewN (mk_at2 w _ _).1 _) _) hb)
  have X6 := Aside0.mk (mk_later (blk_alloc (blk_drewN (mk_at2 w _ _).2 _) _) hb)
  have X9 : Aside0 (w4.heap[w.heap.size + 1 + 1]? = some (.cells #[.int .i64 a0, .int .i64 a1] 49 (0, 0))) := ⟨mk_later (mk_new3 w _ _ _ _) hb⟩
  have HB := Aside0.mk (below_step (below_alloc (pw_below_drewN (below_alloc (below_alloc (Below.refl w.heap.size w) _) _) _) _) hb)
  clear hb GA
  go_wp2_with fail
  refine (LI _ (tz_below HT.out HB.out)).mono ?_
  rintro e w5 ⟨v, rfl, hR, hb⟩
  have hR5 : Kd.R (Kd.int .i64) 3 w5 w.heap.size (fun q => q ≠ w.heap.size) v l := Kd.R_lower (Kd.R_reok rfl hR (fun q hq => by have := Kd.R_base hR q hq; have := blk_lt X5.out; omega)) HB.out.size
  obtain ⟨A, cap, rfl⟩ := Kd.R_slice hR5
  have M0 : Aside0 (MkSt w l Z S a0 a1 A cap 0 a2 0 w5) := ⟨⟨mk_later X5.out hb, mk_later X6.out hb, mk_later X9.out hb, hR5, below_step HB.out hb, ⟨hz.1, by omega⟩, hm⟩⟩
  clear hb hR hR5 X5 X6 X9 HB LI hm
  go_wp2
  go_loopg [10, 36] l.length (fun gg s10 s36 wr => ∃ (kk : Nat) (z s : Int), kk ≤ l.length ∧ l.length - kk ≤ gg ∧ s10 = .int .u64 s ∧ s36 = .int .i64 kk ∧ Aside0 (MkSt w l Z S a0 a1 A cap kk z s wr))
  case atStart => exact ⟨0, a2, 0, Nat.zero_le _, by omega, rfl, rfl, M0⟩
  case round =>
    clear M0
    obtain ⟨kk, z, s, hkk, hg, rfl, rfl, M⟩ := hrel
    by_cases hlt : kk < l.length
    · have hltz : (kk : Int) < (l.length : Int) := by omega
      obtain ⟨_, _, hC⟩ := Kd.R_reads' M.out.row
      obtain ⟨ad, rfl, hcell0⟩ := Kd.at_int hC kk (by omega) hltz
      rw [Int.toNat_natCast] at hcell0
      have hcell : wr.cell? (ad.add kk) = some (.int .i64 (rd l kk)) := hcell0
      have hx := hlr (rd l kk) (by rw [show rd l (kk : Int) = l[kk] by simp [rd, hlt]]; exact List.getElem_mem hlt)
      have MK := mk_next z M.out.zr.1 M.out.zr.2 w.heap.size wr M.out.b5
      have St := Aside0.mk (M.out.step hlt)
      have ht : Int.tmod (nx z) 5 = nx z % 5 := Int.tmod_eq_emod_of_nonneg (nx_range M.out.zr.1 M.out.zr.2).1
      clear hcell0 hC M hlr
      generalize rd l (kk : Int) = x at *
      have hx0 := hx.1
      have hx1 := hx.2
      generalize nx z = z' at *
      by_cases hq : z' % 5 = 0
      · rw [if_pos hq] at St
        have c0 : (Int.tmod z' 5 != 0) = false := by rw [ht, hq]; rfl
        have c1 : (Int.tmod z' 5 == 0) = true := by rw [ht, hq]; rfl
        go_wp2_with (go_at_call 26; refine MK.mono ?_; rintro e w' ⟨rfl, rfl⟩)
        go_roundg (l.length - (kk + 1))
        case measure => omega
        case rel => exact ⟨kk + 1, z', s, by omega, by omega, rfl, by go_num, St⟩
      · rw [if_neg hq] at St
        have hs1 : IntKind.u64.wrap (1 * 2 ^ x.toNat) = shl .u64 1 x := shl_small rfl (by show x ≤ 64; omega)
        generalize shl .u64 1 x = y at *
        have c0 : (Int.tmod z' 5 != 0) = true := by rw [ht]; simpa using hq
        have c1 : (Int.tmod z' 5 == 0) = false := by rw [ht]; simpa using hq
        go_wp2_with (go_at_call 26; refine MK.mono ?_; rintro e w' ⟨rfl, rfl⟩)
        go_roundg (l.length - (kk + 1))
        case measure => omega
        case rel => exact ⟨kk + 1, z', Go.bits .or .u64 s y, by omega, by omega, by rw [← hs1, Int.one_mul], by go_num, St⟩
    · have hltz : ¬ (kk : Int) < (l.length : Int) := by omega
      obtain rfl : kk = l.length := by omega
      have hb5 := M.out.b5
      have MK := mk_next z M.out.zr.1 M.out.zr.2 w.heap.size wr M.out.b5
      have hzs : z = Z ∧ s = S := by
        have h := M.out.acc
        rw [List.drop_of_length_le (Nat.le_refl _)] at h
        simpa [mkl] using h
      obtain ⟨rfl, rfl⟩ := hzs
      go_wp2_with (go_at_call 26; refine MK.mono ?_; rintro e w' ⟨rfl, rfl⟩)
      have Y5 : Aside0 ((wr.setCell ⟨w.heap.size, 0, none⟩ (.int .i64 (nx z))).heap[w.heap.size]? = some (.cells #[.int .i64 (nx z)] 3 (0, 0))) := ⟨blk_put M.out.b5 0 _ rfl⟩
      have Y6 := Aside0.mk (blk_far M.out.b6 (p := ⟨w.heap.size, 0, none⟩) (by show w.heap.size + 1 ≠ w.heap.size; omega) (.int .i64 (nx z)))
      have Y9 := Aside0.mk (blk_far M.out.b9 (p := ⟨w.heap.size, 0, none⟩) (by show w.heap.size + 1 + 1 ≠ w.heap.size; omega) (.int .i64 (nx z)))
      have HB := Aside0.mk (below_set (g := w.heap.size) (j := 0) (v := .int .i64 (nx z)) M.out.bel (Nat.le_refl _))
      have hr := nx_range M.out.zr.1 M.out.zr.2
      generalize wr.setCell ⟨w.heap.size, 0, none⟩ (.int .i64 (nx z)) = W6 at *
      generalize hz1 : nx z = z1 at *
      clear M MK hb5
      refine (CO _).mono ?_
      rintro e w7 ⟨rfl, ⟨q7, rfl⟩⟩
      have hm3 : Int.tmod z1 3 = z1 % 3 := Int.tmod_eq_emod_of_nonneg hr.1
      have hw3 : wrap64 (z1 % 3 + 1) = z1 % 3 + 1 := by unfold wrap64; omega
      have MK := mk_next z1 hr.1 hr.2
      have y0 : W6.cell? ⟨w.heap.size + 1 + 1, 0, none⟩ = some (.int .i64 a0) := (blk_cell Y9.out 0).trans rfl
      have y1 : W6.cell? ⟨w.heap.size + 1 + 1, 1, none⟩ = some (.int .i64 a1) := (blk_cell Y9.out 1).trans rfl
      go_wp2_with fail
      all_goals
        refine (GF _ (tz_drawn (tz_below HT.out HB.out) q7)).mono ?_
        rintro e w8 ⟨v2, v3, rfl, R2, R3, hb⟩
        obtain ⟨A2, e2, rfl⟩ := Kd.R_slice R2
        obtain ⟨A3, e3, rfl⟩ := Kd.R_slice R3
        have hlt6 := blk_lt Y9.out
        have RR2 := Aside0.mk (mk_tail (W := w8) (g := w.heap.size) (x := fun k_ => some k_ ≠ (Value.slice A3 f4.length e3).ownBlock) (by show w.heap.size + 1 < W6.heap.size; omega) R2)
        have RR3 := Aside0.mk (mk_tail (W := w8) (g := w.heap.size) (x := fun k_ => some k_ ≠ (Value.slice A2 f3.length e2).ownBlock) (by show w.heap.size + 1 < W6.heap.size; omega) R3)
        have Z5 := mk_later (blk_drewN Y5.out q7) hb
        have Z6 := Aside0.mk (mk_later (blk_drewN Y6.out q7) hb)
        have HB8 := Aside0.mk (below_step (pw_below_drewN HB.out q7) hb)
        replace MK := MK _ _ Z5
        have hm4 : Int.tmod (nx z1) 4 = nx z1 % 4 := Int.tmod_eq_emod_of_nonneg (nx_range hr.1 hr.2).1
        generalize hzz : nx z1 = z2 at *
        clear hb R2 R3 Y5 Y6 Y9 HB Z5 y0 y1 hlt6
        go_wp2_with (go_at_call 26; refine MK.mono ?_; rintro e w9 ⟨rfl, hw9⟩; have Z9 : Aside0 (w9.heap[w.heap.size + 1]? = some (.cells Z7 32 (0, 0))) := ⟨by rw [hw9]; exact blk_far Z6.out (p := ⟨w.heap.size, 0, none⟩) (by show w.heap.size + 1 ≠ w.heap.size; omega) _⟩; have RR2' := Aside0.mk (hw9 ▸ Kd.R_far RR2.out (p := ⟨w.heap.size, 0, none⟩) (fun q hq => hq.2.1) (.int .i64 z2)); have RR3' := Aside0.mk (hw9 ▸ Kd.R_far RR3.out (p := ⟨w.heap.size, 0, none⟩) (fun q hq => hq.2.1) (.int .i64 z2)); have HB9 : Aside0 (Below w.heap.size w w9) := ⟨by rw [hw9]; exact below_set HB8.out (Nat.le_refl _)⟩; clear hw9 RR2 RR3 HB8 Z6; have hcz0 : w9.cell? ⟨w.heap.size + 1, 0, none⟩ = some (.int .i64 0) := (blk_cell Z9.out 0).trans rfl; have hfz0 := blk_frozen Z9.out 0; have hcz1 : w9.cell? ⟨w.heap.size + 1, 1, none⟩ = some (.int .i64 0) := (blk_cell Z9.out 1).trans rfl; have hfz1 := blk_frozen Z9.out 1; have hcz2 : w9.cell? ⟨w.heap.size + 1, 2, none⟩ = some (.slice none 0 0) := (blk_cell Z9.out 2).trans rfl; have hfz2 := blk_frozen Z9.out 2; have hcz3 : w9.cell? ⟨w.heap.size + 1, 3, none⟩ = some (.slice none 0 0) := (blk_cell Z9.out 3).trans rfl; have hfz3 := blk_frozen Z9.out 3; have hcz4 : w9.cell? ⟨w.heap.size + 1, 4, none⟩ = some (.int .i64 0) := (blk_cell Z9.out 4).trans rfl; have hfz4 := blk_frozen Z9.out 4; have hcz5 : w9.cell? ⟨w.heap.size + 1, 5, none⟩ = some (.bool false) := (blk_cell Z9.out 5).trans rfl; have hfz5 := blk_frozen Z9.out 5; have hcz6 : w9.cell? ⟨w.heap.size + 1, 6, none⟩ = some (.int .i64 0) := (blk_cell Z9.out 6).trans rfl; have hfz6 := blk_frozen Z9.out 6)
        first
          | (refine bodyPost_ret (results_ct rfl _ _ (w.heap.size + 1) 32 #[.int .i64 f1, .int .i64 f2, .slice A2 f3.length e2, .slice A3 f4.length e3, .int .i64 c, .bool false, .int .i64 (z2 % 4)] (0, 0) _ rfl ?blk Tryd.underlying32 rfl (by kernel_rfl)) rfl ?_; (case blk => exact mk_put7 Z9.out); refine ⟨_, _, ?_, mk_far7 RR2'.out, mk_far7 RR3'.out, mk_below7 HB9.out (by omega)⟩)
          | (refine bodyPost_ret (results_ct rfl _ _ (w.heap.size + 1) 32 #[.int .i64 f1, .int .i64 f2, .slice A2 f3.length e2, .slice A3 f4.length e3, .int .i64 (z1 % 3 + 1), .bool false, .int .i64 (z2 % 4)] (0, 0) _ rfl ?blk Tryd.underlying32 rfl (by kernel_rfl)) rfl ?_; (case blk => exact mk_put7 Z9.out); refine ⟨_, _, ?_, mk_far7 RR2'.out, mk_far7 RR3'.out, mk_below7 HB9.out (by omega)⟩)
        have hmn : ∀ x y : Int, mn x y = if y < x then y else x := fun _ _ => rfl
        rw [hz1, hzz, hmn]
        split
        all_goals first
          | rfl
          | (have : c = z1 % 3 + 1 := by omega
             subst this
             rfl)
          | (exfalso; omega)
theorem mk_and {a lo hi : Int} (h : impl_within.f a lo hi = some false) : ¬ (lo ≤ a ∧ a ≤ hi) := by
  rw [within_f] at h
  intro c
  simp [c.1, c.2] at h
theorem mk_yes {a lo hi : Int} (h : lo ≤ a ∧ a ≤ hi) : impl_within.f a lo hi = some true := by
  rw [within_f]; simp [h.1, h.2]
theorem mk_no {a lo hi : Int} (h : ¬ (lo ≤ a ∧ a ≤ hi)) : impl_within.f a lo hi = some false := by
  rw [within_f]
  by_cases h1 : lo ≤ a
  · have : ¬ a ≤ hi := fun h2 => h ⟨h1, h2⟩
    simp [this]
  · simp [h1]
set_option maxHeartbeats 2000000 in
theorem impl_MakePuzzle.calls (k : Nat) (a0 : Int) (a1 : Int) (a2 : Int) (r1 : Int) (r2 : Int) (r3 : List Int) (r4 : List Int) (r5 : Int) (r6 : Bool) (r7 : Int) (r8 : Bool) (w : World) (hT : TzTab w) (h : impl_MakePuzzle.f k a0 a1 a2 = some (r1, r2, r3, r4, r5, r6, r7, r8)) :
    Calls Tryd.prog 11 #[.int .i64 a0, .int .i64 a1, .int .i64 a2] w fun e w' => ∃ v2_ v3_ : Value, e = .returned (.tuple #[.agg #[.int .i64 r1, .int .i64 r2, v2_, v3_, .int .i64 r5, .bool r6, .int .i64 r7], .bool r8]) ∧ Kd.R (Kd.int .i64) 3 w' w.heap.size (fun k_ => some k_ ≠ (v3_ : Value).ownBlock) v2_ r3 ∧ Kd.R (Kd.int .i64) 3 w' w.heap.size (fun k_ => some k_ ≠ (v2_ : Value).ownBlock) v3_ r4 ∧ Below w.heap.size w w' := by
  unfold impl_MakePuzzle.f at h
  by_cases hc : 1 ≤ a0 ∧ a0 ≤ 3 ∧ 1 ≤ a1 ∧ a1 ≤ 3 ∧ 0 ≤ a2 ∧ a2 ≤ 9999
  · rw [if_pos hc] at h
    obtain ⟨a, ha, h⟩ := Option.bind_eq_some_iff.mp h
    obtain ⟨l, hl, h⟩ := Option.bind_eq_some_iff.mp h
    by_cases hr : (∀ x ∈ l, 0 ≤ x ∧ x < 64) ∧ l.length ≤ 1000
    · rw [if_pos hr] at h
      obtain ⟨c, hcc, h⟩ := Option.bind_eq_some_iff.mp h
      obtain ⟨f, hf, h⟩ := Option.bind_eq_some_iff.mp h
      obtain ⟨f1, f2, f3, f4⟩ := f
      simp only [Option.some.injEq, Prod.mk.injEq] at h
      obtain ⟨rfl, rfl, rfl, rfl, rfl, rfl, rfl, rfl⟩ := h
      exact mk_main k a0 a1 a2 a c (mkl l a2 0).1 (mkl l a2 0).2 f1 f2 l f3 f4 w hT (mk_yes ⟨hc.1, hc.2.1⟩) (mk_yes ⟨hc.2.2.1, hc.2.2.2.1⟩) (mk_yes hc.2.2.2.2) hc.2.2.2.2 ha hl hr.1 hr.2 rfl (fun W => impl_set_count.calls _ c W hcc) hf
    · rw [if_neg hr] at h; cases h
  · rw [if_neg hc] at h
    simp only [Option.some.injEq, Prod.mk.injEq] at h
    obtain ⟨rfl, rfl, rfl, rfl, rfl, rfl, rfl, rfl⟩ := h
    have key : ∀ (e : Ending) (w' : World), (e = .returned (.tuple #[.agg #[.int .i64 0, .int .i64 0, .slice none 0 0, .slice none 0 0, .int .i64 0, .bool false, .int .i64 0], .bool false]) ∧ Below w.heap.size w w') → ∃ v2_ v3_ : Value, e = .returned (.tuple #[.agg #[.int .i64 0, .int .i64 0, v2_, v3_, .int .i64 0, .bool false, .int .i64 0], .bool false]) ∧ Kd.R (Kd.int .i64) 3 w' w.heap.size (fun k_ => some k_ ≠ (v3_ : Value).ownBlock) v2_ [] ∧ Kd.R (Kd.int .i64) 3 w' w.heap.size (fun k_ => some k_ ≠ (v2_ : Value).ownBlock) v3_ [] ∧ Below w.heap.size w w' :=
      fun e w' h => ⟨_, _, h.1, Kd.R_nil _ _ _ _ _, Kd.R_nil _ _ _ _ _, h.2⟩
    by_cases h1 : 1 ≤ a0 ∧ a0 ≤ 3
    · by_cases h2 : 1 ≤ a1 ∧ a1 ≤ 3
      · have h3 : ¬ (0 ≤ a2 ∧ a2 ≤ 9999) := fun h3 => hc ⟨h1.1, h1.2, h2.1, h2.2, h3.1, h3.2⟩
        exact (mk_fail3 a0 a1 a2 w (mk_yes h1) (mk_yes h2) (mk_no h3)).mono key
      · exact (mk_fail2 a0 a1 a2 w (mk_yes h1) (mk_no h2)).mono key
    · exact (mk_fail1 a0 a1 a2 w (mk_no h1)).mono key

/-! ### spec_l1In: function 20 -/
set_option maxHeartbeats 8000000 in
set_option maxRecDepth 100000 in
theorem spec_l1In.calls (a0 : Int) (a1 : Int) (a2 : Int) (r : Bool) (w : World) (h : spec_l1In.f a0 a1 a2 = some r) :
    Calls Tryd.prog 20 #[.int .i64 a0, .int .i64 a1, .int .i64 a2] w fun e w' => e = .returned (.bool r) ∧ Drawn0 w w' := by
  have H : (if a0 ≥ a1 then (some (decide (a0 ≤ a2))) else (some false)) = some r := h
  clear h
  by_cases c4 : a0 ≥ a1
  · rw [if_pos c4] at H
    have c4b0 : decide (a1 ≤ a0) = true := decide_eq_true c4
    clear c4
    obtain rfl := Option.some.inj H
    go_enter Tryd.func20, Tryd.ntmps20
    go_wp2
    go_ret
    exact ⟨by first | rfl | (simp; done) | (simp [*]; done), by repeat (first | exact Drawn0.refl _ | apply Drawn0.step)⟩
  · rw [if_neg c4] at H
    have c4b0 : decide (a1 ≤ a0) = false := decide_eq_false c4
    clear c4
    obtain rfl := Option.some.inj H
    go_enter Tryd.func20, Tryd.ntmps20
    go_wp2
    go_ret
    exact ⟨by first | rfl | (simp; done) | (simp [*]; done), by repeat (first | exact Drawn0.refl _ | apply Drawn0.step)⟩

end Go.Proofs.YtkmebbadjejheaaDoor.B
