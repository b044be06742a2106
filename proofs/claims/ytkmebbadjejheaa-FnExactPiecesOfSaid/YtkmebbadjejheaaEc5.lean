import Derived.Test.YtkmebbadjejheaaEd
import Derived.Test.YtkmebbadjejheaaEc2
import Derived.Test.YtkmebbadjejheaaEc4
namespace Go.Proofs.Ytkmebbadjejheaa.E
open Go.RowKit Go.Proofs.YtkmebbadjejheaaW.PrintWords Go.Proofs.YtkmebbadjejheaaW.PrintLast Go.Proofs.YtkmebbadjejheaaW.PrintMore
attribute [local go_sem] max2_int min2_int max_two min_two max_three min_three max_four min_four
set_option linter.unusedVariables false
set_option linter.unusedSimpArgs false

/-! ### impl_grid_regions: function 65 -/
def impl_grid_regions.T19 : Bool × List (List Nat × List Nat) := (true, [([], []), ([], []), ([0, 1], [0, 1]), ([2], [2]), ([], []), ([], []), ([4, 5], [4, 5]), ([6], [6]), ([3, 7], [3, 7]), ([8, 0, 1, 2, 3, 4, 5, 6, 7, 8], [8])])
def impl_grid_regions.B19 : List Nat := [0, 0, 3, 7, 0, 0, 48, 112, 255, 511]
theorem impl_grid_regions.tab19 : rtab .any (opsOf Try.f65 19) = impl_grid_regions.T19 := by kernel_rfl
theorem impl_grid_regions.bits19 : waitsOk impl_grid_regions.T19.2 impl_grid_regions.B19 = true := by kernel_rfl
set_option maxHeartbeats 8000000 in
set_option maxRecDepth 100000 in
theorem impl_grid_regions.calls (k : Nat) (a0_0 : Int) (a0_1 : Int) (a1 : Int) (a2 : Bool) (r : List (List Int)) (w : World) (h : impl_grid_regions.f k a0_0 a0_1 a1 a2 = some r) :
  Calls Try.prog 65 #[.agg #[.int .i64 a0_0, .int .i64 a0_1], .int .u64 a1, .bool a2] w fun e w' => ∃ v0_ : Value, e = .returned (v0_) ∧ Kd.S (Kd.slice 3 (Kd.int .i64)) 22 w' w.heap.size (fun _ => True) v0_ r ∧ Below w.heap.size w w' := by
 have hu71 := Try.underlying71
 have HB := Aside0.mk (Below.refl w.heap.size w)
 have H : (impl_grid_regions.l0 k a1 a2 (wrap64 (a0_0 * a0_1)) (([] : List Int)) (wrap64 ((wrap64 (a0_0 * a0_1)) + 1)) 0 a0_0 a0_1) = some r := h
 clear h
 obtain ⟨y194, hy194⟩ : ∃ y_ : List Int, y_ = (([] : List Int)) := ⟨_, rfl⟩
 replace H : (impl_grid_regions.l0 k a1 a2 (wrap64 (a0_0 * a0_1)) y194 (wrap64 ((wrap64 (a0_0 * a0_1)) + 1)) 0 a0_0 a0_1) = some r := by first | (rw [hy194]; with_reducible exact H) | (have H2_ := (Option.bind_some _ _).symm.trans H; rw [hy194]; with_reducible exact H2_) | (have H2_ := (Option.bind_some _ _).symm.trans H; with_reducible exact H2_) | with_reducible exact H | (rw [hy194]; exact H) | exact H
 have Ny194 := Aside0.mk hy194
 clear hy194
 have H' := Aside0.mk H
 clear H
 go_enter Try.func65, Try.ntmps65
 go_wp2_with (first | ((with_reducible refine gate_dst (N := 3) rfl ?_); (try (refine gate_guard (by rfl) ?_; dsimp only)); refine box_event ?hg (N := 3) ?hd (cs := #[.int .i64 a0_0, .int .i64 a0_1]) (t := 71) ?hr ?_; (case hd => rfl); (case hg => rfl); (case hr => first | (go_simp; done) | (go_simp; rfl)); intro gb193 hg w4 hbox hb; have n0_ := Aside0.mk (below_step (by repeat (first | (with_reducible first | exact HB.out | apply below_alloc | apply pw_below_drewN | apply below_drew1) | exact HB.out)) hb); have n1_ := Aside0.mk (hbox); have n2_ := Aside0.mk ((by rw [hg]; exact (below_size (by repeat (first | (with_reducible first | exact HB.out | apply below_alloc | apply pw_below_drewN | apply below_drew1) | exact HB.out))) : w.heap.size ≤ gb193)); have n3_ := Aside0.mk ((by rw [hg]; exact (below_size (by repeat (first | (with_reducible first | exact HB.out | apply below_alloc | apply pw_below_drewN | apply below_drew1) | exact HB.out))) : w.heap.size ≤ gb193)); clear HB; have HB := n0_; have BK193 := n1_; have GW193 := n2_; have GE193 := n3_; clear n0_ n1_ n2_ n3_; clear hb hbox hg; have hcz5_0 : w4.cell? ⟨gb193, 0, none⟩ = some (.int .i64 a0_0) := (blk_cell BK193.out 0).trans rfl; have hcz5_1 : w4.cell? ⟨gb193, 1, none⟩ = some (.int .i64 a0_1) := (blk_cell BK193.out 1).trans rfl; have hfz5_0 := blk_frozen BK193.out 0; have hfz5_1 := blk_frozen BK193.out 1) | ((with_reducible refine gate_dst (N := 24) rfl ?_); (try (refine gate_guard (by rfl) ?_; dsimp only)); refine Kd.R_lit (Kd.int .i64) _ 3 ?hg (N := 24) ?hd (xs := ([] : List Int)) (inner := []) (ok := fun _ => True) (okp := fun _ => True) ?hr ?hp (fun _ hk => hk) trivial (Below.refl _ _) (Nat.le_refl _) (by simp) ?_; (case hd => rfl); (case hg => rfl); (case hr => first | (go_simp; done) | (go_simp; rfl)); (case hp => exact (Reps.none _ _)); intro v195 w6 ho7 hb hg_ hnew_; clear hg_ hnew_; (first | rw [← Ny194.out] at ho7 | (simp only [Int.reduceToNat] at ho7; rw [← Ny194.out] at ho7)); have n0_ := Aside0.mk (Kd.R_lower ho7 (below_size (by repeat (first | (with_reducible first | exact HB.out | apply below_alloc | apply pw_below_drewN | apply below_drew1 | refine below_set ?_ GE193.out) | exact HB.out)))); have n1_ := Aside0.mk (blk_below (g := gb193) (o := .cells #[.int .i64 a0_0, .int .i64 a0_1] 71 (0, 0)) (by (with_reducible repeat (first | refine blk_drewN ?_ _ | refine blk_drew ?_ | refine blk_alloc ?_ _)); exact BK193.out) hb); have n2_ := Aside0.mk (below_step (by repeat (first | (with_reducible first | exact HB.out | apply below_alloc | apply pw_below_drewN | apply below_drew1 | refine below_set ?_ GE193.out) | exact HB.out)) hb); clear BK193; clear HB; have HO196 := n0_; have BK193 := n1_; have HB := n2_; clear n0_ n1_ n2_; clear hb ho7))
 go_loopg [8, 27] k (fun kq v8 v27 w' => ∃ (x8_1 : List Int) (x27_1 : Int), v27 = .int .i64 x27_1 ∧ Aside0 (impl_grid_regions.l0 kq a1 a2 (wrap64 (a0_0 * a0_1)) x8_1 (wrap64 ((wrap64 (a0_0 * a0_1)) + 1)) x27_1 a0_0 a0_1 = some r) ∧ Aside0 (kq ≤ k) ∧ Aside0 (Kd.R (Kd.int .i64) 3 w' w.heap.size (fun _ => True) v8 x8_1) ∧ Aside0 (w'.heap[gb193]? = some (.cells #[.int .i64 a0_0, .int .i64 a0_1] 71 (0, 0))) ∧ Aside0 (Below w.heap.size w w'))
 case atStart => exact ⟨(y194), (0), (by first | rfl | (simp; done) | (simp [*]; done)), H', ⟨Nat.le_refl _⟩, ⟨by (with_reducible repeat (first | apply Kd.R_alloc | apply Kd.R_drewN | apply Kd.R_drew)); exact HO196.out⟩, ⟨by (with_reducible repeat (first | refine blk_drewN ?_ _ | refine blk_drew ?_ | refine blk_alloc ?_ _)); exact BK193.out⟩, ⟨by repeat (first | (with_reducible first | exact HB.out | apply below_alloc | apply pw_below_drewN | apply below_drew1 | refine below_set ?_ GE193.out) | exact HB.out)⟩⟩
 case round =>
  clear H'
  (try clear p2); (try clear c6); (try clear p6); (try clear hcz5_0); (try clear hcz5_1); (try clear hfz5_0); (try clear hfz5_1)
  obtain ⟨x8_1, x27_1, rfl, HA, HK1, HO_8, BK193, HB⟩ := hrel
  cases gk with
  | zero => exact absurd HA.out (by simp [impl_grid_regions.l0])
  | succ k1 =>
   have H := HA.out
   clear HA
   simp only [impl_grid_regions.l0] at H
   by_cases c8 : x27_1 < (wrap64 ((wrap64 (a0_0 * a0_1)) + 1))
   ·rw [if_pos c8] at H
    have c8b0 : decide (x27_1 < (wrap64 ((wrap64 (a0_0 * a0_1)) + 1))) = true := decide_eq_true c8
    clear c8
    by_cases c9 : x8_1.length < 17592186044416
    ·rw [if_pos c9] at H
     have LMc9 := Aside0.mk c9
     clear c9
     obtain ⟨y197, hy197⟩ : ∃ y_ : List Int, y_ = (x8_1 ++ [x27_1]) := ⟨_, rfl⟩
     replace H : (impl_grid_regions.l0 k1 a1 a2 (wrap64 (a0_0 * a0_1)) y197 (wrap64 ((wrap64 (a0_0 * a0_1)) + 1)) (wrap64 (x27_1 + 1)) a0_0 a0_1) = some r := by first | (rw [hy197]; with_reducible exact H) | (have H2_ := (Option.bind_some _ _).symm.trans H; rw [hy197]; with_reducible exact H2_) | (have H2_ := (Option.bind_some _ _).symm.trans H; with_reducible exact H2_) | with_reducible exact H | (rw [hy197]; exact H) | exact H
     have Ny197 := Aside0.mk hy197
     clear hy197
     have H' := Aside0.mk H
     clear H
     go_wp2_with (first | ((with_reducible refine gate_builtin (b := .append) (xs := #[.tmp 30, .tmp 32]) rfl ?_); (try (refine gate_guard (by rfl) ?_; dsimp only)); at_builtin; refine Kd.R_append (Kd.int .i64) (w0 := w) w.heap.size rfl (.tmp 30) (.tmp 32) 22 3 (.int .i64 0) 8 rfl Try.underlying22 info3 rfl (by decide) (by omega) u8 x8_1 x27_1 [.int .i64 x27_1] (fun _ => True) (fun _ => False) rfl rfl ?aP (fun _ hk => hk.elim) ?aF ?aO ?aB ?aS ?aL ?_; (case aP => exact rfl); (case aB => exact (by repeat (first | (with_reducible first | exact HB.out | apply below_alloc | apply pw_below_drewN | apply below_drew1 | refine below_set ?_ GE193.out) | exact HB.out))); (case aF => exact (fun _ _ => trivial)); (case aO => exact (by (with_reducible repeat (first | apply Kd.R_alloc | apply Kd.R_drewN | apply Kd.R_drew)); exact HO_8.out)); (case aS => exact (below_size (by repeat (first | (with_reducible first | exact HB.out | apply below_alloc | apply pw_below_drewN | apply below_drew1 | refine below_set ?_ GE193.out) | exact HB.out)))); (case aL => have := LMc9.out; omega); intro v198 w10 ho hb hg hat; rw [← Ny197.out] at ho; have n0_ := Aside0.mk (blk_grown (g := gb193) (o := .cells #[.int .i64 a0_0, .int .i64 a0_1] 71 (0, 0)) (by (with_reducible repeat (first | refine blk_drewN ?_ _ | refine blk_drew ?_ | refine blk_alloc ?_ _)); exact BK193.out) hg (Kd.R_ne HO_8.out BK193.out (by decide))); have n1_ := Aside0.mk (hb); have n2_ := Aside0.mk (ho); clear BK193; clear HB; clear HO_8; have BK193 := n0_; have HB := n1_; have HO199 := n2_; clear n0_ n1_ n2_; clear ho hb hg hat))
     go_roundg k1
     case measure => have := HK1.out; omega
     case rel => exact ⟨(y197), (wrap64 (x27_1 + 1)), (by first | rfl | (simp; done) | (simp [*]; done)), H', ⟨by have := HK1.out; omega⟩, ⟨by (with_reducible repeat (first | apply Kd.R_alloc | apply Kd.R_drewN | apply Kd.R_drew)); exact HO199.out⟩, ⟨by (with_reducible repeat (first | refine blk_drewN ?_ _ | refine blk_drew ?_ | refine blk_alloc ?_ _)); exact BK193.out⟩, ⟨by repeat (first | (with_reducible first | exact HB.out | apply below_alloc | apply pw_below_drewN | apply below_drew1 | refine below_set ?_ GE193.out) | exact HB.out)⟩⟩
    ·rw [if_neg c9] at H
     exact absurd H (by simp)
   ·rw [if_neg c8] at H
    have c8b0 : decide (x27_1 < (wrap64 ((wrap64 (a0_0 * a0_1)) + 1))) = false := decide_eq_false c8
    clear c8
    have H' := Aside0.mk H
    clear H
    go_wp2
    go_loopg [37] k1 (fun kq v37 w' => ∃ (x8_2 : List Int) (x37_2 : Int), v37 = .int .i64 x37_2 ∧ Aside0 (impl_grid_regions.l1 kq a1 a2 (wrap64 (a0_0 * a0_1)) x8_2 (wrap64 ((wrap64 (a0_0 * a0_1)) + 1)) x37_2 a0_0 a0_1 = some r) ∧ Aside0 (kq ≤ k1) ∧ Aside0 (Kd.R (Kd.int .i64) 3 w' w.heap.size (fun _ => True) u8 x8_2) ∧ Aside0 (w'.heap[gb193]? = some (.cells #[.int .i64 a0_0, .int .i64 a0_1] 71 (0, 0))) ∧ Aside0 (Below w.heap.size w w'))
    case atStart => exact ⟨(x8_1), (0), (by first | rfl | (simp; done) | (simp [*]; done)), H', ⟨Nat.le_refl _⟩, ⟨by (with_reducible repeat (first | apply Kd.R_alloc | apply Kd.R_drewN | apply Kd.R_drew)); exact HO_8.out⟩, ⟨by (with_reducible repeat (first | refine blk_drewN ?_ _ | refine blk_drew ?_ | refine blk_alloc ?_ _)); exact BK193.out⟩, ⟨by repeat (first | (with_reducible first | exact HB.out | apply below_alloc | apply pw_below_drewN | apply below_drew1 | refine below_set ?_ GE193.out) | exact HB.out)⟩⟩
    case round =>
     clear H'
     (try clear p2); (try clear c6); (try clear p6); (try clear c8); (try clear c8b0); (try clear c9); (try clear hcz5_0); (try clear hcz5_1); (try clear hfz5_0); (try clear hfz5_1); (try clear p2); (try clear p6)
     obtain ⟨x8_2, x37_2, rfl, HA, HK2, HO_8, BK193, HB⟩ := hrel
     cases gk with
     | zero => exact absurd HA.out (by simp [impl_grid_regions.l1])
     | succ k2 =>
      have H := HA.out
      clear HA
      simp only [impl_grid_regions.l1] at H
      by_cases c11 : x37_2 < (wrap64 ((wrap64 (a0_0 * a0_1)) + 1))
      ·rw [if_pos c11] at H
       have c11b0 : decide (x37_2 < (wrap64 ((wrap64 (a0_0 * a0_1)) + 1))) = true := decide_eq_true c11
       clear c11
       replace H := Option.bind_eq_some_iff.mp H
       obtain ⟨t200, A120, H⟩ := H
       replace H : ((impl_grid_uprights.f a0_0 a0_1).bind fun t201 => (impl_grid_regions.l2 k2 a1 a2 (wrap64 (a0_0 * a0_1)) x8_2 (wrap64 ((wrap64 (a0_0 * a0_1)) + 1)) x37_2 (wrap64 (t200 + t201)) 0 a0_0 a0_1)) = some r := H
       have A12 := Aside0.mk A120
       clear A120
       replace H := Option.bind_eq_some_iff.mp H
       obtain ⟨t201, A130, H⟩ := H
       replace H : (impl_grid_regions.l2 k2 a1 a2 (wrap64 (a0_0 * a0_1)) x8_2 (wrap64 ((wrap64 (a0_0 * a0_1)) + 1)) x37_2 (wrap64 (t200 + t201)) 0 a0_0 a0_1) = some r := H
       have A13 := Aside0.mk A130
       clear A130
       have H' := Aside0.mk H
       clear H
       try go_wp2
       have n0_ := Aside0.mk (Kd.R_drew HO_8.out)
       have n1_ := Aside0.mk (blk_drew BK193.out)
       have n2_ := Aside0.mk (below_drew1 HB.out)
       clear HO_8
       clear BK193
       clear HB
       have HO_8 := n0_
       have BK193 := n1_
       have HB := n2_
       clear n0_ n1_ n2_
       refine start_ (n := 6) (S := fun w' => w'.cell? ⟨gb193, 0, none⟩ = some (.int .i64 a0_0) ∧ w'.cell? ⟨gb193, 1, none⟩ = some (.int .i64 a0_1)) (ds := []) (fl 6 0) (by kernel_rfl) rfl rfl ⟨(blk_cell BK193.out 0).trans rfl, (blk_cell BK193.out 1).trans rfl⟩ (fun hHeld => ?_)
       generalize wr.drew = w14 at HO_8 BK193 HB hHeld ⊢
       refine pure_ (i := 5) (N := some 44) (v := ?_) (a' := ?_) (fl 6 32) rfl rfl (by kernel_rfl) (fun _ _ _ h => h) (Or.inl ⟨by rfl, ?_⟩) ?_ ?_
       rotate_left; ·(intro w'; go_simp; with_reducible rfl)
       rotate_left; ·(simp only [Act.put, List.setIfInBounds_toArray, List.set_cons_zero, List.set_cons_succ, i64_w, i32_w]; rfl)
       refine take_ (i := 0) (N := some 39) (v := ?_) (a' := ?_) (fl 6 33) rfl rfl (by kernel_rfl) (fun _ _ _ h => h) (Or.inl ⟨by rfl, ?_⟩) hHeld ?_ ?_
       rotate_left; ·(rintro w' ⟨s0, s1⟩; go_simp; with_reducible rfl)
       rotate_left; ·(simp only [Act.put, List.setIfInBounds_toArray, List.set_cons_zero, List.set_cons_succ, i64_w, i32_w]; rfl)
       refine take_ (i := 2) (N := some 41) (v := ?_) (a' := ?_) (fl 6 37) rfl rfl (by kernel_rfl) (fun _ _ _ h => h) (Or.inl ⟨by rfl, ?_⟩) hHeld ?_ ?_
       rotate_left; ·(rintro w' ⟨s0, s1⟩; go_simp; with_reducible rfl)
       rotate_left; ·(simp only [Act.put, List.setIfInBounds_toArray, List.set_cons_zero, List.set_cons_succ, i64_w, i32_w]; rfl)
       refine one_ (i := 1) (N := some 40) (fl 6 39) rfl rfl (by kernel_rfl) (by decide) (fun K hK => ?_)
       refine goes_ Try.func54 (by kernel_rfl) rfl #[.agg #[.int .i64 a0_0, .int .i64 a0_1]] (by rfl) rfl rfl (by (try simp only [List.map_toArray, List.map_cons, List.map_nil]); first | done | rfl) ?_
       with_reducible refine (impl_grid_levels.calls a0_0 a0_1 t200 _ A12.out).mono ?_
       rintro e w15 ⟨rfl, hb⟩
       refine ⟨_, rfl, ?_⟩
       have n0_ := Aside0.mk (Kd.R_below (by (with_reducible repeat (first | apply Kd.R_alloc | apply Kd.R_drewN | apply Kd.R_drew)); exact HO_8.out) hb)
       have n1_ := Aside0.mk (blk_below (g := gb193) (o := .cells #[.int .i64 a0_0, .int .i64 a0_1] 71 (0, 0)) (by (with_reducible repeat (first | refine blk_drewN ?_ _ | refine blk_drew ?_ | refine blk_alloc ?_ _)); exact BK193.out) hb)
       have n2_ := Aside0.mk (below_step (by repeat (first | (with_reducible first | exact HB.out | apply below_alloc | apply pw_below_drewN | apply below_drew1 | refine below_set ?_ GE193.out) | exact HB.out)) hb)
       clear HO_8
       clear BK193
       clear HB
       have HO_8 := n0_
       have BK193 := n1_
       have HB := n2_
       clear n0_ n1_ n2_
       (try clear hb)
       (try clear hb2)
       (try clear hk)
       (try clear hi)
       refine hK.out _ _ ⟨(blk_cell BK193.out 0).trans rfl, (blk_cell BK193.out 1).trans rfl⟩ (fun hHeld => ?_)
       clear hK K
       refine norm_ (a' := ?_) ?_ ?_
       rotate_left; ·(show Act.put _ (some 40) _ = _; simp only [Act.put, List.setIfInBounds_toArray, List.set_cons_zero, List.set_cons_succ, i64_w, i32_w]; rfl)
       refine one_ (i := 3) (N := some 42) (fl 6 47) rfl rfl (by kernel_rfl) (by decide) (fun K hK => ?_)
       refine goes_ Try.func55 (by kernel_rfl) rfl #[.agg #[.int .i64 a0_0, .int .i64 a0_1]] (by rfl) rfl rfl (by (try simp only [List.map_toArray, List.map_cons, List.map_nil]); first | done | rfl) ?_
       with_reducible refine (impl_grid_uprights.calls a0_0 a0_1 t201 _ A13.out).mono ?_
       rintro e w16 ⟨rfl, hb⟩
       refine ⟨_, rfl, ?_⟩
       have n0_ := Aside0.mk (Kd.R_below (by (with_reducible repeat (first | apply Kd.R_alloc | apply Kd.R_drewN | apply Kd.R_drew)); exact HO_8.out) hb)
       have n1_ := Aside0.mk (blk_below (g := gb193) (o := .cells #[.int .i64 a0_0, .int .i64 a0_1] 71 (0, 0)) (by (with_reducible repeat (first | refine blk_drewN ?_ _ | refine blk_drew ?_ | refine blk_alloc ?_ _)); exact BK193.out) hb)
       have n2_ := Aside0.mk (below_step (by repeat (first | (with_reducible first | exact HB.out | apply below_alloc | apply pw_below_drewN | apply below_drew1 | refine below_set ?_ GE193.out) | exact HB.out)) hb)
       clear HO_8
       clear BK193
       clear HB
       have HO_8 := n0_
       have BK193 := n1_
       have HB := n2_
       clear n0_ n1_ n2_
       (try clear hb)
       (try clear hb2)
       (try clear hk)
       (try clear hi)
       refine hK.out _ _ ⟨(blk_cell BK193.out 0).trans rfl, (blk_cell BK193.out 1).trans rfl⟩ (fun hHeld => ?_)
       clear hK K
       refine norm_ (a' := ?_) ?_ ?_
       rotate_left; ·(show Act.put _ (some 42) _ = _; simp only [Act.put, List.setIfInBounds_toArray, List.set_cons_zero, List.set_cons_succ, i64_w, i32_w]; rfl)
       refine pure_ (i := 4) (N := some 43) (v := ?_) (a' := ?_) (fl 6 63) rfl rfl (by kernel_rfl) (fun _ _ _ h => h) (Or.inl ⟨by rfl, ?_⟩) ?_ ?_
       rotate_left; ·(intro w'; go_simp; with_reducible rfl)
       rotate_left; ·(simp only [Act.put, List.setIfInBounds_toArray, List.set_cons_zero, List.set_cons_succ, i64_w, i32_w]; rfl)
       refine done_ (by kernel_rfl) ?_
       try go_wp2
       go_loopg [44] k2 (fun kq v44 w' => ∃ (x8_3 : List Int) (x44_3 : Int), v44 = .int .i64 x44_3 ∧ Aside0 (impl_grid_regions.l2 kq a1 a2 (wrap64 (a0_0 * a0_1)) x8_3 (wrap64 ((wrap64 (a0_0 * a0_1)) + 1)) x37_2 (wrap64 (t200 + t201)) x44_3 a0_0 a0_1 = some r) ∧ Aside0 (kq ≤ k2) ∧ Aside0 (Kd.R (Kd.int .i64) 3 w' w.heap.size (fun _ => True) u8 x8_3) ∧ Aside0 (w'.heap[gb193]? = some (.cells #[.int .i64 a0_0, .int .i64 a0_1] 71 (0, 0))) ∧ Aside0 (Below w.heap.size w w'))
       case atStart => exact ⟨(x8_2), (0), (by first | rfl | (simp; done) | (simp [*]; done)), H', ⟨Nat.le_refl _⟩, ⟨by (with_reducible repeat (first | apply Kd.R_alloc | apply Kd.R_drewN | apply Kd.R_drew)); exact HO_8.out⟩, ⟨by (with_reducible repeat (first | refine blk_drewN ?_ _ | refine blk_drew ?_ | refine blk_alloc ?_ _)); exact BK193.out⟩, ⟨by repeat (first | (with_reducible first | exact HB.out | apply below_alloc | apply pw_below_drewN | apply below_drew1 | refine below_set ?_ GE193.out) | exact HB.out)⟩⟩
       case round =>
        clear H'
        (try clear c1); (try clear p2); (try clear c5); (try clear c6); (try clear p6); (try clear c8); (try clear c8b0); (try clear c9); (try clear c11); (try clear c11b0); (try clear hcz5_0); (try clear hcz5_1); (try clear hfz5_0); (try clear hfz5_1); (try clear p2); (try clear p6)
        obtain ⟨x8_3, x44_3, rfl, HA, HK3, HO_8, BK193, HB⟩ := hrel
        cases gk with
        | zero => exact absurd HA.out (by simp [impl_grid_regions.l2])
        | succ k3 =>
         have H := HA.out
         clear HA
         simp only [impl_grid_regions.l2] at H
         by_cases c17 : x44_3 < (wrap64 (t200 + t201))
         ·rw [if_pos c17] at H
          have c17b0 : decide (x44_3 < (wrap64 (t200 + t201))) = true := decide_eq_true c17
          clear c17
          replace H := Option.bind_eq_some_iff.mp H
          obtain ⟨⟨t202, t203⟩, A180, H⟩ := H
          replace H : (if t202 < 0 then (impl_grid_regions.j3 k3 a1 a2 (wrap64 (a0_0 * a0_1)) x8_3 x44_3 (wrap64 (a0_0 * a0_1)) t203 (wrap64 ((wrap64 (a0_0 * a0_1)) + 1)) x37_2 (wrap64 (t200 + t201)) x44_3 a0_0 a0_1) else (impl_grid_regions.j3 k3 a1 a2 (wrap64 (a0_0 * a0_1)) x8_3 x44_3 t202 t203 (wrap64 ((wrap64 (a0_0 * a0_1)) + 1)) x37_2 (wrap64 (t200 + t201)) x44_3 a0_0 a0_1)) = some r := H
          have A18 := Aside0.mk A180
          clear A180
          have HC19 := Aside0.mk H
          clear H
          have hcz20_0 : wr.cell? ⟨gb193, 0, none⟩ = some (.int .i64 a0_0) := (blk_cell BK193.out 0).trans rfl
          have hcz20_1 : wr.cell? ⟨gb193, 1, none⟩ = some (.int .i64 a0_1) := (blk_cell BK193.out 1).trans rfl
          have hfz20_0 := blk_frozen BK193.out 0
          have hfz20_1 := blk_frozen BK193.out 1
          go_upto_if 54 with (first | ((with_reducible refine gate_callee (f := 77) rfl ?_); refine goesL_ (some 50) rfl rfl Try.func77 (by kernel_rfl) rfl #[.agg #[.int .i64 a0_0, .int .i64 a0_1], .int .i64 x44_3] rfl (by (try simp only [List.map_toArray, List.map_cons, List.map_nil]); first | done | rfl) ?_; (with_reducible refine (impl_grid_beside.calls a0_0 a0_1 x44_3 t202 t203 _ A18.out).mono ?_); rintro e w21 ⟨rfl, hb⟩; refine ⟨_, rfl, ?_⟩; have n0_ := Aside0.mk (Kd.R_below (by (with_reducible repeat (first | apply Kd.R_alloc | apply Kd.R_drewN | apply Kd.R_drew)); exact HO_8.out) hb); have n1_ := Aside0.mk (blk_below (g := gb193) (o := .cells #[.int .i64 a0_0, .int .i64 a0_1] 71 (0, 0)) (by (with_reducible repeat (first | refine blk_drewN ?_ _ | refine blk_drew ?_ | refine blk_alloc ?_ _)); exact BK193.out) hb); have n2_ := Aside0.mk (below_step (by repeat (first | (with_reducible first | exact HB.out | apply below_alloc | apply pw_below_drewN | apply below_drew1 | refine below_set ?_ GE193.out) | exact HB.out)) hb); clear HO_8; clear BK193; clear HB; have HO_8 := n0_; have BK193 := n1_; have HB := n2_; clear n0_ n1_ n2_; (try clear hb); (try clear hb2); (try clear hk); (try clear hi)))
          (try simp only [Act.put, List.setIfInBounds_toArray, List.set_cons_zero, List.set_cons_succ])
          go_cut [11] (fun v11 wc => ∃ (kq : Nat) (x11_18 : Int), v11 = .int .i64 x11_18 ∧ Aside0 (impl_grid_regions.j3 kq a1 a2 (wrap64 (a0_0 * a0_1)) x8_3 x44_3 x11_18 t203 (wrap64 ((wrap64 (a0_0 * a0_1)) + 1)) x37_2 (wrap64 (t200 + t201)) x44_3 a0_0 a0_1 = some r) ∧ Aside0 (kq ≤ k3) ∧ Aside0 (Kd.R (Kd.int .i64) 3 wc w.heap.size (fun _ => True) u8 x8_3) ∧ Aside0 (wc.heap[gb193]? = some (.cells #[.int .i64 a0_0, .int .i64 a0_1] 71 (0, 0))) ∧ Aside0 (Below w.heap.size w wc))
          case first =>
           have H := HC19.out
           clear HC19
           by_cases c22 : t202 < 0
           ·rw [if_pos c22] at H
            have c22b0 : decide (t202 < 0) = true := decide_eq_true c22
            clear c22
            (first | rw [c22b0] | (simp only [i64_w, i32_w]; rw [c22b0]) | skip)
            have H' := Aside0.mk H
            clear H
            go_wp2
            go_meet
            case rel => exact ⟨_, ((wrap64 (a0_0 * a0_1))), (by first | rfl | (simp; done) | (simp [*]; done)), H', ⟨by have := HK1.out; have := HK2.out; have := HK3.out; first | omega | exact Nat.le_refl _⟩, ⟨by (with_reducible repeat (first | apply Kd.R_alloc | apply Kd.R_drewN | apply Kd.R_drew)); exact HO_8.out⟩, ⟨by (with_reducible repeat (first | refine blk_drewN ?_ _ | refine blk_drew ?_ | refine blk_alloc ?_ _)); exact BK193.out⟩, ⟨by repeat (first | (with_reducible first | exact HB.out | apply below_alloc | apply pw_below_drewN | apply below_drew1 | refine below_set ?_ GE193.out) | exact HB.out)⟩⟩
           ·rw [if_neg c22] at H
            have c22b0 : decide (t202 < 0) = false := decide_eq_false c22
            clear c22
            (first | rw [c22b0] | (simp only [i64_w, i32_w]; rw [c22b0]) | skip)
            have H' := Aside0.mk H
            clear H
            go_wp2
            go_meet
            case rel => exact ⟨_, (t202), (by first | rfl | (simp; done) | (simp [*]; done)), H', ⟨by have := HK1.out; have := HK2.out; have := HK3.out; first | omega | exact Nat.le_refl _⟩, ⟨by (with_reducible repeat (first | apply Kd.R_alloc | apply Kd.R_drewN | apply Kd.R_drew)); exact HO_8.out⟩, ⟨by (with_reducible repeat (first | refine blk_drewN ?_ _ | refine blk_drew ?_ | refine blk_alloc ?_ _)); exact BK193.out⟩, ⟨by repeat (first | (with_reducible first | exact HB.out | apply below_alloc | apply pw_below_drewN | apply below_drew1 | refine below_set ?_ GE193.out) | exact HB.out)⟩⟩
          case rest =>
           clear HC19
           (try clear c1); (try clear c2); (try clear p2); (try clear c5); (try clear c6); (try clear p6); (try clear c7); (try clear c8); (try clear c8b0); (try clear c9); (try clear c11); (try clear c11b0); (try clear c17); (try clear c17b0); (try clear c22); (try clear c22b0); (try clear hcz20_0); (try clear hcz20_1); (try clear hcz5_0); (try clear hcz5_1); (try clear hfz20_0); (try clear hfz20_1); (try clear hfz5_0); (try clear hfz5_1); (try clear p2); (try clear p6)
           obtain ⟨kq, x11_18, rfl, HA, HJ18, HO_8, BK193, HB⟩ := hcut
           cases kq with
           | zero => exact absurd HA.out (by simp [impl_grid_regions.j3])
           | succ kj18 =>
            have H := HA.out
            clear HA
            simp only [impl_grid_regions.j3] at H
            by_cases c23 : t203 < 0
            ·rw [if_pos c23] at H
             have c23b0 : decide (t203 < 0) = true := decide_eq_true c23
             clear c23
             by_cases c24 : 0 ≤ x44_3
             ·rw [if_pos c24] at H
              have c24b0 := eq_true c24
              have c24b1 : decide (0 ≤ x44_3) = true := decide_eq_true c24
              clear c24
              obtain ⟨ji25, hji25⟩ : ∃ j_ : Int, (shr .u64 a1 x44_3) = j_ := ⟨_, rfl⟩
              replace H : (if (Go.bits .and .u64 (ji25) 1) = 1 then (impl_grid_regions.l2 kj18 a1 a2 (wrap64 (a0_0 * a0_1)) x8_3 (wrap64 ((wrap64 (a0_0 * a0_1)) + 1)) x37_2 (wrap64 (t200 + t201)) (wrap64 (x44_3 + 1)) a0_0 a0_1) else (if a2 = true then (if 0 ≤ x11_18 then (if x11_18 < (x8_3.length : Int) then (if 0 ≤ (wrap64 (a0_0 * a0_1)) then (if (wrap64 (a0_0 * a0_1)) < (x8_3.length : Int) then (impl_grid_regions.l2 kj18 a1 a2 (wrap64 (a0_0 * a0_1)) ((x8_3.set (x11_18 : Int).toNat (mn (rd x8_3 x11_18) (rd x8_3 (wrap64 (a0_0 * a0_1))))).set ((wrap64 (a0_0 * a0_1)) : Int).toNat (mn (rd x8_3 x11_18) (rd x8_3 (wrap64 (a0_0 * a0_1))))) (wrap64 ((wrap64 (a0_0 * a0_1)) + 1)) x37_2 (wrap64 (t200 + t201)) (wrap64 (x44_3 + 1)) a0_0 a0_1) else (none)) else (none)) else (none)) else (none)) else (if (mx x11_18 (wrap64 (a0_0 * a0_1))) = (wrap64 (a0_0 * a0_1)) then (impl_grid_regions.l2 kj18 a1 a2 (wrap64 (a0_0 * a0_1)) x8_3 (wrap64 ((wrap64 (a0_0 * a0_1)) + 1)) x37_2 (wrap64 (t200 + t201)) (wrap64 (x44_3 + 1)) a0_0 a0_1) else (if 0 ≤ x11_18 then (if x11_18 < (x8_3.length : Int) then (if 0 ≤ (wrap64 (a0_0 * a0_1)) then (if (wrap64 (a0_0 * a0_1)) < (x8_3.length : Int) then (impl_grid_regions.l2 kj18 a1 a2 (wrap64 (a0_0 * a0_1)) ((x8_3.set (x11_18 : Int).toNat (mn (rd x8_3 x11_18) (rd x8_3 (wrap64 (a0_0 * a0_1))))).set ((wrap64 (a0_0 * a0_1)) : Int).toNat (mn (rd x8_3 x11_18) (rd x8_3 (wrap64 (a0_0 * a0_1))))) (wrap64 ((wrap64 (a0_0 * a0_1)) + 1)) x37_2 (wrap64 (t200 + t201)) (wrap64 (x44_3 + 1)) a0_0 a0_1) else (none)) else (none)) else (none)) else (none))))) = some r := by first | (rw [hji25] at H; exact H) | (simp only [hji25] at H ⊢; exact H)
              have hji25_ : (a1 / 2 ^ min x44_3.toNat 64) = ji25 := hji25
              have hji25z : x44_3 ≤ 64 → (a1 / 2 ^ x44_3.toNat) = ji25 := shr_small hji25
              by_cases c26 : (Go.bits .and .u64 (ji25) 1) = 1
              ·rw [if_pos c26] at H
               have c26b0 : ((Go.bits .and .u64 (ji25) 1) == 1) = true := beq_iff_eq.mpr c26
               have c26b1 : ((Go.bits .and .u64 (ji25) 1) != 1) = false := bne_eq_false_iff_eq.mpr c26
               clear c26
               have H' := Aside0.mk H
               clear H
               go_wp2
               first | go_roundg kj18 | ((try subst hji25); go_roundg kj18)
               case measure => have := HK1.out; have := HK2.out; have := HK3.out; have := HJ18.out; omega
               case rel => exact ⟨(x8_3), (wrap64 (x44_3 + 1)), (by first | rfl | (simp; done) | (simp [*]; done)), H', ⟨by have := HK1.out; have := HK2.out; have := HK3.out; have := HJ18.out; omega⟩, ⟨by (with_reducible repeat (first | apply Kd.R_alloc | apply Kd.R_drewN | apply Kd.R_drew)); exact HO_8.out⟩, ⟨by (with_reducible repeat (first | refine blk_drewN ?_ _ | refine blk_drew ?_ | refine blk_alloc ?_ _)); exact BK193.out⟩, ⟨by repeat (first | (with_reducible first | exact HB.out | apply below_alloc | apply pw_below_drewN | apply below_drew1 | refine below_set ?_ GE193.out) | exact HB.out)⟩⟩
              ·rw [if_neg c26] at H
               have c26b0 : ((Go.bits .and .u64 (ji25) 1) == 1) = false := beq_eq_false_iff_ne.mpr c26
               have c26b1 : ((Go.bits .and .u64 (ji25) 1) != 1) = true := bne_iff_ne.mpr c26
               by_cases c27 : a2 = true
               ·subst c27
                have H1 : (if 0 ≤ x11_18 then (if x11_18 < (x8_3.length : Int) then (if 0 ≤ (wrap64 (a0_0 * a0_1)) then (if (wrap64 (a0_0 * a0_1)) < (x8_3.length : Int) then (impl_grid_regions.l2 kj18 a1 true (wrap64 (a0_0 * a0_1)) ((x8_3.set (x11_18 : Int).toNat (mn (rd x8_3 x11_18) (rd x8_3 (wrap64 (a0_0 * a0_1))))).set ((wrap64 (a0_0 * a0_1)) : Int).toNat (mn (rd x8_3 x11_18) (rd x8_3 (wrap64 (a0_0 * a0_1))))) (wrap64 ((wrap64 (a0_0 * a0_1)) + 1)) x37_2 (wrap64 (t200 + t201)) (wrap64 (x44_3 + 1)) a0_0 a0_1) else (none)) else (none)) else (none)) else (none)) = some r := by rw [if_pos rfl] at H; exact H
                clear H
                have H := H1
                clear H1
                by_cases c28 : 0 ≤ x11_18
                ·rw [if_pos c28] at H
                 have c28b0 : decide (0 ≤ x11_18) = true := decide_eq_true c28
                 clear c28
                 by_cases c29 : x11_18 < (x8_3.length : Int)
                 ·rw [if_pos c29] at H
                  have c29b0 : decide (x11_18 < (x8_3.length : Int)) = true := decide_eq_true c29
                  clear c29
                  obtain ⟨ji30, hji30⟩ : ∃ j_ : Int, (wrap64 (a0_0 * a0_1)) = j_ := ⟨_, rfl⟩
                  replace H : (if 0 ≤ (ji30) then (if (ji30) < (x8_3.length : Int) then (impl_grid_regions.l2 kj18 a1 true (ji30) ((x8_3.set (x11_18 : Int).toNat (mn (rd x8_3 x11_18) (rd x8_3 (ji30)))).set ((ji30) : Int).toNat (mn (rd x8_3 x11_18) (rd x8_3 (ji30)))) (wrap64 ((ji30) + 1)) x37_2 (wrap64 (t200 + t201)) (wrap64 (x44_3 + 1)) a0_0 a0_1) else (none)) else (none)) = some r := by first | (rw [hji30] at H; exact H) | (simp only [hji30] at H ⊢; exact H)
                  (try rw [hji30] at c8b0)
                  (try rw [hji30] at c11b0)
                  have hji30w : (IntKind.i64.wrap (a0_0 * a0_1)) = ji30 := (i64_w _).trans hji30
                  by_cases c31 : 0 ≤ (ji30)
                  ·rw [if_pos c31] at H
                   have c31b0 : decide (0 ≤ (ji30)) = true := decide_eq_true c31
                   clear c31
                   by_cases c32 : (ji30) < (x8_3.length : Int)
                   ·rw [if_pos c32] at H
                    have c32b0 : decide ((ji30) < (x8_3.length : Int)) = true := decide_eq_true c32
                    clear c32
                    obtain ⟨ji33, hji33⟩ : ∃ j_ : Int, (mn (rd x8_3 x11_18) (rd x8_3 (ji30))) = j_ := ⟨_, rfl⟩
                    replace H : (impl_grid_regions.l2 kj18 a1 true (ji30) ((x8_3.set (x11_18 : Int).toNat (ji33)).set ((ji30) : Int).toNat (ji33)) (wrap64 ((ji30) + 1)) x37_2 (wrap64 (t200 + t201)) (wrap64 (x44_3 + 1)) a0_0 a0_1) = some r := by first | (rw [hji33] at H; exact H) | (simp only [hji33] at H ⊢; exact H)
                    have hji33_ : (if (rd x8_3 (ji30)) < (rd x8_3 x11_18) then (rd x8_3 (ji30)) else (rd x8_3 x11_18)) = ji33 := hji33
                    obtain ⟨y206, hy206⟩ : ∃ y_ : List Int, y_ = (x8_3.set (x11_18 : Int).toNat (ji33)) := ⟨_, rfl⟩
                    replace H : (impl_grid_regions.l2 kj18 a1 true (ji30) (y206.set ((ji30) : Int).toNat (ji33)) (wrap64 ((ji30) + 1)) x37_2 (wrap64 (t200 + t201)) (wrap64 (x44_3 + 1)) a0_0 a0_1) = some r := by first | (rw [hy206]; with_reducible exact H) | (have H2_ := (Option.bind_some _ _).symm.trans H; rw [hy206]; with_reducible exact H2_) | (have H2_ := (Option.bind_some _ _).symm.trans H; with_reducible exact H2_) | with_reducible exact H | (rw [hy206]; exact H) | exact H
                    have Ny206 := Aside0.mk hy206
                    clear hy206
                    obtain ⟨y207, hy207⟩ : ∃ y_ : List Int, y_ = (y206.set ((ji30) : Int).toNat (ji33)) := ⟨_, rfl⟩
                    replace H : (impl_grid_regions.l2 kj18 a1 true (ji30) y207 (wrap64 ((ji30) + 1)) x37_2 (wrap64 (t200 + t201)) (wrap64 (x44_3 + 1)) a0_0 a0_1) = some r := by first | (rw [hy207]; with_reducible exact H) | (have H2_ := (Option.bind_some _ _).symm.trans H; rw [hy207]; with_reducible exact H2_) | (have H2_ := (Option.bind_some _ _).symm.trans H; with_reducible exact H2_) | with_reducible exact H | (rw [hy207]; exact H) | exact H
                    have Ny207 := Aside0.mk hy207
                    clear hy207
                    have H' := Aside0.mk H
                    clear H
                    try go_wp2
                    have n0_ := Aside0.mk (Kd.R_drew HO_8.out)
                    have n1_ := Aside0.mk (blk_drew BK193.out)
                    have n2_ := Aside0.mk (below_drew1 HB.out)
                    clear HO_8
                    clear BK193
                    clear HB
                    have HO_8 := n0_
                    have BK193 := n1_
                    have HB := n2_
                    clear n0_ n1_ n2_
                    obtain ⟨Ao37, co37, eo37⟩ := Kd.R_slice HO_8.out
                    (first | subst eo37 | (injection eo37 with f1_ f2_ f3_; have f4_ := f1_.symm; have f5_ := f3_.symm; clear f1_ f2_ f3_; subst f4_; subst f5_))
                    have p204 : 0 ≤ (x11_18 : Int) := of_decide_eq_true (by first | (with_reducible assumption) | assumption)
                    have q204 : x11_18 < (x8_3.length : Int) := of_decide_eq_true (by first | (with_reducible assumption) | assumption)
                    obtain ⟨ad204, e204, hx204_0⟩ := Kd.at_int (Kd.R_reads' HO_8.out).2.2 x11_18 p204 q204
                    cases e204
                    replace p204 := eq_true p204
                    replace q204 := eq_true q204
                    have p205 : 0 ≤ ((ji30) : Int) := of_decide_eq_true (by first | (with_reducible assumption) | assumption)
                    have q205 : (ji30) < (x8_3.length : Int) := of_decide_eq_true (by first | (with_reducible assumption) | assumption)
                    obtain ⟨ad205, e205, hx205_0⟩ := Kd.at_int (Kd.R_reads' HO_8.out).2.2 (ji30) p205 q205
                    obtain rfl : ad204 = ad205 := (by injection e205)
                    replace p205 := eq_true p205
                    replace q205 := eq_true q205
                    refine start_ (n := 10) (S := fun w' => w'.cell? (ad204.add (x11_18).toNat) = some (.int .i64 (rd x8_3 x11_18)) ∧ w'.cell? (ad204.add ((ji30)).toNat) = some (.int .i64 (rd x8_3 (ji30)))) (ds := []) (fl 10 0) (by kernel_rfl) rfl rfl ⟨hx204_0, hx205_0⟩ (fun hHeld => ?_); refine with_tabW impl_grid_regions.tab19 impl_grid_regions.bits19 (fun HT_ HW_ => ?_)
                    generalize wc.drew = w36 at HO_8 BK193 HB hx204_0 hx205_0 hHeld ⊢
                    refine pure_ (i := 0) (N := some 75) (v := ?_) (a' := ?_) (fl 10 1) rfl rfl (any_of HT_.out (by kernel_rfl)) (fun _ _ _ h => h) (Or.inl ⟨by rfl, ?_⟩) ?_ ?_
                    rotate_left; ·(intro w'; go_simp; with_reducible rfl)
                    rotate_left; ·(simp only [Act.put, List.setIfInBounds_toArray, List.set_cons_zero, List.set_cons_succ, i64_w, i32_w]; rfl)
                    refine pure_ (i := 1) (N := some 76) (v := ?_) (a' := ?_) (fl 10 3) rfl rfl (any_of HT_.out (by kernel_rfl)) (fun _ _ _ h => h) (Or.inl ⟨by rfl, ?_⟩) ?_ ?_
                    rotate_left; ·(intro w'; go_simp; with_reducible rfl)
                    rotate_left; ·(simp only [Act.put, List.setIfInBounds_toArray, List.set_cons_zero, List.set_cons_succ, i64_w, i32_w]; rfl)
                    refine pure_ (i := 2) (N := some 77) (v := ?_) (a' := ?_) (fl 10 7) rfl rfl (any_of HT_.out (by kernel_rfl)) (fun _ _ _ h => h) (Or.inl ⟨by rfl, ?_⟩) ?_ ?_
                    rotate_left; ·(intro w'; go_simp; with_reducible rfl)
                    rotate_left; ·(simp only [Act.put, List.setIfInBounds_toArray, List.set_cons_zero, List.set_cons_succ, i64_w, i32_w]; rfl)
                    refine pure_ (i := 4) (N := some 79) (v := ?_) (a' := ?_) (fl 10 23) rfl rfl (any_of HT_.out (by kernel_rfl)) (fun _ _ _ h => h) (Or.inl ⟨by rfl, ?_⟩) ?_ ?_
                    rotate_left; ·(intro w'; go_simp; with_reducible rfl)
                    rotate_left; ·(simp only [Act.put, List.setIfInBounds_toArray, List.set_cons_zero, List.set_cons_succ, i64_w, i32_w]; rfl)
                    refine pure_ (i := 5) (N := some 80) (v := ?_) (a' := ?_) (fl 10 55) rfl rfl (any_of HT_.out (by kernel_rfl)) (fun _ _ _ h => h) (Or.inl ⟨by rfl, ?_⟩) ?_ ?_
                    rotate_left; ·(intro w'; go_simp; with_reducible rfl)
                    rotate_left; ·(simp only [Act.put, List.setIfInBounds_toArray, List.set_cons_zero, List.set_cons_succ, i64_w, i32_w]; rfl)
                    refine pure_ (i := 6) (N := some 81) (v := ?_) (a' := ?_) (fl 10 119) rfl rfl (any_of HT_.out (by kernel_rfl)) (fun _ _ _ h => h) (Or.inl ⟨by rfl, ?_⟩) ?_ ?_
                    rotate_left; ·(intro w'; go_simp; with_reducible rfl)
                    rotate_left; ·(simp only [Act.put, List.setIfInBounds_toArray, List.set_cons_zero, List.set_cons_succ, i64_w, i32_w]; rfl)
                    refine take_ (i := 3) (N := some 78) (v := ?_) (a' := ?_) (fl 10 127) rfl rfl (take_ofW HT_.out HW_.out (by kernel_rfl)) (fun _ _ _ h => h) (Or.inl ⟨by rfl, ?_⟩) hHeld ?_ ?_
                    rotate_left; ·(rintro w' ⟨s0, s1⟩; go_simp; with_reducible rfl)
                    rotate_left; ·(simp only [Act.put, List.setIfInBounds_toArray, List.set_cons_zero, List.set_cons_succ, i64_w, i32_w]; rfl)
                    refine take_ (i := 7) (N := some 82) (v := ?_) (a' := ?_) (fl 10 255) rfl rfl (take_ofW HT_.out HW_.out (by kernel_rfl)) (fun _ _ _ h => h) (Or.inl ⟨by rfl, ?_⟩) hHeld ?_ ?_
                    rotate_left; ·(rintro w' ⟨s0, s1⟩; go_simp; with_reducible rfl)
                    rotate_left; ·(simp only [Act.put, List.setIfInBounds_toArray, List.set_cons_zero, List.set_cons_succ, i64_w, i32_w]; rfl)
                    refine pure_ (i := 8) (N := some 83) (v := ?_) (a' := ?_) (fl 10 511) rfl rfl (any_of HT_.out (by kernel_rfl)) (fun _ _ _ h => h) (Or.inl ⟨by rfl, ?_⟩) ?_ ?_
                    rotate_left; ·(intro w'; go_simp; with_reducible rfl)
                    rotate_left; ·(simp only [Act.put, List.setIfInBounds_toArray, List.set_cons_zero, List.set_cons_succ, i64_w, i32_w]; rfl)
                    refine pure_ (i := 9) (N := some 13) (v := ?_) (a' := ?_) (fl 10 1023) rfl rfl (any_of HT_.out (by kernel_rfl)) (fun _ _ _ h => h) (Or.inl ⟨by rfl, ?_⟩) ?_ ?_
                    rotate_left; ·(intro w'; go_simp; with_reducible rfl)
                    rotate_left; ·(simp only [Act.put, List.setIfInBounds_toArray, List.set_cons_zero, List.set_cons_succ, i64_w, i32_w]; rfl)
                    refine done_ (done_of HT_.out (by kernel_rfl)) ?_
                    have p34 : 0 ≤ (x11_18 : Int) := of_decide_eq_true (by first | (with_reducible assumption) | assumption)
                    have q34 : (x11_18 : Int) < ((x8_3.length : Int) : Int) := of_decide_eq_true (by first | (with_reducible assumption) | assumption)
                    obtain ⟨go34, co34, eo34, gb34, gl34, cl34, HG34⟩ := Kd.R_form HO_8.out (by omega)
                    (first | cases eo34 | (injection eo34 with ea_ en_ ec_; (first | subst ea_ | (injection ea_ with ea_; subst ea_)); subst ec_; clear en_))
                    have GB34 := Aside0.mk gb34
                    have GG34 := Aside0.mk HG34
                    clear gb34 gl34 HG34
                    (first | simp only [add_plain] at hx204_0 | skip)
                    (first | simp only [add_plain] at hx205_0 | skip)
                    obtain ⟨hx34_0, hf34_0⟩ := Kd.R_celln 0 HO_8.out (x11_18 : Int) p34 q34
                    replace p34 := eq_true p34
                    replace q34 := eq_true q34
                    obtain ⟨hy38_, hz38_⟩ := Kd.R_celln 0 HO_8.out (x11_18 : Int) (of_decide_eq_true (by first | (with_reducible assumption) | assumption)) (of_decide_eq_true (by first | (with_reducible assumption) | assumption))
                    have HP38 := Kd.R_putg HO_8.out (x11_18 : Int) ji33
                    try go_wp2_with (first | ((with_reducible refine gate_store (t := 3) (p := 90) rfl ?_); refine store_event (t := 3) (p := 90) (v := ?vo_w39) (w1 := (w36.setCell ⟨go34, (x11_18 : Int).toNat, none⟩ (.int .i64 ji33))) ?hg ?ho ?hn ?hr ?_; (case ho => rfl); (case hg => rfl); (case hn => rfl); (case hr => first | (go_simp; done) | (go_simp; rfl)); intro w39 hw; have hg : w36.grownBy w39 (some go34) := (by rw [hw]; exact HP38.2); have hp_ : Kd.R (Kd.int .i64) 3 w39 w.heap.size (fun _ => True) (.slice (some ⟨go34, 0, none⟩) x8_3.length co37) y206 := (by rw [hw, Ny206.out]; exact HP38.1); clear HP38; have n0_ := Aside0.mk (hp_); have n1_ := Aside0.mk (blk_grown (g := gb193) (o := .cells #[.int .i64 a0_0, .int .i64 a0_1] 71 (0, 0)) (by (with_reducible repeat (first | refine blk_drewN ?_ _ | refine blk_drew ?_ | refine blk_alloc ?_ _)); exact BK193.out) hg (Kd.R_ne HO_8.out BK193.out (by decide))); have n2_ := Aside0.mk ((by rw [hw]; exact below_set (HB.out) GB34.out : Below w.heap.size w w39)); clear HO_8; clear BK193; clear HB; have HO_8 := n0_; have BK193 := n1_; have HB := n2_; clear n0_ n1_ n2_; clear hg hw hp_; have p35 : 0 ≤ ((ji30) : Int) := of_decide_eq_true (by first | (with_reducible assumption) | assumption); have q35 : ((ji30) : Int) < ((x8_3.length : Int) : Int) := of_decide_eq_true (by first | (with_reducible assumption) | assumption); obtain ⟨hx35_0, hf35_0⟩ := Kd.R_celln 0 HO_8.out ((ji30) : Int) p35 (by have hl_ := (Kd.R_reads' HO_8.out).1; first | exact q35 | omega); replace p35 := eq_true p35; replace q35 := eq_true q35; obtain ⟨hy40_, hz40_⟩ := Kd.R_celln 0 HO_8.out ((ji30) : Int) (of_decide_eq_true (by first | (with_reducible assumption) | assumption)) (by have hl_ := (Kd.R_reads' HO_8.out).1; have hq_ := of_eq_true q35; omega); have HP40 := Kd.R_putg HO_8.out ((ji30) : Int) ji33) | ((with_reducible refine gate_store (t := 3) (p := 91) rfl ?_); refine store_event (t := 3) (p := 91) (v := ?vo_w41) (w1 := (w39.setCell ⟨go34, ((ji30) : Int).toNat, none⟩ (.int .i64 ji33))) ?hg ?ho ?hn ?hr ?_; (case ho => rfl); (case hg => rfl); (case hn => rfl); (case hr => first | (go_simp; done) | (go_simp; rfl)); intro w41 hw; have hg : w39.grownBy w41 (some go34) := (by rw [hw]; exact HP40.2); have hp_ : Kd.R (Kd.int .i64) 3 w41 w.heap.size (fun _ => True) (.slice (some ⟨go34, 0, none⟩) x8_3.length co37) y207 := (by rw [hw, Ny207.out]; exact HP40.1); clear HP40; have n0_ := Aside0.mk (hp_); have n1_ := Aside0.mk (blk_grown (g := gb193) (o := .cells #[.int .i64 a0_0, .int .i64 a0_1] 71 (0, 0)) (by (with_reducible repeat (first | refine blk_drewN ?_ _ | refine blk_drew ?_ | refine blk_alloc ?_ _)); exact BK193.out) hg (Kd.R_ne HO_8.out BK193.out (by decide))); have n2_ := Aside0.mk ((by rw [hw]; exact below_set (HB.out) GB34.out : Below w.heap.size w w41)); clear HO_8; clear BK193; clear HB; have HO_8 := n0_; have BK193 := n1_; have HB := n2_; clear n0_ n1_ n2_; clear hg hw hp_))
                    first | go_roundg kj18 | ((try subst hji25); (try subst hji30); (try subst hji33); go_roundg kj18)
                    case measure => have := HK1.out; have := HK2.out; have := HK3.out; have := HJ18.out; omega
                    case rel => exact ⟨(y207), (wrap64 (x44_3 + 1)), (by first | rfl | (simp; done) | (simp [*]; done)), H', ⟨by have := HK1.out; have := HK2.out; have := HK3.out; have := HJ18.out; omega⟩, ⟨by (with_reducible repeat (first | apply Kd.R_alloc | apply Kd.R_drewN | apply Kd.R_drew)); exact HO_8.out⟩, ⟨by (with_reducible repeat (first | refine blk_drewN ?_ _ | refine blk_drew ?_ | refine blk_alloc ?_ _)); exact BK193.out⟩, ⟨by repeat (first | (with_reducible first | exact HB.out | apply below_alloc | apply pw_below_drewN | apply below_drew1 | refine below_set ?_ GE193.out) | exact HB.out)⟩⟩
                   ·rw [if_neg c32] at H
                    exact absurd H (by simp)
                  ·rw [if_neg c31] at H
                   exact absurd H (by simp)
                 ·rw [if_neg c29] at H
                  exact absurd H (by simp)
                ·rw [if_neg c28] at H
                 exact absurd H (by simp)
               ·replace c27 := Bool.eq_false_iff.mpr c27
                subst c27
                have H1 : (if (mx x11_18 (wrap64 (a0_0 * a0_1))) = (wrap64 (a0_0 * a0_1)) then (impl_grid_regions.l2 kj18 a1 false (wrap64 (a0_0 * a0_1)) x8_3 (wrap64 ((wrap64 (a0_0 * a0_1)) + 1)) x37_2 (wrap64 (t200 + t201)) (wrap64 (x44_3 + 1)) a0_0 a0_1) else (if 0 ≤ x11_18 then (if x11_18 < (x8_3.length : Int) then (if 0 ≤ (wrap64 (a0_0 * a0_1)) then (if (wrap64 (a0_0 * a0_1)) < (x8_3.length : Int) then (impl_grid_regions.l2 kj18 a1 false (wrap64 (a0_0 * a0_1)) ((x8_3.set (x11_18 : Int).toNat (mn (rd x8_3 x11_18) (rd x8_3 (wrap64 (a0_0 * a0_1))))).set ((wrap64 (a0_0 * a0_1)) : Int).toNat (mn (rd x8_3 x11_18) (rd x8_3 (wrap64 (a0_0 * a0_1))))) (wrap64 ((wrap64 (a0_0 * a0_1)) + 1)) x37_2 (wrap64 (t200 + t201)) (wrap64 (x44_3 + 1)) a0_0 a0_1) else (none)) else (none)) else (none)) else (none))) = some r := by rw [if_neg (show ¬ (false = true) by decide)] at H; exact H
                clear H
                have H := H1
                clear H1
                obtain ⟨ji42, hji42⟩ : ∃ j_ : Int, (mx x11_18 (wrap64 (a0_0 * a0_1))) = j_ := ⟨_, rfl⟩
                replace H : (if (ji42) = (wrap64 (a0_0 * a0_1)) then (impl_grid_regions.l2 kj18 a1 false (wrap64 (a0_0 * a0_1)) x8_3 (wrap64 ((wrap64 (a0_0 * a0_1)) + 1)) x37_2 (wrap64 (t200 + t201)) (wrap64 (x44_3 + 1)) a0_0 a0_1) else (if 0 ≤ x11_18 then (if x11_18 < (x8_3.length : Int) then (if 0 ≤ (wrap64 (a0_0 * a0_1)) then (if (wrap64 (a0_0 * a0_1)) < (x8_3.length : Int) then (impl_grid_regions.l2 kj18 a1 false (wrap64 (a0_0 * a0_1)) ((x8_3.set (x11_18 : Int).toNat (mn (rd x8_3 x11_18) (rd x8_3 (wrap64 (a0_0 * a0_1))))).set ((wrap64 (a0_0 * a0_1)) : Int).toNat (mn (rd x8_3 x11_18) (rd x8_3 (wrap64 (a0_0 * a0_1))))) (wrap64 ((wrap64 (a0_0 * a0_1)) + 1)) x37_2 (wrap64 (t200 + t201)) (wrap64 (x44_3 + 1)) a0_0 a0_1) else (none)) else (none)) else (none)) else (none))) = some r := by first | (rw [hji42] at H; exact H) | (simp only [hji42] at H ⊢; exact H)
                have hji42_ : (if x11_18 < (wrap64 (a0_0 * a0_1)) then (wrap64 (a0_0 * a0_1)) else x11_18) = ji42 := hji42
                by_cases c43 : (ji42) = (wrap64 (a0_0 * a0_1))
                ·rw [if_pos c43] at H
                 have c43b0 : ((ji42) == (wrap64 (a0_0 * a0_1))) = true := beq_iff_eq.mpr c43
                 have c43b1 : ((ji42) != (wrap64 (a0_0 * a0_1))) = false := bne_eq_false_iff_eq.mpr c43
                 clear c43
                 have H' := Aside0.mk H
                 clear H
                 go_wp2
                 first | go_roundg kj18 | ((try subst hji25); (try subst hji30); (try subst hji33); (try subst hji42); go_roundg kj18)
                 case measure => have := HK1.out; have := HK2.out; have := HK3.out; have := HJ18.out; omega
                 case rel => exact ⟨(x8_3), (wrap64 (x44_3 + 1)), (by first | rfl | (simp; done) | (simp [*]; done)), H', ⟨by have := HK1.out; have := HK2.out; have := HK3.out; have := HJ18.out; omega⟩, ⟨by (with_reducible repeat (first | apply Kd.R_alloc | apply Kd.R_drewN | apply Kd.R_drew)); exact HO_8.out⟩, ⟨by (with_reducible repeat (first | refine blk_drewN ?_ _ | refine blk_drew ?_ | refine blk_alloc ?_ _)); exact BK193.out⟩, ⟨by repeat (first | (with_reducible first | exact HB.out | apply below_alloc | apply pw_below_drewN | apply below_drew1 | refine below_set ?_ GE193.out) | exact HB.out)⟩⟩
                ·rw [if_neg c43] at H
                 have c43b0 : ((ji42) == (wrap64 (a0_0 * a0_1))) = false := beq_eq_false_iff_ne.mpr c43
                 have c43b1 : ((ji42) != (wrap64 (a0_0 * a0_1))) = true := bne_iff_ne.mpr c43
                 by_cases c44 : 0 ≤ x11_18
                 ·rw [if_pos c44] at H
                  have c44b0 : decide (0 ≤ x11_18) = true := decide_eq_true c44
                  clear c44
                  by_cases c45 : x11_18 < (x8_3.length : Int)
                  ·rw [if_pos c45] at H
                   have c45b0 : decide (x11_18 < (x8_3.length : Int)) = true := decide_eq_true c45
                   clear c45
                   obtain ⟨ji46, hji46⟩ : ∃ j_ : Int, (wrap64 (a0_0 * a0_1)) = j_ := ⟨_, rfl⟩
                   replace H : (if 0 ≤ (ji46) then (if (ji46) < (x8_3.length : Int) then (impl_grid_regions.l2 kj18 a1 false (ji46) ((x8_3.set (x11_18 : Int).toNat (mn (rd x8_3 x11_18) (rd x8_3 (ji46)))).set ((ji46) : Int).toNat (mn (rd x8_3 x11_18) (rd x8_3 (ji46)))) (wrap64 ((ji46) + 1)) x37_2 (wrap64 (t200 + t201)) (wrap64 (x44_3 + 1)) a0_0 a0_1) else (none)) else (none)) = some r := by first | (rw [hji46] at H; exact H) | (simp only [hji46] at H ⊢; exact H)
                   (try rw [hji46] at c8b0)
                   (try rw [hji46] at c11b0)
                   (try rw [hji46] at c43b0)
                   (try rw [hji46] at c43b1)
                   have hji46w : (IntKind.i64.wrap (a0_0 * a0_1)) = ji46 := (i64_w _).trans hji46
                   by_cases c47 : 0 ≤ (ji46)
                   ·rw [if_pos c47] at H
                    have c47b0 : decide (0 ≤ (ji46)) = true := decide_eq_true c47
                    clear c47
                    by_cases c48 : (ji46) < (x8_3.length : Int)
                    ·rw [if_pos c48] at H
                     have c48b0 : decide ((ji46) < (x8_3.length : Int)) = true := decide_eq_true c48
                     clear c48
                     obtain ⟨ji49, hji49⟩ : ∃ j_ : Int, (mn (rd x8_3 x11_18) (rd x8_3 (ji46))) = j_ := ⟨_, rfl⟩
                     replace H : (impl_grid_regions.l2 kj18 a1 false (ji46) ((x8_3.set (x11_18 : Int).toNat (ji49)).set ((ji46) : Int).toNat (ji49)) (wrap64 ((ji46) + 1)) x37_2 (wrap64 (t200 + t201)) (wrap64 (x44_3 + 1)) a0_0 a0_1) = some r := by first | (rw [hji49] at H; exact H) | (simp only [hji49] at H ⊢; exact H)
                     have hji49_ : (if (rd x8_3 (ji46)) < (rd x8_3 x11_18) then (rd x8_3 (ji46)) else (rd x8_3 x11_18)) = ji49 := hji49
                     obtain ⟨y210, hy210⟩ : ∃ y_ : List Int, y_ = (x8_3.set (x11_18 : Int).toNat (ji49)) := ⟨_, rfl⟩
                     replace H : (impl_grid_regions.l2 kj18 a1 false (ji46) (y210.set ((ji46) : Int).toNat (ji49)) (wrap64 ((ji46) + 1)) x37_2 (wrap64 (t200 + t201)) (wrap64 (x44_3 + 1)) a0_0 a0_1) = some r := by first | (rw [hy210]; with_reducible exact H) | (have H2_ := (Option.bind_some _ _).symm.trans H; rw [hy210]; with_reducible exact H2_) | (have H2_ := (Option.bind_some _ _).symm.trans H; with_reducible exact H2_) | with_reducible exact H | (rw [hy210]; exact H) | exact H
                     have Ny210 := Aside0.mk hy210
                     clear hy210
                     obtain ⟨y211, hy211⟩ : ∃ y_ : List Int, y_ = (y210.set ((ji46) : Int).toNat (ji49)) := ⟨_, rfl⟩
                     replace H : (impl_grid_regions.l2 kj18 a1 false (ji46) y211 (wrap64 ((ji46) + 1)) x37_2 (wrap64 (t200 + t201)) (wrap64 (x44_3 + 1)) a0_0 a0_1) = some r := by first | (rw [hy211]; with_reducible exact H) | (have H2_ := (Option.bind_some _ _).symm.trans H; rw [hy211]; with_reducible exact H2_) | (have H2_ := (Option.bind_some _ _).symm.trans H; with_reducible exact H2_) | with_reducible exact H | (rw [hy211]; exact H) | exact H
                     have Ny211 := Aside0.mk hy211
                     clear hy211
                     have H' := Aside0.mk H
                     clear H
                     try go_wp2
                     have n0_ := Aside0.mk (Kd.R_drew HO_8.out)
                     have n1_ := Aside0.mk (blk_drew BK193.out)
                     have n2_ := Aside0.mk (below_drew1 HB.out)
                     clear HO_8
                     clear BK193
                     clear HB
                     have HO_8 := n0_
                     have BK193 := n1_
                     have HB := n2_
                     clear n0_ n1_ n2_
                     obtain ⟨Ao53, co53, eo53⟩ := Kd.R_slice HO_8.out
                     (first | subst eo53 | (injection eo53 with f1_ f2_ f3_; have f4_ := f1_.symm; have f5_ := f3_.symm; clear f1_ f2_ f3_; subst f4_; subst f5_))
                     have p208 : 0 ≤ (x11_18 : Int) := of_decide_eq_true (by first | (with_reducible assumption) | assumption)
                     have q208 : x11_18 < (x8_3.length : Int) := of_decide_eq_true (by first | (with_reducible assumption) | assumption)
                     obtain ⟨ad208, e208, hx208_0⟩ := Kd.at_int (Kd.R_reads' HO_8.out).2.2 x11_18 p208 q208
                     cases e208
                     replace p208 := eq_true p208
                     replace q208 := eq_true q208
                     have p209 : 0 ≤ ((ji46) : Int) := of_decide_eq_true (by first | (with_reducible assumption) | assumption)
                     have q209 : (ji46) < (x8_3.length : Int) := of_decide_eq_true (by first | (with_reducible assumption) | assumption)
                     obtain ⟨ad209, e209, hx209_0⟩ := Kd.at_int (Kd.R_reads' HO_8.out).2.2 (ji46) p209 q209
                     obtain rfl : ad208 = ad209 := (by injection e209)
                     replace p209 := eq_true p209
                     replace q209 := eq_true q209
                     refine start_ (n := 10) (S := fun w' => w'.cell? (ad208.add (x11_18).toNat) = some (.int .i64 (rd x8_3 x11_18)) ∧ w'.cell? (ad208.add ((ji46)).toNat) = some (.int .i64 (rd x8_3 (ji46)))) (ds := []) (fl 10 0) (by kernel_rfl) rfl rfl ⟨hx208_0, hx209_0⟩ (fun hHeld => ?_); refine with_tabW impl_grid_regions.tab19 impl_grid_regions.bits19 (fun HT_ HW_ => ?_)
                     generalize wc.drew = w52 at HO_8 BK193 HB hx208_0 hx209_0 hHeld ⊢
                     refine pure_ (i := 0) (N := some 75) (v := ?_) (a' := ?_) (fl 10 1) rfl rfl (any_of HT_.out (by kernel_rfl)) (fun _ _ _ h => h) (Or.inl ⟨by rfl, ?_⟩) ?_ ?_
                     rotate_left; ·(intro w'; go_simp; with_reducible rfl)
                     rotate_left; ·(simp only [Act.put, List.setIfInBounds_toArray, List.set_cons_zero, List.set_cons_succ, i64_w, i32_w]; rfl)
                     refine pure_ (i := 1) (N := some 76) (v := ?_) (a' := ?_) (fl 10 3) rfl rfl (any_of HT_.out (by kernel_rfl)) (fun _ _ _ h => h) (Or.inl ⟨by rfl, ?_⟩) ?_ ?_
                     rotate_left; ·(intro w'; go_simp; with_reducible rfl)
                     rotate_left; ·(simp only [Act.put, List.setIfInBounds_toArray, List.set_cons_zero, List.set_cons_succ, i64_w, i32_w]; rfl)
                     refine pure_ (i := 2) (N := some 77) (v := ?_) (a' := ?_) (fl 10 7) rfl rfl (any_of HT_.out (by kernel_rfl)) (fun _ _ _ h => h) (Or.inl ⟨by rfl, ?_⟩) ?_ ?_
                     rotate_left; ·(intro w'; go_simp; with_reducible rfl)
                     rotate_left; ·(simp only [Act.put, List.setIfInBounds_toArray, List.set_cons_zero, List.set_cons_succ, i64_w, i32_w]; rfl)
                     refine pure_ (i := 4) (N := some 79) (v := ?_) (a' := ?_) (fl 10 23) rfl rfl (any_of HT_.out (by kernel_rfl)) (fun _ _ _ h => h) (Or.inl ⟨by rfl, ?_⟩) ?_ ?_
                     rotate_left; ·(intro w'; go_simp; with_reducible rfl)
                     rotate_left; ·(simp only [Act.put, List.setIfInBounds_toArray, List.set_cons_zero, List.set_cons_succ, i64_w, i32_w]; rfl)
                     refine pure_ (i := 5) (N := some 80) (v := ?_) (a' := ?_) (fl 10 55) rfl rfl (any_of HT_.out (by kernel_rfl)) (fun _ _ _ h => h) (Or.inl ⟨by rfl, ?_⟩) ?_ ?_
                     rotate_left; ·(intro w'; go_simp; with_reducible rfl)
                     rotate_left; ·(simp only [Act.put, List.setIfInBounds_toArray, List.set_cons_zero, List.set_cons_succ, i64_w, i32_w]; rfl)
                     refine pure_ (i := 6) (N := some 81) (v := ?_) (a' := ?_) (fl 10 119) rfl rfl (any_of HT_.out (by kernel_rfl)) (fun _ _ _ h => h) (Or.inl ⟨by rfl, ?_⟩) ?_ ?_
                     rotate_left; ·(intro w'; go_simp; with_reducible rfl)
                     rotate_left; ·(simp only [Act.put, List.setIfInBounds_toArray, List.set_cons_zero, List.set_cons_succ, i64_w, i32_w]; rfl)
                     refine take_ (i := 3) (N := some 78) (v := ?_) (a' := ?_) (fl 10 127) rfl rfl (take_ofW HT_.out HW_.out (by kernel_rfl)) (fun _ _ _ h => h) (Or.inl ⟨by rfl, ?_⟩) hHeld ?_ ?_
                     rotate_left; ·(rintro w' ⟨s0, s1⟩; go_simp; with_reducible rfl)
                     rotate_left; ·(simp only [Act.put, List.setIfInBounds_toArray, List.set_cons_zero, List.set_cons_succ, i64_w, i32_w]; rfl)
                     refine take_ (i := 7) (N := some 82) (v := ?_) (a' := ?_) (fl 10 255) rfl rfl (take_ofW HT_.out HW_.out (by kernel_rfl)) (fun _ _ _ h => h) (Or.inl ⟨by rfl, ?_⟩) hHeld ?_ ?_
                     rotate_left; ·(rintro w' ⟨s0, s1⟩; go_simp; with_reducible rfl)
                     rotate_left; ·(simp only [Act.put, List.setIfInBounds_toArray, List.set_cons_zero, List.set_cons_succ, i64_w, i32_w]; rfl)
                     refine pure_ (i := 8) (N := some 83) (v := ?_) (a' := ?_) (fl 10 511) rfl rfl (any_of HT_.out (by kernel_rfl)) (fun _ _ _ h => h) (Or.inl ⟨by rfl, ?_⟩) ?_ ?_
                     rotate_left; ·(intro w'; go_simp; with_reducible rfl)
                     rotate_left; ·(simp only [Act.put, List.setIfInBounds_toArray, List.set_cons_zero, List.set_cons_succ, i64_w, i32_w]; rfl)
                     refine pure_ (i := 9) (N := some 13) (v := ?_) (a' := ?_) (fl 10 1023) rfl rfl (any_of HT_.out (by kernel_rfl)) (fun _ _ _ h => h) (Or.inl ⟨by rfl, ?_⟩) ?_ ?_
                     rotate_left; ·(intro w'; go_simp; with_reducible rfl)
                     rotate_left; ·(simp only [Act.put, List.setIfInBounds_toArray, List.set_cons_zero, List.set_cons_succ, i64_w, i32_w]; rfl)
                     refine done_ (done_of HT_.out (by kernel_rfl)) ?_
                     have p50 : 0 ≤ (x11_18 : Int) := of_decide_eq_true (by first | (with_reducible assumption) | assumption)
                     have q50 : (x11_18 : Int) < ((x8_3.length : Int) : Int) := of_decide_eq_true (by first | (with_reducible assumption) | assumption)
                     obtain ⟨go50, co50, eo50, gb50, gl50, cl50, HG50⟩ := Kd.R_form HO_8.out (by omega)
                     (first | cases eo50 | (injection eo50 with ea_ en_ ec_; (first | subst ea_ | (injection ea_ with ea_; subst ea_)); subst ec_; clear en_))
                     have GB50 := Aside0.mk gb50
                     have GG50 := Aside0.mk HG50
                     clear gb50 gl50 HG50
                     (first | simp only [add_plain] at hx208_0 | skip)
                     (first | simp only [add_plain] at hx209_0 | skip)
                     obtain ⟨hx50_0, hf50_0⟩ := Kd.R_celln 0 HO_8.out (x11_18 : Int) p50 q50
                     replace p50 := eq_true p50
                     replace q50 := eq_true q50
                     obtain ⟨hy54_, hz54_⟩ := Kd.R_celln 0 HO_8.out (x11_18 : Int) (of_decide_eq_true (by first | (with_reducible assumption) | assumption)) (of_decide_eq_true (by first | (with_reducible assumption) | assumption))
                     have HP54 := Kd.R_putg HO_8.out (x11_18 : Int) ji49
                     try go_wp2_with (first | ((with_reducible refine gate_store (t := 3) (p := 90) rfl ?_); refine store_event (t := 3) (p := 90) (v := ?vo_w55) (w1 := (w52.setCell ⟨go50, (x11_18 : Int).toNat, none⟩ (.int .i64 ji49))) ?hg ?ho ?hn ?hr ?_; (case ho => rfl); (case hg => rfl); (case hn => rfl); (case hr => first | (go_simp; done) | (go_simp; rfl)); intro w55 hw; have hg : w52.grownBy w55 (some go50) := (by rw [hw]; exact HP54.2); have hp_ : Kd.R (Kd.int .i64) 3 w55 w.heap.size (fun _ => True) (.slice (some ⟨go50, 0, none⟩) x8_3.length co53) y210 := (by rw [hw, Ny210.out]; exact HP54.1); clear HP54; have n0_ := Aside0.mk (hp_); have n1_ := Aside0.mk (blk_grown (g := gb193) (o := .cells #[.int .i64 a0_0, .int .i64 a0_1] 71 (0, 0)) (by (with_reducible repeat (first | refine blk_drewN ?_ _ | refine blk_drew ?_ | refine blk_alloc ?_ _)); exact BK193.out) hg (Kd.R_ne HO_8.out BK193.out (by decide))); have n2_ := Aside0.mk ((by rw [hw]; exact below_set (HB.out) GB50.out : Below w.heap.size w w55)); clear HO_8; clear BK193; clear HB; have HO_8 := n0_; have BK193 := n1_; have HB := n2_; clear n0_ n1_ n2_; clear hg hw hp_; have p51 : 0 ≤ ((ji46) : Int) := of_decide_eq_true (by first | (with_reducible assumption) | assumption); have q51 : ((ji46) : Int) < ((x8_3.length : Int) : Int) := of_decide_eq_true (by first | (with_reducible assumption) | assumption); obtain ⟨hx51_0, hf51_0⟩ := Kd.R_celln 0 HO_8.out ((ji46) : Int) p51 (by have hl_ := (Kd.R_reads' HO_8.out).1; first | exact q51 | omega); replace p51 := eq_true p51; replace q51 := eq_true q51; obtain ⟨hy56_, hz56_⟩ := Kd.R_celln 0 HO_8.out ((ji46) : Int) (of_decide_eq_true (by first | (with_reducible assumption) | assumption)) (by have hl_ := (Kd.R_reads' HO_8.out).1; have hq_ := of_eq_true q51; omega); have HP56 := Kd.R_putg HO_8.out ((ji46) : Int) ji49) | ((with_reducible refine gate_store (t := 3) (p := 91) rfl ?_); refine store_event (t := 3) (p := 91) (v := ?vo_w57) (w1 := (w55.setCell ⟨go50, ((ji46) : Int).toNat, none⟩ (.int .i64 ji49))) ?hg ?ho ?hn ?hr ?_; (case ho => rfl); (case hg => rfl); (case hn => rfl); (case hr => first | (go_simp; done) | (go_simp; rfl)); intro w57 hw; have hg : w55.grownBy w57 (some go50) := (by rw [hw]; exact HP56.2); have hp_ : Kd.R (Kd.int .i64) 3 w57 w.heap.size (fun _ => True) (.slice (some ⟨go50, 0, none⟩) x8_3.length co53) y211 := (by rw [hw, Ny211.out]; exact HP56.1); clear HP56; have n0_ := Aside0.mk (hp_); have n1_ := Aside0.mk (blk_grown (g := gb193) (o := .cells #[.int .i64 a0_0, .int .i64 a0_1] 71 (0, 0)) (by (with_reducible repeat (first | refine blk_drewN ?_ _ | refine blk_drew ?_ | refine blk_alloc ?_ _)); exact BK193.out) hg (Kd.R_ne HO_8.out BK193.out (by decide))); have n2_ := Aside0.mk ((by rw [hw]; exact below_set (HB.out) GB50.out : Below w.heap.size w w57)); clear HO_8; clear BK193; clear HB; have HO_8 := n0_; have BK193 := n1_; have HB := n2_; clear n0_ n1_ n2_; clear hg hw hp_))
                     first | go_roundg kj18 | ((try subst hji25); (try subst hji30); (try subst hji33); (try subst hji42); (try subst hji46); (try subst hji49); go_roundg kj18)
                     case measure => have := HK1.out; have := HK2.out; have := HK3.out; have := HJ18.out; omega
                     case rel => exact ⟨(y211), (wrap64 (x44_3 + 1)), (by first | rfl | (simp; done) | (simp [*]; done)), H', ⟨by have := HK1.out; have := HK2.out; have := HK3.out; have := HJ18.out; omega⟩, ⟨by (with_reducible repeat (first | apply Kd.R_alloc | apply Kd.R_drewN | apply Kd.R_drew)); exact HO_8.out⟩, ⟨by (with_reducible repeat (first | refine blk_drewN ?_ _ | refine blk_drew ?_ | refine blk_alloc ?_ _)); exact BK193.out⟩, ⟨by repeat (first | (with_reducible first | exact HB.out | apply below_alloc | apply pw_below_drewN | apply below_drew1 | refine below_set ?_ GE193.out) | exact HB.out)⟩⟩
                    ·rw [if_neg c48] at H
                     exact absurd H (by simp)
                   ·rw [if_neg c47] at H
                    exact absurd H (by simp)
                  ·rw [if_neg c45] at H
                   exact absurd H (by simp)
                 ·rw [if_neg c44] at H
                  exact absurd H (by simp)
             ·rw [if_neg c24] at H
              exact absurd H (by simp)
            ·rw [if_neg c23] at H
             have c23b0 : decide (t203 < 0) = false := decide_eq_false c23
             clear c23
             by_cases c58 : 0 ≤ x44_3
             ·rw [if_pos c58] at H
              have c58b0 := eq_true c58
              have c58b1 : decide (0 ≤ x44_3) = true := decide_eq_true c58
              clear c58
              obtain ⟨ji59, hji59⟩ : ∃ j_ : Int, (shr .u64 a1 x44_3) = j_ := ⟨_, rfl⟩
              replace H : (if (Go.bits .and .u64 (ji59) 1) = 1 then (impl_grid_regions.l2 kj18 a1 a2 (wrap64 (a0_0 * a0_1)) x8_3 (wrap64 ((wrap64 (a0_0 * a0_1)) + 1)) x37_2 (wrap64 (t200 + t201)) (wrap64 (x44_3 + 1)) a0_0 a0_1) else (if a2 = true then (if 0 ≤ x11_18 then (if x11_18 < (x8_3.length : Int) then (if 0 ≤ t203 then (if t203 < (x8_3.length : Int) then (impl_grid_regions.l2 kj18 a1 a2 (wrap64 (a0_0 * a0_1)) ((x8_3.set (x11_18 : Int).toNat (mn (rd x8_3 x11_18) (rd x8_3 t203))).set (t203 : Int).toNat (mn (rd x8_3 x11_18) (rd x8_3 t203))) (wrap64 ((wrap64 (a0_0 * a0_1)) + 1)) x37_2 (wrap64 (t200 + t201)) (wrap64 (x44_3 + 1)) a0_0 a0_1) else (none)) else (none)) else (none)) else (none)) else (if (mx x11_18 t203) = (wrap64 (a0_0 * a0_1)) then (impl_grid_regions.l2 kj18 a1 a2 (wrap64 (a0_0 * a0_1)) x8_3 (wrap64 ((wrap64 (a0_0 * a0_1)) + 1)) x37_2 (wrap64 (t200 + t201)) (wrap64 (x44_3 + 1)) a0_0 a0_1) else (if 0 ≤ x11_18 then (if x11_18 < (x8_3.length : Int) then (if 0 ≤ t203 then (if t203 < (x8_3.length : Int) then (impl_grid_regions.l2 kj18 a1 a2 (wrap64 (a0_0 * a0_1)) ((x8_3.set (x11_18 : Int).toNat (mn (rd x8_3 x11_18) (rd x8_3 t203))).set (t203 : Int).toNat (mn (rd x8_3 x11_18) (rd x8_3 t203))) (wrap64 ((wrap64 (a0_0 * a0_1)) + 1)) x37_2 (wrap64 (t200 + t201)) (wrap64 (x44_3 + 1)) a0_0 a0_1) else (none)) else (none)) else (none)) else (none))))) = some r := by first | (rw [hji59] at H; exact H) | (simp only [hji59] at H ⊢; exact H)
              have hji59_ : (a1 / 2 ^ min x44_3.toNat 64) = ji59 := hji59
              have hji59z : x44_3 ≤ 64 → (a1 / 2 ^ x44_3.toNat) = ji59 := shr_small hji59
              by_cases c60 : (Go.bits .and .u64 (ji59) 1) = 1
              ·rw [if_pos c60] at H
               have c60b0 : ((Go.bits .and .u64 (ji59) 1) == 1) = true := beq_iff_eq.mpr c60
               have c60b1 : ((Go.bits .and .u64 (ji59) 1) != 1) = false := bne_eq_false_iff_eq.mpr c60
               clear c60
               have H' := Aside0.mk H
               clear H
               go_wp2
               first | go_roundg kj18 | ((try subst hji25); (try subst hji30); (try subst hji33); (try subst hji42); (try subst hji46); (try subst hji49); (try subst hji59); go_roundg kj18)
               case measure => have := HK1.out; have := HK2.out; have := HK3.out; have := HJ18.out; omega
               case rel => exact ⟨(x8_3), (wrap64 (x44_3 + 1)), (by first | rfl | (simp; done) | (simp [*]; done)), H', ⟨by have := HK1.out; have := HK2.out; have := HK3.out; have := HJ18.out; omega⟩, ⟨by (with_reducible repeat (first | apply Kd.R_alloc | apply Kd.R_drewN | apply Kd.R_drew)); exact HO_8.out⟩, ⟨by (with_reducible repeat (first | refine blk_drewN ?_ _ | refine blk_drew ?_ | refine blk_alloc ?_ _)); exact BK193.out⟩, ⟨by repeat (first | (with_reducible first | exact HB.out | apply below_alloc | apply pw_below_drewN | apply below_drew1 | refine below_set ?_ GE193.out) | exact HB.out)⟩⟩
              ·rw [if_neg c60] at H
               have c60b0 : ((Go.bits .and .u64 (ji59) 1) == 1) = false := beq_eq_false_iff_ne.mpr c60
               have c60b1 : ((Go.bits .and .u64 (ji59) 1) != 1) = true := bne_iff_ne.mpr c60
               by_cases c61 : a2 = true
               ·subst c61
                have H1 : (if 0 ≤ x11_18 then (if x11_18 < (x8_3.length : Int) then (if 0 ≤ t203 then (if t203 < (x8_3.length : Int) then (impl_grid_regions.l2 kj18 a1 true (wrap64 (a0_0 * a0_1)) ((x8_3.set (x11_18 : Int).toNat (mn (rd x8_3 x11_18) (rd x8_3 t203))).set (t203 : Int).toNat (mn (rd x8_3 x11_18) (rd x8_3 t203))) (wrap64 ((wrap64 (a0_0 * a0_1)) + 1)) x37_2 (wrap64 (t200 + t201)) (wrap64 (x44_3 + 1)) a0_0 a0_1) else (none)) else (none)) else (none)) else (none)) = some r := by rw [if_pos rfl] at H; exact H
                clear H
                have H := H1
                clear H1
                by_cases c62 : 0 ≤ x11_18
                ·rw [if_pos c62] at H
                 have c62b0 : decide (0 ≤ x11_18) = true := decide_eq_true c62
                 clear c62
                 by_cases c63 : x11_18 < (x8_3.length : Int)
                 ·rw [if_pos c63] at H
                  have c63b0 : decide (x11_18 < (x8_3.length : Int)) = true := decide_eq_true c63
                  clear c63
                  by_cases c64 : 0 ≤ t203
                  ·rw [if_pos c64] at H
                   have c64b0 : decide (0 ≤ t203) = true := decide_eq_true c64
                   clear c64
                   by_cases c65 : t203 < (x8_3.length : Int)
                   ·rw [if_pos c65] at H
                    have c65b0 : decide (t203 < (x8_3.length : Int)) = true := decide_eq_true c65
                    clear c65
                    obtain ⟨ji66, hji66⟩ : ∃ j_ : Int, (mn (rd x8_3 x11_18) (rd x8_3 t203)) = j_ := ⟨_, rfl⟩
                    replace H : (impl_grid_regions.l2 kj18 a1 true (wrap64 (a0_0 * a0_1)) ((x8_3.set (x11_18 : Int).toNat (ji66)).set (t203 : Int).toNat (ji66)) (wrap64 ((wrap64 (a0_0 * a0_1)) + 1)) x37_2 (wrap64 (t200 + t201)) (wrap64 (x44_3 + 1)) a0_0 a0_1) = some r := by first | (rw [hji66] at H; exact H) | (simp only [hji66] at H ⊢; exact H)
                    have hji66_ : (if (rd x8_3 t203) < (rd x8_3 x11_18) then (rd x8_3 t203) else (rd x8_3 x11_18)) = ji66 := hji66
                    obtain ⟨y214, hy214⟩ : ∃ y_ : List Int, y_ = (x8_3.set (x11_18 : Int).toNat (ji66)) := ⟨_, rfl⟩
                    replace H : (impl_grid_regions.l2 kj18 a1 true (wrap64 (a0_0 * a0_1)) (y214.set (t203 : Int).toNat (ji66)) (wrap64 ((wrap64 (a0_0 * a0_1)) + 1)) x37_2 (wrap64 (t200 + t201)) (wrap64 (x44_3 + 1)) a0_0 a0_1) = some r := by first | (rw [hy214]; with_reducible exact H) | (have H2_ := (Option.bind_some _ _).symm.trans H; rw [hy214]; with_reducible exact H2_) | (have H2_ := (Option.bind_some _ _).symm.trans H; with_reducible exact H2_) | with_reducible exact H | (rw [hy214]; exact H) | exact H
                    have Ny214 := Aside0.mk hy214
                    clear hy214
                    obtain ⟨y215, hy215⟩ : ∃ y_ : List Int, y_ = (y214.set (t203 : Int).toNat (ji66)) := ⟨_, rfl⟩
                    replace H : (impl_grid_regions.l2 kj18 a1 true (wrap64 (a0_0 * a0_1)) y215 (wrap64 ((wrap64 (a0_0 * a0_1)) + 1)) x37_2 (wrap64 (t200 + t201)) (wrap64 (x44_3 + 1)) a0_0 a0_1) = some r := by first | (rw [hy215]; with_reducible exact H) | (have H2_ := (Option.bind_some _ _).symm.trans H; rw [hy215]; with_reducible exact H2_) | (have H2_ := (Option.bind_some _ _).symm.trans H; with_reducible exact H2_) | with_reducible exact H | (rw [hy215]; exact H) | exact H
                    have Ny215 := Aside0.mk hy215
                    clear hy215
                    have H' := Aside0.mk H
                    clear H
                    try go_wp2
                    have n0_ := Aside0.mk (Kd.R_drew HO_8.out)
                    have n1_ := Aside0.mk (blk_drew BK193.out)
                    have n2_ := Aside0.mk (below_drew1 HB.out)
                    clear HO_8
                    clear BK193
                    clear HB
                    have HO_8 := n0_
                    have BK193 := n1_
                    have HB := n2_
                    clear n0_ n1_ n2_
                    obtain ⟨Ao70, co70, eo70⟩ := Kd.R_slice HO_8.out
                    (first | subst eo70 | (injection eo70 with f1_ f2_ f3_; have f4_ := f1_.symm; have f5_ := f3_.symm; clear f1_ f2_ f3_; subst f4_; subst f5_))
                    have p212 : 0 ≤ (x11_18 : Int) := of_decide_eq_true (by first | (with_reducible assumption) | assumption)
                    have q212 : x11_18 < (x8_3.length : Int) := of_decide_eq_true (by first | (with_reducible assumption) | assumption)
                    obtain ⟨ad212, e212, hx212_0⟩ := Kd.at_int (Kd.R_reads' HO_8.out).2.2 x11_18 p212 q212
                    cases e212
                    replace p212 := eq_true p212
                    replace q212 := eq_true q212
                    have p213 : 0 ≤ (t203 : Int) := of_decide_eq_true (by first | (with_reducible assumption) | assumption)
                    have q213 : t203 < (x8_3.length : Int) := of_decide_eq_true (by first | (with_reducible assumption) | assumption)
                    obtain ⟨ad213, e213, hx213_0⟩ := Kd.at_int (Kd.R_reads' HO_8.out).2.2 t203 p213 q213
                    obtain rfl : ad212 = ad213 := (by injection e213)
                    replace p213 := eq_true p213
                    replace q213 := eq_true q213
                    refine start_ (n := 10) (S := fun w' => w'.cell? (ad212.add (x11_18).toNat) = some (.int .i64 (rd x8_3 x11_18)) ∧ w'.cell? (ad212.add (t203).toNat) = some (.int .i64 (rd x8_3 t203))) (ds := []) (fl 10 0) (by kernel_rfl) rfl rfl ⟨hx212_0, hx213_0⟩ (fun hHeld => ?_); refine with_tabW impl_grid_regions.tab19 impl_grid_regions.bits19 (fun HT_ HW_ => ?_)
                    generalize wc.drew = w69 at HO_8 BK193 HB hx212_0 hx213_0 hHeld ⊢
                    refine pure_ (i := 0) (N := some 75) (v := ?_) (a' := ?_) (fl 10 1) rfl rfl (any_of HT_.out (by kernel_rfl)) (fun _ _ _ h => h) (Or.inl ⟨by rfl, ?_⟩) ?_ ?_
                    rotate_left; ·(intro w'; go_simp; with_reducible rfl)
                    rotate_left; ·(simp only [Act.put, List.setIfInBounds_toArray, List.set_cons_zero, List.set_cons_succ, i64_w, i32_w]; rfl)
                    refine pure_ (i := 1) (N := some 76) (v := ?_) (a' := ?_) (fl 10 3) rfl rfl (any_of HT_.out (by kernel_rfl)) (fun _ _ _ h => h) (Or.inl ⟨by rfl, ?_⟩) ?_ ?_
                    rotate_left; ·(intro w'; go_simp; with_reducible rfl)
                    rotate_left; ·(simp only [Act.put, List.setIfInBounds_toArray, List.set_cons_zero, List.set_cons_succ, i64_w, i32_w]; rfl)
                    refine pure_ (i := 2) (N := some 77) (v := ?_) (a' := ?_) (fl 10 7) rfl rfl (any_of HT_.out (by kernel_rfl)) (fun _ _ _ h => h) (Or.inl ⟨by rfl, ?_⟩) ?_ ?_
                    rotate_left; ·(intro w'; go_simp; with_reducible rfl)
                    rotate_left; ·(simp only [Act.put, List.setIfInBounds_toArray, List.set_cons_zero, List.set_cons_succ, i64_w, i32_w]; rfl)
                    refine pure_ (i := 4) (N := some 79) (v := ?_) (a' := ?_) (fl 10 23) rfl rfl (any_of HT_.out (by kernel_rfl)) (fun _ _ _ h => h) (Or.inl ⟨by rfl, ?_⟩) ?_ ?_
                    rotate_left; ·(intro w'; go_simp; with_reducible rfl)
                    rotate_left; ·(simp only [Act.put, List.setIfInBounds_toArray, List.set_cons_zero, List.set_cons_succ, i64_w, i32_w]; rfl)
                    refine pure_ (i := 5) (N := some 80) (v := ?_) (a' := ?_) (fl 10 55) rfl rfl (any_of HT_.out (by kernel_rfl)) (fun _ _ _ h => h) (Or.inl ⟨by rfl, ?_⟩) ?_ ?_
                    rotate_left; ·(intro w'; go_simp; with_reducible rfl)
                    rotate_left; ·(simp only [Act.put, List.setIfInBounds_toArray, List.set_cons_zero, List.set_cons_succ, i64_w, i32_w]; rfl)
                    refine pure_ (i := 6) (N := some 81) (v := ?_) (a' := ?_) (fl 10 119) rfl rfl (any_of HT_.out (by kernel_rfl)) (fun _ _ _ h => h) (Or.inl ⟨by rfl, ?_⟩) ?_ ?_
                    rotate_left; ·(intro w'; go_simp; with_reducible rfl)
                    rotate_left; ·(simp only [Act.put, List.setIfInBounds_toArray, List.set_cons_zero, List.set_cons_succ, i64_w, i32_w]; rfl)
                    refine take_ (i := 3) (N := some 78) (v := ?_) (a' := ?_) (fl 10 127) rfl rfl (take_ofW HT_.out HW_.out (by kernel_rfl)) (fun _ _ _ h => h) (Or.inl ⟨by rfl, ?_⟩) hHeld ?_ ?_
                    rotate_left; ·(rintro w' ⟨s0, s1⟩; go_simp; with_reducible rfl)
                    rotate_left; ·(simp only [Act.put, List.setIfInBounds_toArray, List.set_cons_zero, List.set_cons_succ, i64_w, i32_w]; rfl)
                    refine take_ (i := 7) (N := some 82) (v := ?_) (a' := ?_) (fl 10 255) rfl rfl (take_ofW HT_.out HW_.out (by kernel_rfl)) (fun _ _ _ h => h) (Or.inl ⟨by rfl, ?_⟩) hHeld ?_ ?_
                    rotate_left; ·(rintro w' ⟨s0, s1⟩; go_simp; with_reducible rfl)
                    rotate_left; ·(simp only [Act.put, List.setIfInBounds_toArray, List.set_cons_zero, List.set_cons_succ, i64_w, i32_w]; rfl)
                    refine pure_ (i := 8) (N := some 83) (v := ?_) (a' := ?_) (fl 10 511) rfl rfl (any_of HT_.out (by kernel_rfl)) (fun _ _ _ h => h) (Or.inl ⟨by rfl, ?_⟩) ?_ ?_
                    rotate_left; ·(intro w'; go_simp; with_reducible rfl)
                    rotate_left; ·(simp only [Act.put, List.setIfInBounds_toArray, List.set_cons_zero, List.set_cons_succ, i64_w, i32_w]; rfl)
                    refine pure_ (i := 9) (N := some 13) (v := ?_) (a' := ?_) (fl 10 1023) rfl rfl (any_of HT_.out (by kernel_rfl)) (fun _ _ _ h => h) (Or.inl ⟨by rfl, ?_⟩) ?_ ?_
                    rotate_left; ·(intro w'; go_simp; with_reducible rfl)
                    rotate_left; ·(simp only [Act.put, List.setIfInBounds_toArray, List.set_cons_zero, List.set_cons_succ, i64_w, i32_w]; rfl)
                    refine done_ (done_of HT_.out (by kernel_rfl)) ?_
                    have p67 : 0 ≤ (x11_18 : Int) := of_decide_eq_true (by first | (with_reducible assumption) | assumption)
                    have q67 : (x11_18 : Int) < ((x8_3.length : Int) : Int) := of_decide_eq_true (by first | (with_reducible assumption) | assumption)
                    obtain ⟨go67, co67, eo67, gb67, gl67, cl67, HG67⟩ := Kd.R_form HO_8.out (by omega)
                    (first | cases eo67 | (injection eo67 with ea_ en_ ec_; (first | subst ea_ | (injection ea_ with ea_; subst ea_)); subst ec_; clear en_))
                    have GB67 := Aside0.mk gb67
                    have GG67 := Aside0.mk HG67
                    clear gb67 gl67 HG67
                    (first | simp only [add_plain] at hx212_0 | skip)
                    (first | simp only [add_plain] at hx213_0 | skip)
                    obtain ⟨hx67_0, hf67_0⟩ := Kd.R_celln 0 HO_8.out (x11_18 : Int) p67 q67
                    replace p67 := eq_true p67
                    replace q67 := eq_true q67
                    obtain ⟨hy71_, hz71_⟩ := Kd.R_celln 0 HO_8.out (x11_18 : Int) (of_decide_eq_true (by first | (with_reducible assumption) | assumption)) (of_decide_eq_true (by first | (with_reducible assumption) | assumption))
                    have HP71 := Kd.R_putg HO_8.out (x11_18 : Int) ji66
                    try go_wp2_with (first | ((with_reducible refine gate_store (t := 3) (p := 90) rfl ?_); refine store_event (t := 3) (p := 90) (v := ?vo_w72) (w1 := (w69.setCell ⟨go67, (x11_18 : Int).toNat, none⟩ (.int .i64 ji66))) ?hg ?ho ?hn ?hr ?_; (case ho => rfl); (case hg => rfl); (case hn => rfl); (case hr => first | (go_simp; done) | (go_simp; rfl)); intro w72 hw; have hg : w69.grownBy w72 (some go67) := (by rw [hw]; exact HP71.2); have hp_ : Kd.R (Kd.int .i64) 3 w72 w.heap.size (fun _ => True) (.slice (some ⟨go67, 0, none⟩) x8_3.length co70) y214 := (by rw [hw, Ny214.out]; exact HP71.1); clear HP71; have n0_ := Aside0.mk (hp_); have n1_ := Aside0.mk (blk_grown (g := gb193) (o := .cells #[.int .i64 a0_0, .int .i64 a0_1] 71 (0, 0)) (by (with_reducible repeat (first | refine blk_drewN ?_ _ | refine blk_drew ?_ | refine blk_alloc ?_ _)); exact BK193.out) hg (Kd.R_ne HO_8.out BK193.out (by decide))); have n2_ := Aside0.mk ((by rw [hw]; exact below_set (HB.out) GB67.out : Below w.heap.size w w72)); clear HO_8; clear BK193; clear HB; have HO_8 := n0_; have BK193 := n1_; have HB := n2_; clear n0_ n1_ n2_; clear hg hw hp_; have p68 : 0 ≤ (t203 : Int) := of_decide_eq_true (by first | (with_reducible assumption) | assumption); have q68 : (t203 : Int) < ((x8_3.length : Int) : Int) := of_decide_eq_true (by first | (with_reducible assumption) | assumption); obtain ⟨hx68_0, hf68_0⟩ := Kd.R_celln 0 HO_8.out (t203 : Int) p68 q68; replace p68 := eq_true p68; replace q68 := eq_true q68; obtain ⟨hy73_, hz73_⟩ := Kd.R_celln 0 HO_8.out (t203 : Int) (of_decide_eq_true (by first | (with_reducible assumption) | assumption)) (of_decide_eq_true (by first | (with_reducible assumption) | assumption)); have HP73 := Kd.R_putg HO_8.out (t203 : Int) ji66) | ((with_reducible refine gate_store (t := 3) (p := 91) rfl ?_); refine store_event (t := 3) (p := 91) (v := ?vo_w74) (w1 := (w72.setCell ⟨go67, (t203 : Int).toNat, none⟩ (.int .i64 ji66))) ?hg ?ho ?hn ?hr ?_; (case ho => rfl); (case hg => rfl); (case hn => rfl); (case hr => first | (go_simp; done) | (go_simp; rfl)); intro w74 hw; have hg : w72.grownBy w74 (some go67) := (by rw [hw]; exact HP73.2); have hp_ : Kd.R (Kd.int .i64) 3 w74 w.heap.size (fun _ => True) (.slice (some ⟨go67, 0, none⟩) x8_3.length co70) y215 := (by rw [hw, Ny215.out]; exact HP73.1); clear HP73; have n0_ := Aside0.mk (hp_); have n1_ := Aside0.mk (blk_grown (g := gb193) (o := .cells #[.int .i64 a0_0, .int .i64 a0_1] 71 (0, 0)) (by (with_reducible repeat (first | refine blk_drewN ?_ _ | refine blk_drew ?_ | refine blk_alloc ?_ _)); exact BK193.out) hg (Kd.R_ne HO_8.out BK193.out (by decide))); have n2_ := Aside0.mk ((by rw [hw]; exact below_set (HB.out) GB67.out : Below w.heap.size w w74)); clear HO_8; clear BK193; clear HB; have HO_8 := n0_; have BK193 := n1_; have HB := n2_; clear n0_ n1_ n2_; clear hg hw hp_))
                    first | go_roundg kj18 | ((try subst hji25); (try subst hji30); (try subst hji33); (try subst hji42); (try subst hji46); (try subst hji49); (try subst hji59); (try subst hji66); go_roundg kj18)
                    case measure => have := HK1.out; have := HK2.out; have := HK3.out; have := HJ18.out; omega
                    case rel => exact ⟨(y215), (wrap64 (x44_3 + 1)), (by first | rfl | (simp; done) | (simp [*]; done)), H', ⟨by have := HK1.out; have := HK2.out; have := HK3.out; have := HJ18.out; omega⟩, ⟨by (with_reducible repeat (first | apply Kd.R_alloc | apply Kd.R_drewN | apply Kd.R_drew)); exact HO_8.out⟩, ⟨by (with_reducible repeat (first | refine blk_drewN ?_ _ | refine blk_drew ?_ | refine blk_alloc ?_ _)); exact BK193.out⟩, ⟨by repeat (first | (with_reducible first | exact HB.out | apply below_alloc | apply pw_below_drewN | apply below_drew1 | refine below_set ?_ GE193.out) | exact HB.out)⟩⟩
                   ·rw [if_neg c65] at H
                    exact absurd H (by simp)
                  ·rw [if_neg c64] at H
                   exact absurd H (by simp)
                 ·rw [if_neg c63] at H
                  exact absurd H (by simp)
                ·rw [if_neg c62] at H
                 exact absurd H (by simp)
               ·replace c61 := Bool.eq_false_iff.mpr c61
                subst c61
                have H1 : (if (mx x11_18 t203) = (wrap64 (a0_0 * a0_1)) then (impl_grid_regions.l2 kj18 a1 false (wrap64 (a0_0 * a0_1)) x8_3 (wrap64 ((wrap64 (a0_0 * a0_1)) + 1)) x37_2 (wrap64 (t200 + t201)) (wrap64 (x44_3 + 1)) a0_0 a0_1) else (if 0 ≤ x11_18 then (if x11_18 < (x8_3.length : Int) then (if 0 ≤ t203 then (if t203 < (x8_3.length : Int) then (impl_grid_regions.l2 kj18 a1 false (wrap64 (a0_0 * a0_1)) ((x8_3.set (x11_18 : Int).toNat (mn (rd x8_3 x11_18) (rd x8_3 t203))).set (t203 : Int).toNat (mn (rd x8_3 x11_18) (rd x8_3 t203))) (wrap64 ((wrap64 (a0_0 * a0_1)) + 1)) x37_2 (wrap64 (t200 + t201)) (wrap64 (x44_3 + 1)) a0_0 a0_1) else (none)) else (none)) else (none)) else (none))) = some r := by rw [if_neg (show ¬ (false = true) by decide)] at H; exact H
                clear H
                have H := H1
                clear H1
                obtain ⟨ji75, hji75⟩ : ∃ j_ : Int, (mx x11_18 t203) = j_ := ⟨_, rfl⟩
                replace H : (if (ji75) = (wrap64 (a0_0 * a0_1)) then (impl_grid_regions.l2 kj18 a1 false (wrap64 (a0_0 * a0_1)) x8_3 (wrap64 ((wrap64 (a0_0 * a0_1)) + 1)) x37_2 (wrap64 (t200 + t201)) (wrap64 (x44_3 + 1)) a0_0 a0_1) else (if 0 ≤ x11_18 then (if x11_18 < (x8_3.length : Int) then (if 0 ≤ t203 then (if t203 < (x8_3.length : Int) then (impl_grid_regions.l2 kj18 a1 false (wrap64 (a0_0 * a0_1)) ((x8_3.set (x11_18 : Int).toNat (mn (rd x8_3 x11_18) (rd x8_3 t203))).set (t203 : Int).toNat (mn (rd x8_3 x11_18) (rd x8_3 t203))) (wrap64 ((wrap64 (a0_0 * a0_1)) + 1)) x37_2 (wrap64 (t200 + t201)) (wrap64 (x44_3 + 1)) a0_0 a0_1) else (none)) else (none)) else (none)) else (none))) = some r := by first | (rw [hji75] at H; exact H) | (simp only [hji75] at H ⊢; exact H)
                have hji75_ : (if x11_18 < t203 then t203 else x11_18) = ji75 := hji75
                by_cases c76 : (ji75) = (wrap64 (a0_0 * a0_1))
                ·rw [if_pos c76] at H
                 have c76b0 : ((ji75) == (wrap64 (a0_0 * a0_1))) = true := beq_iff_eq.mpr c76
                 have c76b1 : ((ji75) != (wrap64 (a0_0 * a0_1))) = false := bne_eq_false_iff_eq.mpr c76
                 clear c76
                 have H' := Aside0.mk H
                 clear H
                 go_wp2
                 first | go_roundg kj18 | ((try subst hji25); (try subst hji30); (try subst hji33); (try subst hji42); (try subst hji46); (try subst hji49); (try subst hji59); (try subst hji66); (try subst hji75); go_roundg kj18)
                 case measure => have := HK1.out; have := HK2.out; have := HK3.out; have := HJ18.out; omega
                 case rel => exact ⟨(x8_3), (wrap64 (x44_3 + 1)), (by first | rfl | (simp; done) | (simp [*]; done)), H', ⟨by have := HK1.out; have := HK2.out; have := HK3.out; have := HJ18.out; omega⟩, ⟨by (with_reducible repeat (first | apply Kd.R_alloc | apply Kd.R_drewN | apply Kd.R_drew)); exact HO_8.out⟩, ⟨by (with_reducible repeat (first | refine blk_drewN ?_ _ | refine blk_drew ?_ | refine blk_alloc ?_ _)); exact BK193.out⟩, ⟨by repeat (first | (with_reducible first | exact HB.out | apply below_alloc | apply pw_below_drewN | apply below_drew1 | refine below_set ?_ GE193.out) | exact HB.out)⟩⟩
                ·rw [if_neg c76] at H
                 have c76b0 : ((ji75) == (wrap64 (a0_0 * a0_1))) = false := beq_eq_false_iff_ne.mpr c76
                 have c76b1 : ((ji75) != (wrap64 (a0_0 * a0_1))) = true := bne_iff_ne.mpr c76
                 by_cases c77 : 0 ≤ x11_18
                 ·rw [if_pos c77] at H
                  have c77b0 : decide (0 ≤ x11_18) = true := decide_eq_true c77
                  clear c77
                  by_cases c78 : x11_18 < (x8_3.length : Int)
                  ·rw [if_pos c78] at H
                   have c78b0 : decide (x11_18 < (x8_3.length : Int)) = true := decide_eq_true c78
                   clear c78
                   by_cases c79 : 0 ≤ t203
                   ·rw [if_pos c79] at H
                    have c79b0 : decide (0 ≤ t203) = true := decide_eq_true c79
                    clear c79
                    by_cases c80 : t203 < (x8_3.length : Int)
                    ·rw [if_pos c80] at H
                     have c80b0 : decide (t203 < (x8_3.length : Int)) = true := decide_eq_true c80
                     clear c80
                     obtain ⟨ji81, hji81⟩ : ∃ j_ : Int, (mn (rd x8_3 x11_18) (rd x8_3 t203)) = j_ := ⟨_, rfl⟩
                     replace H : (impl_grid_regions.l2 kj18 a1 false (wrap64 (a0_0 * a0_1)) ((x8_3.set (x11_18 : Int).toNat (ji81)).set (t203 : Int).toNat (ji81)) (wrap64 ((wrap64 (a0_0 * a0_1)) + 1)) x37_2 (wrap64 (t200 + t201)) (wrap64 (x44_3 + 1)) a0_0 a0_1) = some r := by first | (rw [hji81] at H; exact H) | (simp only [hji81] at H ⊢; exact H)
                     have hji81_ : (if (rd x8_3 t203) < (rd x8_3 x11_18) then (rd x8_3 t203) else (rd x8_3 x11_18)) = ji81 := hji81
                     obtain ⟨y218, hy218⟩ : ∃ y_ : List Int, y_ = (x8_3.set (x11_18 : Int).toNat (ji81)) := ⟨_, rfl⟩
                     replace H : (impl_grid_regions.l2 kj18 a1 false (wrap64 (a0_0 * a0_1)) (y218.set (t203 : Int).toNat (ji81)) (wrap64 ((wrap64 (a0_0 * a0_1)) + 1)) x37_2 (wrap64 (t200 + t201)) (wrap64 (x44_3 + 1)) a0_0 a0_1) = some r := by first | (rw [hy218]; with_reducible exact H) | (have H2_ := (Option.bind_some _ _).symm.trans H; rw [hy218]; with_reducible exact H2_) | (have H2_ := (Option.bind_some _ _).symm.trans H; with_reducible exact H2_) | with_reducible exact H | (rw [hy218]; exact H) | exact H
                     have Ny218 := Aside0.mk hy218
                     clear hy218
                     obtain ⟨y219, hy219⟩ : ∃ y_ : List Int, y_ = (y218.set (t203 : Int).toNat (ji81)) := ⟨_, rfl⟩
                     replace H : (impl_grid_regions.l2 kj18 a1 false (wrap64 (a0_0 * a0_1)) y219 (wrap64 ((wrap64 (a0_0 * a0_1)) + 1)) x37_2 (wrap64 (t200 + t201)) (wrap64 (x44_3 + 1)) a0_0 a0_1) = some r := by first | (rw [hy219]; with_reducible exact H) | (have H2_ := (Option.bind_some _ _).symm.trans H; rw [hy219]; with_reducible exact H2_) | (have H2_ := (Option.bind_some _ _).symm.trans H; with_reducible exact H2_) | with_reducible exact H | (rw [hy219]; exact H) | exact H
                     have Ny219 := Aside0.mk hy219
                     clear hy219
                     have H' := Aside0.mk H
                     clear H
                     try go_wp2
                     have n0_ := Aside0.mk (Kd.R_drew HO_8.out)
                     have n1_ := Aside0.mk (blk_drew BK193.out)
                     have n2_ := Aside0.mk (below_drew1 HB.out)
                     clear HO_8
                     clear BK193
                     clear HB
                     have HO_8 := n0_
                     have BK193 := n1_
                     have HB := n2_
                     clear n0_ n1_ n2_
                     obtain ⟨Ao85, co85, eo85⟩ := Kd.R_slice HO_8.out
                     (first | subst eo85 | (injection eo85 with f1_ f2_ f3_; have f4_ := f1_.symm; have f5_ := f3_.symm; clear f1_ f2_ f3_; subst f4_; subst f5_))
                     have p216 : 0 ≤ (x11_18 : Int) := of_decide_eq_true (by first | (with_reducible assumption) | assumption)
                     have q216 : x11_18 < (x8_3.length : Int) := of_decide_eq_true (by first | (with_reducible assumption) | assumption)
                     obtain ⟨ad216, e216, hx216_0⟩ := Kd.at_int (Kd.R_reads' HO_8.out).2.2 x11_18 p216 q216
                     cases e216
                     replace p216 := eq_true p216
                     replace q216 := eq_true q216
                     have p217 : 0 ≤ (t203 : Int) := of_decide_eq_true (by first | (with_reducible assumption) | assumption)
                     have q217 : t203 < (x8_3.length : Int) := of_decide_eq_true (by first | (with_reducible assumption) | assumption)
                     obtain ⟨ad217, e217, hx217_0⟩ := Kd.at_int (Kd.R_reads' HO_8.out).2.2 t203 p217 q217
                     obtain rfl : ad216 = ad217 := (by injection e217)
                     replace p217 := eq_true p217
                     replace q217 := eq_true q217
                     refine start_ (n := 10) (S := fun w' => w'.cell? (ad216.add (x11_18).toNat) = some (.int .i64 (rd x8_3 x11_18)) ∧ w'.cell? (ad216.add (t203).toNat) = some (.int .i64 (rd x8_3 t203))) (ds := []) (fl 10 0) (by kernel_rfl) rfl rfl ⟨hx216_0, hx217_0⟩ (fun hHeld => ?_); refine with_tabW impl_grid_regions.tab19 impl_grid_regions.bits19 (fun HT_ HW_ => ?_)
                     generalize wc.drew = w84 at HO_8 BK193 HB hx216_0 hx217_0 hHeld ⊢
                     refine pure_ (i := 0) (N := some 75) (v := ?_) (a' := ?_) (fl 10 1) rfl rfl (any_of HT_.out (by kernel_rfl)) (fun _ _ _ h => h) (Or.inl ⟨by rfl, ?_⟩) ?_ ?_
                     rotate_left; ·(intro w'; go_simp; with_reducible rfl)
                     rotate_left; ·(simp only [Act.put, List.setIfInBounds_toArray, List.set_cons_zero, List.set_cons_succ, i64_w, i32_w]; rfl)
                     refine pure_ (i := 1) (N := some 76) (v := ?_) (a' := ?_) (fl 10 3) rfl rfl (any_of HT_.out (by kernel_rfl)) (fun _ _ _ h => h) (Or.inl ⟨by rfl, ?_⟩) ?_ ?_
                     rotate_left; ·(intro w'; go_simp; with_reducible rfl)
                     rotate_left; ·(simp only [Act.put, List.setIfInBounds_toArray, List.set_cons_zero, List.set_cons_succ, i64_w, i32_w]; rfl)
                     refine pure_ (i := 2) (N := some 77) (v := ?_) (a' := ?_) (fl 10 7) rfl rfl (any_of HT_.out (by kernel_rfl)) (fun _ _ _ h => h) (Or.inl ⟨by rfl, ?_⟩) ?_ ?_
                     rotate_left; ·(intro w'; go_simp; with_reducible rfl)
                     rotate_left; ·(simp only [Act.put, List.setIfInBounds_toArray, List.set_cons_zero, List.set_cons_succ, i64_w, i32_w]; rfl)
                     refine pure_ (i := 4) (N := some 79) (v := ?_) (a' := ?_) (fl 10 23) rfl rfl (any_of HT_.out (by kernel_rfl)) (fun _ _ _ h => h) (Or.inl ⟨by rfl, ?_⟩) ?_ ?_
                     rotate_left; ·(intro w'; go_simp; with_reducible rfl)
                     rotate_left; ·(simp only [Act.put, List.setIfInBounds_toArray, List.set_cons_zero, List.set_cons_succ, i64_w, i32_w]; rfl)
                     refine pure_ (i := 5) (N := some 80) (v := ?_) (a' := ?_) (fl 10 55) rfl rfl (any_of HT_.out (by kernel_rfl)) (fun _ _ _ h => h) (Or.inl ⟨by rfl, ?_⟩) ?_ ?_
                     rotate_left; ·(intro w'; go_simp; with_reducible rfl)
                     rotate_left; ·(simp only [Act.put, List.setIfInBounds_toArray, List.set_cons_zero, List.set_cons_succ, i64_w, i32_w]; rfl)
                     refine pure_ (i := 6) (N := some 81) (v := ?_) (a' := ?_) (fl 10 119) rfl rfl (any_of HT_.out (by kernel_rfl)) (fun _ _ _ h => h) (Or.inl ⟨by rfl, ?_⟩) ?_ ?_
                     rotate_left; ·(intro w'; go_simp; with_reducible rfl)
                     rotate_left; ·(simp only [Act.put, List.setIfInBounds_toArray, List.set_cons_zero, List.set_cons_succ, i64_w, i32_w]; rfl)
                     refine take_ (i := 3) (N := some 78) (v := ?_) (a' := ?_) (fl 10 127) rfl rfl (take_ofW HT_.out HW_.out (by kernel_rfl)) (fun _ _ _ h => h) (Or.inl ⟨by rfl, ?_⟩) hHeld ?_ ?_
                     rotate_left; ·(rintro w' ⟨s0, s1⟩; go_simp; with_reducible rfl)
                     rotate_left; ·(simp only [Act.put, List.setIfInBounds_toArray, List.set_cons_zero, List.set_cons_succ, i64_w, i32_w]; rfl)
                     refine take_ (i := 7) (N := some 82) (v := ?_) (a' := ?_) (fl 10 255) rfl rfl (take_ofW HT_.out HW_.out (by kernel_rfl)) (fun _ _ _ h => h) (Or.inl ⟨by rfl, ?_⟩) hHeld ?_ ?_
                     rotate_left; ·(rintro w' ⟨s0, s1⟩; go_simp; with_reducible rfl)
                     rotate_left; ·(simp only [Act.put, List.setIfInBounds_toArray, List.set_cons_zero, List.set_cons_succ, i64_w, i32_w]; rfl)
                     refine pure_ (i := 8) (N := some 83) (v := ?_) (a' := ?_) (fl 10 511) rfl rfl (any_of HT_.out (by kernel_rfl)) (fun _ _ _ h => h) (Or.inl ⟨by rfl, ?_⟩) ?_ ?_
                     rotate_left; ·(intro w'; go_simp; with_reducible rfl)
                     rotate_left; ·(simp only [Act.put, List.setIfInBounds_toArray, List.set_cons_zero, List.set_cons_succ, i64_w, i32_w]; rfl)
                     refine pure_ (i := 9) (N := some 13) (v := ?_) (a' := ?_) (fl 10 1023) rfl rfl (any_of HT_.out (by kernel_rfl)) (fun _ _ _ h => h) (Or.inl ⟨by rfl, ?_⟩) ?_ ?_
                     rotate_left; ·(intro w'; go_simp; with_reducible rfl)
                     rotate_left; ·(simp only [Act.put, List.setIfInBounds_toArray, List.set_cons_zero, List.set_cons_succ, i64_w, i32_w]; rfl)
                     refine done_ (done_of HT_.out (by kernel_rfl)) ?_
                     have p82 : 0 ≤ (x11_18 : Int) := of_decide_eq_true (by first | (with_reducible assumption) | assumption)
                     have q82 : (x11_18 : Int) < ((x8_3.length : Int) : Int) := of_decide_eq_true (by first | (with_reducible assumption) | assumption)
                     obtain ⟨go82, co82, eo82, gb82, gl82, cl82, HG82⟩ := Kd.R_form HO_8.out (by omega)
                     (first | cases eo82 | (injection eo82 with ea_ en_ ec_; (first | subst ea_ | (injection ea_ with ea_; subst ea_)); subst ec_; clear en_))
                     have GB82 := Aside0.mk gb82
                     have GG82 := Aside0.mk HG82
                     clear gb82 gl82 HG82
                     (first | simp only [add_plain] at hx216_0 | skip)
                     (first | simp only [add_plain] at hx217_0 | skip)
                     obtain ⟨hx82_0, hf82_0⟩ := Kd.R_celln 0 HO_8.out (x11_18 : Int) p82 q82
                     replace p82 := eq_true p82
                     replace q82 := eq_true q82
                     obtain ⟨hy86_, hz86_⟩ := Kd.R_celln 0 HO_8.out (x11_18 : Int) (of_decide_eq_true (by first | (with_reducible assumption) | assumption)) (of_decide_eq_true (by first | (with_reducible assumption) | assumption))
                     have HP86 := Kd.R_putg HO_8.out (x11_18 : Int) ji81
                     try go_wp2_with (first | ((with_reducible refine gate_store (t := 3) (p := 90) rfl ?_); refine store_event (t := 3) (p := 90) (v := ?vo_w87) (w1 := (w84.setCell ⟨go82, (x11_18 : Int).toNat, none⟩ (.int .i64 ji81))) ?hg ?ho ?hn ?hr ?_; (case ho => rfl); (case hg => rfl); (case hn => rfl); (case hr => first | (go_simp; done) | (go_simp; rfl)); intro w87 hw; have hg : w84.grownBy w87 (some go82) := (by rw [hw]; exact HP86.2); have hp_ : Kd.R (Kd.int .i64) 3 w87 w.heap.size (fun _ => True) (.slice (some ⟨go82, 0, none⟩) x8_3.length co85) y218 := (by rw [hw, Ny218.out]; exact HP86.1); clear HP86; have n0_ := Aside0.mk (hp_); have n1_ := Aside0.mk (blk_grown (g := gb193) (o := .cells #[.int .i64 a0_0, .int .i64 a0_1] 71 (0, 0)) (by (with_reducible repeat (first | refine blk_drewN ?_ _ | refine blk_drew ?_ | refine blk_alloc ?_ _)); exact BK193.out) hg (Kd.R_ne HO_8.out BK193.out (by decide))); have n2_ := Aside0.mk ((by rw [hw]; exact below_set (HB.out) GB82.out : Below w.heap.size w w87)); clear HO_8; clear BK193; clear HB; have HO_8 := n0_; have BK193 := n1_; have HB := n2_; clear n0_ n1_ n2_; clear hg hw hp_; have p83 : 0 ≤ (t203 : Int) := of_decide_eq_true (by first | (with_reducible assumption) | assumption); have q83 : (t203 : Int) < ((x8_3.length : Int) : Int) := of_decide_eq_true (by first | (with_reducible assumption) | assumption); obtain ⟨hx83_0, hf83_0⟩ := Kd.R_celln 0 HO_8.out (t203 : Int) p83 q83; replace p83 := eq_true p83; replace q83 := eq_true q83; obtain ⟨hy88_, hz88_⟩ := Kd.R_celln 0 HO_8.out (t203 : Int) (of_decide_eq_true (by first | (with_reducible assumption) | assumption)) (of_decide_eq_true (by first | (with_reducible assumption) | assumption)); have HP88 := Kd.R_putg HO_8.out (t203 : Int) ji81) | ((with_reducible refine gate_store (t := 3) (p := 91) rfl ?_); refine store_event (t := 3) (p := 91) (v := ?vo_w89) (w1 := (w87.setCell ⟨go82, (t203 : Int).toNat, none⟩ (.int .i64 ji81))) ?hg ?ho ?hn ?hr ?_; (case ho => rfl); (case hg => rfl); (case hn => rfl); (case hr => first | (go_simp; done) | (go_simp; rfl)); intro w89 hw; have hg : w87.grownBy w89 (some go82) := (by rw [hw]; exact HP88.2); have hp_ : Kd.R (Kd.int .i64) 3 w89 w.heap.size (fun _ => True) (.slice (some ⟨go82, 0, none⟩) x8_3.length co85) y219 := (by rw [hw, Ny219.out]; exact HP88.1); clear HP88; have n0_ := Aside0.mk (hp_); have n1_ := Aside0.mk (blk_grown (g := gb193) (o := .cells #[.int .i64 a0_0, .int .i64 a0_1] 71 (0, 0)) (by (with_reducible repeat (first | refine blk_drewN ?_ _ | refine blk_drew ?_ | refine blk_alloc ?_ _)); exact BK193.out) hg (Kd.R_ne HO_8.out BK193.out (by decide))); have n2_ := Aside0.mk ((by rw [hw]; exact below_set (HB.out) GB82.out : Below w.heap.size w w89)); clear HO_8; clear BK193; clear HB; have HO_8 := n0_; have BK193 := n1_; have HB := n2_; clear n0_ n1_ n2_; clear hg hw hp_))
                     first | go_roundg kj18 | ((try subst hji25); (try subst hji30); (try subst hji33); (try subst hji42); (try subst hji46); (try subst hji49); (try subst hji59); (try subst hji66); (try subst hji75); (try subst hji81); go_roundg kj18)
                     case measure => have := HK1.out; have := HK2.out; have := HK3.out; have := HJ18.out; omega
                     case rel => exact ⟨(y219), (wrap64 (x44_3 + 1)), (by first | rfl | (simp; done) | (simp [*]; done)), H', ⟨by have := HK1.out; have := HK2.out; have := HK3.out; have := HJ18.out; omega⟩, ⟨by (with_reducible repeat (first | apply Kd.R_alloc | apply Kd.R_drewN | apply Kd.R_drew)); exact HO_8.out⟩, ⟨by (with_reducible repeat (first | refine blk_drewN ?_ _ | refine blk_drew ?_ | refine blk_alloc ?_ _)); exact BK193.out⟩, ⟨by repeat (first | (with_reducible first | exact HB.out | apply below_alloc | apply pw_below_drewN | apply below_drew1 | refine below_set ?_ GE193.out) | exact HB.out)⟩⟩
                    ·rw [if_neg c80] at H
                     exact absurd H (by simp)
                   ·rw [if_neg c79] at H
                    exact absurd H (by simp)
                  ·rw [if_neg c78] at H
                   exact absurd H (by simp)
                 ·rw [if_neg c77] at H
                  exact absurd H (by simp)
             ·rw [if_neg c58] at H
              exact absurd H (by simp)
         ·rw [if_neg c17] at H
          have c17b0 : decide (x44_3 < (wrap64 (t200 + t201))) = false := decide_eq_false c17
          clear c17
          have H' := Aside0.mk H
          clear H
          go_wp2
          first | go_roundg k3 | ((try subst hji25); (try subst hji30); (try subst hji33); (try subst hji42); (try subst hji46); (try subst hji49); (try subst hji59); (try subst hji66); (try subst hji75); (try subst hji81); go_roundg k3)
          case measure => have := HK1.out; have := HK2.out; have := HK3.out; omega
          case rel => exact ⟨(x8_3), (wrap64 (x37_2 + 1)), (by first | rfl | (simp; done) | (simp [*]; done)), H', ⟨by have := HK1.out; have := HK2.out; have := HK3.out; omega⟩, ⟨by (with_reducible repeat (first | apply Kd.R_alloc | apply Kd.R_drewN | apply Kd.R_drew)); exact HO_8.out⟩, ⟨by (with_reducible repeat (first | refine blk_drewN ?_ _ | refine blk_drew ?_ | refine blk_alloc ?_ _)); exact BK193.out⟩, ⟨by repeat (first | (with_reducible first | exact HB.out | apply below_alloc | apply pw_below_drewN | apply below_drew1 | refine below_set ?_ GE193.out) | exact HB.out)⟩⟩
      ·rw [if_neg c11] at H
       have c11b0 : decide (x37_2 < (wrap64 ((wrap64 (a0_0 * a0_1)) + 1))) = false := decide_eq_false c11
       clear c11
       obtain ⟨y220, hy220⟩ : ∃ y_ : List (List Int), y_ = (([] : List (List Int))) := ⟨_, rfl⟩
       replace H : (impl_grid_regions.l3 k2 a2 (wrap64 (a0_0 * a0_1)) x8_2 y220 (wrap64 (a0_0 * a0_1)) 0) = some r := by first | (rw [hy220]; with_reducible exact H) | (have H2_ := (Option.bind_some _ _).symm.trans H; rw [hy220]; with_reducible exact H2_) | (have H2_ := (Option.bind_some _ _).symm.trans H; with_reducible exact H2_) | with_reducible exact H | (rw [hy220]; exact H) | exact H
       have Ny220 := Aside0.mk hy220
       clear hy220
       have H' := Aside0.mk H
       clear H
       go_wp2_with (first | ((with_reducible refine gate_dst (N := 94) rfl ?_); (try (refine gate_guard (by rfl) ?_; dsimp only)); refine Kd.S_lit (Kd.slice 3 (Kd.int .i64)) _ 22 ?hg (N := 94) ?hd (xs := ([] : List (List Int))) (inner := []) (ok := fun _ => True) (okp := fun _ => True) ?hr ?hp (fun _ hk => hk) trivial (Below.refl _ _) (Nat.le_refl _) (by simp) ?_; (case hd => rfl); (case hg => rfl); (case hr => first | (go_simp; done) | (go_simp; rfl)); (case hp => exact (Reps.none _ _)); intro v221 w90 ho91 hb hg_ hnew_; clear hg_ hnew_; (first | rw [← Ny220.out] at ho91 | (simp only [Int.reduceToNat] at ho91; rw [← Ny220.out] at ho91)); have n0_ := Aside0.mk (Kd.R_below (by (with_reducible repeat (first | apply Kd.R_alloc | apply Kd.R_drewN | apply Kd.R_drew)); exact HO_8.out) hb); have n1_ := Aside0.mk (Kd.S_lower (Kd.S_new' ho91 (Kd.R_lt (by (with_reducible repeat (first | apply Kd.R_alloc | apply Kd.R_drewN | apply Kd.R_drew)); exact HO_8.out))) (below_size (by repeat (first | (with_reducible first | exact HB.out | apply below_alloc | apply pw_below_drewN | apply below_drew1 | refine below_set ?_ GE193.out) | exact HB.out)))); have n2_ := Aside0.mk (blk_below (g := gb193) (o := .cells #[.int .i64 a0_0, .int .i64 a0_1] 71 (0, 0)) (by (with_reducible repeat (first | refine blk_drewN ?_ _ | refine blk_drew ?_ | refine blk_alloc ?_ _)); exact BK193.out) hb); have n3_ := Aside0.mk (below_step (by repeat (first | (with_reducible first | exact HB.out | apply below_alloc | apply pw_below_drewN | apply below_drew1 | refine below_set ?_ GE193.out) | exact HB.out)) hb); clear HO_8; clear BK193; clear HB; have HO_8 := n0_; have HO222 := n1_; have BK193 := n2_; have HB := n3_; clear n0_ n1_ n2_ n3_; clear hb ho91))
       go_loopg [14, 96] k2 (fun kq v14 v96 w' => ∃ (x14_3 : List (List Int)) (x96_3 : Int), v96 = .int .i64 x96_3 ∧ Aside0 (impl_grid_regions.l3 kq a2 (wrap64 (a0_0 * a0_1)) x8_2 x14_3 (wrap64 (a0_0 * a0_1)) x96_3 = some r) ∧ Aside0 (kq ≤ k2) ∧ Aside0 (Kd.R (Kd.int .i64) 3 w' w.heap.size (fun _ => True) u8 x8_2) ∧ Aside0 (Kd.S (Kd.slice 3 (Kd.int .i64)) 22 w' w.heap.size (fun k_ => some k_ ≠ (u8 : Value).ownBlock) v14 x14_3) ∧ Aside0 (w'.heap[gb193]? = some (.cells #[.int .i64 a0_0, .int .i64 a0_1] 71 (0, 0))) ∧ Aside0 (Below w.heap.size w w'))
       case atStart => exact ⟨(y220), (0), (by first | rfl | (simp; done) | (simp [*]; done)), H', ⟨Nat.le_refl _⟩, ⟨by (with_reducible repeat (first | apply Kd.R_alloc | apply Kd.R_drewN | apply Kd.R_drew)); exact HO_8.out⟩, ⟨by (with_reducible repeat (first | apply Kd.S_alloc | apply Kd.S_drewN | apply Kd.S_drew)); exact Kd.S_mono HO222.out (fun _ hk => hk.2)⟩, ⟨by (with_reducible repeat (first | refine blk_drewN ?_ _ | refine blk_drew ?_ | refine blk_alloc ?_ _)); exact BK193.out⟩, ⟨by repeat (first | (with_reducible first | exact HB.out | apply below_alloc | apply pw_below_drewN | apply below_drew1 | refine below_set ?_ GE193.out) | exact HB.out)⟩⟩
       case round =>
        clear H'
        (try clear c1); (try clear c2); (try clear p2); (try clear q2); (try clear hx2); (try clear c4); (try clear c5); (try clear p5); (try clear q5); (try clear hx5); (try clear hf5); (try clear c6); (try clear p6); (try clear q6); (try clear hx6); (try clear hf6); (try clear c7); (try clear c8); (try clear c8b0); (try clear p8); (try clear q8); (try clear hx8); (try clear hf8); (try clear c11); (try clear c11b0); (try clear c17); (try clear c17b0); (try clear p20); (try clear q20); (try clear hx20); (try clear p21); (try clear q21); (try clear hx21); (try clear c23); (try clear c23b0); (try clear c24); (try clear c27); (try clear c43); (try clear c43b0); (try clear c43b1); (try clear c44); (try clear c44b0); (try clear c45); (try clear c45b0); (try clear c47); (try clear c47b0); (try clear c48); (try clear c48b0); (try clear p50); (try clear q50); (try clear hx50); (try clear hf50); (try clear p51); (try clear q51); (try clear hx51); (try clear hf51); (try clear c58); (try clear c58b0); (try clear c58b1); (try clear c60); (try clear c60b0); (try clear c60b1); (try clear c61); (try clear c62); (try clear c62b0); (try clear c63); (try clear c63b0); (try clear c64); (try clear c64b0); (try clear p64); (try clear c65); (try clear c65b0); (try clear p67); (try clear q67); (try clear hx67); (try clear hf67); (try clear p68); (try clear q68); (try clear hx68); (try clear hf68); (try clear c76); (try clear c76b0); (try clear c76b1); (try clear c77); (try clear c77b0); (try clear c78); (try clear c78b0); (try clear c79); (try clear c79b0); (try clear c80); (try clear c80b0); (try clear p82); (try clear q82); (try clear hx82); (try clear hf82); (try clear p83); (try clear q83); (try clear hx83); (try clear hf83); (try clear hx208_0); (try clear hx209_0); (try clear hx212_0); (try clear hx213_0); (try clear hx216_0); (try clear hx217_0); (try clear hx50_0); (try clear hx51_0); (try clear hx67_0); (try clear hx68_0); (try clear hx82_0); (try clear hx83_0); (try clear p208); (try clear p209); (try clear p212); (try clear p213); (try clear p216); (try clear p217); (try clear p50); (try clear p51); (try clear p67); (try clear p68); (try clear p82); (try clear p83); (try clear q208); (try clear q209); (try clear q212); (try clear q213); (try clear q216); (try clear q217); (try clear q50); (try clear q51); (try clear q67); (try clear q68); (try clear q82); (try clear q83)
        obtain ⟨x14_3, x96_3, rfl, HA, HK3, HO_8, HO_14, BK193, HB⟩ := hrel
        cases gk with
        | zero => exact absurd HA.out (by simp [impl_grid_regions.l3])
        | succ k3 =>
         have H := HA.out
         clear HA
         simp only [impl_grid_regions.l3] at H
         by_cases c92 : x96_3 < (wrap64 (a0_0 * a0_1))
         ·rw [if_pos c92] at H
          have c92b0 : decide (x96_3 < (wrap64 (a0_0 * a0_1))) = true := decide_eq_true c92
          clear c92
          obtain ⟨y223, hy223⟩ : ∃ y_ : List Int, y_ = (([] : List Int)) := ⟨_, rfl⟩
          replace H : (if 0 ≤ (wrap64 (a0_0 * a0_1)) then (if (wrap64 (a0_0 * a0_1)) ≤ (x8_2.length : Int) then ((some (x8_2.take ((wrap64 (a0_0 * a0_1)) : Int).toNat : List Int)).bind fun y226 => (impl_grid_regions.l4 k3 a2 (wrap64 (a0_0 * a0_1)) x8_2 x14_3 x96_3 y223 (wrap64 (a0_0 * a0_1)) x96_3 y226 (y226.length : Int) 0)) else (none)) else (none)) = some r := by first | (rw [hy223]; with_reducible exact H) | (have H2_ := (Option.bind_some _ _).symm.trans H; rw [hy223]; with_reducible exact H2_) | (have H2_ := (Option.bind_some _ _).symm.trans H; with_reducible exact H2_) | with_reducible exact H | (rw [hy223]; exact H) | exact H
          have Ny223 := Aside0.mk hy223
          clear hy223
          obtain ⟨ji93, hji93⟩ : ∃ j_ : Int, (wrap64 (a0_0 * a0_1)) = j_ := ⟨_, rfl⟩
          replace H : (if 0 ≤ (ji93) then (if (ji93) ≤ (x8_2.length : Int) then ((some (x8_2.take ((ji93) : Int).toNat : List Int)).bind fun y226 => (impl_grid_regions.l4 k3 a2 (ji93) x8_2 x14_3 x96_3 y223 (ji93) x96_3 y226 (y226.length : Int) 0)) else (none)) else (none)) = some r := by first | (rw [hji93] at H; exact H) | (simp only [hji93] at H ⊢; exact H)
          (try rw [hji93] at c8b0)
          (try rw [hji93] at c11b0)
          (try rw [hji93] at c92b0)
          have hji93w : (IntKind.i64.wrap (a0_0 * a0_1)) = ji93 := (i64_w _).trans hji93
          by_cases c94 : 0 ≤ (ji93)
          ·rw [if_pos c94] at H
           have c94b0 := eq_true c94
           have c94b1 : decide (0 ≤ (ji93)) = true := decide_eq_true c94
           clear c94
           by_cases c95 : (ji93) ≤ (x8_2.length : Int)
           ·rw [if_pos c95] at H
            have c95b0 := eq_true c95
            have c95b1 : decide ((ji93) ≤ (x8_2.length : Int)) = true := decide_eq_true c95
            clear c95
            obtain ⟨y226, hy226⟩ : ∃ y_ : List Int, y_ = (x8_2.take ((ji93) : Int).toNat) := ⟨_, rfl⟩
            replace H : (impl_grid_regions.l4 k3 a2 (ji93) x8_2 x14_3 x96_3 y223 (ji93) x96_3 y226 (y226.length : Int) 0) = some r := by first | (rw [hy226]; with_reducible exact H) | (have H2_ := (Option.bind_some _ _).symm.trans H; rw [hy226]; with_reducible exact H2_) | (have H2_ := (Option.bind_some _ _).symm.trans H; with_reducible exact H2_) | with_reducible exact H | (rw [hy226]; exact H) | exact H
            have Ny226 := Aside0.mk hy226
            clear hy226
            have H' := Aside0.mk H
            clear H
            go_wp2_with (first | ((with_reducible refine gate_dst (N := 99) rfl ?_); (try (refine gate_guard (by rfl) ?_; dsimp only)); refine Kd.R_lit (Kd.int .i64) _ 3 ?hg (N := 99) ?hd (xs := ([] : List Int)) (inner := []) (ok := fun _ => True) (okp := fun _ => True) ?hr ?hp (fun _ hk => hk) trivial (Below.refl _ _) (Nat.le_refl _) (by simp) ?_; (case hd => rfl); (case hg => rfl); (case hr => first | (go_simp; done) | (go_simp; rfl)); (case hp => exact (Reps.none _ _)); intro v224 w96 ho97 hb hg_ hnew_; clear hg_ hnew_; (first | rw [← Ny223.out] at ho97 | (simp only [Int.reduceToNat] at ho97; rw [← Ny223.out] at ho97)); have n0_ := Aside0.mk (Kd.R_elder' (by (with_reducible repeat (first | apply Kd.R_alloc | apply Kd.R_drewN | apply Kd.R_drew)); exact HO_8.out) (Kd.R_base ho97) hb); have n1_ := Aside0.mk (Kd.S_elder' (by (with_reducible repeat (first | apply Kd.S_alloc | apply Kd.S_drewN | apply Kd.S_drew)); exact HO_14.out) (Kd.R_base ho97) hb); have n2_ := Aside0.mk (Kd.R_lower (Kd.R_new' ho97 (Kd.R_lt (by (with_reducible repeat (first | apply Kd.R_alloc | apply Kd.R_drewN | apply Kd.R_drew)); exact HO_8.out))) (below_size (by repeat (first | (with_reducible first | exact HB.out | apply below_alloc | apply pw_below_drewN | apply below_drew1 | refine below_set ?_ GE193.out) | exact HB.out)))); have n3_ := Aside0.mk (blk_below (g := gb193) (o := .cells #[.int .i64 a0_0, .int .i64 a0_1] 71 (0, 0)) (by (with_reducible repeat (first | refine blk_drewN ?_ _ | refine blk_drew ?_ | refine blk_alloc ?_ _)); exact BK193.out) hb); have n4_ := Aside0.mk (below_step (by repeat (first | (with_reducible first | exact HB.out | apply below_alloc | apply pw_below_drewN | apply below_drew1 | refine below_set ?_ GE193.out) | exact HB.out)) hb); clear HO_8; clear HO_14; clear BK193; clear HB; have HO_8 := n0_; have HO_14 := n1_; have HO225 := n2_; have BK193 := n3_; have HB := n4_; clear n0_ n1_ n2_ n3_ n4_; clear hb ho97; obtain ⟨Ao99, co99, eo99⟩ := Kd.R_slice HO_8.out; subst eo99; have q98 : ((ji93) : Int) ≤ ((x8_2.length : Int) : Int) := of_decide_eq_true (by first | (with_reducible assumption) | assumption); obtain ⟨i098, hi098, _, hsz98, _⟩ := info_parts info3; have hroom98 : x8_2.length ≤ co99 := (Kd.R_reads' HO_8.out).2.1; have hC98 : Kd.C (Kd.int .i64) _ Ao99 x8_2.length x8_2 := (Kd.R_reads' HO_8.out).2.2; have hcut98 := cut_to (P := Try.prog) 22 3 .i64 Try.underlying22 hi098 Ao99 x8_2.length co99 (ji93) (of_decide_eq_true (by first | (with_reducible assumption) | assumption)) q98 hroom98; have hr98 := Kd.C_take (m := ((ji93) : Int).toNat) hC98 (by omega); have hy98 : y226.length = ((ji93) : Int).toNat := (by rw [Ny226.out, List.length_take]; omega); rw [← Ny226.out] at hr98; rw [← hy98] at hcut98; have HR229 := Aside0.mk hr98; have HC229 := Aside0.mk (show y226.length ≤ co99 from by omega); clear hr98 hC98 hroom98 hi098 hsz98; have KY98 := Aside0.mk hy98; clear hy98; have KL98 := Aside0.mk (show ((ji93) : Int).toNat ≤ x8_2.length from by omega); replace q98 := eq_true q98))
            go_loopg [16, 104] k3 (fun kq v16 v104 w' => ∃ (x16_4 : List Int) (x104_4 : Int), v104 = .int .i64 x104_4 ∧ Aside0 (impl_grid_regions.l4 kq a2 (ji93) x8_2 x14_3 x96_3 x16_4 (ji93) x96_3 y226 (y226.length : Int) x104_4 = some r) ∧ Aside0 (kq ≤ k3) ∧ Aside0 (Kd.R (Kd.int .i64) 3 w' w.heap.size (fun k_ => some k_ ≠ (v16 : Value).ownBlock) (.slice Ao99 x8_2.length co99) x8_2) ∧ Aside0 (Kd.S (Kd.slice 3 (Kd.int .i64)) 22 w' w.heap.size (fun k_ => some k_ ≠ ((.slice Ao99 x8_2.length co99) : Value).ownBlock ∧ some k_ ≠ (v16 : Value).ownBlock) u14 x14_3) ∧ Aside0 (Kd.R (Kd.int .i64) 3 w' w.heap.size (fun k_ => some k_ ≠ ((.slice Ao99 x8_2.length co99) : Value).ownBlock) v16 x16_4) ∧ Aside0 (w'.heap[gb193]? = some (.cells #[.int .i64 a0_0, .int .i64 a0_1] 71 (0, 0))) ∧ Aside0 (Kd.C (Kd.int .i64) w' Ao99 y226.length y226) ∧ Aside0 (Below w.heap.size w w'))
            case atStart => exact ⟨(y223), (0), (by first | rfl | (simp; done) | (simp [*]; done)), H', ⟨Nat.le_refl _⟩, ⟨by (with_reducible repeat (first | apply Kd.R_alloc | apply Kd.R_drewN | apply Kd.R_drew)); exact Kd.R_mono HO_8.out (fun _ hk => hk.2)⟩, ⟨by (with_reducible repeat (first | apply Kd.S_alloc | apply Kd.S_drewN | apply Kd.S_drew)); exact HO_14.out⟩, ⟨by (with_reducible repeat (first | apply Kd.R_alloc | apply Kd.R_drewN | apply Kd.R_drew)); exact Kd.R_mono HO225.out (fun _ hk => hk.2)⟩, ⟨by (with_reducible repeat (first | refine blk_drewN ?_ _ | refine blk_drew ?_ | refine blk_alloc ?_ _)); exact BK193.out⟩, ⟨by repeat (first | (with_reducible exact HR229.out) | (with_reducible refine Kd.C_alloc ?_ _) | (with_reducible refine Kd.C_drewN ?_ _) | (with_reducible refine Kd.C_drew ?_) | exact HR229.out)⟩, ⟨by repeat (first | (with_reducible first | exact HB.out | apply below_alloc | apply pw_below_drewN | apply below_drew1 | refine below_set ?_ GE193.out) | exact HB.out)⟩⟩
            case round =>
             clear H'
             (try clear c1); (try clear c2); (try clear p2); (try clear q2); (try clear hx2); (try clear c4); (try clear c5); (try clear p5); (try clear q5); (try clear hx5); (try clear hf5); (try clear c6); (try clear p6); (try clear q6); (try clear hx6); (try clear hf6); (try clear c7); (try clear c8); (try clear c8b0); (try clear p8); (try clear q8); (try clear hx8); (try clear hf8); (try clear c9); (try clear q9); (try clear c11); (try clear c11b0); (try clear c17); (try clear c17b0); (try clear p20); (try clear q20); (try clear hx20); (try clear p21); (try clear q21); (try clear hx21); (try clear c23); (try clear c23b0); (try clear c24); (try clear c27); (try clear c43); (try clear c43b0); (try clear c43b1); (try clear c44); (try clear c44b0); (try clear c45); (try clear c45b0); (try clear c47); (try clear c47b0); (try clear c48); (try clear c48b0); (try clear p50); (try clear q50); (try clear hx50); (try clear hf50); (try clear p51); (try clear q51); (try clear hx51); (try clear hf51); (try clear c58); (try clear c58b0); (try clear c58b1); (try clear c60); (try clear c60b0); (try clear c60b1); (try clear c61); (try clear c62); (try clear c62b0); (try clear c63); (try clear c63b0); (try clear c64); (try clear c64b0); (try clear p64); (try clear c65); (try clear c65b0); (try clear p67); (try clear q67); (try clear hx67); (try clear hf67); (try clear p68); (try clear q68); (try clear hx68); (try clear hf68); (try clear c76); (try clear c76b0); (try clear c76b1); (try clear c77); (try clear c77b0); (try clear c78); (try clear c78b0); (try clear c79); (try clear c79b0); (try clear c80); (try clear c80b0); (try clear p82); (try clear q82); (try clear hx82); (try clear hf82); (try clear p83); (try clear q83); (try clear hx83); (try clear hf83); (try clear c92); (try clear c92b0); (try clear c94); (try clear c94b0); (try clear c94b1); (try clear c95); (try clear c95b0); (try clear c95b1); (try clear q98); (try clear hx208_0); (try clear hx209_0); (try clear hx212_0); (try clear hx213_0); (try clear hx216_0); (try clear hx217_0); (try clear hx50_0); (try clear hx51_0); (try clear hx67_0); (try clear hx68_0); (try clear hx82_0); (try clear hx83_0); (try clear p2); (try clear p20); (try clear p208); (try clear p209); (try clear p21); (try clear p212); (try clear p213); (try clear p216); (try clear p217); (try clear p5); (try clear p50); (try clear p51); (try clear p6); (try clear p64); (try clear p67); (try clear p68); (try clear p8); (try clear p82); (try clear p83); (try clear q2); (try clear q20); (try clear q208); (try clear q209); (try clear q21); (try clear q212); (try clear q213); (try clear q216); (try clear q217); (try clear q5); (try clear q50); (try clear q51); (try clear q6); (try clear q67); (try clear q68); (try clear q8); (try clear q82); (try clear q83); (try clear q98)
             obtain ⟨x16_4, x104_4, rfl, HA, HK4, HO_8, HO_14, HO_16, BK193, HR229, HB⟩ := hrel
             cases gk with
             | zero => exact absurd HA.out (by simp [impl_grid_regions.l4])
             | succ k4 =>
              have H := HA.out
              clear HA
              simp only [impl_grid_regions.l4] at H
              by_cases c100 : x104_4 < (y226.length : Int)
              ·rw [if_pos c100] at H
               have c100b0 : decide (x104_4 < (y226.length : Int)) = true := decide_eq_true c100
               clear c100
               by_cases c101 : 0 ≤ x104_4
               ·rw [if_pos c101] at H
                have c101b0 : decide (0 ≤ x104_4) = true := decide_eq_true c101
                clear c101
                by_cases c102 : x104_4 < (y226.length : Int)
                ·rw [if_pos c102] at H
                 have c102b0 : decide (x104_4 < (y226.length : Int)) = true := decide_eq_true c102
                 clear c102
                 by_cases c103 : (rd y226 x104_4) = x96_3
                 ·rw [if_pos c103] at H
                  have c103b0 : ((rd y226 x104_4) == x96_3) = true := beq_iff_eq.mpr c103
                  have c103b1 : ((rd y226 x104_4) != x96_3) = false := bne_eq_false_iff_eq.mpr c103
                  clear c103
                  by_cases c104 : x16_4.length < 17592186044416
                  ·rw [if_pos c104] at H
                   have LMc104 := Aside0.mk c104
                   clear c104
                   obtain ⟨y231, hy231⟩ : ∃ y_ : List Int, y_ = (x16_4 ++ [x104_4]) := ⟨_, rfl⟩
                   replace H : (impl_grid_regions.l4 k4 a2 (ji93) x8_2 x14_3 x96_3 y231 (ji93) x96_3 y226 (y226.length : Int) (wrap64 (x104_4 + 1))) = some r := by first | (rw [hy231]; with_reducible exact H) | (have H2_ := (Option.bind_some _ _).symm.trans H; rw [hy231]; with_reducible exact H2_) | (have H2_ := (Option.bind_some _ _).symm.trans H; with_reducible exact H2_) | with_reducible exact H | (rw [hy231]; exact H) | exact H
                   have Ny231 := Aside0.mk hy231
                   clear hy231
                   have H' := Aside0.mk H
                   clear H
                   have p230 : 0 ≤ (x104_4 : Int) := of_decide_eq_true (by first | (with_reducible assumption) | assumption)
                   have q230 : x104_4 < (y226.length : Int) := of_decide_eq_true (by first | (with_reducible assumption) | assumption)
                   obtain ⟨ad230, e230, hx230_0⟩ := Kd.at_int HR229.out x104_4 p230 q230
                   cases e230
                   try replace hx230_0 := (HB.out.cell (World.block_lt_of_cell? w _ hx230_0)).trans hx230_0
                   replace p230 := eq_true p230
                   replace q230 := eq_true q230
                   go_wp2_with (first | ((with_reducible refine gate_builtin (b := .append) (xs := #[.tmp 112, .tmp 114]) rfl ?_); (try (refine gate_guard (by rfl) ?_; dsimp only)); at_builtin; refine Kd.R_append (Kd.int .i64) (w0 := w) w.heap.size rfl (.tmp 112) (.tmp 114) 22 3 (.int .i64 0) 8 rfl Try.underlying22 info3 rfl (by decide) (by omega) u16 x16_4 x104_4 [.int .i64 x104_4] (fun k_ => some k_ ≠ (.slice (some ad230) x8_2.length co99 : Value).ownBlock) (fun _ => False) rfl rfl ?aP (fun _ hk => hk.elim) ?aF ?aO ?aB ?aS ?aL ?_; (case aP => exact rfl); (case aB => exact (by repeat (first | (with_reducible first | exact HB.out | apply below_alloc | apply pw_below_drewN | apply below_drew1 | refine below_set ?_ GE193.out) | exact HB.out))); (case aF => exact (fun k_ hk => Kd.fresh' (Kd.R_lt (by (with_reducible repeat (first | apply Kd.R_alloc | apply Kd.R_drewN | apply Kd.R_drew)); exact HO_8.out)) k_ hk)); (case aO => exact (by (with_reducible repeat (first | apply Kd.R_alloc | apply Kd.R_drewN | apply Kd.R_drew)); exact HO_16.out)); (case aS => exact (below_size (by repeat (first | (with_reducible first | exact HB.out | apply below_alloc | apply pw_below_drewN | apply below_drew1 | refine below_set ?_ GE193.out) | exact HB.out)))); (case aL => have := LMc104.out; omega); intro v232 w105 ho hb hg hat; rw [← Ny231.out] at ho; have n0_ := Aside0.mk (Kd.R_after (ok := (fun _ => True)) (by (with_reducible repeat (first | apply Kd.R_alloc | apply Kd.R_drewN | apply Kd.R_drew)); exact Kd.R_mono HO_8.out (fun _ hk => ⟨trivial, hk⟩)) hg hat); have n1_ := Aside0.mk (Kd.S_after (ok := (fun k_ => some k_ ≠ (.slice (some ad230) x8_2.length co99 : Value).ownBlock)) (by (with_reducible repeat (first | apply Kd.S_alloc | apply Kd.S_drewN | apply Kd.S_drew)); exact HO_14.out) hg hat); have n2_ := Aside0.mk (blk_grown (g := gb193) (o := .cells #[.int .i64 a0_0, .int .i64 a0_1] 71 (0, 0)) (by (with_reducible repeat (first | refine blk_drewN ?_ _ | refine blk_drew ?_ | refine blk_alloc ?_ _)); exact BK193.out) hg (Kd.R_ne HO_16.out BK193.out (by decide))); have n3_ := Aside0.mk (hb); have n4_ := Aside0.mk ((show Kd.C (Kd.int .i64) w105 (some ad230) y226.length y226 from by rw [Ny226.out]; exact Kd.C_take (m := ((ji93) : Int).toNat) ((Kd.R_reads' (Kd.R_after (ok := (fun _ => True)) (by (with_reducible repeat (first | apply Kd.R_alloc | apply Kd.R_drewN | apply Kd.R_drew)); exact Kd.R_mono HO_8.out (fun _ hk => ⟨trivial, hk⟩)) hg hat)).2.2) KL98.out)); have n5_ := Aside0.mk (ho); clear HO_8; clear HO_14; clear BK193; clear HB; clear HR229; clear HO_16; have HO_8 := n0_; have HO_14 := n1_; have BK193 := n2_; have HB := n3_; have HR229 := n4_; have HO233 := n5_; clear n0_ n1_ n2_ n3_ n4_ n5_; clear ho hb hg hat))
                   first | go_roundg k4 | ((try subst hji25); (try subst hji30); (try subst hji33); (try subst hji42); (try subst hji46); (try subst hji49); (try subst hji59); (try subst hji66); (try subst hji75); (try subst hji81); (try subst hji93); go_roundg k4)
                   case measure => have := HK1.out; have := HK2.out; have := HK3.out; have := HK4.out; omega
                   case rel => exact ⟨(y231), (wrap64 (x104_4 + 1)), (by first | rfl | (simp; done) | (simp [*]; done)), H', ⟨by have := HK1.out; have := HK2.out; have := HK3.out; have := HK4.out; omega⟩, ⟨by (with_reducible repeat (first | apply Kd.R_alloc | apply Kd.R_drewN | apply Kd.R_drew)); exact Kd.R_mono HO_8.out (fun _ hk => hk.2)⟩, ⟨by (with_reducible repeat (first | apply Kd.S_alloc | apply Kd.S_drewN | apply Kd.S_drew)); exact HO_14.out⟩, ⟨by (with_reducible repeat (first | apply Kd.R_alloc | apply Kd.R_drewN | apply Kd.R_drew)); exact HO233.out⟩, ⟨by (with_reducible repeat (first | refine blk_drewN ?_ _ | refine blk_drew ?_ | refine blk_alloc ?_ _)); exact BK193.out⟩, ⟨by repeat (first | (with_reducible exact HR229.out) | (with_reducible refine Kd.C_alloc ?_ _) | (with_reducible refine Kd.C_drewN ?_ _) | (with_reducible refine Kd.C_drew ?_) | exact HR229.out)⟩, ⟨by repeat (first | (with_reducible first | exact HB.out | apply below_alloc | apply pw_below_drewN | apply below_drew1 | refine below_set ?_ GE193.out) | exact HB.out)⟩⟩
                  ·rw [if_neg c104] at H
                   exact absurd H (by simp)
                 ·rw [if_neg c103] at H
                  have c103b0 : ((rd y226 x104_4) == x96_3) = false := beq_eq_false_iff_ne.mpr c103
                  have c103b1 : ((rd y226 x104_4) != x96_3) = true := bne_iff_ne.mpr c103
                  have H' := Aside0.mk H
                  clear H
                  have p230 : 0 ≤ (x104_4 : Int) := of_decide_eq_true (by first | (with_reducible assumption) | assumption)
                  have q230 : x104_4 < (y226.length : Int) := of_decide_eq_true (by first | (with_reducible assumption) | assumption)
                  obtain ⟨ad230, e230, hx230_0⟩ := Kd.at_int HR229.out x104_4 p230 q230
                  cases e230
                  try replace hx230_0 := (HB.out.cell (World.block_lt_of_cell? w _ hx230_0)).trans hx230_0
                  replace p230 := eq_true p230
                  replace q230 := eq_true q230
                  go_wp2
                  first | go_roundg k4 | ((try subst hji25); (try subst hji30); (try subst hji33); (try subst hji42); (try subst hji46); (try subst hji49); (try subst hji59); (try subst hji66); (try subst hji75); (try subst hji81); (try subst hji93); go_roundg k4)
                  case measure => have := HK1.out; have := HK2.out; have := HK3.out; have := HK4.out; omega
                  case rel => exact ⟨(x16_4), (wrap64 (x104_4 + 1)), (by first | rfl | (simp; done) | (simp [*]; done)), H', ⟨by have := HK1.out; have := HK2.out; have := HK3.out; have := HK4.out; omega⟩, ⟨by (with_reducible repeat (first | apply Kd.R_alloc | apply Kd.R_drewN | apply Kd.R_drew)); exact HO_8.out⟩, ⟨by (with_reducible repeat (first | apply Kd.S_alloc | apply Kd.S_drewN | apply Kd.S_drew)); exact HO_14.out⟩, ⟨by (with_reducible repeat (first | apply Kd.R_alloc | apply Kd.R_drewN | apply Kd.R_drew)); exact HO_16.out⟩, ⟨by (with_reducible repeat (first | refine blk_drewN ?_ _ | refine blk_drew ?_ | refine blk_alloc ?_ _)); exact BK193.out⟩, ⟨by repeat (first | (with_reducible exact HR229.out) | (with_reducible refine Kd.C_alloc ?_ _) | (with_reducible refine Kd.C_drewN ?_ _) | (with_reducible refine Kd.C_drew ?_) | exact HR229.out)⟩, ⟨by repeat (first | (with_reducible first | exact HB.out | apply below_alloc | apply pw_below_drewN | apply below_drew1 | refine below_set ?_ GE193.out) | exact HB.out)⟩⟩
                ·rw [if_neg c102] at H
                 exact absurd H (by simp)
               ·rw [if_neg c101] at H
                exact absurd H (by simp)
              ·rw [if_neg c100] at H
               have c100b0 : decide (x104_4 < (y226.length : Int)) = false := decide_eq_false c100
               clear c100
               by_cases c106 : (x16_4.length : Int) > 0
               ·rw [if_pos c106] at H
                have c106b0 : decide (0 < (x16_4.length : Int)) = true := decide_eq_true c106
                have c106b1 : decide (0 < x16_4.length) = true := decide_eq_true (by omega)
                clear c106
                by_cases c107 : a2 = true
                ·subst c107
                 have H1 : (if 0 ≤ (ji93) then (if (ji93) < (x8_2.length : Int) then (if ((rd x8_2 (ji93)) = x96_3) then (impl_grid_regions.l3 k4 true (ji93) x8_2 x14_3 (ji93) (wrap64 (x96_3 + 1))) else (if x14_3.length < 5864062014805 then (impl_grid_regions.l3 k4 true (ji93) x8_2 (x14_3 ++ [x16_4]) (ji93) (wrap64 (x96_3 + 1))) else (none))) else (none)) else (none)) = some r := by rw [if_pos rfl] at H; exact H
                 clear H
                 have H := H1
                 clear H1
                 by_cases c108 : 0 ≤ (ji93)
                 ·rw [if_pos c108] at H
                  have c108b0 : decide (0 ≤ (ji93)) = true := decide_eq_true c108
                  clear c108
                  by_cases c109 : (ji93) < (x8_2.length : Int)
                  ·rw [if_pos c109] at H
                   have c109b0 : decide ((ji93) < (x8_2.length : Int)) = true := decide_eq_true c109
                   clear c109
                   by_cases c110 : ((rd x8_2 (ji93)) = x96_3)
                   ·rw [if_pos c110] at H
                    have c110b0 : ((rd x8_2 (ji93)) == x96_3) = true := beq_iff_eq.mpr c110
                    have c110b1 : ((rd x8_2 (ji93)) != x96_3) = false := bne_eq_false_iff_eq.mpr c110
                    clear c110
                    have H' := Aside0.mk H
                    clear H
                    obtain ⟨Ao111, co111, eo111⟩ := Kd.R_slice HO_16.out
                    subst eo111
                    have p234 : 0 ≤ ((ji93) : Int) := of_decide_eq_true (by first | (with_reducible assumption) | assumption)
                    have q234 : (ji93) < (x8_2.length : Int) := of_decide_eq_true (by first | (with_reducible assumption) | assumption)
                    obtain ⟨ad234, e234, hx234_0⟩ := Kd.at_int (Kd.R_reads' HO_8.out).2.2 (ji93) p234 q234
                    cases e234
                    replace p234 := eq_true p234
                    replace q234 := eq_true q234
                    go_wp2
                    first | go_roundg k4 | ((try subst hji25); (try subst hji30); (try subst hji33); (try subst hji42); (try subst hji46); (try subst hji49); (try subst hji59); (try subst hji66); (try subst hji75); (try subst hji81); (try subst hji93); go_roundg k4)
                    case measure => have := HK1.out; have := HK2.out; have := HK3.out; have := HK4.out; omega
                    case rel => exact ⟨(x14_3), (wrap64 (x96_3 + 1)), (by first | rfl | (simp; done) | (simp [*]; done)), H', ⟨by have := HK1.out; have := HK2.out; have := HK3.out; have := HK4.out; omega⟩, ⟨by (with_reducible repeat (first | apply Kd.R_alloc | apply Kd.R_drewN | apply Kd.R_drew)); exact Kd.R_mono HO_8.out (fun _ hk => trivial)⟩, ⟨by (with_reducible repeat (first | apply Kd.S_alloc | apply Kd.S_drewN | apply Kd.S_drew)); exact Kd.S_mono HO_14.out (fun _ hk => hk.1)⟩, ⟨by (with_reducible repeat (first | refine blk_drewN ?_ _ | refine blk_drew ?_ | refine blk_alloc ?_ _)); exact BK193.out⟩, ⟨by repeat (first | (with_reducible first | exact HB.out | apply below_alloc | apply pw_below_drewN | apply below_drew1 | refine below_set ?_ GE193.out) | exact HB.out)⟩⟩
                   ·rw [if_neg c110] at H
                    have c110b0 : ((rd x8_2 (ji93)) == x96_3) = false := beq_eq_false_iff_ne.mpr c110
                    have c110b1 : ((rd x8_2 (ji93)) != x96_3) = true := bne_iff_ne.mpr c110
                    by_cases c112 : x14_3.length < 5864062014805
                    ·rw [if_pos c112] at H
                     have LMc112 := Aside0.mk c112
                     clear c112
                     obtain ⟨y235, hy235⟩ : ∃ y_ : List (List Int), y_ = (x14_3 ++ [x16_4]) := ⟨_, rfl⟩
                     replace H : (impl_grid_regions.l3 k4 true (ji93) x8_2 y235 (ji93) (wrap64 (x96_3 + 1))) = some r := by first | (rw [hy235]; with_reducible exact H) | (have H2_ := (Option.bind_some _ _).symm.trans H; rw [hy235]; with_reducible exact H2_) | (have H2_ := (Option.bind_some _ _).symm.trans H; with_reducible exact H2_) | with_reducible exact H | (rw [hy235]; exact H) | exact H
                     have Ny235 := Aside0.mk hy235
                     clear hy235
                     have H' := Aside0.mk H
                     clear H
                     obtain ⟨Ao113, co113, eo113⟩ := Kd.R_slice HO_16.out
                     subst eo113
                     have p234 : 0 ≤ ((ji93) : Int) := of_decide_eq_true (by first | (with_reducible assumption) | assumption)
                     have q234 : (ji93) < (x8_2.length : Int) := of_decide_eq_true (by first | (with_reducible assumption) | assumption)
                     obtain ⟨ad234, e234, hx234_0⟩ := Kd.at_int (Kd.R_reads' HO_8.out).2.2 (ji93) p234 q234
                     cases e234
                     replace p234 := eq_true p234
                     replace q234 := eq_true q234
                     go_wp2_with (first | ((with_reducible refine gate_builtin (b := .append) (xs := #[.tmp 132, .tmp 134]) rfl ?_); (try (refine gate_guard (by rfl) ?_; dsimp only)); at_builtin; refine Kd.S_append (Kd.slice 3 (Kd.int .i64)) (w0 := w) w.heap.size rfl (.tmp 132) (.tmp 134) 45 22 (.slice none 0 0) 24 rfl Try.underlying45 info22 rfl (by decide) (by omega) u14 x14_3 x16_4 [.slice Ao113 x16_4.length co113] (fun k_ => some k_ ≠ (.slice (some ad234) x8_2.length co99 : Value).ownBlock) (fun k_ => some k_ = (.slice Ao113 x16_4.length co113 : Value).ownBlock) rfl rfl ?aP (fun k_ hk_ => ((Kd.R_mono (ok' := fun k_ => ((fun k_ => some k_ ≠ (.slice (some ad234) x8_2.length co99 : Value).ownBlock)) k_ ∧ some k_ ≠ (u14 : Value).ownBlock) (Kd.R_apart' (HO_16.out) (Kd.S_typed HO_14.out) (by decide)) (fun k_ hk => ⟨hk.1, hk.2⟩))).1 k_ hk_.symm) ?aF ?aO ?aB ?aS ?aL ?_; (case aP => exact Kd.M_row (Kd.R_mono (Kd.R_tight rfl (Kd.R_mono (ok' := fun k_ => ((fun k_ => some k_ ≠ (.slice (some ad234) x8_2.length co99 : Value).ownBlock)) k_ ∧ some k_ ≠ (u14 : Value).ownBlock) (Kd.R_apart' (HO_16.out) (Kd.S_typed HO_14.out) (by decide)) (fun k_ hk => ⟨hk.1, hk.2⟩))) (fun _ h_ => h_))); (case aB => exact (by repeat (first | (with_reducible first | exact HB.out | apply below_alloc | apply pw_below_drewN | apply below_drew1 | refine below_set ?_ GE193.out) | exact HB.out))); (case aF => exact (fun k_ hk => Kd.fresh' (Kd.R_lt (by (with_reducible repeat (first | apply Kd.R_alloc | apply Kd.R_drewN | apply Kd.R_drew)); exact HO_8.out)) k_ hk)); (case aO => exact (by (with_reducible repeat (first | apply Kd.S_alloc | apply Kd.S_drewN | apply Kd.S_drew)); exact Kd.S_mono HO_14.out (fun k_ hk => ⟨hk.1, fun e_ => hk.2 e_⟩))); (case aS => exact (below_size (by repeat (first | (with_reducible first | exact HB.out | apply below_alloc | apply pw_below_drewN | apply below_drew1 | refine below_set ?_ GE193.out) | exact HB.out)))); (case aL => have := LMc112.out; omega); intro v236 w114 ho hb hg hat; rw [← Ny235.out] at ho; have n0_ := Aside0.mk (Kd.R_over' (by (with_reducible repeat (first | apply Kd.R_alloc | apply Kd.R_drewN | apply Kd.R_drew)); exact HO_8.out) (Kd.S_typed (by (with_reducible repeat (first | apply Kd.S_alloc | apply Kd.S_drewN | apply Kd.S_drew)); exact HO_14.out)) (by decide) hg); have n1_ := Aside0.mk (blk_grown (g := gb193) (o := .cells #[.int .i64 a0_0, .int .i64 a0_1] 71 (0, 0)) (by (with_reducible repeat (first | refine blk_drewN ?_ _ | refine blk_drew ?_ | refine blk_alloc ?_ _)); exact BK193.out) hg (Kd.S_ne HO_14.out BK193.out (by decide))); have n2_ := Aside0.mk (hb); have n3_ := Aside0.mk ((show Kd.C (Kd.int .i64) w114 (some ad234) y226.length y226 from by rw [Ny226.out]; exact Kd.C_take (m := ((ji93) : Int).toNat) ((Kd.R_reads' (Kd.R_over' (by (with_reducible repeat (first | apply Kd.R_alloc | apply Kd.R_drewN | apply Kd.R_drew)); exact HO_8.out) (Kd.S_typed (by (with_reducible repeat (first | apply Kd.S_alloc | apply Kd.S_drewN | apply Kd.S_drew)); exact HO_14.out)) (by decide) hg)).2.2) KL98.out)); have n4_ := Aside0.mk (ho); clear HO_8; clear BK193; clear HB; clear HR229; clear HO_14; clear HO_16; have HO_8 := n0_; have BK193 := n1_; have HB := n2_; have HR229 := n3_; have HO237 := n4_; clear n0_ n1_ n2_ n3_ n4_; clear ho hb hg hat))
                     first | go_roundg k4 | ((try subst hji25); (try subst hji30); (try subst hji33); (try subst hji42); (try subst hji46); (try subst hji49); (try subst hji59); (try subst hji66); (try subst hji75); (try subst hji81); (try subst hji93); go_roundg k4)
                     case measure => have := HK1.out; have := HK2.out; have := HK3.out; have := HK4.out; omega
                     case rel => exact ⟨(y235), (wrap64 (x96_3 + 1)), (by first | rfl | (simp; done) | (simp [*]; done)), H', ⟨by have := HK1.out; have := HK2.out; have := HK3.out; have := HK4.out; omega⟩, ⟨by (with_reducible repeat (first | apply Kd.R_alloc | apply Kd.R_drewN | apply Kd.R_drew)); exact Kd.R_mono HO_8.out (fun _ hk => trivial)⟩, ⟨by (with_reducible repeat (first | apply Kd.S_alloc | apply Kd.S_drewN | apply Kd.S_drew)); exact HO237.out⟩, ⟨by (with_reducible repeat (first | refine blk_drewN ?_ _ | refine blk_drew ?_ | refine blk_alloc ?_ _)); exact BK193.out⟩, ⟨by repeat (first | (with_reducible first | exact HB.out | apply below_alloc | apply pw_below_drewN | apply below_drew1 | refine below_set ?_ GE193.out) | exact HB.out)⟩⟩
                    ·rw [if_neg c112] at H
                     exact absurd H (by simp)
                  ·rw [if_neg c109] at H
                   exact absurd H (by simp)
                 ·rw [if_neg c108] at H
                  exact absurd H (by simp)
                ·replace c107 := Bool.eq_false_iff.mpr c107
                 subst c107
                 have H1 : (if x14_3.length < 5864062014805 then (impl_grid_regions.l3 k4 false (ji93) x8_2 (x14_3 ++ [x16_4]) (ji93) (wrap64 (x96_3 + 1))) else (none)) = some r := by rw [if_neg (show ¬ (false = true) by decide)] at H; exact H
                 clear H
                 have H := H1
                 clear H1
                 by_cases c115 : x14_3.length < 5864062014805
                 ·rw [if_pos c115] at H
                  have LMc115 := Aside0.mk c115
                  clear c115
                  obtain ⟨y238, hy238⟩ : ∃ y_ : List (List Int), y_ = (x14_3 ++ [x16_4]) := ⟨_, rfl⟩
                  replace H : (impl_grid_regions.l3 k4 false (ji93) x8_2 y238 (ji93) (wrap64 (x96_3 + 1))) = some r := by first | (rw [hy238]; with_reducible exact H) | (have H2_ := (Option.bind_some _ _).symm.trans H; rw [hy238]; with_reducible exact H2_) | (have H2_ := (Option.bind_some _ _).symm.trans H; with_reducible exact H2_) | with_reducible exact H | (rw [hy238]; exact H) | exact H
                  have Ny238 := Aside0.mk hy238
                  clear hy238
                  have H' := Aside0.mk H
                  clear H
                  obtain ⟨Ao116, co116, eo116⟩ := Kd.R_slice HO_16.out
                  subst eo116
                  go_wp2_with (first | ((with_reducible refine gate_builtin (b := .append) (xs := #[.tmp 132, .tmp 134]) rfl ?_); (try (refine gate_guard (by rfl) ?_; dsimp only)); at_builtin; refine Kd.S_append (Kd.slice 3 (Kd.int .i64)) (w0 := w) w.heap.size rfl (.tmp 132) (.tmp 134) 45 22 (.slice none 0 0) 24 rfl Try.underlying45 info22 rfl (by decide) (by omega) u14 x14_3 x16_4 [.slice Ao116 x16_4.length co116] (fun k_ => some k_ ≠ (.slice Ao99 x8_2.length co99 : Value).ownBlock) (fun k_ => some k_ = (.slice Ao116 x16_4.length co116 : Value).ownBlock) rfl rfl ?aP (fun k_ hk_ => ((Kd.R_mono (ok' := fun k_ => ((fun k_ => some k_ ≠ (.slice Ao99 x8_2.length co99 : Value).ownBlock)) k_ ∧ some k_ ≠ (u14 : Value).ownBlock) (Kd.R_apart' (HO_16.out) (Kd.S_typed HO_14.out) (by decide)) (fun k_ hk => ⟨hk.1, hk.2⟩))).1 k_ hk_.symm) ?aF ?aO ?aB ?aS ?aL ?_; (case aP => exact Kd.M_row (Kd.R_mono (Kd.R_tight rfl (Kd.R_mono (ok' := fun k_ => ((fun k_ => some k_ ≠ (.slice Ao99 x8_2.length co99 : Value).ownBlock)) k_ ∧ some k_ ≠ (u14 : Value).ownBlock) (Kd.R_apart' (HO_16.out) (Kd.S_typed HO_14.out) (by decide)) (fun k_ hk => ⟨hk.1, hk.2⟩))) (fun _ h_ => h_))); (case aB => exact (by repeat (first | (with_reducible first | exact HB.out | apply below_alloc | apply pw_below_drewN | apply below_drew1 | refine below_set ?_ GE193.out) | exact HB.out))); (case aF => exact (fun k_ hk => Kd.fresh' (Kd.R_lt (by (with_reducible repeat (first | apply Kd.R_alloc | apply Kd.R_drewN | apply Kd.R_drew)); exact HO_8.out)) k_ hk)); (case aO => exact (by (with_reducible repeat (first | apply Kd.S_alloc | apply Kd.S_drewN | apply Kd.S_drew)); exact Kd.S_mono HO_14.out (fun k_ hk => ⟨hk.1, fun e_ => hk.2 e_⟩))); (case aS => exact (below_size (by repeat (first | (with_reducible first | exact HB.out | apply below_alloc | apply pw_below_drewN | apply below_drew1 | refine below_set ?_ GE193.out) | exact HB.out)))); (case aL => have := LMc115.out; omega); intro v239 w117 ho hb hg hat; rw [← Ny238.out] at ho; have n0_ := Aside0.mk (Kd.R_over' (by (with_reducible repeat (first | apply Kd.R_alloc | apply Kd.R_drewN | apply Kd.R_drew)); exact HO_8.out) (Kd.S_typed (by (with_reducible repeat (first | apply Kd.S_alloc | apply Kd.S_drewN | apply Kd.S_drew)); exact HO_14.out)) (by decide) hg); have n1_ := Aside0.mk (blk_grown (g := gb193) (o := .cells #[.int .i64 a0_0, .int .i64 a0_1] 71 (0, 0)) (by (with_reducible repeat (first | refine blk_drewN ?_ _ | refine blk_drew ?_ | refine blk_alloc ?_ _)); exact BK193.out) hg (Kd.S_ne HO_14.out BK193.out (by decide))); have n2_ := Aside0.mk (hb); have n3_ := Aside0.mk ((show Kd.C (Kd.int .i64) w117 Ao99 y226.length y226 from by rw [Ny226.out]; exact Kd.C_take (m := ((ji93) : Int).toNat) ((Kd.R_reads' (Kd.R_over' (by (with_reducible repeat (first | apply Kd.R_alloc | apply Kd.R_drewN | apply Kd.R_drew)); exact HO_8.out) (Kd.S_typed (by (with_reducible repeat (first | apply Kd.S_alloc | apply Kd.S_drewN | apply Kd.S_drew)); exact HO_14.out)) (by decide) hg)).2.2) KL98.out)); have n4_ := Aside0.mk (ho); clear HO_8; clear BK193; clear HB; clear HR229; clear HO_14; clear HO_16; have HO_8 := n0_; have BK193 := n1_; have HB := n2_; have HR229 := n3_; have HO240 := n4_; clear n0_ n1_ n2_ n3_ n4_; clear ho hb hg hat))
                  first | go_roundg k4 | ((try subst hji25); (try subst hji30); (try subst hji33); (try subst hji42); (try subst hji46); (try subst hji49); (try subst hji59); (try subst hji66); (try subst hji75); (try subst hji81); (try subst hji93); go_roundg k4)
                  case measure => have := HK1.out; have := HK2.out; have := HK3.out; have := HK4.out; omega
                  case rel => exact ⟨(y238), (wrap64 (x96_3 + 1)), (by first | rfl | (simp; done) | (simp [*]; done)), H', ⟨by have := HK1.out; have := HK2.out; have := HK3.out; have := HK4.out; omega⟩, ⟨by (with_reducible repeat (first | apply Kd.R_alloc | apply Kd.R_drewN | apply Kd.R_drew)); exact Kd.R_mono HO_8.out (fun _ hk => trivial)⟩, ⟨by (with_reducible repeat (first | apply Kd.S_alloc | apply Kd.S_drewN | apply Kd.S_drew)); exact HO240.out⟩, ⟨by (with_reducible repeat (first | refine blk_drewN ?_ _ | refine blk_drew ?_ | refine blk_alloc ?_ _)); exact BK193.out⟩, ⟨by repeat (first | (with_reducible first | exact HB.out | apply below_alloc | apply pw_below_drewN | apply below_drew1 | refine below_set ?_ GE193.out) | exact HB.out)⟩⟩
                 ·rw [if_neg c115] at H
                  exact absurd H (by simp)
               ·rw [if_neg c106] at H
                have c106b0 : decide (0 < (x16_4.length : Int)) = false := decide_eq_false c106
                have c106b1 : decide (0 < x16_4.length) = false := decide_eq_false (by omega)
                clear c106
                have H' := Aside0.mk H
                clear H
                obtain ⟨Ao118, co118, eo118⟩ := Kd.R_slice HO_16.out
                subst eo118
                go_wp2
                first | go_roundg k4 | ((try subst hji25); (try subst hji30); (try subst hji33); (try subst hji42); (try subst hji46); (try subst hji49); (try subst hji59); (try subst hji66); (try subst hji75); (try subst hji81); (try subst hji93); go_roundg k4)
                case measure => have := HK1.out; have := HK2.out; have := HK3.out; have := HK4.out; omega
                case rel => exact ⟨(x14_3), (wrap64 (x96_3 + 1)), (by first | rfl | (simp; done) | (simp [*]; done)), H', ⟨by have := HK1.out; have := HK2.out; have := HK3.out; have := HK4.out; omega⟩, ⟨by (with_reducible repeat (first | apply Kd.R_alloc | apply Kd.R_drewN | apply Kd.R_drew)); exact Kd.R_mono HO_8.out (fun _ hk => trivial)⟩, ⟨by (with_reducible repeat (first | apply Kd.S_alloc | apply Kd.S_drewN | apply Kd.S_drew)); exact Kd.S_mono HO_14.out (fun _ hk => hk.1)⟩, ⟨by (with_reducible repeat (first | refine blk_drewN ?_ _ | refine blk_drew ?_ | refine blk_alloc ?_ _)); exact BK193.out⟩, ⟨by repeat (first | (with_reducible first | exact HB.out | apply below_alloc | apply pw_below_drewN | apply below_drew1 | refine below_set ?_ GE193.out) | exact HB.out)⟩⟩
           ·rw [if_neg c95] at H
            exact absurd H (by simp)
          ·rw [if_neg c94] at H
           exact absurd H (by simp)
         ·rw [if_neg c92] at H
          have c92b0 : decide (x96_3 < (wrap64 (a0_0 * a0_1))) = false := decide_eq_false c92
          clear c92
          obtain rfl := Option.some.inj H
          go_wp2
          go_ret
          exact ⟨_, by first | rfl | (simp [errW_none, errW_some] <;> rfl) | (simp [*, errW_none, errW_some] <;> rfl), by (with_reducible repeat (first | apply Kd.S_alloc | apply Kd.S_drewN | apply Kd.S_drew)); exact Kd.S_mono HO_14.out (fun _ hk => trivial), by repeat (first | (with_reducible first | exact HB.out | apply below_alloc | apply pw_below_drewN | apply below_drew1 | refine below_set ?_ GE193.out) | exact HB.out)⟩

end Go.Proofs.Ytkmebbadjejheaa.E
