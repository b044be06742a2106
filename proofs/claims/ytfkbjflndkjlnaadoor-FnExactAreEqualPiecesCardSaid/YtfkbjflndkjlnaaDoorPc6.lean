import Derived.Test.YtfkbjflndkjlnaaDoorPd
import Derived.Test.YtfkbjflndkjlnaaDoorPc1
namespace Go.Proofs.YtfkbjflndkjlnaaDoor.P
open Go.RowKit Go.Proofs.YtfkbjflndkjlnaaDoorW.PrintWords Go.Proofs.YtfkbjflndkjlnaaDoorW.PrintLast Go.Proofs.YtfkbjflndkjlnaaDoorW.PrintMore
attribute [local go_sem] max2_int min2_int max_two min_two max_three min_three max_four min_four
set_option linter.unusedVariables false
set_option linter.unusedSimpArgs false

/-! ### impl_grid_beside: function 100 -/
theorem bs_new (w : World) (o : Obj) : (w.alloc o).heap[w.heap.size]? = some o := by
 show (w.heap.push o)[w.heap.size]? = some o
 simp
theorem bs_later {w w' : World} {g : Nat} {o : Obj} (h : w.heap[g]? = some o) (hb : Below w.heap.size w w') : w'.heap[g]? = some o := (hb.block g (blk_lt h)).trans h
theorem bs_cell (w h x y : Int) (hw : 1 ≤ w) (hw4 : w ≤ 4) (hh : 1 ≤ h) (hh4 : h ≤ 4) : impl_grid_isCell.f w h x y = some (decide (0 ≤ x ∧ x < w ∧ 0 ≤ y ∧ y < h)) := by
 unfold impl_grid_isCell.f impl_within.f
 have e1 : wrap64 (w - 1) = w - 1 := by unfold wrap64; omega
 have e2 : wrap64 (h - 1) = h - 1 := by unfold wrap64; omega
 rw [e1, e2]
 by_cases c1 : 0 ≤ x <;> by_cases c2 : x < w <;> by_cases c3 : 0 ≤ y <;> by_cases c4 : y < h <;> simp [c1, c2, c3, c4, Int.le_sub_one_iff]
set_option maxHeartbeats 4000000 in
set_option maxRecDepth 100000 in
theorem bs_one (w h x y : Int) (hw : 1 ≤ w) (hw4 : w ≤ 4) (hh : 1 ≤ h) (hh4 : h ≤ 4) (B : Nat) (W : World) (hB : W.heap[B]? = some (.cells #[.int .i64 w, .int .i64 h] 58 (0, 0))) :
  Calls Tryd.prog 112 #[.int .i64 x, .int .i64 y, .pointer (some ⟨B, 0, none⟩)] W fun e W' => e = .returned (.int .i64 (numAt w h x y)) ∧ Below W.heap.size W W' := by
 have k0 : W.cell? ⟨B, 0, none⟩ = some (.int .i64 w) := (blk_cell hB 0).trans rfl
 have k1 : W.cell? ⟨B, 1, none⟩ = some (.int .i64 h) := (blk_cell hB 1).trans rfl
 have HBL := Aside0.mk hB
 have hu := Tryd.underlying58
 clear hB
 by_cases hc : 0 ≤ x ∧ x < w ∧ 0 ≤ y ∧ y < h
 ·have C := fun W => impl_grid_isCell.calls w h x y true W (by rw [bs_cell w h x y hw hw4 hh hh4]; simp [hc])
  have HN := Aside0.mk (show numAt w h x y = y * w + x by unfold numAt; rw [if_pos hc])
  have hm : 0 ≤ y * w ∧ y * w ≤ 12 := by
   have : w = 1 ∨ w = 2 ∨ w = 3 ∨ w = 4 := by omega
   rcases this with rfl | rfl | rfl | rfl <;> omega
  obtain ⟨q1, q2, q3, q4⟩ := hc
  go_enter Tryd.func112, Tryd.ntmps112
  go_wp2_with fail
  refine (C _).mono ?_
  rintro e w1 ⟨rfl, hb⟩
  have B1 := bs_later (w := W) HBL.out hb
  have m0 : w1.cell? ⟨B, 0, none⟩ = some (.int .i64 w) := (blk_cell B1 0).trans rfl
  have HB := Aside0.mk hb
  clear k0 k1 B1 hb
  have ew : wrap64 (y * w) = y * w := by unfold wrap64; omega
  have ew2 : wrap64 (y * w + x) = y * w + x := by unfold wrap64; omega
  go_wp2_with fail
  go_ret
  exact ⟨by rw [HN.out]; first | rfl | (simp [ew, ew2]; done), HB.out⟩
 ·have C := fun W => impl_grid_isCell.calls w h x y false W (by rw [bs_cell w h x y hw hw4 hh hh4]; simp [hc])
  have HN := Aside0.mk (show numAt w h x y = -1 by unfold numAt; rw [if_neg hc])
  clear hc
  go_enter Tryd.func112, Tryd.ntmps112
  go_wp2_with fail
  refine (C _).mono ?_
  rintro e w1 ⟨rfl, hb⟩
  have HB := Aside0.mk hb
  clear k0 k1 hb
  go_wp2_with fail
  go_ret
  exact ⟨by rw [HN.out]; rfl, HB.out⟩
theorem bs_levels (w h : Int) (hw : 1 ≤ w) (hw4 : w ≤ 4) (hh : 1 ≤ h) (hh4 : h ≤ 4) : impl_grid_levels.f w h = some (w * (h + 1)) := by
 unfold impl_grid_levels.f
 have e2 : wrap64 (h + 1) = h + 1 := by unfold wrap64; omega
 rw [e2]
 have : w = 1 ∨ w = 2 ∨ w = 3 ∨ w = 4 := by omega
 rcases this with rfl | rfl | rfl | rfl <;> (congr 1; unfold wrap64; omega)
set_option maxHeartbeats 16000000 in
set_option maxRecDepth 100000 in
theorem bs_low (a0_0 a0_1 a1 : Int) (w : World) (hw : 1 ≤ a0_0) (hw4 : a0_0 ≤ 4) (hh : 1 ≤ a0_1) (hh4 : a0_1 ≤ 4) (hk : 0 ≤ a1) (hk4 : a1 ≤ 40) (hc : a1 < a0_0 * (a0_1 + 1)) :
  Calls Tryd.prog 100 #[.agg #[.int .i64 a0_0, .int .i64 a0_1], .int .i64 a1] w fun e w' => e = .returned (.tuple #[.int .i64 (numAt a0_0 a0_1 (a1 % a0_0) (a1 / a0_0 - 1)), .int .i64 (numAt a0_0 a0_1 (a1 % a0_0) (a1 / a0_0))]) ∧ Below w.heap.size w w' := by
 have CL := fun W => impl_grid_levels.calls a0_0 a0_1 (a0_0 * (a0_1 + 1)) W (bs_levels a0_0 a0_1 hw hw4 hh hh4)
 have CN := fun x y B W hB => bs_one a0_0 a0_1 x y hw hw4 hh hh4 B W hB
 have hq0 : 0 ≤ a1 / a0_0 := Int.ediv_nonneg hk (by omega)
 have hq1 : a1 / a0_0 ≤ 40 := Int.le_trans (Int.ediv_le_self _ hk) hk4
 have E1 := Aside0.mk (show Int.tmod a1 a0_0 = a1 % a0_0 from Int.tmod_eq_emod_of_nonneg hk)
 have E2 := Aside0.mk (show Int.tdiv a1 a0_0 = a1 / a0_0 from Int.tdiv_eq_ediv_of_nonneg hk)
 have E3 := Aside0.mk (show IntKind.i64.wrap (a1 / a0_0 - 1) = a1 / a0_0 - 1 by rw [IntKind.wrap_i64]; omega)
 have hdec : decide (a1 < a0_0 * (a0_1 + 1)) = true := decide_eq_true hc
 have hmf : ∀ (fn : Fn) (first cap : Array Value) (w : World), (Instr.makeFunc fn first cap).run Tryd.prog w = .ok (.func fn first cap) w := fun _ _ _ _ => rfl
 have hu := Tryd.underlying58
 have hne : (a0_0 == 0) = false := by simp; omega
 have hne2 : a0_0 ≠ 0 := by omega
 have E4 : IntKind.i64.wrap (a1 / a0_0) = a1 / a0_0 := by rw [IntKind.wrap_i64]; omega
 have E4' := Aside0.mk E4
 clear hc hh hh4 hw4 hq0 hq1
 go_enter Tryd.func100, Tryd.ntmps100
 go_wp2_with fail
 refine (CL _).mono ?_
 rintro e w1 ⟨rfl, hb⟩
 have B1 := bs_later (bs_new w _) hb
 have m0 : w1.cell? ⟨w.heap.size, 0, none⟩ = some (.int .i64 _) := (blk_cell B1 0).trans rfl
 have HX := Aside0.mk B1
 have HB := Aside0.mk (below_step (below_alloc (Below.refl w.heap.size w) _) hb)
 clear B1 hb CL
 go_wp2_with fail
 go_region_held3 (fun W => W.cell? ⟨w.heap.size, 0, none⟩ = some (.int .i64 a0_0))
  (first
   | exact (blk_cell (bs_later (bs_later (w := w1.drew) (blk_drew HX.out) hb) hb2) 0).trans rfl
   | exact (blk_cell (bs_later (w := w1.drew) (blk_drew HX.out) hb) 0).trans rfl
   | go_keep)
  (first
   | (go_at_call 112; refine (CN _ _ _ _ (blk_drew HX.out)).mono ?_; rintro e w2 ⟨rfl, hb⟩)
   | (go_at_call 112; refine (CN _ _ _ _ (bs_later (w := w1.drew) (blk_drew HX.out) hb)).mono ?_; rintro e w3 ⟨rfl, hb2⟩))
 all_goals
  have HB3 := Aside0.mk (below_step (below_step (below_drew1 HB.out) hb) hb2)
  clear hb hb2 HX HB
  go_wp2_with fail
  go_ret2
  refine ⟨?_, HB3.out⟩
  (try simp only [E1.out, E2.out, E4'.out, E3.out])
  rfl
set_option maxHeartbeats 16000000 in
set_option maxRecDepth 100000 in
theorem bs_high (a0_0 a0_1 a1 L : Int) (w : World) (hw : 1 ≤ a0_0) (hw4 : a0_0 ≤ 4) (hh : 1 ≤ a0_1) (hh4 : a0_1 ≤ 4) (hk : 0 ≤ a1) (hk4 : a1 ≤ 40) (hL : a0_0 * (a0_1 + 1) = L) (hc : L ≤ a1) :
  Calls Tryd.prog 100 #[.agg #[.int .i64 a0_0, .int .i64 a0_1], .int .i64 a1] w fun e w' => e = .returned (.tuple #[.int .i64 (numAt a0_0 a0_1 ((a1 - L) % (a0_0 + 1) - 1) ((a1 - L) / (a0_0 + 1))), .int .i64 (numAt a0_0 a0_1 ((a1 - L) % (a0_0 + 1)) ((a1 - L) / (a0_0 + 1)))]) ∧ Below w.heap.size w w' := by
 have CL := fun W => impl_grid_levels.calls a0_0 a0_1 L W (by rw [← hL]; exact bs_levels a0_0 a0_1 hw hw4 hh hh4)
 have CN := fun x y B W hB => bs_one a0_0 a0_1 x y hw hw4 hh hh4 B W hB
 have hL0 : 0 ≤ L := by rw [← hL]; exact Int.mul_nonneg (by omega) (by omega)
 clear hL hh hh4
 have hdec : decide (a1 < L) = false := decide_eq_false (by omega)
 have hr0 : 0 ≤ a1 - L := by omega
 have hr4 : a1 - L ≤ 40 := by omega
 have E0 : IntKind.i64.wrap (a1 - L) = a1 - L := by rw [IntKind.wrap_i64]; omega
 have E5 : IntKind.i64.wrap (a0_0 + 1) = a0_0 + 1 := by rw [IntKind.wrap_i64]; omega
 have E0' : wrap64 (a1 - L) = a1 - L := by unfold wrap64; omega
 have E5' : wrap64 (a0_0 + 1) = a0_0 + 1 := by unfold wrap64; omega
 have hm0 := Int.emod_nonneg (a1 - L) (show a0_0 + 1 ≠ 0 by omega)
 have hm1 := Int.emod_lt_of_pos (a1 - L) (show 0 < a0_0 + 1 by omega)
 have hmf : ∀ (fn : Fn) (first cap : Array Value) (w : World), (Instr.makeFunc fn first cap).run Tryd.prog w = .ok (.func fn first cap) w := fun _ _ _ _ => rfl
 have hu := Tryd.underlying58
 generalize hR : a1 - L = R at *
 have E1 := Aside0.mk (show Int.tmod R (a0_0 + 1) = R % (a0_0 + 1) from Int.tmod_eq_emod_of_nonneg hr0)
 have E2 := Aside0.mk (show Int.tdiv R (a0_0 + 1) = R / (a0_0 + 1) from Int.tdiv_eq_ediv_of_nonneg hr0)
 have E3 : IntKind.i64.wrap (R % (a0_0 + 1) - 1) = R % (a0_0 + 1) - 1 := by rw [IntKind.wrap_i64]; omega
 have hq0 : 0 ≤ R / (a0_0 + 1) := Int.ediv_nonneg hr0 (by omega)
 have hq1 : R / (a0_0 + 1) ≤ 40 := Int.le_trans (Int.ediv_le_self _ hr0) hr4
 have E4 : IntKind.i64.wrap (R / (a0_0 + 1)) = R / (a0_0 + 1) := by rw [IntKind.wrap_i64]; omega
 have hne2 : a0_0 + 1 ≠ 0 := by omega
 have E6 := Aside0.mk (show wrap64 (R / (a0_0 + 1)) = R / (a0_0 + 1) by unfold wrap64; omega)
 have hne : (a0_0 + 1 == 0) = false := by simp; omega
 clear hm0 hm1 hw4 hr4 hk4 hc hq0 hq1
 go_enter Tryd.func100, Tryd.ntmps100
 go_wp2_with fail
 refine (CL _).mono ?_
 rintro e w1 ⟨rfl, hb⟩
 have B1 := bs_later (bs_new w _) hb
 have m0 : w1.cell? ⟨w.heap.size, 0, none⟩ = some (.int .i64 _) := (blk_cell B1 0).trans rfl
 have m1 : w1.cell? ⟨w.heap.size, 1, none⟩ = some (.int .i64 _) := (blk_cell B1 1).trans rfl
 have HX := Aside0.mk B1
 have HB := Aside0.mk (below_step (below_alloc (Below.refl w.heap.size w) _) hb)
 clear B1 hb
 go_wp2_with fail
 refine (CL _).mono ?_
 rintro e w2 ⟨rfl, hb⟩
 have HX2 := Aside0.mk (bs_later HX.out hb)
 have HB2 := Aside0.mk (below_step HB.out hb)
 have m2 : w2.cell? ⟨w.heap.size, 0, none⟩ = some (.int .i64 _) := (blk_cell HX2.out 0).trans rfl
 clear hb HX HB m0 m1
 go_wp2_with fail
 go_quiet (fail)
 go_wp2_with fail
 refine (CN _ _ _ _ (blk_drewN HX2.out _)).mono ?_
 rintro e w3 ⟨rfl, hb⟩
 go_wp2_with fail
 refine (CN _ _ _ _ (bs_later (blk_drewN HX2.out _) hb)).mono ?_
 rintro e w4 ⟨rfl, hb2⟩
 have HB3 := Aside0.mk (below_step (below_step (pw_below_drewN HB2.out _) hb) hb2)
 clear hb hb2 HX2 HB2
 go_wp2_with fail
 go_ret2
 refine ⟨?_, HB3.out⟩
 simp only [E2.out, E6.out]
 rfl
theorem impl_grid_beside.calls (a0_0 : Int) (a0_1 : Int) (a1 : Int) (r1 : Int) (r2 : Int) (w : World) (h : impl_grid_beside.f a0_0 a0_1 a1 = some (r1, r2)) :
  Calls Tryd.prog 100 #[.agg #[.int .i64 a0_0, .int .i64 a0_1], .int .i64 a1] w fun e w' => e = .returned (.tuple #[.int .i64 r1, .int .i64 r2]) ∧ Below w.heap.size w w' := by
 unfold impl_grid_beside.f at h
 by_cases hc : 1 ≤ a0_0 ∧ a0_0 ≤ 4 ∧ 1 ≤ a0_1 ∧ a0_1 ≤ 4 ∧ 0 ≤ a1 ∧ a1 ≤ 40
 ·rw [if_pos hc] at h
  obtain ⟨q1, q2, q3, q4, q5, q6⟩ := hc
  unfold sides at h
  by_cases hl : a1 < a0_0 * (a0_1 + 1)
  ·rw [if_pos hl] at h
   simp only [Option.some.injEq, Prod.mk.injEq] at h
   obtain ⟨rfl, rfl⟩ := h
   exact bs_low a0_0 a0_1 a1 w q1 q2 q3 q4 q5 q6 hl
  ·rw [if_neg hl] at h
   simp only [Option.some.injEq, Prod.mk.injEq] at h
   obtain ⟨rfl, rfl⟩ := h
   exact bs_high a0_0 a0_1 a1 _ w q1 q2 q3 q4 q5 q6 rfl (Int.not_lt.mp hl)
 ·rw [if_neg hc] at h; cases h

end Go.Proofs.YtfkbjflndkjlnaaDoor.P
