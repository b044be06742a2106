import Derived.Test.YtlmobibbefjhfaaSd
import Derived.Test.YtlmobibbefjhfaaSe
import Derived.Test.YtlmobibbefjhfaaSc3
import Derived.Test.YtlmobibbefjhfaaSc4
import Derived.Test.YtlmobibbefjhfaaSc5
import Derived.Test.YtlmobibbefjhfaaSc6
import Derived.Test.YtlmobibbefjhfaaSc7
import Derived.Test.YtlmobibbefjhfaaSc8
namespace Go.Proofs.Ytlmobibbefjhfaa.S
open Go.RowKit Go.Proofs.YtlmobibbefjhfaaW.PrintWords Go.Proofs.YtlmobibbefjhfaaW.PrintLast Go.Proofs.YtlmobibbefjhfaaW.PrintMore
attribute [local go_sem] max2_int min2_int max_two min_two max_three min_three max_four min_four
set_option linter.unusedVariables false
set_option linter.unusedSimpArgs false

attribute [local go_sem high] eqA49
/-! ### impl_IsSolution: function 9 -/
def impl_IsSolution.T9 : Bool × List (List Nat × List Nat) := (true, [([], []), ([0], [0]), ([1], [1]), ([1], [1]), ([2, 3, 1, 1], [1, 2, 3]), ([1], [1]), ([5, 1], [1, 5]), ([4, 6, 1], [1, 4, 6]), ([1, 7], [1, 7]), ([8, 4], [8]), ([9], [9]), ([9], [9]), ([10, 11, 9, 9], [9, 10, 11]), ([12, 9], [9, 12]), ([9, 13], [9, 13]), ([14, 12, 0, 1, 2, 3, 4, 5, 6, 7, 8, 9, 10, 11, 12, 13, 14], [14]), ([15, 0, 1, 2, 3, 4, 5, 6, 7, 8, 9, 10, 11, 12, 13, 14, 15], [])])
def impl_IsSolution.B9 : List Nat := [0, 1, 3, 3, 15, 3, 35, 127, 255, 511, 1023, 1023, 4095, 8191, 16383, 32767, 65535]
theorem impl_IsSolution.tab9 : rtab .any (opsOf Try.f9 9) = impl_IsSolution.T9 := by kernel_rfl
theorem impl_IsSolution.bits9 : waitsOk impl_IsSolution.T9.2 impl_IsSolution.B9 = true := by kernel_rfl
set_option maxHeartbeats 8000000 in
set_option maxRecDepth 100000 in
theorem impl_IsSolution.calls (k : Nat) (a0_0 : Int) (a0_1 : Int) (A0_2 : Option Addr) (c0_2 : Nat) (l0_2 : List Int) (A0_3 : Option Addr) (c0_3 : Nat) (l0_3 : List Int) (a0_4 : Int) (a0_5 : Bool) (a0_6 : Int) (a1_0 : Int) (a1_1 : Int) (A1_2 : Option Addr) (c1_2 : Nat) (l1_2 : List Int) (A1_3 : Option Addr) (c1_3 : Nat) (l1_3 : List Int) (r1 : Bool) (r2 : Bool) (w : World) (hr0_2 : Kd.C (Kd.int .i64) w A0_2 l0_2.length l0_2) (hc0_2 : l0_2.length ≤ c0_2) (hr0_3 : Kd.C (Kd.int .i64) w A0_3 l0_3.length l0_3) (hc0_3 : l0_3.length ≤ c0_3) (hr1_2 : Kd.C (Kd.int .i64) w A1_2 l1_2.length l1_2) (hc1_2 : l1_2.length ≤ c1_2) (hr1_3 : Kd.C (Kd.int .i64) w A1_3 l1_3.length l1_3) (hc1_3 : l1_3.length ≤ c1_3) (h : impl_IsSolution.f k a0_0 a0_1 l0_2 l0_3 a0_4 a0_5 a0_6 a1_0 a1_1 l1_2 l1_3 = some (r1, r2)) :
  Calls Try.prog 9 #[.agg #[.int .i64 a0_0, .int .i64 a0_1, .slice A0_2 l0_2.length c0_2, .slice A0_3 l0_3.length c0_3, .int .i64 a0_4, .bool a0_5, .int .i64 a0_6], .agg #[.int .i64 a1_0, .int .i64 a1_1, .slice A1_2 l1_2.length c1_2, .slice A1_3 l1_3.length c1_3]] w fun e w' => e = .returned (.tuple #[.bool r1, .bool r2]) ∧ Below w.heap.size w w' := by
 have hu33 := Try.underlying33
 have hu31 := Try.underlying31
 have HR0_2 := Aside0.mk hr0_2
 have HC0_2 := Aside0.mk hc0_2
 clear hr0_2 hc0_2
 have HR0_3 := Aside0.mk hr0_3
 have HC0_3 := Aside0.mk hc0_3
 clear hr0_3 hc0_3
 have HR1_2 := Aside0.mk hr1_2
 have HC1_2 := Aside0.mk hc1_2
 clear hr1_2 hc1_2
 have HR1_3 := Aside0.mk hr1_3
 have HC1_3 := Aside0.mk hc1_3
 clear hr1_3 hc1_3
 have HB := Aside0.mk (Below.refl w.heap.size w)
 have H : ((impl_IsPuzzle.f k a0_0 a0_1 l0_2 l0_3 a0_4 a0_5 a0_6).bind fun t263 => (if t263 = true then ((impl_IsFigure.f k a1_0 a1_1 l1_2 l1_3).bind fun t264 => (impl_IsSolution.j0 k (!t264) a0_0 a0_1 l0_2 l0_3 a0_4 a0_5 a0_6 a1_0 a1_1 l1_2 l1_3)) else (impl_IsSolution.j0 k true a0_0 a0_1 l0_2 l0_3 a0_4 a0_5 a0_6 a1_0 a1_1 l1_2 l1_3))) = some (r1, r2) := h
 clear h
 have HC3 := Aside0.mk H
 clear H
 go_enter Try.func9, Try.ntmps9
 go_upto_region 1 with (first | ((with_reducible refine gate_dst (N := 2) rfl ?_); refine box_event ?hg (N := 2) ?hd (cs := #[.int .i64 a0_0, .int .i64 a0_1, .slice A0_2 l0_2.length c0_2, .slice A0_3 l0_3.length c0_3, .int .i64 a0_4, .bool a0_5, .int .i64 a0_6]) (t := 33) ?hr ?_; (case hd => rfl); (case hg => rfl); (case hr => first | (go_simp; done) | (go_simp; rfl)); intro gb261 hg w4 hbox hb; have BK261 := Aside0.mk (hbox); have GW261 := Aside0.mk ((by rw [hg]; exact (below_size zB) : w.heap.size ≤ gb261)); have GE261 := Aside0.mk ((by rw [hg]; exact (below_size zB) : w.heap.size ≤ gb261)); replace HB := zBb hb; clear hb hbox hg) | ((with_reducible refine gate_dst (N := 3) rfl ?_); refine box_event ?hg (N := 3) ?hd (cs := #[.int .i64 a1_0, .int .i64 a1_1, .slice A1_2 l1_2.length c1_2, .slice A1_3 l1_3.length c1_3]) (t := 31) ?hr ?_; (case hd => rfl); (case hg => rfl); (case hr => first | (go_simp; done) | (go_simp; rfl)); intro gb262 hg w5 hbox hb; have BK262 := Aside0.mk (hbox); have GW262 := Aside0.mk ((by rw [hg]; exact (below_size zB) : w.heap.size ≤ gb262)); have GE262 := Aside0.mk ((by rw [hg]; exact (below_size zB) : w.heap.size ≤ gb262)); have NB261_262 := Aside0.mk ((by rw [hg]; exact Nat.ne_of_lt (blk_lt (g := gb261) (o := .cells #[.int .i64 a0_0, .int .i64 a0_1, .slice A0_2 l0_2.length c0_2, .slice A0_3 l0_3.length c0_3, .int .i64 a0_4, .bool a0_5, .int .i64 a0_6] 33 (0, 0)) (zK BK261)) : gb261 ≠ gb262)); have NB262_261 := Aside0.mk ((by rw [hg]; exact Nat.ne_of_gt (blk_lt (g := gb261) (o := .cells #[.int .i64 a0_0, .int .i64 a0_1, .slice A0_2 l0_2.length c0_2, .slice A0_3 l0_3.length c0_3, .int .i64 a0_4, .bool a0_5, .int .i64 a0_6] 33 (0, 0)) (zK BK261)) : gb262 ≠ gb261)); replace BK261 := zKb BK261 hb; replace HB := zBb hb; clear hb hbox hg))
 (try simp only [Act.put, List.setIfInBounds_toArray, List.set_cons_zero, List.set_cons_succ])
 go_cut [17] (fun v17 wc => ∃ (kq : Nat) (x17_2 : Bool), v17 = .bool x17_2 ∧ Aside0 (impl_IsSolution.j0 kq x17_2 a0_0 a0_1 l0_2 l0_3 a0_4 a0_5 a0_6 a1_0 a1_1 l1_2 l1_3 = some (r1, r2)) ∧ Aside0 (kq ≤ k) ∧ Aside0 (wc.heap[gb261]? = some (.cells #[.int .i64 a0_0, .int .i64 a0_1, (.slice A0_2 l0_2.length c0_2), (.slice A0_3 l0_3.length c0_3), .int .i64 a0_4, .bool a0_5, .int .i64 a0_6] 33 (0, 0))) ∧ Aside0 (wc.heap[gb262]? = some (.cells #[.int .i64 a1_0, .int .i64 a1_1, (.slice A1_2 l1_2.length c1_2), (.slice A1_3 l1_3.length c1_3)] 31 (0, 0))) ∧ Aside0 (Below w.heap.size w wc))
 case first =>
  have H := HC3.out
  clear HC3
  replace H := Option.bind_eq_some_iff.mp H
  obtain ⟨t263, A60, H⟩ := H
  replace H : (if t263 = true then ((impl_IsFigure.f k a1_0 a1_1 l1_2 l1_3).bind fun t264 => (impl_IsSolution.j0 k (!t264) a0_0 a0_1 l0_2 l0_3 a0_4 a0_5 a0_6 a1_0 a1_1 l1_2 l1_3)) else (impl_IsSolution.j0 k true a0_0 a0_1 l0_2 l0_3 a0_4 a0_5 a0_6 a1_0 a1_1 l1_2 l1_3)) = some (r1, r2) := H
  have A6 := Aside0.mk A60
  clear A60
  by_cases c7 : t263 = true
  ·subst c7
   have H1 : ((impl_IsFigure.f k a1_0 a1_1 l1_2 l1_3).bind fun t264 => (impl_IsSolution.j0 k (!t264) a0_0 a0_1 l0_2 l0_3 a0_4 a0_5 a0_6 a1_0 a1_1 l1_2 l1_3)) = some (r1, r2) := by rw [if_pos rfl] at H; exact H
   clear H
   have H := H1
   clear H1
   replace H := Option.bind_eq_some_iff.mp H
   obtain ⟨t264, A80, H⟩ := H
   replace H : (impl_IsSolution.j0 k (!t264) a0_0 a0_1 l0_2 l0_3 a0_4 a0_5 a0_6 a1_0 a1_1 l1_2 l1_3) = some (r1, r2) := H
   have A8 := Aside0.mk A80
   clear A80
   have H' := Aside0.mk H
   clear H
   have hnb9 := NB261_262.out
   have hnc9 := NB262_261.out
   have hcz10_0 : w5.cell? ⟨gb261, 0, none⟩ = some (.int .i64 a0_0) := (blk_cell BK261.out 0).trans rfl
   have hcz10_1 : w5.cell? ⟨gb261, 1, none⟩ = some (.int .i64 a0_1) := (blk_cell BK261.out 1).trans rfl
   have hcz10_2 : w5.cell? ⟨gb261, 2, none⟩ = some (.slice A0_2 l0_2.length c0_2) := (blk_cell BK261.out 2).trans rfl
   have hcz10_3 : w5.cell? ⟨gb261, 3, none⟩ = some (.slice A0_3 l0_3.length c0_3) := (blk_cell BK261.out 3).trans rfl
   have hcz10_4 : w5.cell? ⟨gb261, 4, none⟩ = some (.int .i64 a0_4) := (blk_cell BK261.out 4).trans rfl
   have hcz10_5 : w5.cell? ⟨gb261, 5, none⟩ = some (.bool a0_5) := (blk_cell BK261.out 5).trans rfl
   have hcz10_6 : w5.cell? ⟨gb261, 6, none⟩ = some (.int .i64 a0_6) := (blk_cell BK261.out 6).trans rfl
   have hfz10_0 := blk_frozen BK261.out 0
   have hfz10_1 := blk_frozen BK261.out 1
   have hfz10_2 := blk_frozen BK261.out 2
   have hfz10_3 := blk_frozen BK261.out 3
   have hfz10_4 := blk_frozen BK261.out 4
   have hfz10_5 := blk_frozen BK261.out 5
   have hfz10_6 := blk_frozen BK261.out 6
   go_wp2_with (first | ((with_reducible refine gate_callee (f := 21) rfl ?_); refine goesL_ (some 11) rfl rfl Try.func21 (by kernel_rfl) rfl #[.agg #[.int .i64 a0_0, .int .i64 a0_1, .slice A0_2 l0_2.length c0_2, .slice A0_3 l0_3.length c0_3, .int .i64 a0_4, .bool a0_5, .int .i64 a0_6]] rfl zM ?_; (with_reducible refine (impl_IsPuzzle.calls k a0_0 a0_1 _ _ l0_2 _ _ l0_3 a0_4 a0_5 a0_6 true _ ?side1 ?side2 ?side3 ?side4 A6.out).mono ?_); (case side1 => exact zC HR0_2); (case side2 => exact HC0_2.out); (case side3 => exact zC HR0_3); (case side4 => exact HC0_3.out); rintro e w11 ⟨rfl, hb⟩; refine ⟨_, rfl, ?_⟩; replace BK261 := zKb BK261 hb; replace BK262 := zKb BK262 hb; replace HB := zBb hb; (try clear hb); (try clear hb2); (try clear hk); (try clear hi); obtain ⟨hcz12_0, hcz12_1, hcz12_2, hcz12_3, hfz12_0, hfz12_1, hfz12_2, hfz12_3⟩ := blk4 BK262) | (go_at_call 22; (with_reducible refine (impl_IsFigure.calls k a1_0 a1_1 _ _ l1_2 _ _ l1_3 t264 _ ?side1 ?side2 ?side3 ?side4 A8.out).mono ?_); (case side1 => exact zC HR1_2); (case side2 => exact HC1_2.out); (case side3 => exact zC HR1_3); (case side4 => exact HC1_3.out); rintro e w13 ⟨rfl, hb⟩; replace BK261 := zKb BK261 hb; replace BK262 := zKb BK262 hb; replace HB := zBb hb; (try clear hb); (try clear hb2); (try clear hk); (try clear hi)))
   go_meet
   case rel => exact ⟨_, (!t264), zA, H', ⟨by first | omega | exact Nat.le_refl _⟩, ⟨zK BK261⟩, ⟨zK BK262⟩, ⟨zB⟩⟩
  ·replace c7 := Bool.eq_false_iff.mpr c7
   subst c7
   have H1 : (impl_IsSolution.j0 k true a0_0 a0_1 l0_2 l0_3 a0_4 a0_5 a0_6 a1_0 a1_1 l1_2 l1_3) = some (r1, r2) := by rw [if_neg (show ¬ (false = true) by decide)] at H; exact H
   clear H
   have H := H1
   clear H1
   have H' := Aside0.mk H
   clear H
   have hnb14 := NB261_262.out
   have hnc14 := NB262_261.out
   have hcz15_0 : w5.cell? ⟨gb261, 0, none⟩ = some (.int .i64 a0_0) := (blk_cell BK261.out 0).trans rfl
   have hcz15_1 : w5.cell? ⟨gb261, 1, none⟩ = some (.int .i64 a0_1) := (blk_cell BK261.out 1).trans rfl
   have hcz15_2 : w5.cell? ⟨gb261, 2, none⟩ = some (.slice A0_2 l0_2.length c0_2) := (blk_cell BK261.out 2).trans rfl
   have hcz15_3 : w5.cell? ⟨gb261, 3, none⟩ = some (.slice A0_3 l0_3.length c0_3) := (blk_cell BK261.out 3).trans rfl
   have hcz15_4 : w5.cell? ⟨gb261, 4, none⟩ = some (.int .i64 a0_4) := (blk_cell BK261.out 4).trans rfl
   have hcz15_5 : w5.cell? ⟨gb261, 5, none⟩ = some (.bool a0_5) := (blk_cell BK261.out 5).trans rfl
   have hcz15_6 : w5.cell? ⟨gb261, 6, none⟩ = some (.int .i64 a0_6) := (blk_cell BK261.out 6).trans rfl
   have hfz15_0 := blk_frozen BK261.out 0
   have hfz15_1 := blk_frozen BK261.out 1
   have hfz15_2 := blk_frozen BK261.out 2
   have hfz15_3 := blk_frozen BK261.out 3
   have hfz15_4 := blk_frozen BK261.out 4
   have hfz15_5 := blk_frozen BK261.out 5
   have hfz15_6 := blk_frozen BK261.out 6
   go_wp2_with (first | ((with_reducible refine gate_callee (f := 21) rfl ?_); refine goesL_ (some 11) rfl rfl Try.func21 (by kernel_rfl) rfl #[.agg #[.int .i64 a0_0, .int .i64 a0_1, .slice A0_2 l0_2.length c0_2, .slice A0_3 l0_3.length c0_3, .int .i64 a0_4, .bool a0_5, .int .i64 a0_6]] rfl zM ?_; (with_reducible refine (impl_IsPuzzle.calls k a0_0 a0_1 _ _ l0_2 _ _ l0_3 a0_4 a0_5 a0_6 false _ ?side1 ?side2 ?side3 ?side4 A6.out).mono ?_); (case side1 => exact zC HR0_2); (case side2 => exact HC0_2.out); (case side3 => exact zC HR0_3); (case side4 => exact HC0_3.out); rintro e w16 ⟨rfl, hb⟩; refine ⟨_, rfl, ?_⟩; replace BK261 := zKb BK261 hb; replace BK262 := zKb BK262 hb; replace HB := zBb hb; (try clear hb); (try clear hb2); (try clear hk); (try clear hi)))
   go_meet
   case rel => exact ⟨_, (true), zA, H', ⟨by first | omega | exact Nat.le_refl _⟩, ⟨zK BK261⟩, ⟨zK BK262⟩, ⟨zB⟩⟩
 case rest =>
  clear HC3
  (try clear c1); (try clear c2); (try clear p2); (try clear c7); (try clear c9); (try clear c14); (try clear hcz10_0); (try clear hcz10_1); (try clear hcz10_2); (try clear hcz10_3); (try clear hcz10_4); (try clear hcz10_5); (try clear hcz10_6); (try clear hcz12_0); (try clear hcz12_1); (try clear hcz12_2); (try clear hcz12_3); (try clear hcz15_0); (try clear hcz15_1); (try clear hcz15_2); (try clear hcz15_3); (try clear hcz15_4); (try clear hcz15_5); (try clear hcz15_6); (try clear hfz10_0); (try clear hfz10_1); (try clear hfz10_2); (try clear hfz10_3); (try clear hfz10_4); (try clear hfz10_5); (try clear hfz10_6); (try clear hfz12_0); (try clear hfz12_1); (try clear hfz12_2); (try clear hfz12_3); (try clear hfz15_0); (try clear hfz15_1); (try clear hfz15_2); (try clear hfz15_3); (try clear hfz15_4); (try clear hfz15_5); (try clear hfz15_6)
  obtain ⟨kq, x17_2, rfl, HA, HJ2, BK261, BK262, HB⟩ := hcut
  cases kq with
  | zero => exact absurd HA.out (by simp [impl_IsSolution.j0])
  | succ kj2 =>
   have H := HA.out
   clear HA
   simp only [impl_IsSolution.j0] at H
   by_cases c17 : x17_2 = true
   ·subst c17
    have H1 : (some (false, false)) = some (r1, r2) := by rw [if_pos rfl] at H; exact H
    clear H
    have H := H1
    clear H1
    simp only [Option.some.injEq, Prod.mk.injEq] at H
    obtain ⟨rfl, rfl⟩ := H
    go_wp2
    go_ret2
    exact ⟨by first | rfl | (simp [errW_none, errW_some] <;> rfl) | (simp [*, errW_none, errW_some] <;> rfl), by repeat (first | (with_reducible first | exact HB.out | apply below_alloc | apply pw_below_drewN | apply below_drew1 | refine below_set ?_ GE261.out | refine below_set ?_ GE262.out) | exact HB.out)⟩
   ·replace c17 := Bool.eq_false_iff.mpr c17
    subst c17
    have H1 : ((impl_Figure_grid.f a0_0 a0_1 l0_2 l0_3).bind fun bt265 => ((impl_Figure_grid.f a1_0 a1_1 l1_2 l1_3).bind fun bt267 => (if (!(bt265.1 == bt267.1) || (!(bt265.2 == bt267.2))) = true then (some (false, true)) else ((impl_Figure_grid.f a1_0 a1_1 l1_2 l1_3).bind fun bt269 => ((impl_grid_squares.f kj2 bt269.1 bt269.2).bind fun t271 => ((impl_Figure_set.f kj2 a1_0 a1_1 l1_2 l1_3).bind fun t274 => ((impl_IsTakeOf.f kj2 a0_0 a0_1 l0_2 l0_3 a1_0 a1_1 l1_2 l1_3 a0_4).bind fun bt275 => (if a0_5 = true then ((impl_IsMoveOf.f kj2 a0_0 a0_1 l0_2 l0_3 a1_0 a1_1 l1_2 l1_3 a0_4).bind fun bt277 => (if bt277.1 = true then ((impl_countOf.f kj2 t271 t274).bind fun t279 => (if t279 = a0_6 then ((impl_needless.f kj2 t271 t274).bind fun t280 => (some ((t280 == 0), true))) else (some (false, true)))) else (some (false, true)))) else (if bt275.1 = true then ((impl_countOf.f kj2 t271 t274).bind fun t281 => (if t281 = a0_6 then ((impl_needless.f kj2 t271 t274).bind fun t282 => (some ((t282 == 0), true))) else (some (false, true)))) else (some (false, true))))))))))) = some (r1, r2) := by rw [if_neg (show ¬ (false = true) by decide)] at H; exact H
    clear H
    have H := H1
    clear H1
    replace H := Option.bind_eq_some_iff.mp H
    obtain ⟨⟨t265, t266⟩, A180, H⟩ := H
    replace H : ((impl_Figure_grid.f a1_0 a1_1 l1_2 l1_3).bind fun bt267 => (if (!(t265 == bt267.1) || (!(t266 == bt267.2))) = true then (some (false, true)) else ((impl_Figure_grid.f a1_0 a1_1 l1_2 l1_3).bind fun bt269 => ((impl_grid_squares.f kj2 bt269.1 bt269.2).bind fun t271 => ((impl_Figure_set.f kj2 a1_0 a1_1 l1_2 l1_3).bind fun t274 => ((impl_IsTakeOf.f kj2 a0_0 a0_1 l0_2 l0_3 a1_0 a1_1 l1_2 l1_3 a0_4).bind fun bt275 => (if a0_5 = true then ((impl_IsMoveOf.f kj2 a0_0 a0_1 l0_2 l0_3 a1_0 a1_1 l1_2 l1_3 a0_4).bind fun bt277 => (if bt277.1 = true then ((impl_countOf.f kj2 t271 t274).bind fun t279 => (if t279 = a0_6 then ((impl_needless.f kj2 t271 t274).bind fun t280 => (some ((t280 == 0), true))) else (some (false, true)))) else (some (false, true)))) else (if bt275.1 = true then ((impl_countOf.f kj2 t271 t274).bind fun t281 => (if t281 = a0_6 then ((impl_needless.f kj2 t271 t274).bind fun t282 => (some ((t282 == 0), true))) else (some (false, true)))) else (some (false, true)))))))))) = some (r1, r2) := H
    have A18 := Aside0.mk A180
    clear A180
    replace H := Option.bind_eq_some_iff.mp H
    obtain ⟨⟨t267, t268⟩, A190, H⟩ := H
    replace H : (if (!(t265 == t267) || (!(t266 == t268))) = true then (some (false, true)) else ((impl_Figure_grid.f a1_0 a1_1 l1_2 l1_3).bind fun bt269 => ((impl_grid_squares.f kj2 bt269.1 bt269.2).bind fun t271 => ((impl_Figure_set.f kj2 a1_0 a1_1 l1_2 l1_3).bind fun t274 => ((impl_IsTakeOf.f kj2 a0_0 a0_1 l0_2 l0_3 a1_0 a1_1 l1_2 l1_3 a0_4).bind fun bt275 => (if a0_5 = true then ((impl_IsMoveOf.f kj2 a0_0 a0_1 l0_2 l0_3 a1_0 a1_1 l1_2 l1_3 a0_4).bind fun bt277 => (if bt277.1 = true then ((impl_countOf.f kj2 t271 t274).bind fun t279 => (if t279 = a0_6 then ((impl_needless.f kj2 t271 t274).bind fun t280 => (some ((t280 == 0), true))) else (some (false, true)))) else (some (false, true)))) else (if bt275.1 = true then ((impl_countOf.f kj2 t271 t274).bind fun t281 => (if t281 = a0_6 then ((impl_needless.f kj2 t271 t274).bind fun t282 => (some ((t282 == 0), true))) else (some (false, true)))) else (some (false, true))))))))) = some (r1, r2) := H
    have A19 := Aside0.mk A190
    clear A190
    by_cases c20 : (!(t265 == t267) || (!(t266 == t268))) = true
    ·rw [if_pos c20] at H
     have c20b0 : (!(t265 == t267) || (!(t266 == t268))) = true := c20
     clear c20
     simp only [Option.some.injEq, Prod.mk.injEq] at H
     obtain ⟨rfl, rfl⟩ := H
     try go_wp2
     replace BK261 := Aside0.mk (blk_drew BK261.out)
     replace BK262 := Aside0.mk (blk_drew BK262.out)
     replace HB := Aside0.mk (below_drew1 HB.out)
     refine start_ (n := 6) (S := fun w' => w'.cell? ⟨gb261, 0, none⟩ = some (.int .i64 a0_0) ∧ w'.cell? ⟨gb261, 1, none⟩ = some (.int .i64 a0_1) ∧ w'.cell? ⟨gb261, 2, none⟩ = some (.slice A0_2 l0_2.length c0_2) ∧ w'.cell? ⟨gb261, 3, none⟩ = some (.slice A0_3 l0_3.length c0_3) ∧ w'.cell? ⟨gb261, 4, none⟩ = some (.int .i64 a0_4) ∧ w'.cell? ⟨gb261, 5, none⟩ = some (.bool a0_5) ∧ w'.cell? ⟨gb261, 6, none⟩ = some (.int .i64 a0_6) ∧ w'.cell? ⟨gb262, 0, none⟩ = some (.int .i64 a1_0) ∧ w'.cell? ⟨gb262, 1, none⟩ = some (.int .i64 a1_1) ∧ w'.cell? ⟨gb262, 2, none⟩ = some (.slice A1_2 l1_2.length c1_2) ∧ w'.cell? ⟨gb262, 3, none⟩ = some (.slice A1_3 l1_3.length c1_3)) (ds := []) (fl 6 0) (by kernel_rfl) rfl rfl ⟨(blk_cell BK261.out 0).trans rfl, (blk_cell BK261.out 1).trans rfl, (blk_cell BK261.out 2).trans rfl, (blk_cell BK261.out 3).trans rfl, (blk_cell BK261.out 4).trans rfl, (blk_cell BK261.out 5).trans rfl, (blk_cell BK261.out 6).trans rfl, (blk_cell BK262.out 0).trans rfl, (blk_cell BK262.out 1).trans rfl, (blk_cell BK262.out 2).trans rfl, (blk_cell BK262.out 3).trans rfl⟩ (fun hHeld => ?_)
     generalize wc.drew = w21 at BK261 BK262 HB hHeld ⊢
     refine zpu 0 (some 18) (fl 6 1) ?_
     refine ztk 1 (some 19) (fl 6 3) hHeld ?_
     refine ztk 3 (some 21) (fl 6 11) hHeld ?_
     refine zone 2 (some 20) (fl 6 15) (fun K hK => ?_)
     refine zgo Try.func23 #[.agg #[.int .i64 a0_0, .int .i64 a0_1, .slice A0_2 l0_2.length c0_2, .slice A0_3 l0_3.length c0_3]] ?_
     with_reducible refine (impl_Figure_grid.calls a0_0 a0_1 _ _ l0_2 _ _ l0_3 t265 t266 _ ?side1 ?side2 ?side3 ?side4 A18.out).mono ?_
     (case side1 => exact zC HR0_2)
     (case side2 => exact HC0_2.out)
     (case side3 => exact zC HR0_3)
     (case side4 => exact HC0_3.out)
     rintro e w22 ⟨rfl, hb⟩
     refine ⟨_, rfl, ?_⟩
     replace BK261 := zKb BK261 hb
     replace BK262 := zKb BK262 hb
     replace HB := zBb hb
     (try clear hb)
     (try clear hb2)
     (try clear hk)
     (try clear hi)
     refine hK.out _ _ ⟨(blk_cell BK261.out 0).trans rfl, (blk_cell BK261.out 1).trans rfl, (blk_cell BK261.out 2).trans rfl, (blk_cell BK261.out 3).trans rfl, (blk_cell BK261.out 4).trans rfl, (blk_cell BK261.out 5).trans rfl, (blk_cell BK261.out 6).trans rfl, (blk_cell BK262.out 0).trans rfl, (blk_cell BK262.out 1).trans rfl, (blk_cell BK262.out 2).trans rfl, (blk_cell BK262.out 3).trans rfl⟩ (fun hHeld => ?_)
     clear hK K
     refine znm ?_
     refine zone 4 (some 22) (fl 6 31) (fun K hK => ?_)
     refine zgo Try.func23 #[.agg #[.int .i64 a1_0, .int .i64 a1_1, .slice A1_2 l1_2.length c1_2, .slice A1_3 l1_3.length c1_3]] ?_
     with_reducible refine (impl_Figure_grid.calls a1_0 a1_1 _ _ l1_2 _ _ l1_3 t267 t268 _ ?side1 ?side2 ?side3 ?side4 A19.out).mono ?_
     (case side1 => exact zC HR1_2)
     (case side2 => exact HC1_2.out)
     (case side3 => exact zC HR1_3)
     (case side4 => exact HC1_3.out)
     rintro e w23 ⟨rfl, hb⟩
     refine ⟨_, rfl, ?_⟩
     replace BK261 := zKb BK261 hb
     replace BK262 := zKb BK262 hb
     replace HB := zBb hb
     (try clear hb)
     (try clear hb2)
     (try clear hk)
     (try clear hi)
     refine hK.out _ _ ⟨(blk_cell BK261.out 0).trans rfl, (blk_cell BK261.out 1).trans rfl, (blk_cell BK261.out 2).trans rfl, (blk_cell BK261.out 3).trans rfl, (blk_cell BK261.out 4).trans rfl, (blk_cell BK261.out 5).trans rfl, (blk_cell BK261.out 6).trans rfl, (blk_cell BK262.out 0).trans rfl, (blk_cell BK262.out 1).trans rfl, (blk_cell BK262.out 2).trans rfl, (blk_cell BK262.out 3).trans rfl⟩ (fun hHeld => ?_)
     clear hK K
     refine znm ?_
     refine zpu 5 (some 23) (fl 6 63) ?_
     refine done_ (by kernel_rfl) ?_
     try go_wp2
     go_ret2
     exact ⟨by first | rfl | (simp [errW_none, errW_some] <;> rfl) | (simp [*, errW_none, errW_some] <;> rfl), by repeat (first | (with_reducible first | exact HB.out | apply below_alloc | apply pw_below_drewN | apply below_drew1 | refine below_set ?_ GE261.out | refine below_set ?_ GE262.out) | exact HB.out)⟩
    ·rw [if_neg c20] at H
     have c20b0 : (!(t265 == t267) || (!(t266 == t268))) = false := by simpa using c20
     clear c20
     replace H := Option.bind_eq_some_iff.mp H
     obtain ⟨⟨t269, t270⟩, A240, H⟩ := H
     replace H : ((impl_grid_squares.f kj2 t269 t270).bind fun t271 => ((impl_Figure_set.f kj2 a1_0 a1_1 l1_2 l1_3).bind fun t274 => ((impl_IsTakeOf.f kj2 a0_0 a0_1 l0_2 l0_3 a1_0 a1_1 l1_2 l1_3 a0_4).bind fun bt275 => (if a0_5 = true then ((impl_IsMoveOf.f kj2 a0_0 a0_1 l0_2 l0_3 a1_0 a1_1 l1_2 l1_3 a0_4).bind fun bt277 => (if bt277.1 = true then ((impl_countOf.f kj2 t271 t274).bind fun t279 => (if t279 = a0_6 then ((impl_needless.f kj2 t271 t274).bind fun t280 => (some ((t280 == 0), true))) else (some (false, true)))) else (some (false, true)))) else (if bt275.1 = true then ((impl_countOf.f kj2 t271 t274).bind fun t281 => (if t281 = a0_6 then ((impl_needless.f kj2 t271 t274).bind fun t282 => (some ((t282 == 0), true))) else (some (false, true)))) else (some (false, true))))))) = some (r1, r2) := H
     have A24 := Aside0.mk A240
     clear A240
     replace H := Option.bind_eq_some_iff.mp H
     obtain ⟨t271, A250, H⟩ := H
     replace H : ((impl_Figure_set.f kj2 a1_0 a1_1 l1_2 l1_3).bind fun t274 => ((impl_IsTakeOf.f kj2 a0_0 a0_1 l0_2 l0_3 a1_0 a1_1 l1_2 l1_3 a0_4).bind fun bt275 => (if a0_5 = true then ((impl_IsMoveOf.f kj2 a0_0 a0_1 l0_2 l0_3 a1_0 a1_1 l1_2 l1_3 a0_4).bind fun bt277 => (if bt277.1 = true then ((impl_countOf.f kj2 t271 t274).bind fun t279 => (if t279 = a0_6 then ((impl_needless.f kj2 t271 t274).bind fun t280 => (some ((t280 == 0), true))) else (some (false, true)))) else (some (false, true)))) else (if bt275.1 = true then ((impl_countOf.f kj2 t271 t274).bind fun t281 => (if t281 = a0_6 then ((impl_needless.f kj2 t271 t274).bind fun t282 => (some ((t282 == 0), true))) else (some (false, true)))) else (some (false, true)))))) = some (r1, r2) := H
     have A25 := Aside0.mk A250
     clear A250
     replace H := Option.bind_eq_some_iff.mp H
     obtain ⟨t274, A260, H⟩ := H
     replace H : ((impl_IsTakeOf.f kj2 a0_0 a0_1 l0_2 l0_3 a1_0 a1_1 l1_2 l1_3 a0_4).bind fun bt275 => (if a0_5 = true then ((impl_IsMoveOf.f kj2 a0_0 a0_1 l0_2 l0_3 a1_0 a1_1 l1_2 l1_3 a0_4).bind fun bt277 => (if bt277.1 = true then ((impl_countOf.f kj2 t271 t274).bind fun t279 => (if t279 = a0_6 then ((impl_needless.f kj2 t271 t274).bind fun t280 => (some ((t280 == 0), true))) else (some (false, true)))) else (some (false, true)))) else (if bt275.1 = true then ((impl_countOf.f kj2 t271 t274).bind fun t281 => (if t281 = a0_6 then ((impl_needless.f kj2 t271 t274).bind fun t282 => (some ((t282 == 0), true))) else (some (false, true)))) else (some (false, true))))) = some (r1, r2) := H
     have A26 := Aside0.mk A260
     clear A260
     replace H := Option.bind_eq_some_iff.mp H
     obtain ⟨⟨t275, t276⟩, A270, H⟩ := H
     replace H : (if a0_5 = true then ((impl_IsMoveOf.f kj2 a0_0 a0_1 l0_2 l0_3 a1_0 a1_1 l1_2 l1_3 a0_4).bind fun bt277 => (if bt277.1 = true then ((impl_countOf.f kj2 t271 t274).bind fun t279 => (if t279 = a0_6 then ((impl_needless.f kj2 t271 t274).bind fun t280 => (some ((t280 == 0), true))) else (some (false, true)))) else (some (false, true)))) else (if t275 = true then ((impl_countOf.f kj2 t271 t274).bind fun t281 => (if t281 = a0_6 then ((impl_needless.f kj2 t271 t274).bind fun t282 => (some ((t282 == 0), true))) else (some (false, true)))) else (some (false, true)))) = some (r1, r2) := H
     have A27 := Aside0.mk A270
     clear A270
     by_cases c28 : a0_5 = true
     ·subst c28
      have H1 : ((impl_IsMoveOf.f kj2 a0_0 a0_1 l0_2 l0_3 a1_0 a1_1 l1_2 l1_3 a0_4).bind fun bt277 => (if bt277.1 = true then ((impl_countOf.f kj2 t271 t274).bind fun t279 => (if t279 = a0_6 then ((impl_needless.f kj2 t271 t274).bind fun t280 => (some ((t280 == 0), true))) else (some (false, true)))) else (some (false, true)))) = some (r1, r2) := by rw [if_pos rfl] at H; exact H
      clear H
      have H := H1
      clear H1
      replace H := Option.bind_eq_some_iff.mp H
      obtain ⟨⟨t277, t278⟩, A290, H⟩ := H
      replace H : (if t277 = true then ((impl_countOf.f kj2 t271 t274).bind fun t279 => (if t279 = a0_6 then ((impl_needless.f kj2 t271 t274).bind fun t280 => (some ((t280 == 0), true))) else (some (false, true)))) else (some (false, true))) = some (r1, r2) := H
      have A29 := Aside0.mk A290
      clear A290
      by_cases c30 : t277 = true
      ·subst c30
       have H1 : ((impl_countOf.f kj2 t271 t274).bind fun t279 => (if t279 = a0_6 then ((impl_needless.f kj2 t271 t274).bind fun t280 => (some ((t280 == 0), true))) else (some (false, true)))) = some (r1, r2) := by rw [if_pos rfl] at H; exact H
       clear H
       have H := H1
       clear H1
       replace H := Option.bind_eq_some_iff.mp H
       obtain ⟨t279, A310, H⟩ := H
       replace H : (if t279 = a0_6 then ((impl_needless.f kj2 t271 t274).bind fun t280 => (some ((t280 == 0), true))) else (some (false, true))) = some (r1, r2) := H
       have A31 := Aside0.mk A310
       clear A310
       by_cases c32 : t279 = a0_6
       ·rw [if_pos c32] at H
        have c32b0 : (t279 == a0_6) = true := beq_iff_eq.mpr c32
        have c32b1 : (t279 != a0_6) = false := bne_eq_false_iff_eq.mpr c32
        clear c32
        replace H := Option.bind_eq_some_iff.mp H
        obtain ⟨t280, A330, H⟩ := H
        replace H : (some ((t280 == 0), true)) = some (r1, r2) := H
        have A33 := Aside0.mk A330
        clear A330
        simp only [Option.some.injEq, Prod.mk.injEq] at H
        obtain ⟨rfl, rfl⟩ := H
        try go_wp2
        replace BK261 := Aside0.mk (blk_drew BK261.out)
        replace BK262 := Aside0.mk (blk_drew BK262.out)
        replace HB := Aside0.mk (below_drew1 HB.out)
        refine start_ (n := 6) (S := fun w' => w'.cell? ⟨gb261, 0, none⟩ = some (.int .i64 a0_0) ∧ w'.cell? ⟨gb261, 1, none⟩ = some (.int .i64 a0_1) ∧ w'.cell? ⟨gb261, 2, none⟩ = some (.slice A0_2 l0_2.length c0_2) ∧ w'.cell? ⟨gb261, 3, none⟩ = some (.slice A0_3 l0_3.length c0_3) ∧ w'.cell? ⟨gb261, 4, none⟩ = some (.int .i64 a0_4) ∧ w'.cell? ⟨gb261, 5, none⟩ = some (.bool true) ∧ w'.cell? ⟨gb261, 6, none⟩ = some (.int .i64 a0_6) ∧ w'.cell? ⟨gb262, 0, none⟩ = some (.int .i64 a1_0) ∧ w'.cell? ⟨gb262, 1, none⟩ = some (.int .i64 a1_1) ∧ w'.cell? ⟨gb262, 2, none⟩ = some (.slice A1_2 l1_2.length c1_2) ∧ w'.cell? ⟨gb262, 3, none⟩ = some (.slice A1_3 l1_3.length c1_3)) (ds := []) (fl 6 0) (by kernel_rfl) rfl rfl ⟨(blk_cell BK261.out 0).trans rfl, (blk_cell BK261.out 1).trans rfl, (blk_cell BK261.out 2).trans rfl, (blk_cell BK261.out 3).trans rfl, (blk_cell BK261.out 4).trans rfl, (blk_cell BK261.out 5).trans rfl, (blk_cell BK261.out 6).trans rfl, (blk_cell BK262.out 0).trans rfl, (blk_cell BK262.out 1).trans rfl, (blk_cell BK262.out 2).trans rfl, (blk_cell BK262.out 3).trans rfl⟩ (fun hHeld => ?_)
        generalize wc.drew = w34 at BK261 BK262 HB hHeld ⊢
        refine zpu 0 (some 18) (fl 6 1) ?_
        refine ztk 1 (some 19) (fl 6 3) hHeld ?_
        refine ztk 3 (some 21) (fl 6 11) hHeld ?_
        refine zone 2 (some 20) (fl 6 15) (fun K hK => ?_)
        refine zgo Try.func23 #[.agg #[.int .i64 a0_0, .int .i64 a0_1, .slice A0_2 l0_2.length c0_2, .slice A0_3 l0_3.length c0_3]] ?_
        with_reducible refine (impl_Figure_grid.calls a0_0 a0_1 _ _ l0_2 _ _ l0_3 t265 t266 _ ?side1 ?side2 ?side3 ?side4 A18.out).mono ?_
        (case side1 => exact zC HR0_2)
        (case side2 => exact HC0_2.out)
        (case side3 => exact zC HR0_3)
        (case side4 => exact HC0_3.out)
        rintro e w35 ⟨rfl, hb⟩
        refine ⟨_, rfl, ?_⟩
        replace BK261 := zKb BK261 hb
        replace BK262 := zKb BK262 hb
        replace HB := zBb hb
        (try clear hb)
        (try clear hb2)
        (try clear hk)
        (try clear hi)
        refine hK.out _ _ ⟨(blk_cell BK261.out 0).trans rfl, (blk_cell BK261.out 1).trans rfl, (blk_cell BK261.out 2).trans rfl, (blk_cell BK261.out 3).trans rfl, (blk_cell BK261.out 4).trans rfl, (blk_cell BK261.out 5).trans rfl, (blk_cell BK261.out 6).trans rfl, (blk_cell BK262.out 0).trans rfl, (blk_cell BK262.out 1).trans rfl, (blk_cell BK262.out 2).trans rfl, (blk_cell BK262.out 3).trans rfl⟩ (fun hHeld => ?_)
        clear hK K
        refine znm ?_
        refine zone 4 (some 22) (fl 6 31) (fun K hK => ?_)
        refine zgo Try.func23 #[.agg #[.int .i64 a1_0, .int .i64 a1_1, .slice A1_2 l1_2.length c1_2, .slice A1_3 l1_3.length c1_3]] ?_
        with_reducible refine (impl_Figure_grid.calls a1_0 a1_1 _ _ l1_2 _ _ l1_3 t267 t268 _ ?side1 ?side2 ?side3 ?side4 A19.out).mono ?_
        (case side1 => exact zC HR1_2)
        (case side2 => exact HC1_2.out)
        (case side3 => exact zC HR1_3)
        (case side4 => exact HC1_3.out)
        rintro e w36 ⟨rfl, hb⟩
        refine ⟨_, rfl, ?_⟩
        replace BK261 := zKb BK261 hb
        replace BK262 := zKb BK262 hb
        replace HB := zBb hb
        (try clear hb)
        (try clear hb2)
        (try clear hk)
        (try clear hi)
        refine hK.out _ _ ⟨(blk_cell BK261.out 0).trans rfl, (blk_cell BK261.out 1).trans rfl, (blk_cell BK261.out 2).trans rfl, (blk_cell BK261.out 3).trans rfl, (blk_cell BK261.out 4).trans rfl, (blk_cell BK261.out 5).trans rfl, (blk_cell BK261.out 6).trans rfl, (blk_cell BK262.out 0).trans rfl, (blk_cell BK262.out 1).trans rfl, (blk_cell BK262.out 2).trans rfl, (blk_cell BK262.out 3).trans rfl⟩ (fun hHeld => ?_)
        clear hK K
        refine znm ?_
        refine zpu 5 (some 23) (fl 6 63) ?_
        refine done_ (by kernel_rfl) ?_
        try go_wp2
        replace BK261 := Aside0.mk (blk_drew BK261.out)
        replace BK262 := Aside0.mk (blk_drew BK262.out)
        replace HB := Aside0.mk (below_drew1 HB.out)
        refine start_ (n := 7) (S := fun w' => w'.cell? ⟨gb262, 0, none⟩ = some (.int .i64 a1_0) ∧ w'.cell? ⟨gb262, 1, none⟩ = some (.int .i64 a1_1) ∧ w'.cell? ⟨gb262, 2, none⟩ = some (.slice A1_2 l1_2.length c1_2) ∧ w'.cell? ⟨gb262, 3, none⟩ = some (.slice A1_3 l1_3.length c1_3)) (ds := []) (fl 7 0) (by kernel_rfl) rfl rfl ⟨(blk_cell BK262.out 0).trans rfl, (blk_cell BK262.out 1).trans rfl, (blk_cell BK262.out 2).trans rfl, (blk_cell BK262.out 3).trans rfl⟩ (fun hHeld => ?_)
        generalize w36.drew = w37 at BK261 BK262 HB hHeld ⊢
        refine ztk 0 (some 24) (fl 7 1) hHeld ?_
        refine ztk 3 (some 27) (fl 7 9) hHeld ?_
        refine zone 1 (some 25) (fl 7 11) (fun K hK => ?_)
        refine zgo Try.func23 #[.agg #[.int .i64 a1_0, .int .i64 a1_1, .slice A1_2 l1_2.length c1_2, .slice A1_3 l1_3.length c1_3]] ?_
        with_reducible refine (impl_Figure_grid.calls a1_0 a1_1 _ _ l1_2 _ _ l1_3 t269 t270 _ ?side1 ?side2 ?side3 ?side4 A24.out).mono ?_
        (case side1 => exact zC HR1_2)
        (case side2 => exact HC1_2.out)
        (case side3 => exact zC HR1_3)
        (case side4 => exact HC1_3.out)
        rintro e w38 ⟨rfl, hb⟩
        refine ⟨_, rfl, ?_⟩
        replace BK261 := zKb BK261 hb
        replace BK262 := zKb BK262 hb
        replace HB := zBb hb
        (try clear hb)
        (try clear hb2)
        (try clear hk)
        (try clear hi)
        refine hK.out _ _ ⟨(blk_cell BK262.out 0).trans rfl, (blk_cell BK262.out 1).trans rfl, (blk_cell BK262.out 2).trans rfl, (blk_cell BK262.out 3).trans rfl⟩ (fun hHeld => ?_)
        clear hK K
        refine znm ?_
        refine zone 2 (some 26) (fl 7 15) (fun K hK => ?_)
        refine zgo Try.func24 #[.agg #[.int .i64 t269, .int .i64 t270]] ?_
        with_reducible refine (impl_grid_squares.calls kj2 t269 t270 t271 _ A25.out).mono ?_
        rintro e w39 ⟨v272, rfl, ho0, hb⟩
        refine ⟨_, rfl, ?_⟩
        have HO273 := Aside0.mk (Kd.R_lower ho0 (below_size zB))
        replace BK261 := zKb BK261 hb
        replace BK262 := zKb BK262 hb
        replace HB := zBb hb
        (try clear hb)
        (try clear hb2)
        (try clear hk)
        (try clear hi)
        (try clear ho0)
        refine hK.out _ _ ⟨(blk_cell BK262.out 0).trans rfl, (blk_cell BK262.out 1).trans rfl, (blk_cell BK262.out 2).trans rfl, (blk_cell BK262.out 3).trans rfl⟩ (fun hHeld => ?_)
        clear hK K
        refine znm ?_
        refine zone 4 (some 28) (fl 7 31) (fun K hK => ?_)
        refine zgo Try.func25 #[.agg #[.int .i64 a1_0, .int .i64 a1_1, .slice A1_2 l1_2.length c1_2, .slice A1_3 l1_3.length c1_3]] ?_
        with_reducible refine (impl_Figure_set.calls kj2 a1_0 a1_1 _ _ l1_2 _ _ l1_3 t274 _ ?side1 ?side2 ?side3 ?side4 A26.out).mono ?_
        (case side1 => exact zC HR1_2)
        (case side2 => exact HC1_2.out)
        (case side3 => exact zC HR1_3)
        (case side4 => exact HC1_3.out)
        rintro e w40 ⟨rfl, hb⟩
        refine ⟨_, rfl, ?_⟩
        replace HO273 := Aside0.mk (Kd.R_below (zR HO273) hb)
        replace BK261 := zKb BK261 hb
        replace BK262 := zKb BK262 hb
        replace HB := zBb hb
        (try clear hb)
        (try clear hb2)
        (try clear hk)
        (try clear hi)
        refine hK.out _ _ ⟨(blk_cell BK262.out 0).trans rfl, (blk_cell BK262.out 1).trans rfl, (blk_cell BK262.out 2).trans rfl, (blk_cell BK262.out 3).trans rfl⟩ (fun hHeld => ?_)
        clear hK K
        refine znm ?_
        refine zpu 5 (some 6) (fl 7 63) ?_
        refine zpu 6 (some 7) (fl 7 127) ?_
        refine done_ (by kernel_rfl) ?_
        have hnb41 := NB261_262.out
        have hnc41 := NB262_261.out
        have hcz42_0 : w40.cell? ⟨gb261, 0, none⟩ = some (.int .i64 a0_0) := (blk_cell BK261.out 0).trans rfl
        have hcz42_1 : w40.cell? ⟨gb261, 1, none⟩ = some (.int .i64 a0_1) := (blk_cell BK261.out 1).trans rfl
        have hcz42_2 : w40.cell? ⟨gb261, 2, none⟩ = some (.slice A0_2 l0_2.length c0_2) := (blk_cell BK261.out 2).trans rfl
        have hcz42_3 : w40.cell? ⟨gb261, 3, none⟩ = some (.slice A0_3 l0_3.length c0_3) := (blk_cell BK261.out 3).trans rfl
        have hcz42_4 : w40.cell? ⟨gb261, 4, none⟩ = some (.int .i64 a0_4) := (blk_cell BK261.out 4).trans rfl
        have hcz42_5 : w40.cell? ⟨gb261, 5, none⟩ = some (.bool true) := (blk_cell BK261.out 5).trans rfl
        have hcz42_6 : w40.cell? ⟨gb261, 6, none⟩ = some (.int .i64 a0_6) := (blk_cell BK261.out 6).trans rfl
        have hfz42_0 := blk_frozen BK261.out 0
        have hfz42_1 := blk_frozen BK261.out 1
        have hfz42_2 := blk_frozen BK261.out 2
        have hfz42_3 := blk_frozen BK261.out 3
        have hfz42_4 := blk_frozen BK261.out 4
        have hfz42_5 := blk_frozen BK261.out 5
        have hfz42_6 := blk_frozen BK261.out 6
        obtain ⟨hcz43_0, hcz43_1, hcz43_2, hcz43_3, hfz43_0, hfz43_1, hfz43_2, hfz43_3⟩ := blk4 BK262
        try go_wp2_with (first | ((with_reducible refine gate_callee (f := 26) rfl ?_); refine goesL_ (some 35) rfl rfl Try.func26 (by kernel_rfl) rfl #[.agg #[.int .i64 a0_0, .int .i64 a0_1, .slice A0_2 l0_2.length c0_2, .slice A0_3 l0_3.length c0_3], .agg #[.int .i64 a1_0, .int .i64 a1_1, .slice A1_2 l1_2.length c1_2, .slice A1_3 l1_3.length c1_3], .int .i64 a0_4] rfl zM ?_; (with_reducible refine (impl_IsTakeOf.calls kj2 a0_0 a0_1 _ _ l0_2 _ _ l0_3 a1_0 a1_1 _ _ l1_2 _ _ l1_3 a0_4 t275 t276 _ ?side1 ?side2 ?side3 ?side4 ?side5 ?side6 ?side7 ?side8 A27.out).mono ?_); (case side1 => exact zC HR0_2); (case side2 => exact HC0_2.out); (case side3 => exact zC HR0_3); (case side4 => exact HC0_3.out); (case side5 => exact zC HR1_2); (case side6 => exact HC1_2.out); (case side7 => exact zC HR1_3); (case side8 => exact HC1_3.out); rintro e w44 ⟨rfl, hb⟩; refine ⟨_, rfl, ?_⟩; replace HO273 := Aside0.mk (Kd.R_below (zR HO273) hb); replace BK261 := zKb BK261 hb; replace BK262 := zKb BK262 hb; replace HB := zBb hb; (try clear hb); (try clear hb2); (try clear hk); (try clear hi); have hcz45_0 : w44.cell? ⟨gb261, 0, none⟩ = some (.int .i64 a0_0) := (blk_cell BK261.out 0).trans rfl; have hcz45_1 : w44.cell? ⟨gb261, 1, none⟩ = some (.int .i64 a0_1) := (blk_cell BK261.out 1).trans rfl; have hcz45_2 : w44.cell? ⟨gb261, 2, none⟩ = some (.slice A0_2 l0_2.length c0_2) := (blk_cell BK261.out 2).trans rfl; have hcz45_3 : w44.cell? ⟨gb261, 3, none⟩ = some (.slice A0_3 l0_3.length c0_3) := (blk_cell BK261.out 3).trans rfl; have hcz45_4 : w44.cell? ⟨gb261, 4, none⟩ = some (.int .i64 a0_4) := (blk_cell BK261.out 4).trans rfl; have hcz45_5 : w44.cell? ⟨gb261, 5, none⟩ = some (.bool true) := (blk_cell BK261.out 5).trans rfl; have hcz45_6 : w44.cell? ⟨gb261, 6, none⟩ = some (.int .i64 a0_6) := (blk_cell BK261.out 6).trans rfl; have hfz45_0 := blk_frozen BK261.out 0; have hfz45_1 := blk_frozen BK261.out 1; have hfz45_2 := blk_frozen BK261.out 2; have hfz45_3 := blk_frozen BK261.out 3; have hfz45_4 := blk_frozen BK261.out 4; have hfz45_5 := blk_frozen BK261.out 5; have hfz45_6 := blk_frozen BK261.out 6; obtain ⟨hcz46_0, hcz46_1, hcz46_2, hcz46_3, hfz46_0, hfz46_1, hfz46_2, hfz46_3⟩ := blk4 BK262) | ((with_reducible refine gate_callee (f := 27) rfl ?_); refine goesL_ (some 46) rfl rfl Try.func27 (by kernel_rfl) rfl #[.agg #[.int .i64 a0_0, .int .i64 a0_1, .slice A0_2 l0_2.length c0_2, .slice A0_3 l0_3.length c0_3], .agg #[.int .i64 a1_0, .int .i64 a1_1, .slice A1_2 l1_2.length c1_2, .slice A1_3 l1_3.length c1_3], .int .i64 a0_4] rfl zM ?_; (with_reducible refine (impl_IsMoveOf.calls kj2 a0_0 a0_1 _ _ l0_2 _ _ l0_3 a1_0 a1_1 _ _ l1_2 _ _ l1_3 a0_4 true t278 _ ?side1 ?side2 ?side3 ?side4 ?side5 ?side6 ?side7 ?side8 A29.out).mono ?_); (case side1 => exact zC HR0_2); (case side2 => exact HC0_2.out); (case side3 => exact zC HR0_3); (case side4 => exact HC0_3.out); (case side5 => exact zC HR1_2); (case side6 => exact HC1_2.out); (case side7 => exact zC HR1_3); (case side8 => exact HC1_3.out); rintro e w47 ⟨rfl, hb⟩; refine ⟨_, rfl, ?_⟩; replace HO273 := Aside0.mk (Kd.R_below (zR HO273) hb); replace BK261 := zKb BK261 hb; replace BK262 := zKb BK262 hb; replace HB := zBb hb; (try clear hb); (try clear hb2); (try clear hk); (try clear hi)))
        replace HO273 := Aside0.mk (Kd.R_drew HO273.out)
        replace BK261 := Aside0.mk (blk_drew BK261.out)
        replace BK262 := Aside0.mk (blk_drew BK262.out)
        replace HB := Aside0.mk (below_drew1 HB.out)
        obtain ⟨Ao49, co49, eo49⟩ := Kd.R_slice HO273.out
        (first | subst eo49 | (injection eo49 with f1_ f2_ f3_; have f4_ := f1_.symm; have f5_ := f3_.symm; clear f1_ f2_ f3_; subst f4_; subst f5_))
        refine start_ (n := 17) (S := fun w' => w'.cell? ⟨gb261, 0, none⟩ = some (.int .i64 a0_0) ∧ w'.cell? ⟨gb261, 1, none⟩ = some (.int .i64 a0_1) ∧ w'.cell? ⟨gb261, 2, none⟩ = some (.slice A0_2 l0_2.length c0_2) ∧ w'.cell? ⟨gb261, 3, none⟩ = some (.slice A0_3 l0_3.length c0_3) ∧ w'.cell? ⟨gb261, 4, none⟩ = some (.int .i64 a0_4) ∧ w'.cell? ⟨gb261, 5, none⟩ = some (.bool true) ∧ w'.cell? ⟨gb261, 6, none⟩ = some (.int .i64 a0_6)) (ds := []) (fl 17 0) (by kernel_rfl) rfl rfl ⟨(blk_cell BK261.out 0).trans rfl, (blk_cell BK261.out 1).trans rfl, (blk_cell BK261.out 2).trans rfl, (blk_cell BK261.out 3).trans rfl, (blk_cell BK261.out 4).trans rfl, (blk_cell BK261.out 5).trans rfl, (blk_cell BK261.out 6).trans rfl⟩ (fun hHeld => ?_); refine with_tabW impl_IsSolution.tab9 impl_IsSolution.bits9 (fun HT_ HW_ => ?_)
        generalize w47.drew = w48 at HO273 BK261 BK262 HB hHeld ⊢
        refine zpu 0 (some 49) (fl 17 1) ?_
        refine zpu 1 (some 50) (fl 17 3) ?_
        refine zpu 2 (some 51) (fl 17 7) ?_
        refine zpu 3 (some 52) (fl 17 15) ?_
        refine zpu 5 (some 54) (fl 17 47) ?_
        refine ztk 6 (some 55) (fl 17 111) hHeld ?_
        refine zone 4 (some 53) (fl 17 127) (fun K hK => ?_)
        refine zgo Try.func28 #[.slice Ao49 t271.length co49, .int .u64 t274] ?_
        with_reducible refine (impl_countOf.calls kj2 _ _ t271 t274 t279 _ ?side1 ?side2 A31.out).mono ?_
        (case side1 => repeat (first | exact (Kd.R_reads' HO273.out).2.2 | (with_reducible refine Kd.C_alloc ?_ _) | (with_reducible refine Kd.C_drewN ?_ _) | (with_reducible refine Kd.C_drew ?_)))
        (case side2 => exact (Kd.R_reads' HO273.out).2.1)
        rintro e w50 ⟨rfl, hb⟩
        refine ⟨_, rfl, ?_⟩
        replace HO273 := Aside0.mk (Kd.R_below (zR HO273) hb)
        replace BK261 := zKb BK261 hb
        replace BK262 := zKb BK262 hb
        replace HB := zBb hb
        (try clear hb)
        (try clear hb2)
        (try clear hk)
        (try clear hi)
        refine hK.out _ _ ⟨(blk_cell BK261.out 0).trans rfl, (blk_cell BK261.out 1).trans rfl, (blk_cell BK261.out 2).trans rfl, (blk_cell BK261.out 3).trans rfl, (blk_cell BK261.out 4).trans rfl, (blk_cell BK261.out 5).trans rfl, (blk_cell BK261.out 6).trans rfl⟩ (fun hHeld => ?_)
        clear hK K
        refine znm ?_
        refine zpu 7 (some 56) (fl 17 255) ?_
        refine zpu 8 (some 57) (fl 17 511) ?_
        refine zpu 9 (some 58) (fl 17 1023) ?_
        refine zpu 10 (some 59) (fl 17 2047) ?_
        refine zpu 11 (some 60) (fl 17 4095) ?_
        refine zone 12 (some 61) (fl 17 8191) (fun K hK => ?_)
        refine zgo Try.func29 #[.slice Ao49 t271.length co49, .int .u64 t274] ?_
        with_reducible refine (impl_needless.calls kj2 _ _ t271 t274 t280 _ ?side1 ?side2 A33.out).mono ?_
        (case side1 => repeat (first | exact (Kd.R_reads' HO273.out).2.2 | (with_reducible refine Kd.C_alloc ?_ _) | (with_reducible refine Kd.C_drewN ?_ _) | (with_reducible refine Kd.C_drew ?_)))
        (case side2 => exact (Kd.R_reads' HO273.out).2.1)
        rintro e w51 ⟨rfl, hb⟩
        refine ⟨_, rfl, ?_⟩
        replace HO273 := Aside0.mk (Kd.R_below (zR HO273) hb)
        replace BK261 := zKb BK261 hb
        replace BK262 := zKb BK262 hb
        replace HB := zBb hb
        (try clear hb)
        (try clear hb2)
        (try clear hk)
        (try clear hi)
        refine hK.out _ _ ⟨(blk_cell BK261.out 0).trans rfl, (blk_cell BK261.out 1).trans rfl, (blk_cell BK261.out 2).trans rfl, (blk_cell BK261.out 3).trans rfl, (blk_cell BK261.out 4).trans rfl, (blk_cell BK261.out 5).trans rfl, (blk_cell BK261.out 6).trans rfl⟩ (fun hHeld => ?_)
        clear hK K
        refine znm ?_
        refine zpu 13 (some 62) (fl 17 16383) ?_
        refine zpu 14 (some 63) (fl 17 32767) ?_
        refine zpu 15 (some 4) (fl 17 65535) ?_
        refine zpu 16 (some 5) (fl 17 131071) ?_
        refine done_ (done_of HT_.out (by kernel_rfl)) ?_
        try go_wp2
        go_ret2
        exact ⟨by first | rfl | (simp [errW_none, errW_some] <;> rfl) | (simp [*, errW_none, errW_some] <;> rfl), by repeat (first | (with_reducible first | exact HB.out | apply below_alloc | apply pw_below_drewN | apply below_drew1 | refine below_set ?_ GE261.out | refine below_set ?_ GE262.out) | exact HB.out)⟩
       ·rw [if_neg c32] at H
        have c32b0 : (t279 == a0_6) = false := beq_eq_false_iff_ne.mpr c32
        have c32b1 : (t279 != a0_6) = true := bne_iff_ne.mpr c32
        simp only [Option.some.injEq, Prod.mk.injEq] at H
        obtain ⟨rfl, rfl⟩ := H
        try go_wp2
        replace BK261 := Aside0.mk (blk_drew BK261.out)
        replace BK262 := Aside0.mk (blk_drew BK262.out)
        replace HB := Aside0.mk (below_drew1 HB.out)
        refine start_ (n := 6) (S := fun w' => w'.cell? ⟨gb261, 0, none⟩ = some (.int .i64 a0_0) ∧ w'.cell? ⟨gb261, 1, none⟩ = some (.int .i64 a0_1) ∧ w'.cell? ⟨gb261, 2, none⟩ = some (.slice A0_2 l0_2.length c0_2) ∧ w'.cell? ⟨gb261, 3, none⟩ = some (.slice A0_3 l0_3.length c0_3) ∧ w'.cell? ⟨gb261, 4, none⟩ = some (.int .i64 a0_4) ∧ w'.cell? ⟨gb261, 5, none⟩ = some (.bool true) ∧ w'.cell? ⟨gb261, 6, none⟩ = some (.int .i64 a0_6) ∧ w'.cell? ⟨gb262, 0, none⟩ = some (.int .i64 a1_0) ∧ w'.cell? ⟨gb262, 1, none⟩ = some (.int .i64 a1_1) ∧ w'.cell? ⟨gb262, 2, none⟩ = some (.slice A1_2 l1_2.length c1_2) ∧ w'.cell? ⟨gb262, 3, none⟩ = some (.slice A1_3 l1_3.length c1_3)) (ds := []) (fl 6 0) (by kernel_rfl) rfl rfl ⟨(blk_cell BK261.out 0).trans rfl, (blk_cell BK261.out 1).trans rfl, (blk_cell BK261.out 2).trans rfl, (blk_cell BK261.out 3).trans rfl, (blk_cell BK261.out 4).trans rfl, (blk_cell BK261.out 5).trans rfl, (blk_cell BK261.out 6).trans rfl, (blk_cell BK262.out 0).trans rfl, (blk_cell BK262.out 1).trans rfl, (blk_cell BK262.out 2).trans rfl, (blk_cell BK262.out 3).trans rfl⟩ (fun hHeld => ?_)
        generalize wc.drew = w52 at BK261 BK262 HB hHeld ⊢
        refine zpu 0 (some 18) (fl 6 1) ?_
        refine ztk 1 (some 19) (fl 6 3) hHeld ?_
        refine ztk 3 (some 21) (fl 6 11) hHeld ?_
        refine zone 2 (some 20) (fl 6 15) (fun K hK => ?_)
        refine zgo Try.func23 #[.agg #[.int .i64 a0_0, .int .i64 a0_1, .slice A0_2 l0_2.length c0_2, .slice A0_3 l0_3.length c0_3]] ?_
        with_reducible refine (impl_Figure_grid.calls a0_0 a0_1 _ _ l0_2 _ _ l0_3 t265 t266 _ ?side1 ?side2 ?side3 ?side4 A18.out).mono ?_
        (case side1 => exact zC HR0_2)
        (case side2 => exact HC0_2.out)
        (case side3 => exact zC HR0_3)
        (case side4 => exact HC0_3.out)
        rintro e w53 ⟨rfl, hb⟩
        refine ⟨_, rfl, ?_⟩
        replace BK261 := zKb BK261 hb
        replace BK262 := zKb BK262 hb
        replace HB := zBb hb
        (try clear hb)
        (try clear hb2)
        (try clear hk)
        (try clear hi)
        refine hK.out _ _ ⟨(blk_cell BK261.out 0).trans rfl, (blk_cell BK261.out 1).trans rfl, (blk_cell BK261.out 2).trans rfl, (blk_cell BK261.out 3).trans rfl, (blk_cell BK261.out 4).trans rfl, (blk_cell BK261.out 5).trans rfl, (blk_cell BK261.out 6).trans rfl, (blk_cell BK262.out 0).trans rfl, (blk_cell BK262.out 1).trans rfl, (blk_cell BK262.out 2).trans rfl, (blk_cell BK262.out 3).trans rfl⟩ (fun hHeld => ?_)
        clear hK K
        refine znm ?_
        refine zone 4 (some 22) (fl 6 31) (fun K hK => ?_)
        refine zgo Try.func23 #[.agg #[.int .i64 a1_0, .int .i64 a1_1, .slice A1_2 l1_2.length c1_2, .slice A1_3 l1_3.length c1_3]] ?_
        with_reducible refine (impl_Figure_grid.calls a1_0 a1_1 _ _ l1_2 _ _ l1_3 t267 t268 _ ?side1 ?side2 ?side3 ?side4 A19.out).mono ?_
        (case side1 => exact zC HR1_2)
        (case side2 => exact HC1_2.out)
        (case side3 => exact zC HR1_3)
        (case side4 => exact HC1_3.out)
        rintro e w54 ⟨rfl, hb⟩
        refine ⟨_, rfl, ?_⟩
        replace BK261 := zKb BK261 hb
        replace BK262 := zKb BK262 hb
        replace HB := zBb hb
        (try clear hb)
        (try clear hb2)
        (try clear hk)
        (try clear hi)
        refine hK.out _ _ ⟨(blk_cell BK261.out 0).trans rfl, (blk_cell BK261.out 1).trans rfl, (blk_cell BK261.out 2).trans rfl, (blk_cell BK261.out 3).trans rfl, (blk_cell BK261.out 4).trans rfl, (blk_cell BK261.out 5).trans rfl, (blk_cell BK261.out 6).trans rfl, (blk_cell BK262.out 0).trans rfl, (blk_cell BK262.out 1).trans rfl, (blk_cell BK262.out 2).trans rfl, (blk_cell BK262.out 3).trans rfl⟩ (fun hHeld => ?_)
        clear hK K
        refine znm ?_
        refine zpu 5 (some 23) (fl 6 63) ?_
        refine done_ (by kernel_rfl) ?_
        try go_wp2
        replace BK261 := Aside0.mk (blk_drew BK261.out)
        replace BK262 := Aside0.mk (blk_drew BK262.out)
        replace HB := Aside0.mk (below_drew1 HB.out)
        refine start_ (n := 7) (S := fun w' => w'.cell? ⟨gb262, 0, none⟩ = some (.int .i64 a1_0) ∧ w'.cell? ⟨gb262, 1, none⟩ = some (.int .i64 a1_1) ∧ w'.cell? ⟨gb262, 2, none⟩ = some (.slice A1_2 l1_2.length c1_2) ∧ w'.cell? ⟨gb262, 3, none⟩ = some (.slice A1_3 l1_3.length c1_3)) (ds := []) (fl 7 0) (by kernel_rfl) rfl rfl ⟨(blk_cell BK262.out 0).trans rfl, (blk_cell BK262.out 1).trans rfl, (blk_cell BK262.out 2).trans rfl, (blk_cell BK262.out 3).trans rfl⟩ (fun hHeld => ?_)
        generalize w54.drew = w55 at BK261 BK262 HB hHeld ⊢
        refine ztk 0 (some 24) (fl 7 1) hHeld ?_
        refine ztk 3 (some 27) (fl 7 9) hHeld ?_
        refine zone 1 (some 25) (fl 7 11) (fun K hK => ?_)
        refine zgo Try.func23 #[.agg #[.int .i64 a1_0, .int .i64 a1_1, .slice A1_2 l1_2.length c1_2, .slice A1_3 l1_3.length c1_3]] ?_
        with_reducible refine (impl_Figure_grid.calls a1_0 a1_1 _ _ l1_2 _ _ l1_3 t269 t270 _ ?side1 ?side2 ?side3 ?side4 A24.out).mono ?_
        (case side1 => exact zC HR1_2)
        (case side2 => exact HC1_2.out)
        (case side3 => exact zC HR1_3)
        (case side4 => exact HC1_3.out)
        rintro e w56 ⟨rfl, hb⟩
        refine ⟨_, rfl, ?_⟩
        replace BK261 := zKb BK261 hb
        replace BK262 := zKb BK262 hb
        replace HB := zBb hb
        (try clear hb)
        (try clear hb2)
        (try clear hk)
        (try clear hi)
        refine hK.out _ _ ⟨(blk_cell BK262.out 0).trans rfl, (blk_cell BK262.out 1).trans rfl, (blk_cell BK262.out 2).trans rfl, (blk_cell BK262.out 3).trans rfl⟩ (fun hHeld => ?_)
        clear hK K
        refine znm ?_
        refine zone 2 (some 26) (fl 7 15) (fun K hK => ?_)
        refine zgo Try.func24 #[.agg #[.int .i64 t269, .int .i64 t270]] ?_
        with_reducible refine (impl_grid_squares.calls kj2 t269 t270 t271 _ A25.out).mono ?_
        rintro e w57 ⟨v272, rfl, ho0, hb⟩
        refine ⟨_, rfl, ?_⟩
        have HO273 := Aside0.mk (Kd.R_lower ho0 (below_size zB))
        replace BK261 := zKb BK261 hb
        replace BK262 := zKb BK262 hb
        replace HB := zBb hb
        (try clear hb)
        (try clear hb2)
        (try clear hk)
        (try clear hi)
        (try clear ho0)
        refine hK.out _ _ ⟨(blk_cell BK262.out 0).trans rfl, (blk_cell BK262.out 1).trans rfl, (blk_cell BK262.out 2).trans rfl, (blk_cell BK262.out 3).trans rfl⟩ (fun hHeld => ?_)
        clear hK K
        refine znm ?_
        refine zone 4 (some 28) (fl 7 31) (fun K hK => ?_)
        refine zgo Try.func25 #[.agg #[.int .i64 a1_0, .int .i64 a1_1, .slice A1_2 l1_2.length c1_2, .slice A1_3 l1_3.length c1_3]] ?_
        with_reducible refine (impl_Figure_set.calls kj2 a1_0 a1_1 _ _ l1_2 _ _ l1_3 t274 _ ?side1 ?side2 ?side3 ?side4 A26.out).mono ?_
        (case side1 => exact zC HR1_2)
        (case side2 => exact HC1_2.out)
        (case side3 => exact zC HR1_3)
        (case side4 => exact HC1_3.out)
        rintro e w58 ⟨rfl, hb⟩
        refine ⟨_, rfl, ?_⟩
        replace HO273 := Aside0.mk (Kd.R_below (zR HO273) hb)
        replace BK261 := zKb BK261 hb
        replace BK262 := zKb BK262 hb
        replace HB := zBb hb
        (try clear hb)
        (try clear hb2)
        (try clear hk)
        (try clear hi)
        refine hK.out _ _ ⟨(blk_cell BK262.out 0).trans rfl, (blk_cell BK262.out 1).trans rfl, (blk_cell BK262.out 2).trans rfl, (blk_cell BK262.out 3).trans rfl⟩ (fun hHeld => ?_)
        clear hK K
        refine znm ?_
        refine zpu 5 (some 6) (fl 7 63) ?_
        refine zpu 6 (some 7) (fl 7 127) ?_
        refine done_ (by kernel_rfl) ?_
        have hnb59 := NB261_262.out
        have hnc59 := NB262_261.out
        have hcz60_0 : w58.cell? ⟨gb261, 0, none⟩ = some (.int .i64 a0_0) := (blk_cell BK261.out 0).trans rfl
        have hcz60_1 : w58.cell? ⟨gb261, 1, none⟩ = some (.int .i64 a0_1) := (blk_cell BK261.out 1).trans rfl
        have hcz60_2 : w58.cell? ⟨gb261, 2, none⟩ = some (.slice A0_2 l0_2.length c0_2) := (blk_cell BK261.out 2).trans rfl
        have hcz60_3 : w58.cell? ⟨gb261, 3, none⟩ = some (.slice A0_3 l0_3.length c0_3) := (blk_cell BK261.out 3).trans rfl
        have hcz60_4 : w58.cell? ⟨gb261, 4, none⟩ = some (.int .i64 a0_4) := (blk_cell BK261.out 4).trans rfl
        have hcz60_5 : w58.cell? ⟨gb261, 5, none⟩ = some (.bool true) := (blk_cell BK261.out 5).trans rfl
        have hcz60_6 : w58.cell? ⟨gb261, 6, none⟩ = some (.int .i64 a0_6) := (blk_cell BK261.out 6).trans rfl
        have hfz60_0 := blk_frozen BK261.out 0
        have hfz60_1 := blk_frozen BK261.out 1
        have hfz60_2 := blk_frozen BK261.out 2
        have hfz60_3 := blk_frozen BK261.out 3
        have hfz60_4 := blk_frozen BK261.out 4
        have hfz60_5 := blk_frozen BK261.out 5
        have hfz60_6 := blk_frozen BK261.out 6
        obtain ⟨hcz61_0, hcz61_1, hcz61_2, hcz61_3, hfz61_0, hfz61_1, hfz61_2, hfz61_3⟩ := blk4 BK262
        try go_wp2_with (first | ((with_reducible refine gate_callee (f := 26) rfl ?_); refine goesL_ (some 35) rfl rfl Try.func26 (by kernel_rfl) rfl #[.agg #[.int .i64 a0_0, .int .i64 a0_1, .slice A0_2 l0_2.length c0_2, .slice A0_3 l0_3.length c0_3], .agg #[.int .i64 a1_0, .int .i64 a1_1, .slice A1_2 l1_2.length c1_2, .slice A1_3 l1_3.length c1_3], .int .i64 a0_4] rfl zM ?_; (with_reducible refine (impl_IsTakeOf.calls kj2 a0_0 a0_1 _ _ l0_2 _ _ l0_3 a1_0 a1_1 _ _ l1_2 _ _ l1_3 a0_4 t275 t276 _ ?side1 ?side2 ?side3 ?side4 ?side5 ?side6 ?side7 ?side8 A27.out).mono ?_); (case side1 => exact zC HR0_2); (case side2 => exact HC0_2.out); (case side3 => exact zC HR0_3); (case side4 => exact HC0_3.out); (case side5 => exact zC HR1_2); (case side6 => exact HC1_2.out); (case side7 => exact zC HR1_3); (case side8 => exact HC1_3.out); rintro e w62 ⟨rfl, hb⟩; refine ⟨_, rfl, ?_⟩; replace HO273 := Aside0.mk (Kd.R_below (zR HO273) hb); replace BK261 := zKb BK261 hb; replace BK262 := zKb BK262 hb; replace HB := zBb hb; (try clear hb); (try clear hb2); (try clear hk); (try clear hi); have hcz63_0 : w62.cell? ⟨gb261, 0, none⟩ = some (.int .i64 a0_0) := (blk_cell BK261.out 0).trans rfl; have hcz63_1 : w62.cell? ⟨gb261, 1, none⟩ = some (.int .i64 a0_1) := (blk_cell BK261.out 1).trans rfl; have hcz63_2 : w62.cell? ⟨gb261, 2, none⟩ = some (.slice A0_2 l0_2.length c0_2) := (blk_cell BK261.out 2).trans rfl; have hcz63_3 : w62.cell? ⟨gb261, 3, none⟩ = some (.slice A0_3 l0_3.length c0_3) := (blk_cell BK261.out 3).trans rfl; have hcz63_4 : w62.cell? ⟨gb261, 4, none⟩ = some (.int .i64 a0_4) := (blk_cell BK261.out 4).trans rfl; have hcz63_5 : w62.cell? ⟨gb261, 5, none⟩ = some (.bool true) := (blk_cell BK261.out 5).trans rfl; have hcz63_6 : w62.cell? ⟨gb261, 6, none⟩ = some (.int .i64 a0_6) := (blk_cell BK261.out 6).trans rfl; have hfz63_0 := blk_frozen BK261.out 0; have hfz63_1 := blk_frozen BK261.out 1; have hfz63_2 := blk_frozen BK261.out 2; have hfz63_3 := blk_frozen BK261.out 3; have hfz63_4 := blk_frozen BK261.out 4; have hfz63_5 := blk_frozen BK261.out 5; have hfz63_6 := blk_frozen BK261.out 6; obtain ⟨hcz64_0, hcz64_1, hcz64_2, hcz64_3, hfz64_0, hfz64_1, hfz64_2, hfz64_3⟩ := blk4 BK262) | ((with_reducible refine gate_callee (f := 27) rfl ?_); refine goesL_ (some 46) rfl rfl Try.func27 (by kernel_rfl) rfl #[.agg #[.int .i64 a0_0, .int .i64 a0_1, .slice A0_2 l0_2.length c0_2, .slice A0_3 l0_3.length c0_3], .agg #[.int .i64 a1_0, .int .i64 a1_1, .slice A1_2 l1_2.length c1_2, .slice A1_3 l1_3.length c1_3], .int .i64 a0_4] rfl zM ?_; (with_reducible refine (impl_IsMoveOf.calls kj2 a0_0 a0_1 _ _ l0_2 _ _ l0_3 a1_0 a1_1 _ _ l1_2 _ _ l1_3 a0_4 true t278 _ ?side1 ?side2 ?side3 ?side4 ?side5 ?side6 ?side7 ?side8 A29.out).mono ?_); (case side1 => exact zC HR0_2); (case side2 => exact HC0_2.out); (case side3 => exact zC HR0_3); (case side4 => exact HC0_3.out); (case side5 => exact zC HR1_2); (case side6 => exact HC1_2.out); (case side7 => exact zC HR1_3); (case side8 => exact HC1_3.out); rintro e w65 ⟨rfl, hb⟩; refine ⟨_, rfl, ?_⟩; replace HO273 := Aside0.mk (Kd.R_below (zR HO273) hb); replace BK261 := zKb BK261 hb; replace BK262 := zKb BK262 hb; replace HB := zBb hb; (try clear hb); (try clear hb2); (try clear hk); (try clear hi)))
        replace HO273 := Aside0.mk (Kd.R_drew HO273.out)
        replace BK261 := Aside0.mk (blk_drew BK261.out)
        replace BK262 := Aside0.mk (blk_drew BK262.out)
        replace HB := Aside0.mk (below_drew1 HB.out)
        obtain ⟨Ao67, co67, eo67⟩ := Kd.R_slice HO273.out
        (first | subst eo67 | (injection eo67 with f1_ f2_ f3_; have f4_ := f1_.symm; have f5_ := f3_.symm; clear f1_ f2_ f3_; subst f4_; subst f5_))
        refine start_ (n := 17) (S := fun w' => w'.cell? ⟨gb261, 0, none⟩ = some (.int .i64 a0_0) ∧ w'.cell? ⟨gb261, 1, none⟩ = some (.int .i64 a0_1) ∧ w'.cell? ⟨gb261, 2, none⟩ = some (.slice A0_2 l0_2.length c0_2) ∧ w'.cell? ⟨gb261, 3, none⟩ = some (.slice A0_3 l0_3.length c0_3) ∧ w'.cell? ⟨gb261, 4, none⟩ = some (.int .i64 a0_4) ∧ w'.cell? ⟨gb261, 5, none⟩ = some (.bool true) ∧ w'.cell? ⟨gb261, 6, none⟩ = some (.int .i64 a0_6)) (ds := []) (fl 17 0) (by kernel_rfl) rfl rfl ⟨(blk_cell BK261.out 0).trans rfl, (blk_cell BK261.out 1).trans rfl, (blk_cell BK261.out 2).trans rfl, (blk_cell BK261.out 3).trans rfl, (blk_cell BK261.out 4).trans rfl, (blk_cell BK261.out 5).trans rfl, (blk_cell BK261.out 6).trans rfl⟩ (fun hHeld => ?_); refine with_tabW impl_IsSolution.tab9 impl_IsSolution.bits9 (fun HT_ HW_ => ?_)
        generalize w65.drew = w66 at HO273 BK261 BK262 HB hHeld ⊢
        refine zpu 0 (some 49) (fl 17 1) ?_
        refine zpu 1 (some 50) (fl 17 3) ?_
        refine zpu 2 (some 51) (fl 17 7) ?_
        refine zpu 3 (some 52) (fl 17 15) ?_
        refine zpu 5 (some 54) (fl 17 47) ?_
        refine ztk 6 (some 55) (fl 17 111) hHeld ?_
        refine zone 4 (some 53) (fl 17 127) (fun K hK => ?_)
        refine zgo Try.func28 #[.slice Ao67 t271.length co67, .int .u64 t274] ?_
        with_reducible refine (impl_countOf.calls kj2 _ _ t271 t274 t279 _ ?side1 ?side2 A31.out).mono ?_
        (case side1 => repeat (first | exact (Kd.R_reads' HO273.out).2.2 | (with_reducible refine Kd.C_alloc ?_ _) | (with_reducible refine Kd.C_drewN ?_ _) | (with_reducible refine Kd.C_drew ?_)))
        (case side2 => exact (Kd.R_reads' HO273.out).2.1)
        rintro e w68 ⟨rfl, hb⟩
        refine ⟨_, rfl, ?_⟩
        replace HO273 := Aside0.mk (Kd.R_below (zR HO273) hb)
        replace BK261 := zKb BK261 hb
        replace BK262 := zKb BK262 hb
        replace HB := zBb hb
        (try clear hb)
        (try clear hb2)
        (try clear hk)
        (try clear hi)
        refine hK.out _ _ ⟨(blk_cell BK261.out 0).trans rfl, (blk_cell BK261.out 1).trans rfl, (blk_cell BK261.out 2).trans rfl, (blk_cell BK261.out 3).trans rfl, (blk_cell BK261.out 4).trans rfl, (blk_cell BK261.out 5).trans rfl, (blk_cell BK261.out 6).trans rfl⟩ (fun hHeld => ?_)
        clear hK K
        refine znm ?_
        refine zpu 7 (some 56) (fl 17 255) ?_
        refine zpu 8 (some 57) (fl 17 511) ?_
        refine zpu 9 (some 58) (fl 17 1023) ?_
        refine zpn 10 (some 59) (fl 17 2047) ?_
        refine zpn 11 (some 60) (fl 17 4095) ?_
        refine zpn 12 (some 61) (fl 17 8191) ?_
        refine zpn 13 (some 62) (fl 17 16383) ?_
        refine zpu 14 (some 63) (fl 17 32767) ?_
        refine zpu 15 (some 4) (fl 17 65535) ?_
        refine zpu 16 (some 5) (fl 17 131071) ?_
        refine done_ (done_of HT_.out (by kernel_rfl)) ?_
        try go_wp2
        go_ret2
        exact ⟨by first | rfl | (simp [errW_none, errW_some] <;> rfl) | (simp [*, errW_none, errW_some] <;> rfl), by repeat (first | (with_reducible first | exact HB.out | apply below_alloc | apply pw_below_drewN | apply below_drew1 | refine below_set ?_ GE261.out | refine below_set ?_ GE262.out) | exact HB.out)⟩
      ·replace c30 := Bool.eq_false_iff.mpr c30
       subst c30
       have H1 : (some (false, true)) = some (r1, r2) := by rw [if_neg (show ¬ (false = true) by decide)] at H; exact H
       clear H
       have H := H1
       clear H1
       simp only [Option.some.injEq, Prod.mk.injEq] at H
       obtain ⟨rfl, rfl⟩ := H
       try go_wp2
       replace BK261 := Aside0.mk (blk_drew BK261.out)
       replace BK262 := Aside0.mk (blk_drew BK262.out)
       replace HB := Aside0.mk (below_drew1 HB.out)
       refine start_ (n := 6) (S := fun w' => w'.cell? ⟨gb261, 0, none⟩ = some (.int .i64 a0_0) ∧ w'.cell? ⟨gb261, 1, none⟩ = some (.int .i64 a0_1) ∧ w'.cell? ⟨gb261, 2, none⟩ = some (.slice A0_2 l0_2.length c0_2) ∧ w'.cell? ⟨gb261, 3, none⟩ = some (.slice A0_3 l0_3.length c0_3) ∧ w'.cell? ⟨gb261, 4, none⟩ = some (.int .i64 a0_4) ∧ w'.cell? ⟨gb261, 5, none⟩ = some (.bool true) ∧ w'.cell? ⟨gb261, 6, none⟩ = some (.int .i64 a0_6) ∧ w'.cell? ⟨gb262, 0, none⟩ = some (.int .i64 a1_0) ∧ w'.cell? ⟨gb262, 1, none⟩ = some (.int .i64 a1_1) ∧ w'.cell? ⟨gb262, 2, none⟩ = some (.slice A1_2 l1_2.length c1_2) ∧ w'.cell? ⟨gb262, 3, none⟩ = some (.slice A1_3 l1_3.length c1_3)) (ds := []) (fl 6 0) (by kernel_rfl) rfl rfl ⟨(blk_cell BK261.out 0).trans rfl, (blk_cell BK261.out 1).trans rfl, (blk_cell BK261.out 2).trans rfl, (blk_cell BK261.out 3).trans rfl, (blk_cell BK261.out 4).trans rfl, (blk_cell BK261.out 5).trans rfl, (blk_cell BK261.out 6).trans rfl, (blk_cell BK262.out 0).trans rfl, (blk_cell BK262.out 1).trans rfl, (blk_cell BK262.out 2).trans rfl, (blk_cell BK262.out 3).trans rfl⟩ (fun hHeld => ?_)
       generalize wc.drew = w69 at BK261 BK262 HB hHeld ⊢
       refine zpu 0 (some 18) (fl 6 1) ?_
       refine ztk 1 (some 19) (fl 6 3) hHeld ?_
       refine ztk 3 (some 21) (fl 6 11) hHeld ?_
       refine zone 2 (some 20) (fl 6 15) (fun K hK => ?_)
       refine zgo Try.func23 #[.agg #[.int .i64 a0_0, .int .i64 a0_1, .slice A0_2 l0_2.length c0_2, .slice A0_3 l0_3.length c0_3]] ?_
       with_reducible refine (impl_Figure_grid.calls a0_0 a0_1 _ _ l0_2 _ _ l0_3 t265 t266 _ ?side1 ?side2 ?side3 ?side4 A18.out).mono ?_
       (case side1 => exact zC HR0_2)
       (case side2 => exact HC0_2.out)
       (case side3 => exact zC HR0_3)
       (case side4 => exact HC0_3.out)
       rintro e w70 ⟨rfl, hb⟩
       refine ⟨_, rfl, ?_⟩
       replace BK261 := zKb BK261 hb
       replace BK262 := zKb BK262 hb
       replace HB := zBb hb
       (try clear hb)
       (try clear hb2)
       (try clear hk)
       (try clear hi)
       refine hK.out _ _ ⟨(blk_cell BK261.out 0).trans rfl, (blk_cell BK261.out 1).trans rfl, (blk_cell BK261.out 2).trans rfl, (blk_cell BK261.out 3).trans rfl, (blk_cell BK261.out 4).trans rfl, (blk_cell BK261.out 5).trans rfl, (blk_cell BK261.out 6).trans rfl, (blk_cell BK262.out 0).trans rfl, (blk_cell BK262.out 1).trans rfl, (blk_cell BK262.out 2).trans rfl, (blk_cell BK262.out 3).trans rfl⟩ (fun hHeld => ?_)
       clear hK K
       refine znm ?_
       refine zone 4 (some 22) (fl 6 31) (fun K hK => ?_)
       refine zgo Try.func23 #[.agg #[.int .i64 a1_0, .int .i64 a1_1, .slice A1_2 l1_2.length c1_2, .slice A1_3 l1_3.length c1_3]] ?_
       with_reducible refine (impl_Figure_grid.calls a1_0 a1_1 _ _ l1_2 _ _ l1_3 t267 t268 _ ?side1 ?side2 ?side3 ?side4 A19.out).mono ?_
       (case side1 => exact zC HR1_2)
       (case side2 => exact HC1_2.out)
       (case side3 => exact zC HR1_3)
       (case side4 => exact HC1_3.out)
       rintro e w71 ⟨rfl, hb⟩
       refine ⟨_, rfl, ?_⟩
       replace BK261 := zKb BK261 hb
       replace BK262 := zKb BK262 hb
       replace HB := zBb hb
       (try clear hb)
       (try clear hb2)
       (try clear hk)
       (try clear hi)
       refine hK.out _ _ ⟨(blk_cell BK261.out 0).trans rfl, (blk_cell BK261.out 1).trans rfl, (blk_cell BK261.out 2).trans rfl, (blk_cell BK261.out 3).trans rfl, (blk_cell BK261.out 4).trans rfl, (blk_cell BK261.out 5).trans rfl, (blk_cell BK261.out 6).trans rfl, (blk_cell BK262.out 0).trans rfl, (blk_cell BK262.out 1).trans rfl, (blk_cell BK262.out 2).trans rfl, (blk_cell BK262.out 3).trans rfl⟩ (fun hHeld => ?_)
       clear hK K
       refine znm ?_
       refine zpu 5 (some 23) (fl 6 63) ?_
       refine done_ (by kernel_rfl) ?_
       try go_wp2
       replace BK261 := Aside0.mk (blk_drew BK261.out)
       replace BK262 := Aside0.mk (blk_drew BK262.out)
       replace HB := Aside0.mk (below_drew1 HB.out)
       refine start_ (n := 7) (S := fun w' => w'.cell? ⟨gb262, 0, none⟩ = some (.int .i64 a1_0) ∧ w'.cell? ⟨gb262, 1, none⟩ = some (.int .i64 a1_1) ∧ w'.cell? ⟨gb262, 2, none⟩ = some (.slice A1_2 l1_2.length c1_2) ∧ w'.cell? ⟨gb262, 3, none⟩ = some (.slice A1_3 l1_3.length c1_3)) (ds := []) (fl 7 0) (by kernel_rfl) rfl rfl ⟨(blk_cell BK262.out 0).trans rfl, (blk_cell BK262.out 1).trans rfl, (blk_cell BK262.out 2).trans rfl, (blk_cell BK262.out 3).trans rfl⟩ (fun hHeld => ?_)
       generalize w71.drew = w72 at BK261 BK262 HB hHeld ⊢
       refine ztk 0 (some 24) (fl 7 1) hHeld ?_
       refine ztk 3 (some 27) (fl 7 9) hHeld ?_
       refine zone 1 (some 25) (fl 7 11) (fun K hK => ?_)
       refine zgo Try.func23 #[.agg #[.int .i64 a1_0, .int .i64 a1_1, .slice A1_2 l1_2.length c1_2, .slice A1_3 l1_3.length c1_3]] ?_
       with_reducible refine (impl_Figure_grid.calls a1_0 a1_1 _ _ l1_2 _ _ l1_3 t269 t270 _ ?side1 ?side2 ?side3 ?side4 A24.out).mono ?_
       (case side1 => exact zC HR1_2)
       (case side2 => exact HC1_2.out)
       (case side3 => exact zC HR1_3)
       (case side4 => exact HC1_3.out)
       rintro e w73 ⟨rfl, hb⟩
       refine ⟨_, rfl, ?_⟩
       replace BK261 := zKb BK261 hb
       replace BK262 := zKb BK262 hb
       replace HB := zBb hb
       (try clear hb)
       (try clear hb2)
       (try clear hk)
       (try clear hi)
       refine hK.out _ _ ⟨(blk_cell BK262.out 0).trans rfl, (blk_cell BK262.out 1).trans rfl, (blk_cell BK262.out 2).trans rfl, (blk_cell BK262.out 3).trans rfl⟩ (fun hHeld => ?_)
       clear hK K
       refine znm ?_
       refine zone 2 (some 26) (fl 7 15) (fun K hK => ?_)
       refine zgo Try.func24 #[.agg #[.int .i64 t269, .int .i64 t270]] ?_
       with_reducible refine (impl_grid_squares.calls kj2 t269 t270 t271 _ A25.out).mono ?_
       rintro e w74 ⟨v272, rfl, ho0, hb⟩
       refine ⟨_, rfl, ?_⟩
       have HO273 := Aside0.mk (Kd.R_lower ho0 (below_size zB))
       replace BK261 := zKb BK261 hb
       replace BK262 := zKb BK262 hb
       replace HB := zBb hb
       (try clear hb)
       (try clear hb2)
       (try clear hk)
       (try clear hi)
       (try clear ho0)
       refine hK.out _ _ ⟨(blk_cell BK262.out 0).trans rfl, (blk_cell BK262.out 1).trans rfl, (blk_cell BK262.out 2).trans rfl, (blk_cell BK262.out 3).trans rfl⟩ (fun hHeld => ?_)
       clear hK K
       refine znm ?_
       refine zone 4 (some 28) (fl 7 31) (fun K hK => ?_)
       refine zgo Try.func25 #[.agg #[.int .i64 a1_0, .int .i64 a1_1, .slice A1_2 l1_2.length c1_2, .slice A1_3 l1_3.length c1_3]] ?_
       with_reducible refine (impl_Figure_set.calls kj2 a1_0 a1_1 _ _ l1_2 _ _ l1_3 t274 _ ?side1 ?side2 ?side3 ?side4 A26.out).mono ?_
       (case side1 => exact zC HR1_2)
       (case side2 => exact HC1_2.out)
       (case side3 => exact zC HR1_3)
       (case side4 => exact HC1_3.out)
       rintro e w75 ⟨rfl, hb⟩
       refine ⟨_, rfl, ?_⟩
       replace HO273 := Aside0.mk (Kd.R_below (zR HO273) hb)
       replace BK261 := zKb BK261 hb
       replace BK262 := zKb BK262 hb
       replace HB := zBb hb
       (try clear hb)
       (try clear hb2)
       (try clear hk)
       (try clear hi)
       refine hK.out _ _ ⟨(blk_cell BK262.out 0).trans rfl, (blk_cell BK262.out 1).trans rfl, (blk_cell BK262.out 2).trans rfl, (blk_cell BK262.out 3).trans rfl⟩ (fun hHeld => ?_)
       clear hK K
       refine znm ?_
       refine zpu 5 (some 6) (fl 7 63) ?_
       refine zpu 6 (some 7) (fl 7 127) ?_
       refine done_ (by kernel_rfl) ?_
       have hnb76 := NB261_262.out
       have hnc76 := NB262_261.out
       have hcz77_0 : w75.cell? ⟨gb261, 0, none⟩ = some (.int .i64 a0_0) := (blk_cell BK261.out 0).trans rfl
       have hcz77_1 : w75.cell? ⟨gb261, 1, none⟩ = some (.int .i64 a0_1) := (blk_cell BK261.out 1).trans rfl
       have hcz77_2 : w75.cell? ⟨gb261, 2, none⟩ = some (.slice A0_2 l0_2.length c0_2) := (blk_cell BK261.out 2).trans rfl
       have hcz77_3 : w75.cell? ⟨gb261, 3, none⟩ = some (.slice A0_3 l0_3.length c0_3) := (blk_cell BK261.out 3).trans rfl
       have hcz77_4 : w75.cell? ⟨gb261, 4, none⟩ = some (.int .i64 a0_4) := (blk_cell BK261.out 4).trans rfl
       have hcz77_5 : w75.cell? ⟨gb261, 5, none⟩ = some (.bool true) := (blk_cell BK261.out 5).trans rfl
       have hcz77_6 : w75.cell? ⟨gb261, 6, none⟩ = some (.int .i64 a0_6) := (blk_cell BK261.out 6).trans rfl
       have hfz77_0 := blk_frozen BK261.out 0
       have hfz77_1 := blk_frozen BK261.out 1
       have hfz77_2 := blk_frozen BK261.out 2
       have hfz77_3 := blk_frozen BK261.out 3
       have hfz77_4 := blk_frozen BK261.out 4
       have hfz77_5 := blk_frozen BK261.out 5
       have hfz77_6 := blk_frozen BK261.out 6
       obtain ⟨hcz78_0, hcz78_1, hcz78_2, hcz78_3, hfz78_0, hfz78_1, hfz78_2, hfz78_3⟩ := blk4 BK262
       try go_wp2_with (first | ((with_reducible refine gate_callee (f := 26) rfl ?_); refine goesL_ (some 35) rfl rfl Try.func26 (by kernel_rfl) rfl #[.agg #[.int .i64 a0_0, .int .i64 a0_1, .slice A0_2 l0_2.length c0_2, .slice A0_3 l0_3.length c0_3], .agg #[.int .i64 a1_0, .int .i64 a1_1, .slice A1_2 l1_2.length c1_2, .slice A1_3 l1_3.length c1_3], .int .i64 a0_4] rfl zM ?_; (with_reducible refine (impl_IsTakeOf.calls kj2 a0_0 a0_1 _ _ l0_2 _ _ l0_3 a1_0 a1_1 _ _ l1_2 _ _ l1_3 a0_4 t275 t276 _ ?side1 ?side2 ?side3 ?side4 ?side5 ?side6 ?side7 ?side8 A27.out).mono ?_); (case side1 => exact zC HR0_2); (case side2 => exact HC0_2.out); (case side3 => exact zC HR0_3); (case side4 => exact HC0_3.out); (case side5 => exact zC HR1_2); (case side6 => exact HC1_2.out); (case side7 => exact zC HR1_3); (case side8 => exact HC1_3.out); rintro e w79 ⟨rfl, hb⟩; refine ⟨_, rfl, ?_⟩; replace HO273 := Aside0.mk (Kd.R_below (zR HO273) hb); replace BK261 := zKb BK261 hb; replace BK262 := zKb BK262 hb; replace HB := zBb hb; (try clear hb); (try clear hb2); (try clear hk); (try clear hi); have hcz80_0 : w79.cell? ⟨gb261, 0, none⟩ = some (.int .i64 a0_0) := (blk_cell BK261.out 0).trans rfl; have hcz80_1 : w79.cell? ⟨gb261, 1, none⟩ = some (.int .i64 a0_1) := (blk_cell BK261.out 1).trans rfl; have hcz80_2 : w79.cell? ⟨gb261, 2, none⟩ = some (.slice A0_2 l0_2.length c0_2) := (blk_cell BK261.out 2).trans rfl; have hcz80_3 : w79.cell? ⟨gb261, 3, none⟩ = some (.slice A0_3 l0_3.length c0_3) := (blk_cell BK261.out 3).trans rfl; have hcz80_4 : w79.cell? ⟨gb261, 4, none⟩ = some (.int .i64 a0_4) := (blk_cell BK261.out 4).trans rfl; have hcz80_5 : w79.cell? ⟨gb261, 5, none⟩ = some (.bool true) := (blk_cell BK261.out 5).trans rfl; have hcz80_6 : w79.cell? ⟨gb261, 6, none⟩ = some (.int .i64 a0_6) := (blk_cell BK261.out 6).trans rfl; have hfz80_0 := blk_frozen BK261.out 0; have hfz80_1 := blk_frozen BK261.out 1; have hfz80_2 := blk_frozen BK261.out 2; have hfz80_3 := blk_frozen BK261.out 3; have hfz80_4 := blk_frozen BK261.out 4; have hfz80_5 := blk_frozen BK261.out 5; have hfz80_6 := blk_frozen BK261.out 6; obtain ⟨hcz81_0, hcz81_1, hcz81_2, hcz81_3, hfz81_0, hfz81_1, hfz81_2, hfz81_3⟩ := blk4 BK262) | ((with_reducible refine gate_callee (f := 27) rfl ?_); refine goesL_ (some 46) rfl rfl Try.func27 (by kernel_rfl) rfl #[.agg #[.int .i64 a0_0, .int .i64 a0_1, .slice A0_2 l0_2.length c0_2, .slice A0_3 l0_3.length c0_3], .agg #[.int .i64 a1_0, .int .i64 a1_1, .slice A1_2 l1_2.length c1_2, .slice A1_3 l1_3.length c1_3], .int .i64 a0_4] rfl zM ?_; (with_reducible refine (impl_IsMoveOf.calls kj2 a0_0 a0_1 _ _ l0_2 _ _ l0_3 a1_0 a1_1 _ _ l1_2 _ _ l1_3 a0_4 false t278 _ ?side1 ?side2 ?side3 ?side4 ?side5 ?side6 ?side7 ?side8 A29.out).mono ?_); (case side1 => exact zC HR0_2); (case side2 => exact HC0_2.out); (case side3 => exact zC HR0_3); (case side4 => exact HC0_3.out); (case side5 => exact zC HR1_2); (case side6 => exact HC1_2.out); (case side7 => exact zC HR1_3); (case side8 => exact HC1_3.out); rintro e w82 ⟨rfl, hb⟩; refine ⟨_, rfl, ?_⟩; replace HO273 := Aside0.mk (Kd.R_below (zR HO273) hb); replace BK261 := zKb BK261 hb; replace BK262 := zKb BK262 hb; replace HB := zBb hb; (try clear hb); (try clear hb2); (try clear hk); (try clear hi)))
       replace HO273 := Aside0.mk (Kd.R_drew HO273.out)
       replace BK261 := Aside0.mk (blk_drew BK261.out)
       replace BK262 := Aside0.mk (blk_drew BK262.out)
       replace HB := Aside0.mk (below_drew1 HB.out)
       refine start_ (n := 17) (S := fun w' => True) (ds := []) (fl 17 0) (by kernel_rfl) rfl rfl trivial (fun hHeld => ?_); refine with_tabW impl_IsSolution.tab9 impl_IsSolution.bits9 (fun HT_ HW_ => ?_)
       generalize w82.drew = w83 at HO273 BK261 BK262 HB hHeld ⊢
       refine zpu 0 (some 49) (fl 17 1) ?_
       refine zpu 1 (some 50) (fl 17 3) ?_
       refine zpn 2 (some 51) (fl 17 7) ?_
       refine zpn 3 (some 52) (fl 17 15) ?_
       refine zpn 4 (some 53) (fl 17 31) ?_
       refine zpn 5 (some 54) (fl 17 63) ?_
       refine zpn 6 (some 55) (fl 17 127) ?_
       refine zpn 7 (some 56) (fl 17 255) ?_
       refine zpu 8 (some 57) (fl 17 511) ?_
       refine zpu 9 (some 58) (fl 17 1023) ?_
       refine zpn 10 (some 59) (fl 17 2047) ?_
       refine zpn 11 (some 60) (fl 17 4095) ?_
       refine zpn 12 (some 61) (fl 17 8191) ?_
       refine zpn 13 (some 62) (fl 17 16383) ?_
       refine zpu 14 (some 63) (fl 17 32767) ?_
       refine zpu 15 (some 4) (fl 17 65535) ?_
       refine zpu 16 (some 5) (fl 17 131071) ?_
       refine done_ (done_of HT_.out (by kernel_rfl)) ?_
       try go_wp2
       go_ret2
       exact ⟨by first | rfl | (simp [errW_none, errW_some] <;> rfl) | (simp [*, errW_none, errW_some] <;> rfl), by repeat (first | (with_reducible first | exact HB.out | apply below_alloc | apply pw_below_drewN | apply below_drew1 | refine below_set ?_ GE261.out | refine below_set ?_ GE262.out) | exact HB.out)⟩
     ·replace c28 := Bool.eq_false_iff.mpr c28
      subst c28
      have H1 : (if t275 = true then ((impl_countOf.f kj2 t271 t274).bind fun t281 => (if t281 = a0_6 then ((impl_needless.f kj2 t271 t274).bind fun t282 => (some ((t282 == 0), true))) else (some (false, true)))) else (some (false, true))) = some (r1, r2) := by rw [if_neg (show ¬ (false = true) by decide)] at H; exact H
      clear H
      have H := H1
      clear H1
      by_cases c84 : t275 = true
      ·subst c84
       have H1 : ((impl_countOf.f kj2 t271 t274).bind fun t281 => (if t281 = a0_6 then ((impl_needless.f kj2 t271 t274).bind fun t282 => (some ((t282 == 0), true))) else (some (false, true)))) = some (r1, r2) := by rw [if_pos rfl] at H; exact H
       clear H
       have H := H1
       clear H1
       replace H := Option.bind_eq_some_iff.mp H
       obtain ⟨t281, A850, H⟩ := H
       replace H : (if t281 = a0_6 then ((impl_needless.f kj2 t271 t274).bind fun t282 => (some ((t282 == 0), true))) else (some (false, true))) = some (r1, r2) := H
       have A85 := Aside0.mk A850
       clear A850
       by_cases c86 : t281 = a0_6
       ·rw [if_pos c86] at H
        have c86b0 : (t281 == a0_6) = true := beq_iff_eq.mpr c86
        have c86b1 : (t281 != a0_6) = false := bne_eq_false_iff_eq.mpr c86
        clear c86
        replace H := Option.bind_eq_some_iff.mp H
        obtain ⟨t282, A870, H⟩ := H
        replace H : (some ((t282 == 0), true)) = some (r1, r2) := H
        have A87 := Aside0.mk A870
        clear A870
        simp only [Option.some.injEq, Prod.mk.injEq] at H
        obtain ⟨rfl, rfl⟩ := H
        try go_wp2
        replace BK261 := Aside0.mk (blk_drew BK261.out)
        replace BK262 := Aside0.mk (blk_drew BK262.out)
        replace HB := Aside0.mk (below_drew1 HB.out)
        refine start_ (n := 6) (S := fun w' => w'.cell? ⟨gb261, 0, none⟩ = some (.int .i64 a0_0) ∧ w'.cell? ⟨gb261, 1, none⟩ = some (.int .i64 a0_1) ∧ w'.cell? ⟨gb261, 2, none⟩ = some (.slice A0_2 l0_2.length c0_2) ∧ w'.cell? ⟨gb261, 3, none⟩ = some (.slice A0_3 l0_3.length c0_3) ∧ w'.cell? ⟨gb261, 4, none⟩ = some (.int .i64 a0_4) ∧ w'.cell? ⟨gb261, 5, none⟩ = some (.bool false) ∧ w'.cell? ⟨gb261, 6, none⟩ = some (.int .i64 a0_6) ∧ w'.cell? ⟨gb262, 0, none⟩ = some (.int .i64 a1_0) ∧ w'.cell? ⟨gb262, 1, none⟩ = some (.int .i64 a1_1) ∧ w'.cell? ⟨gb262, 2, none⟩ = some (.slice A1_2 l1_2.length c1_2) ∧ w'.cell? ⟨gb262, 3, none⟩ = some (.slice A1_3 l1_3.length c1_3)) (ds := []) (fl 6 0) (by kernel_rfl) rfl rfl ⟨(blk_cell BK261.out 0).trans rfl, (blk_cell BK261.out 1).trans rfl, (blk_cell BK261.out 2).trans rfl, (blk_cell BK261.out 3).trans rfl, (blk_cell BK261.out 4).trans rfl, (blk_cell BK261.out 5).trans rfl, (blk_cell BK261.out 6).trans rfl, (blk_cell BK262.out 0).trans rfl, (blk_cell BK262.out 1).trans rfl, (blk_cell BK262.out 2).trans rfl, (blk_cell BK262.out 3).trans rfl⟩ (fun hHeld => ?_)
        generalize wc.drew = w88 at BK261 BK262 HB hHeld ⊢
        refine zpu 0 (some 18) (fl 6 1) ?_
        refine ztk 1 (some 19) (fl 6 3) hHeld ?_
        refine ztk 3 (some 21) (fl 6 11) hHeld ?_
        refine zone 2 (some 20) (fl 6 15) (fun K hK => ?_)
        refine zgo Try.func23 #[.agg #[.int .i64 a0_0, .int .i64 a0_1, .slice A0_2 l0_2.length c0_2, .slice A0_3 l0_3.length c0_3]] ?_
        with_reducible refine (impl_Figure_grid.calls a0_0 a0_1 _ _ l0_2 _ _ l0_3 t265 t266 _ ?side1 ?side2 ?side3 ?side4 A18.out).mono ?_
        (case side1 => exact zC HR0_2)
        (case side2 => exact HC0_2.out)
        (case side3 => exact zC HR0_3)
        (case side4 => exact HC0_3.out)
        rintro e w89 ⟨rfl, hb⟩
        refine ⟨_, rfl, ?_⟩
        replace BK261 := zKb BK261 hb
        replace BK262 := zKb BK262 hb
        replace HB := zBb hb
        (try clear hb)
        (try clear hb2)
        (try clear hk)
        (try clear hi)
        refine hK.out _ _ ⟨(blk_cell BK261.out 0).trans rfl, (blk_cell BK261.out 1).trans rfl, (blk_cell BK261.out 2).trans rfl, (blk_cell BK261.out 3).trans rfl, (blk_cell BK261.out 4).trans rfl, (blk_cell BK261.out 5).trans rfl, (blk_cell BK261.out 6).trans rfl, (blk_cell BK262.out 0).trans rfl, (blk_cell BK262.out 1).trans rfl, (blk_cell BK262.out 2).trans rfl, (blk_cell BK262.out 3).trans rfl⟩ (fun hHeld => ?_)
        clear hK K
        refine znm ?_
        refine zone 4 (some 22) (fl 6 31) (fun K hK => ?_)
        refine zgo Try.func23 #[.agg #[.int .i64 a1_0, .int .i64 a1_1, .slice A1_2 l1_2.length c1_2, .slice A1_3 l1_3.length c1_3]] ?_
        with_reducible refine (impl_Figure_grid.calls a1_0 a1_1 _ _ l1_2 _ _ l1_3 t267 t268 _ ?side1 ?side2 ?side3 ?side4 A19.out).mono ?_
        (case side1 => exact zC HR1_2)
        (case side2 => exact HC1_2.out)
        (case side3 => exact zC HR1_3)
        (case side4 => exact HC1_3.out)
        rintro e w90 ⟨rfl, hb⟩
        refine ⟨_, rfl, ?_⟩
        replace BK261 := zKb BK261 hb
        replace BK262 := zKb BK262 hb
        replace HB := zBb hb
        (try clear hb)
        (try clear hb2)
        (try clear hk)
        (try clear hi)
        refine hK.out _ _ ⟨(blk_cell BK261.out 0).trans rfl, (blk_cell BK261.out 1).trans rfl, (blk_cell BK261.out 2).trans rfl, (blk_cell BK261.out 3).trans rfl, (blk_cell BK261.out 4).trans rfl, (blk_cell BK261.out 5).trans rfl, (blk_cell BK261.out 6).trans rfl, (blk_cell BK262.out 0).trans rfl, (blk_cell BK262.out 1).trans rfl, (blk_cell BK262.out 2).trans rfl, (blk_cell BK262.out 3).trans rfl⟩ (fun hHeld => ?_)
        clear hK K
        refine znm ?_
        refine zpu 5 (some 23) (fl 6 63) ?_
        refine done_ (by kernel_rfl) ?_
        try go_wp2
        replace BK261 := Aside0.mk (blk_drew BK261.out)
        replace BK262 := Aside0.mk (blk_drew BK262.out)
        replace HB := Aside0.mk (below_drew1 HB.out)
        refine start_ (n := 7) (S := fun w' => w'.cell? ⟨gb262, 0, none⟩ = some (.int .i64 a1_0) ∧ w'.cell? ⟨gb262, 1, none⟩ = some (.int .i64 a1_1) ∧ w'.cell? ⟨gb262, 2, none⟩ = some (.slice A1_2 l1_2.length c1_2) ∧ w'.cell? ⟨gb262, 3, none⟩ = some (.slice A1_3 l1_3.length c1_3)) (ds := []) (fl 7 0) (by kernel_rfl) rfl rfl ⟨(blk_cell BK262.out 0).trans rfl, (blk_cell BK262.out 1).trans rfl, (blk_cell BK262.out 2).trans rfl, (blk_cell BK262.out 3).trans rfl⟩ (fun hHeld => ?_)
        generalize w90.drew = w91 at BK261 BK262 HB hHeld ⊢
        refine ztk 0 (some 24) (fl 7 1) hHeld ?_
        refine ztk 3 (some 27) (fl 7 9) hHeld ?_
        refine zone 1 (some 25) (fl 7 11) (fun K hK => ?_)
        refine zgo Try.func23 #[.agg #[.int .i64 a1_0, .int .i64 a1_1, .slice A1_2 l1_2.length c1_2, .slice A1_3 l1_3.length c1_3]] ?_
        with_reducible refine (impl_Figure_grid.calls a1_0 a1_1 _ _ l1_2 _ _ l1_3 t269 t270 _ ?side1 ?side2 ?side3 ?side4 A24.out).mono ?_
        (case side1 => exact zC HR1_2)
        (case side2 => exact HC1_2.out)
        (case side3 => exact zC HR1_3)
        (case side4 => exact HC1_3.out)
        rintro e w92 ⟨rfl, hb⟩
        refine ⟨_, rfl, ?_⟩
        replace BK261 := zKb BK261 hb
        replace BK262 := zKb BK262 hb
        replace HB := zBb hb
        (try clear hb)
        (try clear hb2)
        (try clear hk)
        (try clear hi)
        refine hK.out _ _ ⟨(blk_cell BK262.out 0).trans rfl, (blk_cell BK262.out 1).trans rfl, (blk_cell BK262.out 2).trans rfl, (blk_cell BK262.out 3).trans rfl⟩ (fun hHeld => ?_)
        clear hK K
        refine znm ?_
        refine zone 2 (some 26) (fl 7 15) (fun K hK => ?_)
        refine zgo Try.func24 #[.agg #[.int .i64 t269, .int .i64 t270]] ?_
        with_reducible refine (impl_grid_squares.calls kj2 t269 t270 t271 _ A25.out).mono ?_
        rintro e w93 ⟨v272, rfl, ho0, hb⟩
        refine ⟨_, rfl, ?_⟩
        have HO273 := Aside0.mk (Kd.R_lower ho0 (below_size zB))
        replace BK261 := zKb BK261 hb
        replace BK262 := zKb BK262 hb
        replace HB := zBb hb
        (try clear hb)
        (try clear hb2)
        (try clear hk)
        (try clear hi)
        (try clear ho0)
        refine hK.out _ _ ⟨(blk_cell BK262.out 0).trans rfl, (blk_cell BK262.out 1).trans rfl, (blk_cell BK262.out 2).trans rfl, (blk_cell BK262.out 3).trans rfl⟩ (fun hHeld => ?_)
        clear hK K
        refine znm ?_
        refine zone 4 (some 28) (fl 7 31) (fun K hK => ?_)
        refine zgo Try.func25 #[.agg #[.int .i64 a1_0, .int .i64 a1_1, .slice A1_2 l1_2.length c1_2, .slice A1_3 l1_3.length c1_3]] ?_
        with_reducible refine (impl_Figure_set.calls kj2 a1_0 a1_1 _ _ l1_2 _ _ l1_3 t274 _ ?side1 ?side2 ?side3 ?side4 A26.out).mono ?_
        (case side1 => exact zC HR1_2)
        (case side2 => exact HC1_2.out)
        (case side3 => exact zC HR1_3)
        (case side4 => exact HC1_3.out)
        rintro e w94 ⟨rfl, hb⟩
        refine ⟨_, rfl, ?_⟩
        replace HO273 := Aside0.mk (Kd.R_below (zR HO273) hb)
        replace BK261 := zKb BK261 hb
        replace BK262 := zKb BK262 hb
        replace HB := zBb hb
        (try clear hb)
        (try clear hb2)
        (try clear hk)
        (try clear hi)
        refine hK.out _ _ ⟨(blk_cell BK262.out 0).trans rfl, (blk_cell BK262.out 1).trans rfl, (blk_cell BK262.out 2).trans rfl, (blk_cell BK262.out 3).trans rfl⟩ (fun hHeld => ?_)
        clear hK K
        refine znm ?_
        refine zpu 5 (some 6) (fl 7 63) ?_
        refine zpu 6 (some 7) (fl 7 127) ?_
        refine done_ (by kernel_rfl) ?_
        have hnb95 := NB261_262.out
        have hnc95 := NB262_261.out
        have hcz96_0 : w94.cell? ⟨gb261, 0, none⟩ = some (.int .i64 a0_0) := (blk_cell BK261.out 0).trans rfl
        have hcz96_1 : w94.cell? ⟨gb261, 1, none⟩ = some (.int .i64 a0_1) := (blk_cell BK261.out 1).trans rfl
        have hcz96_2 : w94.cell? ⟨gb261, 2, none⟩ = some (.slice A0_2 l0_2.length c0_2) := (blk_cell BK261.out 2).trans rfl
        have hcz96_3 : w94.cell? ⟨gb261, 3, none⟩ = some (.slice A0_3 l0_3.length c0_3) := (blk_cell BK261.out 3).trans rfl
        have hcz96_4 : w94.cell? ⟨gb261, 4, none⟩ = some (.int .i64 a0_4) := (blk_cell BK261.out 4).trans rfl
        have hcz96_5 : w94.cell? ⟨gb261, 5, none⟩ = some (.bool false) := (blk_cell BK261.out 5).trans rfl
        have hcz96_6 : w94.cell? ⟨gb261, 6, none⟩ = some (.int .i64 a0_6) := (blk_cell BK261.out 6).trans rfl
        have hfz96_0 := blk_frozen BK261.out 0
        have hfz96_1 := blk_frozen BK261.out 1
        have hfz96_2 := blk_frozen BK261.out 2
        have hfz96_3 := blk_frozen BK261.out 3
        have hfz96_4 := blk_frozen BK261.out 4
        have hfz96_5 := blk_frozen BK261.out 5
        have hfz96_6 := blk_frozen BK261.out 6
        obtain ⟨hcz97_0, hcz97_1, hcz97_2, hcz97_3, hfz97_0, hfz97_1, hfz97_2, hfz97_3⟩ := blk4 BK262
        try go_wp2_with (first | ((with_reducible refine gate_callee (f := 26) rfl ?_); refine goesL_ (some 35) rfl rfl Try.func26 (by kernel_rfl) rfl #[.agg #[.int .i64 a0_0, .int .i64 a0_1, .slice A0_2 l0_2.length c0_2, .slice A0_3 l0_3.length c0_3], .agg #[.int .i64 a1_0, .int .i64 a1_1, .slice A1_2 l1_2.length c1_2, .slice A1_3 l1_3.length c1_3], .int .i64 a0_4] rfl zM ?_; (with_reducible refine (impl_IsTakeOf.calls kj2 a0_0 a0_1 _ _ l0_2 _ _ l0_3 a1_0 a1_1 _ _ l1_2 _ _ l1_3 a0_4 true t276 _ ?side1 ?side2 ?side3 ?side4 ?side5 ?side6 ?side7 ?side8 A27.out).mono ?_); (case side1 => exact zC HR0_2); (case side2 => exact HC0_2.out); (case side3 => exact zC HR0_3); (case side4 => exact HC0_3.out); (case side5 => exact zC HR1_2); (case side6 => exact HC1_2.out); (case side7 => exact zC HR1_3); (case side8 => exact HC1_3.out); rintro e w98 ⟨rfl, hb⟩; refine ⟨_, rfl, ?_⟩; replace HO273 := Aside0.mk (Kd.R_below (zR HO273) hb); replace BK261 := zKb BK261 hb; replace BK262 := zKb BK262 hb; replace HB := zBb hb; (try clear hb); (try clear hb2); (try clear hk); (try clear hi); have hcz99_0 : w98.cell? ⟨gb261, 0, none⟩ = some (.int .i64 a0_0) := (blk_cell BK261.out 0).trans rfl; have hcz99_1 : w98.cell? ⟨gb261, 1, none⟩ = some (.int .i64 a0_1) := (blk_cell BK261.out 1).trans rfl; have hcz99_2 : w98.cell? ⟨gb261, 2, none⟩ = some (.slice A0_2 l0_2.length c0_2) := (blk_cell BK261.out 2).trans rfl; have hcz99_3 : w98.cell? ⟨gb261, 3, none⟩ = some (.slice A0_3 l0_3.length c0_3) := (blk_cell BK261.out 3).trans rfl; have hcz99_4 : w98.cell? ⟨gb261, 4, none⟩ = some (.int .i64 a0_4) := (blk_cell BK261.out 4).trans rfl; have hcz99_5 : w98.cell? ⟨gb261, 5, none⟩ = some (.bool false) := (blk_cell BK261.out 5).trans rfl; have hcz99_6 : w98.cell? ⟨gb261, 6, none⟩ = some (.int .i64 a0_6) := (blk_cell BK261.out 6).trans rfl; have hfz99_0 := blk_frozen BK261.out 0; have hfz99_1 := blk_frozen BK261.out 1; have hfz99_2 := blk_frozen BK261.out 2; have hfz99_3 := blk_frozen BK261.out 3; have hfz99_4 := blk_frozen BK261.out 4; have hfz99_5 := blk_frozen BK261.out 5; have hfz99_6 := blk_frozen BK261.out 6))
        replace HO273 := Aside0.mk (Kd.R_drew HO273.out)
        replace BK261 := Aside0.mk (blk_drew BK261.out)
        replace BK262 := Aside0.mk (blk_drew BK262.out)
        replace HB := Aside0.mk (below_drew1 HB.out)
        obtain ⟨Ao101, co101, eo101⟩ := Kd.R_slice HO273.out
        (first | subst eo101 | (injection eo101 with f1_ f2_ f3_; have f4_ := f1_.symm; have f5_ := f3_.symm; clear f1_ f2_ f3_; subst f4_; subst f5_))
        refine start_ (n := 17) (S := fun w' => w'.cell? ⟨gb261, 0, none⟩ = some (.int .i64 a0_0) ∧ w'.cell? ⟨gb261, 1, none⟩ = some (.int .i64 a0_1) ∧ w'.cell? ⟨gb261, 2, none⟩ = some (.slice A0_2 l0_2.length c0_2) ∧ w'.cell? ⟨gb261, 3, none⟩ = some (.slice A0_3 l0_3.length c0_3) ∧ w'.cell? ⟨gb261, 4, none⟩ = some (.int .i64 a0_4) ∧ w'.cell? ⟨gb261, 5, none⟩ = some (.bool false) ∧ w'.cell? ⟨gb261, 6, none⟩ = some (.int .i64 a0_6)) (ds := []) (fl 17 0) (by kernel_rfl) rfl rfl ⟨(blk_cell BK261.out 0).trans rfl, (blk_cell BK261.out 1).trans rfl, (blk_cell BK261.out 2).trans rfl, (blk_cell BK261.out 3).trans rfl, (blk_cell BK261.out 4).trans rfl, (blk_cell BK261.out 5).trans rfl, (blk_cell BK261.out 6).trans rfl⟩ (fun hHeld => ?_); refine with_tabW impl_IsSolution.tab9 impl_IsSolution.bits9 (fun HT_ HW_ => ?_)
        generalize w98.drew = w100 at HO273 BK261 BK262 HB hHeld ⊢
        refine zpu 0 (some 49) (fl 17 1) ?_
        refine zpu 1 (some 50) (fl 17 3) ?_
        refine zpu 2 (some 51) (fl 17 7) ?_
        refine zpu 3 (some 52) (fl 17 15) ?_
        refine zpu 5 (some 54) (fl 17 47) ?_
        refine ztk 6 (some 55) (fl 17 111) hHeld ?_
        refine zone 4 (some 53) (fl 17 127) (fun K hK => ?_)
        refine zgo Try.func28 #[.slice Ao101 t271.length co101, .int .u64 t274] ?_
        with_reducible refine (impl_countOf.calls kj2 _ _ t271 t274 t281 _ ?side1 ?side2 A85.out).mono ?_
        (case side1 => repeat (first | exact (Kd.R_reads' HO273.out).2.2 | (with_reducible refine Kd.C_alloc ?_ _) | (with_reducible refine Kd.C_drewN ?_ _) | (with_reducible refine Kd.C_drew ?_)))
        (case side2 => exact (Kd.R_reads' HO273.out).2.1)
        rintro e w102 ⟨rfl, hb⟩
        refine ⟨_, rfl, ?_⟩
        replace HO273 := Aside0.mk (Kd.R_below (zR HO273) hb)
        replace BK261 := zKb BK261 hb
        replace BK262 := zKb BK262 hb
        replace HB := zBb hb
        (try clear hb)
        (try clear hb2)
        (try clear hk)
        (try clear hi)
        refine hK.out _ _ ⟨(blk_cell BK261.out 0).trans rfl, (blk_cell BK261.out 1).trans rfl, (blk_cell BK261.out 2).trans rfl, (blk_cell BK261.out 3).trans rfl, (blk_cell BK261.out 4).trans rfl, (blk_cell BK261.out 5).trans rfl, (blk_cell BK261.out 6).trans rfl⟩ (fun hHeld => ?_)
        clear hK K
        refine znm ?_
        refine zpu 7 (some 56) (fl 17 255) ?_
        refine zpu 8 (some 57) (fl 17 511) ?_
        refine zpu 9 (some 58) (fl 17 1023) ?_
        refine zpu 10 (some 59) (fl 17 2047) ?_
        refine zpu 11 (some 60) (fl 17 4095) ?_
        refine zone 12 (some 61) (fl 17 8191) (fun K hK => ?_)
        refine zgo Try.func29 #[.slice Ao101 t271.length co101, .int .u64 t274] ?_
        with_reducible refine (impl_needless.calls kj2 _ _ t271 t274 t282 _ ?side1 ?side2 A87.out).mono ?_
        (case side1 => repeat (first | exact (Kd.R_reads' HO273.out).2.2 | (with_reducible refine Kd.C_alloc ?_ _) | (with_reducible refine Kd.C_drewN ?_ _) | (with_reducible refine Kd.C_drew ?_)))
        (case side2 => exact (Kd.R_reads' HO273.out).2.1)
        rintro e w103 ⟨rfl, hb⟩
        refine ⟨_, rfl, ?_⟩
        replace HO273 := Aside0.mk (Kd.R_below (zR HO273) hb)
        replace BK261 := zKb BK261 hb
        replace BK262 := zKb BK262 hb
        replace HB := zBb hb
        (try clear hb)
        (try clear hb2)
        (try clear hk)
        (try clear hi)
        refine hK.out _ _ ⟨(blk_cell BK261.out 0).trans rfl, (blk_cell BK261.out 1).trans rfl, (blk_cell BK261.out 2).trans rfl, (blk_cell BK261.out 3).trans rfl, (blk_cell BK261.out 4).trans rfl, (blk_cell BK261.out 5).trans rfl, (blk_cell BK261.out 6).trans rfl⟩ (fun hHeld => ?_)
        clear hK K
        refine znm ?_
        refine zpu 13 (some 62) (fl 17 16383) ?_
        refine zpu 14 (some 63) (fl 17 32767) ?_
        refine zpu 15 (some 4) (fl 17 65535) ?_
        refine zpu 16 (some 5) (fl 17 131071) ?_
        refine done_ (done_of HT_.out (by kernel_rfl)) ?_
        try go_wp2
        go_ret2
        exact ⟨by first | rfl | (simp [errW_none, errW_some] <;> rfl) | (simp [*, errW_none, errW_some] <;> rfl), by repeat (first | (with_reducible first | exact HB.out | apply below_alloc | apply pw_below_drewN | apply below_drew1 | refine below_set ?_ GE261.out | refine below_set ?_ GE262.out) | exact HB.out)⟩
       ·rw [if_neg c86] at H
        have c86b0 : (t281 == a0_6) = false := beq_eq_false_iff_ne.mpr c86
        have c86b1 : (t281 != a0_6) = true := bne_iff_ne.mpr c86
        simp only [Option.some.injEq, Prod.mk.injEq] at H
        obtain ⟨rfl, rfl⟩ := H
        try go_wp2
        replace BK261 := Aside0.mk (blk_drew BK261.out)
        replace BK262 := Aside0.mk (blk_drew BK262.out)
        replace HB := Aside0.mk (below_drew1 HB.out)
        refine start_ (n := 6) (S := fun w' => w'.cell? ⟨gb261, 0, none⟩ = some (.int .i64 a0_0) ∧ w'.cell? ⟨gb261, 1, none⟩ = some (.int .i64 a0_1) ∧ w'.cell? ⟨gb261, 2, none⟩ = some (.slice A0_2 l0_2.length c0_2) ∧ w'.cell? ⟨gb261, 3, none⟩ = some (.slice A0_3 l0_3.length c0_3) ∧ w'.cell? ⟨gb261, 4, none⟩ = some (.int .i64 a0_4) ∧ w'.cell? ⟨gb261, 5, none⟩ = some (.bool false) ∧ w'.cell? ⟨gb261, 6, none⟩ = some (.int .i64 a0_6) ∧ w'.cell? ⟨gb262, 0, none⟩ = some (.int .i64 a1_0) ∧ w'.cell? ⟨gb262, 1, none⟩ = some (.int .i64 a1_1) ∧ w'.cell? ⟨gb262, 2, none⟩ = some (.slice A1_2 l1_2.length c1_2) ∧ w'.cell? ⟨gb262, 3, none⟩ = some (.slice A1_3 l1_3.length c1_3)) (ds := []) (fl 6 0) (by kernel_rfl) rfl rfl ⟨(blk_cell BK261.out 0).trans rfl, (blk_cell BK261.out 1).trans rfl, (blk_cell BK261.out 2).trans rfl, (blk_cell BK261.out 3).trans rfl, (blk_cell BK261.out 4).trans rfl, (blk_cell BK261.out 5).trans rfl, (blk_cell BK261.out 6).trans rfl, (blk_cell BK262.out 0).trans rfl, (blk_cell BK262.out 1).trans rfl, (blk_cell BK262.out 2).trans rfl, (blk_cell BK262.out 3).trans rfl⟩ (fun hHeld => ?_)
        generalize wc.drew = w104 at BK261 BK262 HB hHeld ⊢
        refine zpu 0 (some 18) (fl 6 1) ?_
        refine ztk 1 (some 19) (fl 6 3) hHeld ?_
        refine ztk 3 (some 21) (fl 6 11) hHeld ?_
        refine zone 2 (some 20) (fl 6 15) (fun K hK => ?_)
        refine zgo Try.func23 #[.agg #[.int .i64 a0_0, .int .i64 a0_1, .slice A0_2 l0_2.length c0_2, .slice A0_3 l0_3.length c0_3]] ?_
        with_reducible refine (impl_Figure_grid.calls a0_0 a0_1 _ _ l0_2 _ _ l0_3 t265 t266 _ ?side1 ?side2 ?side3 ?side4 A18.out).mono ?_
        (case side1 => exact zC HR0_2)
        (case side2 => exact HC0_2.out)
        (case side3 => exact zC HR0_3)
        (case side4 => exact HC0_3.out)
        rintro e w105 ⟨rfl, hb⟩
        refine ⟨_, rfl, ?_⟩
        replace BK261 := zKb BK261 hb
        replace BK262 := zKb BK262 hb
        replace HB := zBb hb
        (try clear hb)
        (try clear hb2)
        (try clear hk)
        (try clear hi)
        refine hK.out _ _ ⟨(blk_cell BK261.out 0).trans rfl, (blk_cell BK261.out 1).trans rfl, (blk_cell BK261.out 2).trans rfl, (blk_cell BK261.out 3).trans rfl, (blk_cell BK261.out 4).trans rfl, (blk_cell BK261.out 5).trans rfl, (blk_cell BK261.out 6).trans rfl, (blk_cell BK262.out 0).trans rfl, (blk_cell BK262.out 1).trans rfl, (blk_cell BK262.out 2).trans rfl, (blk_cell BK262.out 3).trans rfl⟩ (fun hHeld => ?_)
        clear hK K
        refine znm ?_
        refine zone 4 (some 22) (fl 6 31) (fun K hK => ?_)
        refine zgo Try.func23 #[.agg #[.int .i64 a1_0, .int .i64 a1_1, .slice A1_2 l1_2.length c1_2, .slice A1_3 l1_3.length c1_3]] ?_
        with_reducible refine (impl_Figure_grid.calls a1_0 a1_1 _ _ l1_2 _ _ l1_3 t267 t268 _ ?side1 ?side2 ?side3 ?side4 A19.out).mono ?_
        (case side1 => exact zC HR1_2)
        (case side2 => exact HC1_2.out)
        (case side3 => exact zC HR1_3)
        (case side4 => exact HC1_3.out)
        rintro e w106 ⟨rfl, hb⟩
        refine ⟨_, rfl, ?_⟩
        replace BK261 := zKb BK261 hb
        replace BK262 := zKb BK262 hb
        replace HB := zBb hb
        (try clear hb)
        (try clear hb2)
        (try clear hk)
        (try clear hi)
        refine hK.out _ _ ⟨(blk_cell BK261.out 0).trans rfl, (blk_cell BK261.out 1).trans rfl, (blk_cell BK261.out 2).trans rfl, (blk_cell BK261.out 3).trans rfl, (blk_cell BK261.out 4).trans rfl, (blk_cell BK261.out 5).trans rfl, (blk_cell BK261.out 6).trans rfl, (blk_cell BK262.out 0).trans rfl, (blk_cell BK262.out 1).trans rfl, (blk_cell BK262.out 2).trans rfl, (blk_cell BK262.out 3).trans rfl⟩ (fun hHeld => ?_)
        clear hK K
        refine znm ?_
        refine zpu 5 (some 23) (fl 6 63) ?_
        refine done_ (by kernel_rfl) ?_
        try go_wp2
        replace BK261 := Aside0.mk (blk_drew BK261.out)
        replace BK262 := Aside0.mk (blk_drew BK262.out)
        replace HB := Aside0.mk (below_drew1 HB.out)
        refine start_ (n := 7) (S := fun w' => w'.cell? ⟨gb262, 0, none⟩ = some (.int .i64 a1_0) ∧ w'.cell? ⟨gb262, 1, none⟩ = some (.int .i64 a1_1) ∧ w'.cell? ⟨gb262, 2, none⟩ = some (.slice A1_2 l1_2.length c1_2) ∧ w'.cell? ⟨gb262, 3, none⟩ = some (.slice A1_3 l1_3.length c1_3)) (ds := []) (fl 7 0) (by kernel_rfl) rfl rfl ⟨(blk_cell BK262.out 0).trans rfl, (blk_cell BK262.out 1).trans rfl, (blk_cell BK262.out 2).trans rfl, (blk_cell BK262.out 3).trans rfl⟩ (fun hHeld => ?_)
        generalize w106.drew = w107 at BK261 BK262 HB hHeld ⊢
        refine ztk 0 (some 24) (fl 7 1) hHeld ?_
        refine ztk 3 (some 27) (fl 7 9) hHeld ?_
        refine zone 1 (some 25) (fl 7 11) (fun K hK => ?_)
        refine zgo Try.func23 #[.agg #[.int .i64 a1_0, .int .i64 a1_1, .slice A1_2 l1_2.length c1_2, .slice A1_3 l1_3.length c1_3]] ?_
        with_reducible refine (impl_Figure_grid.calls a1_0 a1_1 _ _ l1_2 _ _ l1_3 t269 t270 _ ?side1 ?side2 ?side3 ?side4 A24.out).mono ?_
        (case side1 => exact zC HR1_2)
        (case side2 => exact HC1_2.out)
        (case side3 => exact zC HR1_3)
        (case side4 => exact HC1_3.out)
        rintro e w108 ⟨rfl, hb⟩
        refine ⟨_, rfl, ?_⟩
        replace BK261 := zKb BK261 hb
        replace BK262 := zKb BK262 hb
        replace HB := zBb hb
        (try clear hb)
        (try clear hb2)
        (try clear hk)
        (try clear hi)
        refine hK.out _ _ ⟨(blk_cell BK262.out 0).trans rfl, (blk_cell BK262.out 1).trans rfl, (blk_cell BK262.out 2).trans rfl, (blk_cell BK262.out 3).trans rfl⟩ (fun hHeld => ?_)
        clear hK K
        refine znm ?_
        refine zone 2 (some 26) (fl 7 15) (fun K hK => ?_)
        refine zgo Try.func24 #[.agg #[.int .i64 t269, .int .i64 t270]] ?_
        with_reducible refine (impl_grid_squares.calls kj2 t269 t270 t271 _ A25.out).mono ?_
        rintro e w109 ⟨v272, rfl, ho0, hb⟩
        refine ⟨_, rfl, ?_⟩
        have HO273 := Aside0.mk (Kd.R_lower ho0 (below_size zB))
        replace BK261 := zKb BK261 hb
        replace BK262 := zKb BK262 hb
        replace HB := zBb hb
        (try clear hb)
        (try clear hb2)
        (try clear hk)
        (try clear hi)
        (try clear ho0)
        refine hK.out _ _ ⟨(blk_cell BK262.out 0).trans rfl, (blk_cell BK262.out 1).trans rfl, (blk_cell BK262.out 2).trans rfl, (blk_cell BK262.out 3).trans rfl⟩ (fun hHeld => ?_)
        clear hK K
        refine znm ?_
        refine zone 4 (some 28) (fl 7 31) (fun K hK => ?_)
        refine zgo Try.func25 #[.agg #[.int .i64 a1_0, .int .i64 a1_1, .slice A1_2 l1_2.length c1_2, .slice A1_3 l1_3.length c1_3]] ?_
        with_reducible refine (impl_Figure_set.calls kj2 a1_0 a1_1 _ _ l1_2 _ _ l1_3 t274 _ ?side1 ?side2 ?side3 ?side4 A26.out).mono ?_
        (case side1 => exact zC HR1_2)
        (case side2 => exact HC1_2.out)
        (case side3 => exact zC HR1_3)
        (case side4 => exact HC1_3.out)
        rintro e w110 ⟨rfl, hb⟩
        refine ⟨_, rfl, ?_⟩
        replace HO273 := Aside0.mk (Kd.R_below (zR HO273) hb)
        replace BK261 := zKb BK261 hb
        replace BK262 := zKb BK262 hb
        replace HB := zBb hb
        (try clear hb)
        (try clear hb2)
        (try clear hk)
        (try clear hi)
        refine hK.out _ _ ⟨(blk_cell BK262.out 0).trans rfl, (blk_cell BK262.out 1).trans rfl, (blk_cell BK262.out 2).trans rfl, (blk_cell BK262.out 3).trans rfl⟩ (fun hHeld => ?_)
        clear hK K
        refine znm ?_
        refine zpu 5 (some 6) (fl 7 63) ?_
        refine zpu 6 (some 7) (fl 7 127) ?_
        refine done_ (by kernel_rfl) ?_
        have hnb111 := NB261_262.out
        have hnc111 := NB262_261.out
        have hcz112_0 : w110.cell? ⟨gb261, 0, none⟩ = some (.int .i64 a0_0) := (blk_cell BK261.out 0).trans rfl
        have hcz112_1 : w110.cell? ⟨gb261, 1, none⟩ = some (.int .i64 a0_1) := (blk_cell BK261.out 1).trans rfl
        have hcz112_2 : w110.cell? ⟨gb261, 2, none⟩ = some (.slice A0_2 l0_2.length c0_2) := (blk_cell BK261.out 2).trans rfl
        have hcz112_3 : w110.cell? ⟨gb261, 3, none⟩ = some (.slice A0_3 l0_3.length c0_3) := (blk_cell BK261.out 3).trans rfl
        have hcz112_4 : w110.cell? ⟨gb261, 4, none⟩ = some (.int .i64 a0_4) := (blk_cell BK261.out 4).trans rfl
        have hcz112_5 : w110.cell? ⟨gb261, 5, none⟩ = some (.bool false) := (blk_cell BK261.out 5).trans rfl
        have hcz112_6 : w110.cell? ⟨gb261, 6, none⟩ = some (.int .i64 a0_6) := (blk_cell BK261.out 6).trans rfl
        have hfz112_0 := blk_frozen BK261.out 0
        have hfz112_1 := blk_frozen BK261.out 1
        have hfz112_2 := blk_frozen BK261.out 2
        have hfz112_3 := blk_frozen BK261.out 3
        have hfz112_4 := blk_frozen BK261.out 4
        have hfz112_5 := blk_frozen BK261.out 5
        have hfz112_6 := blk_frozen BK261.out 6
        obtain ⟨hcz113_0, hcz113_1, hcz113_2, hcz113_3, hfz113_0, hfz113_1, hfz113_2, hfz113_3⟩ := blk4 BK262
        try go_wp2_with (first | ((with_reducible refine gate_callee (f := 26) rfl ?_); refine goesL_ (some 35) rfl rfl Try.func26 (by kernel_rfl) rfl #[.agg #[.int .i64 a0_0, .int .i64 a0_1, .slice A0_2 l0_2.length c0_2, .slice A0_3 l0_3.length c0_3], .agg #[.int .i64 a1_0, .int .i64 a1_1, .slice A1_2 l1_2.length c1_2, .slice A1_3 l1_3.length c1_3], .int .i64 a0_4] rfl zM ?_; (with_reducible refine (impl_IsTakeOf.calls kj2 a0_0 a0_1 _ _ l0_2 _ _ l0_3 a1_0 a1_1 _ _ l1_2 _ _ l1_3 a0_4 true t276 _ ?side1 ?side2 ?side3 ?side4 ?side5 ?side6 ?side7 ?side8 A27.out).mono ?_); (case side1 => exact zC HR0_2); (case side2 => exact HC0_2.out); (case side3 => exact zC HR0_3); (case side4 => exact HC0_3.out); (case side5 => exact zC HR1_2); (case side6 => exact HC1_2.out); (case side7 => exact zC HR1_3); (case side8 => exact HC1_3.out); rintro e w114 ⟨rfl, hb⟩; refine ⟨_, rfl, ?_⟩; replace HO273 := Aside0.mk (Kd.R_below (zR HO273) hb); replace BK261 := zKb BK261 hb; replace BK262 := zKb BK262 hb; replace HB := zBb hb; (try clear hb); (try clear hb2); (try clear hk); (try clear hi); have hcz115_0 : w114.cell? ⟨gb261, 0, none⟩ = some (.int .i64 a0_0) := (blk_cell BK261.out 0).trans rfl; have hcz115_1 : w114.cell? ⟨gb261, 1, none⟩ = some (.int .i64 a0_1) := (blk_cell BK261.out 1).trans rfl; have hcz115_2 : w114.cell? ⟨gb261, 2, none⟩ = some (.slice A0_2 l0_2.length c0_2) := (blk_cell BK261.out 2).trans rfl; have hcz115_3 : w114.cell? ⟨gb261, 3, none⟩ = some (.slice A0_3 l0_3.length c0_3) := (blk_cell BK261.out 3).trans rfl; have hcz115_4 : w114.cell? ⟨gb261, 4, none⟩ = some (.int .i64 a0_4) := (blk_cell BK261.out 4).trans rfl; have hcz115_5 : w114.cell? ⟨gb261, 5, none⟩ = some (.bool false) := (blk_cell BK261.out 5).trans rfl; have hcz115_6 : w114.cell? ⟨gb261, 6, none⟩ = some (.int .i64 a0_6) := (blk_cell BK261.out 6).trans rfl; have hfz115_0 := blk_frozen BK261.out 0; have hfz115_1 := blk_frozen BK261.out 1; have hfz115_2 := blk_frozen BK261.out 2; have hfz115_3 := blk_frozen BK261.out 3; have hfz115_4 := blk_frozen BK261.out 4; have hfz115_5 := blk_frozen BK261.out 5; have hfz115_6 := blk_frozen BK261.out 6))
        replace HO273 := Aside0.mk (Kd.R_drew HO273.out)
        replace BK261 := Aside0.mk (blk_drew BK261.out)
        replace BK262 := Aside0.mk (blk_drew BK262.out)
        replace HB := Aside0.mk (below_drew1 HB.out)
        obtain ⟨Ao117, co117, eo117⟩ := Kd.R_slice HO273.out
        (first | subst eo117 | (injection eo117 with f1_ f2_ f3_; have f4_ := f1_.symm; have f5_ := f3_.symm; clear f1_ f2_ f3_; subst f4_; subst f5_))
        refine start_ (n := 17) (S := fun w' => w'.cell? ⟨gb261, 0, none⟩ = some (.int .i64 a0_0) ∧ w'.cell? ⟨gb261, 1, none⟩ = some (.int .i64 a0_1) ∧ w'.cell? ⟨gb261, 2, none⟩ = some (.slice A0_2 l0_2.length c0_2) ∧ w'.cell? ⟨gb261, 3, none⟩ = some (.slice A0_3 l0_3.length c0_3) ∧ w'.cell? ⟨gb261, 4, none⟩ = some (.int .i64 a0_4) ∧ w'.cell? ⟨gb261, 5, none⟩ = some (.bool false) ∧ w'.cell? ⟨gb261, 6, none⟩ = some (.int .i64 a0_6)) (ds := []) (fl 17 0) (by kernel_rfl) rfl rfl ⟨(blk_cell BK261.out 0).trans rfl, (blk_cell BK261.out 1).trans rfl, (blk_cell BK261.out 2).trans rfl, (blk_cell BK261.out 3).trans rfl, (blk_cell BK261.out 4).trans rfl, (blk_cell BK261.out 5).trans rfl, (blk_cell BK261.out 6).trans rfl⟩ (fun hHeld => ?_); refine with_tabW impl_IsSolution.tab9 impl_IsSolution.bits9 (fun HT_ HW_ => ?_)
        generalize w114.drew = w116 at HO273 BK261 BK262 HB hHeld ⊢
        refine zpu 0 (some 49) (fl 17 1) ?_
        refine zpu 1 (some 50) (fl 17 3) ?_
        refine zpu 2 (some 51) (fl 17 7) ?_
        refine zpu 3 (some 52) (fl 17 15) ?_
        refine zpu 5 (some 54) (fl 17 47) ?_
        refine ztk 6 (some 55) (fl 17 111) hHeld ?_
        refine zone 4 (some 53) (fl 17 127) (fun K hK => ?_)
        refine zgo Try.func28 #[.slice Ao117 t271.length co117, .int .u64 t274] ?_
        with_reducible refine (impl_countOf.calls kj2 _ _ t271 t274 t281 _ ?side1 ?side2 A85.out).mono ?_
        (case side1 => repeat (first | exact (Kd.R_reads' HO273.out).2.2 | (with_reducible refine Kd.C_alloc ?_ _) | (with_reducible refine Kd.C_drewN ?_ _) | (with_reducible refine Kd.C_drew ?_)))
        (case side2 => exact (Kd.R_reads' HO273.out).2.1)
        rintro e w118 ⟨rfl, hb⟩
        refine ⟨_, rfl, ?_⟩
        replace HO273 := Aside0.mk (Kd.R_below (zR HO273) hb)
        replace BK261 := zKb BK261 hb
        replace BK262 := zKb BK262 hb
        replace HB := zBb hb
        (try clear hb)
        (try clear hb2)
        (try clear hk)
        (try clear hi)
        refine hK.out _ _ ⟨(blk_cell BK261.out 0).trans rfl, (blk_cell BK261.out 1).trans rfl, (blk_cell BK261.out 2).trans rfl, (blk_cell BK261.out 3).trans rfl, (blk_cell BK261.out 4).trans rfl, (blk_cell BK261.out 5).trans rfl, (blk_cell BK261.out 6).trans rfl⟩ (fun hHeld => ?_)
        clear hK K
        refine znm ?_
        refine zpu 7 (some 56) (fl 17 255) ?_
        refine zpu 8 (some 57) (fl 17 511) ?_
        refine zpu 9 (some 58) (fl 17 1023) ?_
        refine zpn 10 (some 59) (fl 17 2047) ?_
        refine zpn 11 (some 60) (fl 17 4095) ?_
        refine zpn 12 (some 61) (fl 17 8191) ?_
        refine zpn 13 (some 62) (fl 17 16383) ?_
        refine zpu 14 (some 63) (fl 17 32767) ?_
        refine zpu 15 (some 4) (fl 17 65535) ?_
        refine zpu 16 (some 5) (fl 17 131071) ?_
        refine done_ (done_of HT_.out (by kernel_rfl)) ?_
        try go_wp2
        go_ret2
        exact ⟨by first | rfl | (simp [errW_none, errW_some] <;> rfl) | (simp [*, errW_none, errW_some] <;> rfl), by repeat (first | (with_reducible first | exact HB.out | apply below_alloc | apply pw_below_drewN | apply below_drew1 | refine below_set ?_ GE261.out | refine below_set ?_ GE262.out) | exact HB.out)⟩
      ·replace c84 := Bool.eq_false_iff.mpr c84
       subst c84
       have H1 : (some (false, true)) = some (r1, r2) := by rw [if_neg (show ¬ (false = true) by decide)] at H; exact H
       clear H
       have H := H1
       clear H1
       simp only [Option.some.injEq, Prod.mk.injEq] at H
       obtain ⟨rfl, rfl⟩ := H
       try go_wp2
       replace BK261 := Aside0.mk (blk_drew BK261.out)
       replace BK262 := Aside0.mk (blk_drew BK262.out)
       replace HB := Aside0.mk (below_drew1 HB.out)
       refine start_ (n := 6) (S := fun w' => w'.cell? ⟨gb261, 0, none⟩ = some (.int .i64 a0_0) ∧ w'.cell? ⟨gb261, 1, none⟩ = some (.int .i64 a0_1) ∧ w'.cell? ⟨gb261, 2, none⟩ = some (.slice A0_2 l0_2.length c0_2) ∧ w'.cell? ⟨gb261, 3, none⟩ = some (.slice A0_3 l0_3.length c0_3) ∧ w'.cell? ⟨gb261, 4, none⟩ = some (.int .i64 a0_4) ∧ w'.cell? ⟨gb261, 5, none⟩ = some (.bool false) ∧ w'.cell? ⟨gb261, 6, none⟩ = some (.int .i64 a0_6) ∧ w'.cell? ⟨gb262, 0, none⟩ = some (.int .i64 a1_0) ∧ w'.cell? ⟨gb262, 1, none⟩ = some (.int .i64 a1_1) ∧ w'.cell? ⟨gb262, 2, none⟩ = some (.slice A1_2 l1_2.length c1_2) ∧ w'.cell? ⟨gb262, 3, none⟩ = some (.slice A1_3 l1_3.length c1_3)) (ds := []) (fl 6 0) (by kernel_rfl) rfl rfl ⟨(blk_cell BK261.out 0).trans rfl, (blk_cell BK261.out 1).trans rfl, (blk_cell BK261.out 2).trans rfl, (blk_cell BK261.out 3).trans rfl, (blk_cell BK261.out 4).trans rfl, (blk_cell BK261.out 5).trans rfl, (blk_cell BK261.out 6).trans rfl, (blk_cell BK262.out 0).trans rfl, (blk_cell BK262.out 1).trans rfl, (blk_cell BK262.out 2).trans rfl, (blk_cell BK262.out 3).trans rfl⟩ (fun hHeld => ?_)
       generalize wc.drew = w119 at BK261 BK262 HB hHeld ⊢
       refine zpu 0 (some 18) (fl 6 1) ?_
       refine ztk 1 (some 19) (fl 6 3) hHeld ?_
       refine ztk 3 (some 21) (fl 6 11) hHeld ?_
       refine zone 2 (some 20) (fl 6 15) (fun K hK => ?_)
       refine zgo Try.func23 #[.agg #[.int .i64 a0_0, .int .i64 a0_1, .slice A0_2 l0_2.length c0_2, .slice A0_3 l0_3.length c0_3]] ?_
       with_reducible refine (impl_Figure_grid.calls a0_0 a0_1 _ _ l0_2 _ _ l0_3 t265 t266 _ ?side1 ?side2 ?side3 ?side4 A18.out).mono ?_
       (case side1 => exact zC HR0_2)
       (case side2 => exact HC0_2.out)
       (case side3 => exact zC HR0_3)
       (case side4 => exact HC0_3.out)
       rintro e w120 ⟨rfl, hb⟩
       refine ⟨_, rfl, ?_⟩
       replace BK261 := zKb BK261 hb
       replace BK262 := zKb BK262 hb
       replace HB := zBb hb
       (try clear hb)
       (try clear hb2)
       (try clear hk)
       (try clear hi)
       refine hK.out _ _ ⟨(blk_cell BK261.out 0).trans rfl, (blk_cell BK261.out 1).trans rfl, (blk_cell BK261.out 2).trans rfl, (blk_cell BK261.out 3).trans rfl, (blk_cell BK261.out 4).trans rfl, (blk_cell BK261.out 5).trans rfl, (blk_cell BK261.out 6).trans rfl, (blk_cell BK262.out 0).trans rfl, (blk_cell BK262.out 1).trans rfl, (blk_cell BK262.out 2).trans rfl, (blk_cell BK262.out 3).trans rfl⟩ (fun hHeld => ?_)
       clear hK K
       refine znm ?_
       refine zone 4 (some 22) (fl 6 31) (fun K hK => ?_)
       refine zgo Try.func23 #[.agg #[.int .i64 a1_0, .int .i64 a1_1, .slice A1_2 l1_2.length c1_2, .slice A1_3 l1_3.length c1_3]] ?_
       with_reducible refine (impl_Figure_grid.calls a1_0 a1_1 _ _ l1_2 _ _ l1_3 t267 t268 _ ?side1 ?side2 ?side3 ?side4 A19.out).mono ?_
       (case side1 => exact zC HR1_2)
       (case side2 => exact HC1_2.out)
       (case side3 => exact zC HR1_3)
       (case side4 => exact HC1_3.out)
       rintro e w121 ⟨rfl, hb⟩
       refine ⟨_, rfl, ?_⟩
       replace BK261 := zKb BK261 hb
       replace BK262 := zKb BK262 hb
       replace HB := zBb hb
       (try clear hb)
       (try clear hb2)
       (try clear hk)
       (try clear hi)
       refine hK.out _ _ ⟨(blk_cell BK261.out 0).trans rfl, (blk_cell BK261.out 1).trans rfl, (blk_cell BK261.out 2).trans rfl, (blk_cell BK261.out 3).trans rfl, (blk_cell BK261.out 4).trans rfl, (blk_cell BK261.out 5).trans rfl, (blk_cell BK261.out 6).trans rfl, (blk_cell BK262.out 0).trans rfl, (blk_cell BK262.out 1).trans rfl, (blk_cell BK262.out 2).trans rfl, (blk_cell BK262.out 3).trans rfl⟩ (fun hHeld => ?_)
       clear hK K
       refine znm ?_
       refine zpu 5 (some 23) (fl 6 63) ?_
       refine done_ (by kernel_rfl) ?_
       try go_wp2
       replace BK261 := Aside0.mk (blk_drew BK261.out)
       replace BK262 := Aside0.mk (blk_drew BK262.out)
       replace HB := Aside0.mk (below_drew1 HB.out)
       refine start_ (n := 7) (S := fun w' => w'.cell? ⟨gb262, 0, none⟩ = some (.int .i64 a1_0) ∧ w'.cell? ⟨gb262, 1, none⟩ = some (.int .i64 a1_1) ∧ w'.cell? ⟨gb262, 2, none⟩ = some (.slice A1_2 l1_2.length c1_2) ∧ w'.cell? ⟨gb262, 3, none⟩ = some (.slice A1_3 l1_3.length c1_3)) (ds := []) (fl 7 0) (by kernel_rfl) rfl rfl ⟨(blk_cell BK262.out 0).trans rfl, (blk_cell BK262.out 1).trans rfl, (blk_cell BK262.out 2).trans rfl, (blk_cell BK262.out 3).trans rfl⟩ (fun hHeld => ?_)
       generalize w121.drew = w122 at BK261 BK262 HB hHeld ⊢
       refine ztk 0 (some 24) (fl 7 1) hHeld ?_
       refine ztk 3 (some 27) (fl 7 9) hHeld ?_
       refine zone 1 (some 25) (fl 7 11) (fun K hK => ?_)
       refine zgo Try.func23 #[.agg #[.int .i64 a1_0, .int .i64 a1_1, .slice A1_2 l1_2.length c1_2, .slice A1_3 l1_3.length c1_3]] ?_
       with_reducible refine (impl_Figure_grid.calls a1_0 a1_1 _ _ l1_2 _ _ l1_3 t269 t270 _ ?side1 ?side2 ?side3 ?side4 A24.out).mono ?_
       (case side1 => exact zC HR1_2)
       (case side2 => exact HC1_2.out)
       (case side3 => exact zC HR1_3)
       (case side4 => exact HC1_3.out)
       rintro e w123 ⟨rfl, hb⟩
       refine ⟨_, rfl, ?_⟩
       replace BK261 := zKb BK261 hb
       replace BK262 := zKb BK262 hb
       replace HB := zBb hb
       (try clear hb)
       (try clear hb2)
       (try clear hk)
       (try clear hi)
       refine hK.out _ _ ⟨(blk_cell BK262.out 0).trans rfl, (blk_cell BK262.out 1).trans rfl, (blk_cell BK262.out 2).trans rfl, (blk_cell BK262.out 3).trans rfl⟩ (fun hHeld => ?_)
       clear hK K
       refine znm ?_
       refine zone 2 (some 26) (fl 7 15) (fun K hK => ?_)
       refine zgo Try.func24 #[.agg #[.int .i64 t269, .int .i64 t270]] ?_
       with_reducible refine (impl_grid_squares.calls kj2 t269 t270 t271 _ A25.out).mono ?_
       rintro e w124 ⟨v272, rfl, ho0, hb⟩
       refine ⟨_, rfl, ?_⟩
       have HO273 := Aside0.mk (Kd.R_lower ho0 (below_size zB))
       replace BK261 := zKb BK261 hb
       replace BK262 := zKb BK262 hb
       replace HB := zBb hb
       (try clear hb)
       (try clear hb2)
       (try clear hk)
       (try clear hi)
       (try clear ho0)
       refine hK.out _ _ ⟨(blk_cell BK262.out 0).trans rfl, (blk_cell BK262.out 1).trans rfl, (blk_cell BK262.out 2).trans rfl, (blk_cell BK262.out 3).trans rfl⟩ (fun hHeld => ?_)
       clear hK K
       refine znm ?_
       refine zone 4 (some 28) (fl 7 31) (fun K hK => ?_)
       refine zgo Try.func25 #[.agg #[.int .i64 a1_0, .int .i64 a1_1, .slice A1_2 l1_2.length c1_2, .slice A1_3 l1_3.length c1_3]] ?_
       with_reducible refine (impl_Figure_set.calls kj2 a1_0 a1_1 _ _ l1_2 _ _ l1_3 t274 _ ?side1 ?side2 ?side3 ?side4 A26.out).mono ?_
       (case side1 => exact zC HR1_2)
       (case side2 => exact HC1_2.out)
       (case side3 => exact zC HR1_3)
       (case side4 => exact HC1_3.out)
       rintro e w125 ⟨rfl, hb⟩
       refine ⟨_, rfl, ?_⟩
       replace HO273 := Aside0.mk (Kd.R_below (zR HO273) hb)
       replace BK261 := zKb BK261 hb
       replace BK262 := zKb BK262 hb
       replace HB := zBb hb
       (try clear hb)
       (try clear hb2)
       (try clear hk)
       (try clear hi)
       refine hK.out _ _ ⟨(blk_cell BK262.out 0).trans rfl, (blk_cell BK262.out 1).trans rfl, (blk_cell BK262.out 2).trans rfl, (blk_cell BK262.out 3).trans rfl⟩ (fun hHeld => ?_)
       clear hK K
       refine znm ?_
       refine zpu 5 (some 6) (fl 7 63) ?_
       refine zpu 6 (some 7) (fl 7 127) ?_
       refine done_ (by kernel_rfl) ?_
       have hnb126 := NB261_262.out
       have hnc126 := NB262_261.out
       have hcz127_0 : w125.cell? ⟨gb261, 0, none⟩ = some (.int .i64 a0_0) := (blk_cell BK261.out 0).trans rfl
       have hcz127_1 : w125.cell? ⟨gb261, 1, none⟩ = some (.int .i64 a0_1) := (blk_cell BK261.out 1).trans rfl
       have hcz127_2 : w125.cell? ⟨gb261, 2, none⟩ = some (.slice A0_2 l0_2.length c0_2) := (blk_cell BK261.out 2).trans rfl
       have hcz127_3 : w125.cell? ⟨gb261, 3, none⟩ = some (.slice A0_3 l0_3.length c0_3) := (blk_cell BK261.out 3).trans rfl
       have hcz127_4 : w125.cell? ⟨gb261, 4, none⟩ = some (.int .i64 a0_4) := (blk_cell BK261.out 4).trans rfl
       have hcz127_5 : w125.cell? ⟨gb261, 5, none⟩ = some (.bool false) := (blk_cell BK261.out 5).trans rfl
       have hcz127_6 : w125.cell? ⟨gb261, 6, none⟩ = some (.int .i64 a0_6) := (blk_cell BK261.out 6).trans rfl
       have hfz127_0 := blk_frozen BK261.out 0
       have hfz127_1 := blk_frozen BK261.out 1
       have hfz127_2 := blk_frozen BK261.out 2
       have hfz127_3 := blk_frozen BK261.out 3
       have hfz127_4 := blk_frozen BK261.out 4
       have hfz127_5 := blk_frozen BK261.out 5
       have hfz127_6 := blk_frozen BK261.out 6
       obtain ⟨hcz128_0, hcz128_1, hcz128_2, hcz128_3, hfz128_0, hfz128_1, hfz128_2, hfz128_3⟩ := blk4 BK262
       try go_wp2_with (first | ((with_reducible refine gate_callee (f := 26) rfl ?_); refine goesL_ (some 35) rfl rfl Try.func26 (by kernel_rfl) rfl #[.agg #[.int .i64 a0_0, .int .i64 a0_1, .slice A0_2 l0_2.length c0_2, .slice A0_3 l0_3.length c0_3], .agg #[.int .i64 a1_0, .int .i64 a1_1, .slice A1_2 l1_2.length c1_2, .slice A1_3 l1_3.length c1_3], .int .i64 a0_4] rfl zM ?_; (with_reducible refine (impl_IsTakeOf.calls kj2 a0_0 a0_1 _ _ l0_2 _ _ l0_3 a1_0 a1_1 _ _ l1_2 _ _ l1_3 a0_4 false t276 _ ?side1 ?side2 ?side3 ?side4 ?side5 ?side6 ?side7 ?side8 A27.out).mono ?_); (case side1 => exact zC HR0_2); (case side2 => exact HC0_2.out); (case side3 => exact zC HR0_3); (case side4 => exact HC0_3.out); (case side5 => exact zC HR1_2); (case side6 => exact HC1_2.out); (case side7 => exact zC HR1_3); (case side8 => exact HC1_3.out); rintro e w129 ⟨rfl, hb⟩; refine ⟨_, rfl, ?_⟩; replace HO273 := Aside0.mk (Kd.R_below (zR HO273) hb); replace BK261 := zKb BK261 hb; replace BK262 := zKb BK262 hb; replace HB := zBb hb; (try clear hb); (try clear hb2); (try clear hk); (try clear hi); have hcz130_0 : w129.cell? ⟨gb261, 0, none⟩ = some (.int .i64 a0_0) := (blk_cell BK261.out 0).trans rfl; have hcz130_1 : w129.cell? ⟨gb261, 1, none⟩ = some (.int .i64 a0_1) := (blk_cell BK261.out 1).trans rfl; have hcz130_2 : w129.cell? ⟨gb261, 2, none⟩ = some (.slice A0_2 l0_2.length c0_2) := (blk_cell BK261.out 2).trans rfl; have hcz130_3 : w129.cell? ⟨gb261, 3, none⟩ = some (.slice A0_3 l0_3.length c0_3) := (blk_cell BK261.out 3).trans rfl; have hcz130_4 : w129.cell? ⟨gb261, 4, none⟩ = some (.int .i64 a0_4) := (blk_cell BK261.out 4).trans rfl; have hcz130_5 : w129.cell? ⟨gb261, 5, none⟩ = some (.bool false) := (blk_cell BK261.out 5).trans rfl; have hcz130_6 : w129.cell? ⟨gb261, 6, none⟩ = some (.int .i64 a0_6) := (blk_cell BK261.out 6).trans rfl; have hfz130_0 := blk_frozen BK261.out 0; have hfz130_1 := blk_frozen BK261.out 1; have hfz130_2 := blk_frozen BK261.out 2; have hfz130_3 := blk_frozen BK261.out 3; have hfz130_4 := blk_frozen BK261.out 4; have hfz130_5 := blk_frozen BK261.out 5; have hfz130_6 := blk_frozen BK261.out 6))
       replace HO273 := Aside0.mk (Kd.R_drew HO273.out)
       replace BK261 := Aside0.mk (blk_drew BK261.out)
       replace BK262 := Aside0.mk (blk_drew BK262.out)
       replace HB := Aside0.mk (below_drew1 HB.out)
       refine start_ (n := 17) (S := fun w' => True) (ds := []) (fl 17 0) (by kernel_rfl) rfl rfl trivial (fun hHeld => ?_); refine with_tabW impl_IsSolution.tab9 impl_IsSolution.bits9 (fun HT_ HW_ => ?_)
       generalize w129.drew = w131 at HO273 BK261 BK262 HB hHeld ⊢
       refine zpu 0 (some 49) (fl 17 1) ?_
       refine zpu 1 (some 50) (fl 17 3) ?_
       refine zpn 2 (some 51) (fl 17 7) ?_
       refine zpn 3 (some 52) (fl 17 15) ?_
       refine zpn 4 (some 53) (fl 17 31) ?_
       refine zpn 5 (some 54) (fl 17 63) ?_
       refine zpn 6 (some 55) (fl 17 127) ?_
       refine zpn 7 (some 56) (fl 17 255) ?_
       refine zpu 8 (some 57) (fl 17 511) ?_
       refine zpu 9 (some 58) (fl 17 1023) ?_
       refine zpn 10 (some 59) (fl 17 2047) ?_
       refine zpn 11 (some 60) (fl 17 4095) ?_
       refine zpn 12 (some 61) (fl 17 8191) ?_
       refine zpn 13 (some 62) (fl 17 16383) ?_
       refine zpu 14 (some 63) (fl 17 32767) ?_
       refine zpu 15 (some 4) (fl 17 65535) ?_
       refine zpu 16 (some 5) (fl 17 131071) ?_
       refine done_ (done_of HT_.out (by kernel_rfl)) ?_
       try go_wp2
       go_ret2
       exact ⟨by first | rfl | (simp [errW_none, errW_some] <;> rfl) | (simp [*, errW_none, errW_some] <;> rfl), by repeat (first | (with_reducible first | exact HB.out | apply below_alloc | apply pw_below_drewN | apply below_drew1 | refine below_set ?_ GE261.out | refine below_set ?_ GE262.out) | exact HB.out)⟩

end Go.Proofs.Ytlmobibbefjhfaa.S
