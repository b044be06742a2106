import Derived.Test.YtlmobibbefjhfaaSd
import Derived.Test.YtlmobibbefjhfaaSc0
import Derived.Test.YtlmobibbefjhfaaSc1
namespace Go.Proofs.Ytlmobibbefjhfaa.S
open Go.RowKit Go.Proofs.YtlmobibbefjhfaaW.PrintWords Go.Proofs.YtlmobibbefjhfaaW.PrintLast Go.Proofs.YtlmobibbefjhfaaW.PrintMore
attribute [local go_sem] max2_int min2_int max_two min_two max_three min_three max_four min_four
set_option linter.unusedVariables false
set_option linter.unusedSimpArgs false

/-! ### spec_IsSolution: function 6 -/
def spec_IsSolution.T10 : Bool × List (List Nat × List Nat) := (true, [([], []), ([], []), ([0, 1], [0, 1]), ([2], [2]), ([], []), ([4], [4]), ([3, 5], [3, 5]), ([6, 3], [6]), ([7], [7]), ([7], [7]), ([8, 9, 7], [7, 8, 9]), ([10, 7, 7], [7, 10]), ([7], [7]), ([11, 12, 7], [7, 11, 12]), ([7, 13], [7, 13]), ([14, 11], [14]), ([15], [15]), ([15], [15]), ([16, 17, 15, 15], [15, 16, 17]), ([15], [15]), ([19, 15], [15, 19]), ([18, 20, 15], [15, 18, 20]), ([15, 21], [15, 21]), ([22, 18], [22]), ([23], [23]), ([23], [23]), ([24, 25, 23, 23], [23, 24, 25]), ([23], [23]), ([26, 27, 23], [23, 26, 27]), ([23, 28], [23, 28]), ([29, 26, 0, 1, 2, 3, 4, 5, 6, 7, 8, 9, 10, 11, 12, 13, 14, 15, 16, 17, 18, 19, 20, 21, 22, 23, 24, 25, 26, 27, 28, 29], [29]), ([30, 0, 1, 2, 3, 4, 5, 6, 7, 8, 9, 10, 11, 12, 13, 14, 15, 16, 17, 18, 19, 20, 21, 22, 23, 24, 25, 26, 27, 28, 29, 30], [])])
def spec_IsSolution.B10 : List Nat := [0, 0, 3, 7, 0, 16, 63, 127, 255, 255, 1023, 2047, 255, 8191, 16383, 32767, 65535, 65535, 262143, 65535, 589823, 2097151, 4194303, 8388607, 16777215, 16777215, 67108863, 16777215, 268435455, 536870911, 1073741823, 2147483647]
theorem spec_IsSolution.tab10 : rtab .any (opsOf Try.f6 10) = spec_IsSolution.T10 := by kernel_rfl
theorem spec_IsSolution.bits10 : waitsOk spec_IsSolution.T10.2 spec_IsSolution.B10 = true := by kernel_rfl
set_option maxHeartbeats 8000000 in
set_option maxRecDepth 100000 in
theorem spec_IsSolution.calls (k : Nat) (a0_0 : Int) (a0_1 : Int) (A0_2 : Option Addr) (c0_2 : Nat) (l0_2 : List Int) (A0_3 : Option Addr) (c0_3 : Nat) (l0_3 : List Int) (a0_4 : Int) (a0_5 : Bool) (a0_6 : Int) (a1_0 : Int) (a1_1 : Int) (A1_2 : Option Addr) (c1_2 : Nat) (l1_2 : List Int) (A1_3 : Option Addr) (c1_3 : Nat) (l1_3 : List Int) (r1 : Bool) (r2 : Bool) (w : World) (hr0_2 : Kd.C (Kd.int .i64) w A0_2 l0_2.length l0_2) (hc0_2 : l0_2.length ≤ c0_2) (hr0_3 : Kd.C (Kd.int .i64) w A0_3 l0_3.length l0_3) (hc0_3 : l0_3.length ≤ c0_3) (hr1_2 : Kd.C (Kd.int .i64) w A1_2 l1_2.length l1_2) (hc1_2 : l1_2.length ≤ c1_2) (hr1_3 : Kd.C (Kd.int .i64) w A1_3 l1_3.length l1_3) (hc1_3 : l1_3.length ≤ c1_3) (h : spec_IsSolution.f k a0_0 a0_1 l0_2 l0_3 a0_4 a0_5 a0_6 a1_0 a1_1 l1_2 l1_3 = some (r1, r2)) :
  Calls Try.prog 6 #[.agg #[.int .i64 a0_0, .int .i64 a0_1, .slice A0_2 l0_2.length c0_2, .slice A0_3 l0_3.length c0_3, .int .i64 a0_4, .bool a0_5, .int .i64 a0_6], .agg #[.int .i64 a1_0, .int .i64 a1_1, .slice A1_2 l1_2.length c1_2, .slice A1_3 l1_3.length c1_3]] w fun e w' => e = .returned (.tuple #[.bool r1, .bool r2]) ∧ Below w.heap.size w w' := by
 have hu33 := Try.underlying33
 have hu31 := Try.underlying31
 have HR0_2 := Aside0.mk hr0_2
 have HC0_2 := Aside0.mk hc0_2
 clear hr0_2 hc0_2
 have HR0_3 := Aside0.mk hr0_3
 have HC0_3 := Aside0.mk hc0_3
 clear hr0_3 hc0_3
 have HR1_2 := Aside0.mk hr1_2
 have HC1_2 := Aside0.mk hc1_2
 clear hr1_2 hc1_2
 have HR1_3 := Aside0.mk hr1_3
 have HC1_3 := Aside0.mk hc1_3
 clear hr1_3 hc1_3
 have HB := Aside0.mk (Below.refl w.heap.size w)
 have H : ((spec_pzGood.f k a0_0 a0_1 l0_2 l0_3 a0_4 a0_5 a0_6).bind fun t144 => (if t144 = true then ((spec_fiGood.f k a1_0 a1_1 l1_2 l1_3).bind fun t145 => (spec_IsSolution.j0 k (!t145) a0_0 a0_1 l0_2 l0_3 a0_4 a0_5 a0_6 a1_0 a1_1 l1_2 l1_3)) else (spec_IsSolution.j0 k true a0_0 a0_1 l0_2 l0_3 a0_4 a0_5 a0_6 a1_0 a1_1 l1_2 l1_3))) = some (r1, r2) := h
 clear h
 have HC3 := Aside0.mk H
 clear H
 go_enter Try.func6, Try.ntmps6
 go_upto_region 1 with (first | ((with_reducible refine gate_dst (N := 2) rfl ?_); refine box_event ?hg (N := 2) ?hd (cs := #[.int .i64 a0_0, .int .i64 a0_1, .slice A0_2 l0_2.length c0_2, .slice A0_3 l0_3.length c0_3, .int .i64 a0_4, .bool a0_5, .int .i64 a0_6]) (t := 33) ?hr ?_; (case hd => rfl); (case hg => rfl); (case hr => first | (go_simp; done) | (go_simp; rfl)); intro gb142 hg w4 hbox hb; have BK142 := Aside0.mk (hbox); have GW142 := Aside0.mk ((by rw [hg]; exact (below_size zB) : w.heap.size ≤ gb142)); have GE142 := Aside0.mk ((by rw [hg]; exact (below_size zB) : w.heap.size ≤ gb142)); replace HB := zBb hb; clear hb hbox hg) | ((with_reducible refine gate_dst (N := 3) rfl ?_); refine box_event ?hg (N := 3) ?hd (cs := #[.int .i64 a1_0, .int .i64 a1_1, .slice A1_2 l1_2.length c1_2, .slice A1_3 l1_3.length c1_3]) (t := 31) ?hr ?_; (case hd => rfl); (case hg => rfl); (case hr => first | (go_simp; done) | (go_simp; rfl)); intro gb143 hg w5 hbox hb; have BK143 := Aside0.mk (hbox); have GW143 := Aside0.mk ((by rw [hg]; exact (below_size zB) : w.heap.size ≤ gb143)); have GE143 := Aside0.mk ((by rw [hg]; exact (below_size zB) : w.heap.size ≤ gb143)); have NB142_143 := Aside0.mk ((by rw [hg]; exact Nat.ne_of_lt (blk_lt (g := gb142) (o := .cells #[.int .i64 a0_0, .int .i64 a0_1, .slice A0_2 l0_2.length c0_2, .slice A0_3 l0_3.length c0_3, .int .i64 a0_4, .bool a0_5, .int .i64 a0_6] 33 (0, 0)) (zK BK142)) : gb142 ≠ gb143)); have NB143_142 := Aside0.mk ((by rw [hg]; exact Nat.ne_of_gt (blk_lt (g := gb142) (o := .cells #[.int .i64 a0_0, .int .i64 a0_1, .slice A0_2 l0_2.length c0_2, .slice A0_3 l0_3.length c0_3, .int .i64 a0_4, .bool a0_5, .int .i64 a0_6] 33 (0, 0)) (zK BK142)) : gb143 ≠ gb142)); replace BK142 := zKb BK142 hb; replace HB := zBb hb; clear hb hbox hg))
 (try simp only [Act.put, List.setIfInBounds_toArray, List.set_cons_zero, List.set_cons_succ])
 go_cut [17] (fun v17 wc => ∃ (kq : Nat) (x17_2 : Bool), v17 = .bool x17_2 ∧ Aside0 (spec_IsSolution.j0 kq x17_2 a0_0 a0_1 l0_2 l0_3 a0_4 a0_5 a0_6 a1_0 a1_1 l1_2 l1_3 = some (r1, r2)) ∧ Aside0 (kq ≤ k) ∧ Aside0 (wc.heap[gb142]? = some (.cells #[.int .i64 a0_0, .int .i64 a0_1, (.slice A0_2 l0_2.length c0_2), (.slice A0_3 l0_3.length c0_3), .int .i64 a0_4, .bool a0_5, .int .i64 a0_6] 33 (0, 0))) ∧ Aside0 (wc.heap[gb143]? = some (.cells #[.int .i64 a1_0, .int .i64 a1_1, (.slice A1_2 l1_2.length c1_2), (.slice A1_3 l1_3.length c1_3)] 31 (0, 0))) ∧ Aside0 (Below w.heap.size w wc))
 case first =>
  have H := HC3.out
  clear HC3
  replace H := Option.bind_eq_some_iff.mp H
  obtain ⟨t144, A60, H⟩ := H
  replace H : (if t144 = true then ((spec_fiGood.f k a1_0 a1_1 l1_2 l1_3).bind fun t145 => (spec_IsSolution.j0 k (!t145) a0_0 a0_1 l0_2 l0_3 a0_4 a0_5 a0_6 a1_0 a1_1 l1_2 l1_3)) else (spec_IsSolution.j0 k true a0_0 a0_1 l0_2 l0_3 a0_4 a0_5 a0_6 a1_0 a1_1 l1_2 l1_3)) = some (r1, r2) := H
  have A6 := Aside0.mk A60
  clear A60
  by_cases c7 : t144 = true
  ·subst c7
   have H1 : ((spec_fiGood.f k a1_0 a1_1 l1_2 l1_3).bind fun t145 => (spec_IsSolution.j0 k (!t145) a0_0 a0_1 l0_2 l0_3 a0_4 a0_5 a0_6 a1_0 a1_1 l1_2 l1_3)) = some (r1, r2) := by rw [if_pos rfl] at H; exact H
   clear H
   have H := H1
   clear H1
   replace H := Option.bind_eq_some_iff.mp H
   obtain ⟨t145, A80, H⟩ := H
   replace H : (spec_IsSolution.j0 k (!t145) a0_0 a0_1 l0_2 l0_3 a0_4 a0_5 a0_6 a1_0 a1_1 l1_2 l1_3) = some (r1, r2) := H
   have A8 := Aside0.mk A80
   clear A80
   have H' := Aside0.mk H
   clear H
   have hnb9 := NB142_143.out
   have hnc9 := NB143_142.out
   have hcz10_0 : w5.cell? ⟨gb142, 0, none⟩ = some (.int .i64 a0_0) := (blk_cell BK142.out 0).trans rfl
   have hcz10_1 : w5.cell? ⟨gb142, 1, none⟩ = some (.int .i64 a0_1) := (blk_cell BK142.out 1).trans rfl
   have hcz10_2 : w5.cell? ⟨gb142, 2, none⟩ = some (.slice A0_2 l0_2.length c0_2) := (blk_cell BK142.out 2).trans rfl
   have hcz10_3 : w5.cell? ⟨gb142, 3, none⟩ = some (.slice A0_3 l0_3.length c0_3) := (blk_cell BK142.out 3).trans rfl
   have hcz10_4 : w5.cell? ⟨gb142, 4, none⟩ = some (.int .i64 a0_4) := (blk_cell BK142.out 4).trans rfl
   have hcz10_5 : w5.cell? ⟨gb142, 5, none⟩ = some (.bool a0_5) := (blk_cell BK142.out 5).trans rfl
   have hcz10_6 : w5.cell? ⟨gb142, 6, none⟩ = some (.int .i64 a0_6) := (blk_cell BK142.out 6).trans rfl
   have hfz10_0 := blk_frozen BK142.out 0
   have hfz10_1 := blk_frozen BK142.out 1
   have hfz10_2 := blk_frozen BK142.out 2
   have hfz10_3 := blk_frozen BK142.out 3
   have hfz10_4 := blk_frozen BK142.out 4
   have hfz10_5 := blk_frozen BK142.out 5
   have hfz10_6 := blk_frozen BK142.out 6
   go_wp2_with (first | ((with_reducible refine gate_callee (f := 13) rfl ?_); refine goesL_ (some 11) rfl rfl Try.func13 (by kernel_rfl) rfl #[.agg #[.int .i64 a0_0, .int .i64 a0_1, .slice A0_2 l0_2.length c0_2, .slice A0_3 l0_3.length c0_3, .int .i64 a0_4, .bool a0_5, .int .i64 a0_6]] rfl zM ?_; (with_reducible refine (spec_pzGood.calls k a0_0 a0_1 _ _ l0_2 _ _ l0_3 a0_4 a0_5 a0_6 true _ ?side1 ?side2 ?side3 ?side4 A6.out).mono ?_); (case side1 => exact zC HR0_2); (case side2 => exact HC0_2.out); (case side3 => exact zC HR0_3); (case side4 => exact HC0_3.out); rintro e w11 ⟨rfl, hb⟩; refine ⟨_, rfl, ?_⟩; replace BK142 := zKb BK142 hb; replace BK143 := zKb BK143 hb; replace HB := zBb hb; (try clear hb); (try clear hb2); (try clear hk); (try clear hi); obtain ⟨hcz12_0, hcz12_1, hcz12_2, hcz12_3, hfz12_0, hfz12_1, hfz12_2, hfz12_3⟩ := blk4 BK143) | (go_at_call 14; (with_reducible refine (spec_fiGood.calls k a1_0 a1_1 _ _ l1_2 _ _ l1_3 t145 _ ?side1 ?side2 ?side3 ?side4 A8.out).mono ?_); (case side1 => exact zC HR1_2); (case side2 => exact HC1_2.out); (case side3 => exact zC HR1_3); (case side4 => exact HC1_3.out); rintro e w13 ⟨rfl, hb⟩; replace BK142 := zKb BK142 hb; replace BK143 := zKb BK143 hb; replace HB := zBb hb; (try clear hb); (try clear hb2); (try clear hk); (try clear hi)))
   go_meet
   case rel => exact ⟨_, (!t145), zA, H', ⟨by first | omega | exact Nat.le_refl _⟩, ⟨zK BK142⟩, ⟨zK BK143⟩, ⟨zB⟩⟩
  ·replace c7 := Bool.eq_false_iff.mpr c7
   subst c7
   have H1 : (spec_IsSolution.j0 k true a0_0 a0_1 l0_2 l0_3 a0_4 a0_5 a0_6 a1_0 a1_1 l1_2 l1_3) = some (r1, r2) := by rw [if_neg (show ¬ (false = true) by decide)] at H; exact H
   clear H
   have H := H1
   clear H1
   have H' := Aside0.mk H
   clear H
   have hnb14 := NB142_143.out
   have hnc14 := NB143_142.out
   have hcz15_0 : w5.cell? ⟨gb142, 0, none⟩ = some (.int .i64 a0_0) := (blk_cell BK142.out 0).trans rfl
   have hcz15_1 : w5.cell? ⟨gb142, 1, none⟩ = some (.int .i64 a0_1) := (blk_cell BK142.out 1).trans rfl
   have hcz15_2 : w5.cell? ⟨gb142, 2, none⟩ = some (.slice A0_2 l0_2.length c0_2) := (blk_cell BK142.out 2).trans rfl
   have hcz15_3 : w5.cell? ⟨gb142, 3, none⟩ = some (.slice A0_3 l0_3.length c0_3) := (blk_cell BK142.out 3).trans rfl
   have hcz15_4 : w5.cell? ⟨gb142, 4, none⟩ = some (.int .i64 a0_4) := (blk_cell BK142.out 4).trans rfl
   have hcz15_5 : w5.cell? ⟨gb142, 5, none⟩ = some (.bool a0_5) := (blk_cell BK142.out 5).trans rfl
   have hcz15_6 : w5.cell? ⟨gb142, 6, none⟩ = some (.int .i64 a0_6) := (blk_cell BK142.out 6).trans rfl
   have hfz15_0 := blk_frozen BK142.out 0
   have hfz15_1 := blk_frozen BK142.out 1
   have hfz15_2 := blk_frozen BK142.out 2
   have hfz15_3 := blk_frozen BK142.out 3
   have hfz15_4 := blk_frozen BK142.out 4
   have hfz15_5 := blk_frozen BK142.out 5
   have hfz15_6 := blk_frozen BK142.out 6
   go_wp2_with (first | ((with_reducible refine gate_callee (f := 13) rfl ?_); refine goesL_ (some 11) rfl rfl Try.func13 (by kernel_rfl) rfl #[.agg #[.int .i64 a0_0, .int .i64 a0_1, .slice A0_2 l0_2.length c0_2, .slice A0_3 l0_3.length c0_3, .int .i64 a0_4, .bool a0_5, .int .i64 a0_6]] rfl zM ?_; (with_reducible refine (spec_pzGood.calls k a0_0 a0_1 _ _ l0_2 _ _ l0_3 a0_4 a0_5 a0_6 false _ ?side1 ?side2 ?side3 ?side4 A6.out).mono ?_); (case side1 => exact zC HR0_2); (case side2 => exact HC0_2.out); (case side3 => exact zC HR0_3); (case side4 => exact HC0_3.out); rintro e w16 ⟨rfl, hb⟩; refine ⟨_, rfl, ?_⟩; replace BK142 := zKb BK142 hb; replace BK143 := zKb BK143 hb; replace HB := zBb hb; (try clear hb); (try clear hb2); (try clear hk); (try clear hi)))
   go_meet
   case rel => exact ⟨_, (true), zA, H', ⟨by first | omega | exact Nat.le_refl _⟩, ⟨zK BK142⟩, ⟨zK BK143⟩, ⟨zB⟩⟩
 case rest =>
  clear HC3
  (try clear c1); (try clear p2); (try clear c6); (try clear c7); (try clear c9); (try clear c13); (try clear c14); (try clear hcz10_0); (try clear hcz10_1); (try clear hcz10_2); (try clear hcz10_3); (try clear hcz10_4); (try clear hcz10_5); (try clear hcz10_6); (try clear hcz12_0); (try clear hcz12_1); (try clear hcz12_2); (try clear hcz12_3); (try clear hcz15_0); (try clear hcz15_1); (try clear hcz15_2); (try clear hcz15_3); (try clear hcz15_4); (try clear hcz15_5); (try clear hcz15_6); (try clear hfz10_0); (try clear hfz10_1); (try clear hfz10_2); (try clear hfz10_3); (try clear hfz10_4); (try clear hfz10_5); (try clear hfz10_6); (try clear hfz12_0); (try clear hfz12_1); (try clear hfz12_2); (try clear hfz12_3); (try clear hfz15_0); (try clear hfz15_1); (try clear hfz15_2); (try clear hfz15_3); (try clear hfz15_4); (try clear hfz15_5); (try clear hfz15_6)
  obtain ⟨kq, x17_2, rfl, HA, HJ2, BK142, BK143, HB⟩ := hcut
  cases kq with
  | zero => exact absurd HA.out (by simp [spec_IsSolution.j0])
  | succ kj2 =>
   have H := HA.out
   clear HA
   simp only [spec_IsSolution.j0] at H
   by_cases c17 : x17_2 = true
   ·subst c17
    have H1 : (some (false, false)) = some (r1, r2) := by rw [if_pos rfl] at H; exact H
    clear H
    have H := H1
    clear H1
    simp only [Option.some.injEq, Prod.mk.injEq] at H
    obtain ⟨rfl, rfl⟩ := H
    go_wp2
    go_ret2
    exact ⟨by first | rfl | (simp [errW_none, errW_some] <;> rfl) | (simp [*, errW_none, errW_some] <;> rfl), by repeat (first | (with_reducible first | exact HB.out | apply below_alloc | apply pw_below_drewN | apply below_drew1 | refine below_set ?_ GE142.out | refine below_set ?_ GE143.out) | exact HB.out)⟩
   ·replace c17 := Bool.eq_false_iff.mpr c17
    subst c17
    have H1 : (if a1_0 = a0_0 then (spec_IsSolution.j1 kj2 (a1_1 != a0_1) a0_0 a0_1 l0_2 l0_3 a0_4 a0_5 a0_6 a1_0 a1_1 l1_2 l1_3) else (spec_IsSolution.j1 kj2 true a0_0 a0_1 l0_2 l0_3 a0_4 a0_5 a0_6 a1_0 a1_1 l1_2 l1_3)) = some (r1, r2) := by rw [if_neg (show ¬ (false = true) by decide)] at H; exact H
    clear H
    have H := H1
    clear H1
    have HC18 := Aside0.mk H
    clear H
    go_upto_region 3 with (fail)
    go_cut [31] (fun v31 wc => ∃ (kq : Nat) (x31_17 : Bool), v31 = .bool x31_17 ∧ Aside0 (spec_IsSolution.j1 kq x31_17 a0_0 a0_1 l0_2 l0_3 a0_4 a0_5 a0_6 a1_0 a1_1 l1_2 l1_3 = some (r1, r2)) ∧ Aside0 (kq ≤ kj2) ∧ Aside0 (wc.heap[gb142]? = some (.cells #[.int .i64 a0_0, .int .i64 a0_1, (.slice A0_2 l0_2.length c0_2), (.slice A0_3 l0_3.length c0_3), .int .i64 a0_4, .bool a0_5, .int .i64 a0_6] 33 (0, 0))) ∧ Aside0 (wc.heap[gb143]? = some (.cells #[.int .i64 a1_0, .int .i64 a1_1, (.slice A1_2 l1_2.length c1_2), (.slice A1_3 l1_3.length c1_3)] 31 (0, 0))) ∧ Aside0 (Below w.heap.size w wc))
    case first =>
     have H := HC18.out
     clear HC18
     by_cases c19 : a1_0 = a0_0
     ·rw [if_pos c19] at H
      have c19b0 : (a1_0 == a0_0) = true := beq_iff_eq.mpr c19
      have c19b1 : (a1_0 != a0_0) = false := bne_eq_false_iff_eq.mpr c19
      clear c19
      (first | rw [c19b0] | (simp only [i64_w, i32_w]; rw [c19b0]) | skip)
      have H' := Aside0.mk H
      clear H
      have hnb20 := NB143_142.out
      have hnc20 := NB142_143.out
      obtain ⟨hcz21_0, hcz21_1, hcz21_2, hcz21_3, hfz21_0, hfz21_1, hfz21_2, hfz21_3⟩ := blk4 BK143
      have hcz22_0 : wc.cell? ⟨gb142, 0, none⟩ = some (.int .i64 a0_0) := (blk_cell BK142.out 0).trans rfl
      have hcz22_1 : wc.cell? ⟨gb142, 1, none⟩ = some (.int .i64 a0_1) := (blk_cell BK142.out 1).trans rfl
      have hcz22_2 : wc.cell? ⟨gb142, 2, none⟩ = some (.slice A0_2 l0_2.length c0_2) := (blk_cell BK142.out 2).trans rfl
      have hcz22_3 : wc.cell? ⟨gb142, 3, none⟩ = some (.slice A0_3 l0_3.length c0_3) := (blk_cell BK142.out 3).trans rfl
      have hcz22_4 : wc.cell? ⟨gb142, 4, none⟩ = some (.int .i64 a0_4) := (blk_cell BK142.out 4).trans rfl
      have hcz22_5 : wc.cell? ⟨gb142, 5, none⟩ = some (.bool a0_5) := (blk_cell BK142.out 5).trans rfl
      have hcz22_6 : wc.cell? ⟨gb142, 6, none⟩ = some (.int .i64 a0_6) := (blk_cell BK142.out 6).trans rfl
      have hfz22_0 := blk_frozen BK142.out 0
      have hfz22_1 := blk_frozen BK142.out 1
      have hfz22_2 := blk_frozen BK142.out 2
      have hfz22_3 := blk_frozen BK142.out 3
      have hfz22_4 := blk_frozen BK142.out 4
      have hfz22_5 := blk_frozen BK142.out 5
      have hfz22_6 := blk_frozen BK142.out 6
      go_wp2
      go_meet
      case rel => exact ⟨_, ((a1_1 != a0_1)), zA, H', ⟨by have := HJ2.out; first | omega | exact Nat.le_refl _⟩, ⟨zK BK142⟩, ⟨zK BK143⟩, ⟨zB⟩⟩
     ·rw [if_neg c19] at H
      have c19b0 : (a1_0 == a0_0) = false := beq_eq_false_iff_ne.mpr c19
      have c19b1 : (a1_0 != a0_0) = true := bne_iff_ne.mpr c19
      (first | rw [c19b0] | (simp only [i64_w, i32_w]; rw [c19b0]) | skip)
      have H' := Aside0.mk H
      clear H
      have hnb23 := NB143_142.out
      have hnc23 := NB142_143.out
      obtain ⟨hcz24_0, hcz24_1, hcz24_2, hcz24_3, hfz24_0, hfz24_1, hfz24_2, hfz24_3⟩ := blk4 BK143
      have hcz25_0 : wc.cell? ⟨gb142, 0, none⟩ = some (.int .i64 a0_0) := (blk_cell BK142.out 0).trans rfl
      have hcz25_1 : wc.cell? ⟨gb142, 1, none⟩ = some (.int .i64 a0_1) := (blk_cell BK142.out 1).trans rfl
      have hcz25_2 : wc.cell? ⟨gb142, 2, none⟩ = some (.slice A0_2 l0_2.length c0_2) := (blk_cell BK142.out 2).trans rfl
      have hcz25_3 : wc.cell? ⟨gb142, 3, none⟩ = some (.slice A0_3 l0_3.length c0_3) := (blk_cell BK142.out 3).trans rfl
      have hcz25_4 : wc.cell? ⟨gb142, 4, none⟩ = some (.int .i64 a0_4) := (blk_cell BK142.out 4).trans rfl
      have hcz25_5 : wc.cell? ⟨gb142, 5, none⟩ = some (.bool a0_5) := (blk_cell BK142.out 5).trans rfl
      have hcz25_6 : wc.cell? ⟨gb142, 6, none⟩ = some (.int .i64 a0_6) := (blk_cell BK142.out 6).trans rfl
      have hfz25_0 := blk_frozen BK142.out 0
      have hfz25_1 := blk_frozen BK142.out 1
      have hfz25_2 := blk_frozen BK142.out 2
      have hfz25_3 := blk_frozen BK142.out 3
      have hfz25_4 := blk_frozen BK142.out 4
      have hfz25_5 := blk_frozen BK142.out 5
      have hfz25_6 := blk_frozen BK142.out 6
      go_wp2
      go_meet
      case rel => exact ⟨_, (true), zA, H', ⟨by have := HJ2.out; first | omega | exact Nat.le_refl _⟩, ⟨zK BK142⟩, ⟨zK BK143⟩, ⟨zB⟩⟩
    case rest =>
     clear HC18
     (try clear c1); (try clear c2); (try clear p2); (try clear c6); (try clear c7); (try clear c9); (try clear c13); (try clear c14); (try clear c17); (try clear c19); (try clear c19b0); (try clear c19b1); (try clear c20); (try clear c23); (try clear hcz10_0); (try clear hcz10_1); (try clear hcz10_2); (try clear hcz10_3); (try clear hcz10_4); (try clear hcz10_5); (try clear hcz10_6); (try clear hcz12_0); (try clear hcz12_1); (try clear hcz12_2); (try clear hcz12_3); (try clear hcz15_0); (try clear hcz15_1); (try clear hcz15_2); (try clear hcz15_3); (try clear hcz15_4); (try clear hcz15_5); (try clear hcz15_6); (try clear hcz21_0); (try clear hcz21_1); (try clear hcz21_2); (try clear hcz21_3); (try clear hcz22_0); (try clear hcz22_1); (try clear hcz22_2); (try clear hcz22_3); (try clear hcz22_4); (try clear hcz22_5); (try clear hcz22_6); (try clear hcz24_0); (try clear hcz24_1); (try clear hcz24_2); (try clear hcz24_3); (try clear hcz25_0); (try clear hcz25_1); (try clear hcz25_2); (try clear hcz25_3); (try clear hcz25_4); (try clear hcz25_5); (try clear hcz25_6); (try clear hfz10_0); (try clear hfz10_1); (try clear hfz10_2); (try clear hfz10_3); (try clear hfz10_4); (try clear hfz10_5); (try clear hfz10_6); (try clear hfz12_0); (try clear hfz12_1); (try clear hfz12_2); (try clear hfz12_3); (try clear hfz15_0); (try clear hfz15_1); (try clear hfz15_2); (try clear hfz15_3); (try clear hfz15_4); (try clear hfz15_5); (try clear hfz15_6); (try clear hfz21_0); (try clear hfz21_1); (try clear hfz21_2); (try clear hfz21_3); (try clear hfz22_0); (try clear hfz22_1); (try clear hfz22_2); (try clear hfz22_3); (try clear hfz22_4); (try clear hfz22_5); (try clear hfz22_6); (try clear hfz24_0); (try clear hfz24_1); (try clear hfz24_2); (try clear hfz24_3); (try clear hfz25_0); (try clear hfz25_1); (try clear hfz25_2); (try clear hfz25_3); (try clear hfz25_4); (try clear hfz25_5); (try clear hfz25_6); (try clear p2)
     obtain ⟨kq, x31_17, rfl, HA, HJ17, BK142, BK143, HB⟩ := hcut
     cases kq with
     | zero => exact absurd HA.out (by simp [spec_IsSolution.j1])
     | succ kj17 =>
      have H := HA.out
      clear HA
      simp only [spec_IsSolution.j1] at H
      by_cases c26 : x31_17 = true
      ·subst c26
       have H1 : (some (false, true)) = some (r1, r2) := by rw [if_pos rfl] at H; exact H
       clear H
       have H := H1
       clear H1
       simp only [Option.some.injEq, Prod.mk.injEq] at H
       obtain ⟨rfl, rfl⟩ := H
       go_wp2
       go_ret2
       exact ⟨by first | rfl | (simp [errW_none, errW_some] <;> rfl) | (simp [*, errW_none, errW_some] <;> rfl), by repeat (first | (with_reducible first | exact HB.out | apply below_alloc | apply pw_below_drewN | apply below_drew1 | refine below_set ?_ GE142.out | refine below_set ?_ GE143.out) | exact HB.out)⟩
      ·replace c26 := Bool.eq_false_iff.mpr c26
       subst c26
       have H1 : ((spec_sqMask.f kj17 a0_0 a0_1 l0_2 l0_3).bind fun t146 => ((spec_sqMask.f kj17 a1_0 a1_1 l1_2 l1_3).bind fun t147 => (if a0_5 = true then (spec_IsSolution.j2 kj17 t146 t147 a0_4 a0_0 a0_1 l0_2 l0_3 a0_4 a0_5 a0_6 a1_0 a1_1 l1_2 l1_3) else (spec_IsSolution.j2 kj17 t146 t147 0 a0_0 a0_1 l0_2 l0_3 a0_4 a0_5 a0_6 a1_0 a1_1 l1_2 l1_3)))) = some (r1, r2) := by rw [if_neg (show ¬ (false = true) by decide)] at H; exact H
       clear H
       have H := H1
       clear H1
       replace H := Option.bind_eq_some_iff.mp H
       obtain ⟨t146, A270, H⟩ := H
       replace H : ((spec_sqMask.f kj17 a1_0 a1_1 l1_2 l1_3).bind fun t147 => (if a0_5 = true then (spec_IsSolution.j2 kj17 t146 t147 a0_4 a0_0 a0_1 l0_2 l0_3 a0_4 a0_5 a0_6 a1_0 a1_1 l1_2 l1_3) else (spec_IsSolution.j2 kj17 t146 t147 0 a0_0 a0_1 l0_2 l0_3 a0_4 a0_5 a0_6 a1_0 a1_1 l1_2 l1_3))) = some (r1, r2) := H
       have A27 := Aside0.mk A270
       clear A270
       replace H := Option.bind_eq_some_iff.mp H
       obtain ⟨t147, A280, H⟩ := H
       replace H : (if a0_5 = true then (spec_IsSolution.j2 kj17 t146 t147 a0_4 a0_0 a0_1 l0_2 l0_3 a0_4 a0_5 a0_6 a1_0 a1_1 l1_2 l1_3) else (spec_IsSolution.j2 kj17 t146 t147 0 a0_0 a0_1 l0_2 l0_3 a0_4 a0_5 a0_6 a1_0 a1_1 l1_2 l1_3)) = some (r1, r2) := H
       have A28 := Aside0.mk A280
       clear A280
       have HC29 := Aside0.mk H
       clear H
       try go_wp2
       replace BK142 := Aside0.mk (blk_drew BK142.out)
       replace BK143 := Aside0.mk (blk_drew BK143.out)
       replace HB := Aside0.mk (below_drew1 HB.out)
       refine start_ (n := 7) (S := fun w' => w'.cell? ⟨gb142, 0, none⟩ = some (.int .i64 a0_0) ∧ w'.cell? ⟨gb142, 1, none⟩ = some (.int .i64 a0_1) ∧ w'.cell? ⟨gb142, 2, none⟩ = some (.slice A0_2 l0_2.length c0_2) ∧ w'.cell? ⟨gb142, 3, none⟩ = some (.slice A0_3 l0_3.length c0_3) ∧ w'.cell? ⟨gb142, 4, none⟩ = some (.int .i64 a0_4) ∧ w'.cell? ⟨gb142, 5, none⟩ = some (.bool a0_5) ∧ w'.cell? ⟨gb142, 6, none⟩ = some (.int .i64 a0_6) ∧ w'.cell? ⟨gb143, 0, none⟩ = some (.int .i64 a1_0) ∧ w'.cell? ⟨gb143, 1, none⟩ = some (.int .i64 a1_1) ∧ w'.cell? ⟨gb143, 2, none⟩ = some (.slice A1_2 l1_2.length c1_2) ∧ w'.cell? ⟨gb143, 3, none⟩ = some (.slice A1_3 l1_3.length c1_3)) (ds := []) (fl 7 0) (by kernel_rfl) rfl rfl ⟨(blk_cell BK142.out 0).trans rfl, (blk_cell BK142.out 1).trans rfl, (blk_cell BK142.out 2).trans rfl, (blk_cell BK142.out 3).trans rfl, (blk_cell BK142.out 4).trans rfl, (blk_cell BK142.out 5).trans rfl, (blk_cell BK142.out 6).trans rfl, (blk_cell BK143.out 0).trans rfl, (blk_cell BK143.out 1).trans rfl, (blk_cell BK143.out 2).trans rfl, (blk_cell BK143.out 3).trans rfl⟩ (fun hHeld => ?_)
       generalize wc.drew = w30 at BK142 BK143 HB hHeld ⊢
       refine zpu 0 (some 32) (fl 7 1) ?_
       refine ztk 1 (some 33) (fl 7 3) hHeld ?_
       refine ztk 3 (some 35) (fl 7 11) hHeld ?_
       refine zone 2 (some 34) (fl 7 15) (fun K hK => ?_)
       refine zgo Try.func15 #[.agg #[.int .i64 a0_0, .int .i64 a0_1, .slice A0_2 l0_2.length c0_2, .slice A0_3 l0_3.length c0_3]] ?_
       with_reducible refine (spec_sqMask.calls kj17 a0_0 a0_1 _ _ l0_2 _ _ l0_3 t146 _ ?side1 ?side2 ?side3 ?side4 A27.out).mono ?_
       (case side1 => exact zC HR0_2)
       (case side2 => exact HC0_2.out)
       (case side3 => exact zC HR0_3)
       (case side4 => exact HC0_3.out)
       rintro e w31 ⟨rfl, hb⟩
       refine ⟨_, rfl, ?_⟩
       replace BK142 := zKb BK142 hb
       replace BK143 := zKb BK143 hb
       replace HB := zBb hb
       (try clear hb)
       (try clear hb2)
       (try clear hk)
       (try clear hi)
       refine hK.out _ _ ⟨(blk_cell BK142.out 0).trans rfl, (blk_cell BK142.out 1).trans rfl, (blk_cell BK142.out 2).trans rfl, (blk_cell BK142.out 3).trans rfl, (blk_cell BK142.out 4).trans rfl, (blk_cell BK142.out 5).trans rfl, (blk_cell BK142.out 6).trans rfl, (blk_cell BK143.out 0).trans rfl, (blk_cell BK143.out 1).trans rfl, (blk_cell BK143.out 2).trans rfl, (blk_cell BK143.out 3).trans rfl⟩ (fun hHeld => ?_)
       clear hK K
       refine znm ?_
       refine zone 4 (some 36) (fl 7 31) (fun K hK => ?_)
       refine zgo Try.func15 #[.agg #[.int .i64 a1_0, .int .i64 a1_1, .slice A1_2 l1_2.length c1_2, .slice A1_3 l1_3.length c1_3]] ?_
       with_reducible refine (spec_sqMask.calls kj17 a1_0 a1_1 _ _ l1_2 _ _ l1_3 t147 _ ?side1 ?side2 ?side3 ?side4 A28.out).mono ?_
       (case side1 => exact zC HR1_2)
       (case side2 => exact HC1_2.out)
       (case side3 => exact zC HR1_3)
       (case side4 => exact HC1_3.out)
       rintro e w32 ⟨rfl, hb⟩
       refine ⟨_, rfl, ?_⟩
       replace BK142 := zKb BK142 hb
       replace BK143 := zKb BK143 hb
       replace HB := zBb hb
       (try clear hb)
       (try clear hb2)
       (try clear hk)
       (try clear hi)
       refine hK.out _ _ ⟨(blk_cell BK142.out 0).trans rfl, (blk_cell BK142.out 1).trans rfl, (blk_cell BK142.out 2).trans rfl, (blk_cell BK142.out 3).trans rfl, (blk_cell BK142.out 4).trans rfl, (blk_cell BK142.out 5).trans rfl, (blk_cell BK142.out 6).trans rfl, (blk_cell BK143.out 0).trans rfl, (blk_cell BK143.out 1).trans rfl, (blk_cell BK143.out 2).trans rfl, (blk_cell BK143.out 3).trans rfl⟩ (fun hHeld => ?_)
       clear hK K
       refine znm ?_
       refine zpu 5 (some 6) (fl 7 63) ?_
       refine zpu 6 (some 7) (fl 7 127) ?_
       refine done_ (by kernel_rfl) ?_
       have hnb33 := NB142_143.out
       have hnc33 := NB143_142.out
       have hcz34_0 : w32.cell? ⟨gb142, 0, none⟩ = some (.int .i64 a0_0) := (blk_cell BK142.out 0).trans rfl
       have hcz34_1 : w32.cell? ⟨gb142, 1, none⟩ = some (.int .i64 a0_1) := (blk_cell BK142.out 1).trans rfl
       have hcz34_2 : w32.cell? ⟨gb142, 2, none⟩ = some (.slice A0_2 l0_2.length c0_2) := (blk_cell BK142.out 2).trans rfl
       have hcz34_3 : w32.cell? ⟨gb142, 3, none⟩ = some (.slice A0_3 l0_3.length c0_3) := (blk_cell BK142.out 3).trans rfl
       have hcz34_4 : w32.cell? ⟨gb142, 4, none⟩ = some (.int .i64 a0_4) := (blk_cell BK142.out 4).trans rfl
       have hcz34_5 : w32.cell? ⟨gb142, 5, none⟩ = some (.bool a0_5) := (blk_cell BK142.out 5).trans rfl
       have hcz34_6 : w32.cell? ⟨gb142, 6, none⟩ = some (.int .i64 a0_6) := (blk_cell BK142.out 6).trans rfl
       have hfz34_0 := blk_frozen BK142.out 0
       have hfz34_1 := blk_frozen BK142.out 1
       have hfz34_2 := blk_frozen BK142.out 2
       have hfz34_3 := blk_frozen BK142.out 3
       have hfz34_4 := blk_frozen BK142.out 4
       have hfz34_5 := blk_frozen BK142.out 5
       have hfz34_6 := blk_frozen BK142.out 6
       go_upto_if 38 with (fail)
       go_cut [8] (fun v8 wc => ∃ (kq : Nat) (x8_28 : Int), v8 = .int .i64 x8_28 ∧ Aside0 (spec_IsSolution.j2 kq t146 t147 x8_28 a0_0 a0_1 l0_2 l0_3 a0_4 a0_5 a0_6 a1_0 a1_1 l1_2 l1_3 = some (r1, r2)) ∧ Aside0 (kq ≤ kj17) ∧ Aside0 (wc.heap[gb142]? = some (.cells #[.int .i64 a0_0, .int .i64 a0_1, (.slice A0_2 l0_2.length c0_2), (.slice A0_3 l0_3.length c0_3), .int .i64 a0_4, .bool a0_5, .int .i64 a0_6] 33 (0, 0))) ∧ Aside0 (wc.heap[gb143]? = some (.cells #[.int .i64 a1_0, .int .i64 a1_1, (.slice A1_2 l1_2.length c1_2), (.slice A1_3 l1_3.length c1_3)] 31 (0, 0))) ∧ Aside0 (Below w.heap.size w wc))
       case first =>
        have H := HC29.out
        clear HC29
        by_cases c35 : a0_5 = true
        ·subst c35
         have H1 : (spec_IsSolution.j2 kj17 t146 t147 a0_4 a0_0 a0_1 l0_2 l0_3 a0_4 true a0_6 a1_0 a1_1 l1_2 l1_3) = some (r1, r2) := by rw [if_pos rfl] at H; exact H
         clear H
         have H := H1
         clear H1
         have H' := Aside0.mk H
         clear H
         have hnb36 := NB142_143.out
         have hnc36 := NB143_142.out
         have hcz37_0 : w32.cell? ⟨gb142, 0, none⟩ = some (.int .i64 a0_0) := (blk_cell BK142.out 0).trans rfl
         have hcz37_1 : w32.cell? ⟨gb142, 1, none⟩ = some (.int .i64 a0_1) := (blk_cell BK142.out 1).trans rfl
         have hcz37_2 : w32.cell? ⟨gb142, 2, none⟩ = some (.slice A0_2 l0_2.length c0_2) := (blk_cell BK142.out 2).trans rfl
         have hcz37_3 : w32.cell? ⟨gb142, 3, none⟩ = some (.slice A0_3 l0_3.length c0_3) := (blk_cell BK142.out 3).trans rfl
         have hcz37_4 : w32.cell? ⟨gb142, 4, none⟩ = some (.int .i64 a0_4) := (blk_cell BK142.out 4).trans rfl
         have hcz37_5 : w32.cell? ⟨gb142, 5, none⟩ = some (.bool true) := (blk_cell BK142.out 5).trans rfl
         have hcz37_6 : w32.cell? ⟨gb142, 6, none⟩ = some (.int .i64 a0_6) := (blk_cell BK142.out 6).trans rfl
         have hfz37_0 := blk_frozen BK142.out 0
         have hfz37_1 := blk_frozen BK142.out 1
         have hfz37_2 := blk_frozen BK142.out 2
         have hfz37_3 := blk_frozen BK142.out 3
         have hfz37_4 := blk_frozen BK142.out 4
         have hfz37_5 := blk_frozen BK142.out 5
         have hfz37_6 := blk_frozen BK142.out 6
         go_wp2
         go_meet
         case rel => exact ⟨_, (a0_4), zA, H', ⟨by have := HJ2.out; have := HJ17.out; first | omega | exact Nat.le_refl _⟩, ⟨zK BK142⟩, ⟨zK BK143⟩, ⟨zB⟩⟩
        ·replace c35 := Bool.eq_false_iff.mpr c35
         subst c35
         have H1 : (spec_IsSolution.j2 kj17 t146 t147 0 a0_0 a0_1 l0_2 l0_3 a0_4 false a0_6 a1_0 a1_1 l1_2 l1_3) = some (r1, r2) := by rw [if_neg (show ¬ (false = true) by decide)] at H; exact H
         clear H
         have H := H1
         clear H1
         have H' := Aside0.mk H
         clear H
         go_wp2
         go_meet
         case rel => exact ⟨_, (0), zA, H', ⟨by have := HJ2.out; have := HJ17.out; first | omega | exact Nat.le_refl _⟩, ⟨zK BK142⟩, ⟨zK BK143⟩, ⟨zB⟩⟩
       case rest =>
        clear HC29
        (try clear c1); (try clear c2); (try clear p2); (try clear c3); (try clear c6); (try clear c7); (try clear c9); (try clear c13); (try clear c14); (try clear c15); (try clear c17); (try clear c19); (try clear c19b0); (try clear c19b1); (try clear c20); (try clear c23); (try clear c26); (try clear c33); (try clear c35); (try clear c36); (try clear hcz10_0); (try clear hcz10_1); (try clear hcz10_2); (try clear hcz10_3); (try clear hcz10_4); (try clear hcz10_5); (try clear hcz10_6); (try clear hcz12_0); (try clear hcz12_1); (try clear hcz12_2); (try clear hcz12_3); (try clear hcz15_0); (try clear hcz15_1); (try clear hcz15_2); (try clear hcz15_3); (try clear hcz15_4); (try clear hcz15_5); (try clear hcz15_6); (try clear hcz21_0); (try clear hcz21_1); (try clear hcz21_2); (try clear hcz21_3); (try clear hcz22_0); (try clear hcz22_1); (try clear hcz22_2); (try clear hcz22_3); (try clear hcz22_4); (try clear hcz22_5); (try clear hcz22_6); (try clear hcz24_0); (try clear hcz24_1); (try clear hcz24_2); (try clear hcz24_3); (try clear hcz25_0); (try clear hcz25_1); (try clear hcz25_2); (try clear hcz25_3); (try clear hcz25_4); (try clear hcz25_5); (try clear hcz25_6); (try clear hcz34_0); (try clear hcz34_1); (try clear hcz34_2); (try clear hcz34_3); (try clear hcz34_4); (try clear hcz34_5); (try clear hcz34_6); (try clear hcz37_0); (try clear hcz37_1); (try clear hcz37_2); (try clear hcz37_3); (try clear hcz37_4); (try clear hcz37_5); (try clear hcz37_6); (try clear hfz10_0); (try clear hfz10_1); (try clear hfz10_2); (try clear hfz10_3); (try clear hfz10_4); (try clear hfz10_5); (try clear hfz10_6); (try clear hfz12_0); (try clear hfz12_1); (try clear hfz12_2); (try clear hfz12_3); (try clear hfz15_0); (try clear hfz15_1); (try clear hfz15_2); (try clear hfz15_3); (try clear hfz15_4); (try clear hfz15_5); (try clear hfz15_6); (try clear hfz21_0); (try clear hfz21_1); (try clear hfz21_2); (try clear hfz21_3); (try clear hfz22_0); (try clear hfz22_1); (try clear hfz22_2); (try clear hfz22_3); (try clear hfz22_4); (try clear hfz22_5); (try clear hfz22_6); (try clear hfz24_0); (try clear hfz24_1); (try clear hfz24_2); (try clear hfz24_3); (try clear hfz25_0); (try clear hfz25_1); (try clear hfz25_2); (try clear hfz25_3); (try clear hfz25_4); (try clear hfz25_5); (try clear hfz25_6); (try clear hfz34_0); (try clear hfz34_1); (try clear hfz34_2); (try clear hfz34_3); (try clear hfz34_4); (try clear hfz34_5); (try clear hfz34_6); (try clear hfz37_0); (try clear hfz37_1); (try clear hfz37_2); (try clear hfz37_3); (try clear hfz37_4); (try clear hfz37_5); (try clear hfz37_6); (try clear p2)
        obtain ⟨kq, x8_28, rfl, HA, HJ28, BK142, BK143, HB⟩ := hcut
        cases kq with
        | zero => exact absurd HA.out (by simp [spec_IsSolution.j2])
        | succ kj28 =>
         have H := HA.out
         clear HA
         simp only [spec_IsSolution.j2] at H
         replace H := Option.bind_eq_some_iff.mp H
         obtain ⟨t148, A380, H⟩ := H
         replace H : ((spec_moOnes.f kj28 (Go.bits .andNot .i64 t146 t147)).bind fun t151 => (if t151 = a0_4 then ((spec_moOnes.f kj28 (Go.bits .andNot .i64 t147 t146)).bind fun t152 => (if t152 = x8_28 then ((spec_sqCount.f kj28 t148 t147).bind fun t153 => (if t153 = a0_6 then ((spec_sqNeeded.f kj28 t148 t147).bind fun t154 => (some ((t154 == t147), true))) else (some (false, true)))) else (some (false, true)))) else (some (false, true)))) = some (r1, r2) := H
         have A38 := Aside0.mk A380
         clear A380
         replace H := Option.bind_eq_some_iff.mp H
         obtain ⟨t151, A390, H⟩ := H
         replace H : (if t151 = a0_4 then ((spec_moOnes.f kj28 (Go.bits .andNot .i64 t147 t146)).bind fun t152 => (if t152 = x8_28 then ((spec_sqCount.f kj28 t148 t147).bind fun t153 => (if t153 = a0_6 then ((spec_sqNeeded.f kj28 t148 t147).bind fun t154 => (some ((t154 == t147), true))) else (some (false, true)))) else (some (false, true)))) else (some (false, true))) = some (r1, r2) := H
         have A39 := Aside0.mk A390
         clear A390
         by_cases c40 : t151 = a0_4
         ·rw [if_pos c40] at H
          have c40b0 : (t151 == a0_4) = true := beq_iff_eq.mpr c40
          have c40b1 : (t151 != a0_4) = false := bne_eq_false_iff_eq.mpr c40
          clear c40
          replace H := Option.bind_eq_some_iff.mp H
          obtain ⟨t152, A410, H⟩ := H
          replace H : (if t152 = x8_28 then ((spec_sqCount.f kj28 t148 t147).bind fun t153 => (if t153 = a0_6 then ((spec_sqNeeded.f kj28 t148 t147).bind fun t154 => (some ((t154 == t147), true))) else (some (false, true)))) else (some (false, true))) = some (r1, r2) := H
          have A41 := Aside0.mk A410
          clear A410
          by_cases c42 : t152 = x8_28
          ·rw [if_pos c42] at H
           have c42b0 : (t152 == x8_28) = true := beq_iff_eq.mpr c42
           have c42b1 : (t152 != x8_28) = false := bne_eq_false_iff_eq.mpr c42
           clear c42
           replace H := Option.bind_eq_some_iff.mp H
           obtain ⟨t153, A430, H⟩ := H
           replace H : (if t153 = a0_6 then ((spec_sqNeeded.f kj28 t148 t147).bind fun t154 => (some ((t154 == t147), true))) else (some (false, true))) = some (r1, r2) := H
           have A43 := Aside0.mk A430
           clear A430
           by_cases c44 : t153 = a0_6
           ·rw [if_pos c44] at H
            have c44b0 : (t153 == a0_6) = true := beq_iff_eq.mpr c44
            have c44b1 : (t153 != a0_6) = false := bne_eq_false_iff_eq.mpr c44
            clear c44
            replace H := Option.bind_eq_some_iff.mp H
            obtain ⟨t154, A450, H⟩ := H
            replace H : (some ((t154 == t147), true)) = some (r1, r2) := H
            have A45 := Aside0.mk A450
            clear A450
            simp only [Option.some.injEq, Prod.mk.injEq] at H
            obtain ⟨rfl, rfl⟩ := H
            have hnb46 := NB143_142.out
            have hnc46 := NB142_143.out
            obtain ⟨hcz47_0, hcz47_1, hcz47_2, hcz47_3, hfz47_0, hfz47_1, hfz47_2, hfz47_3⟩ := blk4 BK143
            try go_wp2_with (first | ((with_reducible refine gate_callee (f := 16) rfl ?_); refine goesL_ (some 45) rfl rfl Try.func16 (by kernel_rfl) rfl #[.int .i64 a1_0, .int .i64 a1_1] rfl zM ?_; (with_reducible refine (spec_sqAll.calls kj28 a1_0 a1_1 t148 _ A38.out).mono ?_); rintro e w48 ⟨v149, rfl, ho0, hb⟩; refine ⟨_, rfl, ?_⟩; have HO150 := Aside0.mk (Kd.R_lower ho0 (below_size zB)); replace BK142 := zKb BK142 hb; replace BK143 := zKb BK143 hb; replace HB := zBb hb; (try clear hb); (try clear hb2); (try clear hk); (try clear hi); (try clear ho0)))
            replace HO150 := Aside0.mk (Kd.R_drew HO150.out)
            replace BK142 := Aside0.mk (blk_drew BK142.out)
            replace BK143 := Aside0.mk (blk_drew BK143.out)
            replace HB := Aside0.mk (below_drew1 HB.out)
            refine start_ (n := 32) (S := fun w' => w'.cell? ⟨gb142, 0, none⟩ = some (.int .i64 a0_0) ∧ w'.cell? ⟨gb142, 1, none⟩ = some (.int .i64 a0_1) ∧ w'.cell? ⟨gb142, 2, none⟩ = some (.slice A0_2 l0_2.length c0_2) ∧ w'.cell? ⟨gb142, 3, none⟩ = some (.slice A0_3 l0_3.length c0_3) ∧ w'.cell? ⟨gb142, 4, none⟩ = some (.int .i64 a0_4) ∧ w'.cell? ⟨gb142, 5, none⟩ = some (.bool a0_5) ∧ w'.cell? ⟨gb142, 6, none⟩ = some (.int .i64 a0_6)) (ds := []) (fl 32 0) (by kernel_rfl) rfl rfl ⟨(blk_cell BK142.out 0).trans rfl, (blk_cell BK142.out 1).trans rfl, (blk_cell BK142.out 2).trans rfl, (blk_cell BK142.out 3).trans rfl, (blk_cell BK142.out 4).trans rfl, (blk_cell BK142.out 5).trans rfl, (blk_cell BK142.out 6).trans rfl⟩ (fun hHeld => ?_); refine with_tabW spec_IsSolution.tab10 spec_IsSolution.bits10 (fun HT_ HW_ => ?_)
            generalize w48.drew = w49 at HO150 BK142 BK143 HB hHeld ⊢
            refine zpu 0 (some 46) (fl 32 1) ?_
            refine zpu 1 (some 47) (fl 32 3) ?_
            refine zpu 2 (some 48) (fl 32 7) ?_
            refine zpu 4 (some 50) (fl 32 23) ?_
            refine ztk 5 (some 51) (fl 32 55) hHeld ?_
            refine zone 3 (some 49) (fl 32 63) (fun K hK => ?_)
            refine zgo Try.func17 #[.int .i64 (Go.bits .andNot .i64 t146 t147)] ?_
            with_reducible refine (spec_moOnes.calls kj28 (Go.bits .andNot .i64 t146 t147) t151 _ A39.out).mono ?_
            rintro e w' ⟨rfl, ⟨nd, rfl⟩⟩
            refine ⟨_, rfl, ?_⟩
            refine hK.out _ _ ⟨(blk_cell BK142.out 0).trans rfl, (blk_cell BK142.out 1).trans rfl, (blk_cell BK142.out 2).trans rfl, (blk_cell BK142.out 3).trans rfl, (blk_cell BK142.out 4).trans rfl, (blk_cell BK142.out 5).trans rfl, (blk_cell BK142.out 6).trans rfl⟩ (fun hHeld => ?_)
            clear hK K
            refine znm ?_
            refine zpu 6 (some 52) (fl 32 127) ?_
            refine zpu 7 (some 53) (fl 32 255) ?_
            refine zpu 8 (some 54) (fl 32 511) ?_
            refine zpu 9 (some 55) (fl 32 1023) ?_
            refine zpu 10 (some 56) (fl 32 2047) ?_
            refine zpu 12 (some 58) (fl 32 6143) ?_
            refine zone 11 (some 57) (fl 32 8191) (fun K hK => ?_)
            refine zgo Try.func17 #[.int .i64 (Go.bits .andNot .i64 t147 t146)] ?_
            with_reducible refine (spec_moOnes.calls kj28 (Go.bits .andNot .i64 t147 t146) t152 _ A41.out).mono ?_
            rintro e w' ⟨rfl, ⟨nd, rfl⟩⟩
            refine ⟨_, rfl, ?_⟩
            obtain ⟨Ao50, co50, eo50⟩ := Kd.R_slice HO150.out
            (first | subst eo50 | (injection eo50 with f1_ f2_ f3_; have f4_ := f1_.symm; have f5_ := f3_.symm; clear f1_ f2_ f3_; subst f4_; subst f5_))
            refine hK.out _ _ ⟨(blk_cell BK142.out 0).trans rfl, (blk_cell BK142.out 1).trans rfl, (blk_cell BK142.out 2).trans rfl, (blk_cell BK142.out 3).trans rfl, (blk_cell BK142.out 4).trans rfl, (blk_cell BK142.out 5).trans rfl, (blk_cell BK142.out 6).trans rfl⟩ (fun hHeld => ?_)
            clear hK K
            refine znm ?_
            refine zpu 13 (some 59) (fl 32 16383) ?_
            refine zpu 14 (some 60) (fl 32 32767) ?_
            refine zpu 15 (some 61) (fl 32 65535) ?_
            refine zpu 16 (some 62) (fl 32 131071) ?_
            refine zpu 17 (some 63) (fl 32 262143) ?_
            refine zpu 19 (some 65) (fl 32 786431) ?_
            refine ztk 20 (some 66) (fl 32 1835007) hHeld ?_
            refine zone 18 (some 64) (fl 32 2097151) (fun K hK => ?_)
            refine zgo Try.func18 #[.slice Ao50 t148.length co50, .int .i64 t147] ?_
            with_reducible refine (spec_sqCount.calls kj28 _ _ t148 t147 t153 _ ?side1 ?side2 A43.out).mono ?_
            (case side1 => repeat (first | exact (Kd.R_reads' HO150.out).2.2 | (with_reducible refine Kd.C_alloc ?_ _) | (with_reducible refine Kd.C_drewN ?_ _) | (with_reducible refine Kd.C_drew ?_)))
            (case side2 => exact (Kd.R_reads' HO150.out).2.1)
            rintro e w51 ⟨rfl, hb⟩
            refine ⟨_, rfl, ?_⟩
            replace HO150 := Aside0.mk (Kd.R_below (zR HO150) hb)
            replace BK142 := zKb BK142 hb
            replace BK143 := zKb BK143 hb
            replace HB := zBb hb
            (try clear hb)
            (try clear hb2)
            (try clear hk)
            (try clear hi)
            refine hK.out _ _ ⟨(blk_cell BK142.out 0).trans rfl, (blk_cell BK142.out 1).trans rfl, (blk_cell BK142.out 2).trans rfl, (blk_cell BK142.out 3).trans rfl, (blk_cell BK142.out 4).trans rfl, (blk_cell BK142.out 5).trans rfl, (blk_cell BK142.out 6).trans rfl⟩ (fun hHeld => ?_)
            clear hK K
            refine znm ?_
            refine zpu 21 (some 67) (fl 32 4194303) ?_
            refine zpu 22 (some 68) (fl 32 8388607) ?_
            refine zpu 23 (some 69) (fl 32 16777215) ?_
            refine zpu 24 (some 70) (fl 32 33554431) ?_
            refine zpu 25 (some 71) (fl 32 67108863) ?_
            refine zpu 27 (some 73) (fl 32 201326591) ?_
            refine zone 26 (some 72) (fl 32 268435455) (fun K hK => ?_)
            refine zgo Try.func19 #[.slice Ao50 t148.length co50, .int .i64 t147] ?_
            with_reducible refine (spec_sqNeeded.calls kj28 _ _ t148 t147 t154 _ ?side1 ?side2 A45.out).mono ?_
            (case side1 => repeat (first | exact (Kd.R_reads' HO150.out).2.2 | (with_reducible refine Kd.C_alloc ?_ _) | (with_reducible refine Kd.C_drewN ?_ _) | (with_reducible refine Kd.C_drew ?_)))
            (case side2 => exact (Kd.R_reads' HO150.out).2.1)
            rintro e w52 ⟨rfl, hb⟩
            refine ⟨_, rfl, ?_⟩
            replace HO150 := Aside0.mk (Kd.R_below (zR HO150) hb)
            replace BK142 := zKb BK142 hb
            replace BK143 := zKb BK143 hb
            replace HB := zBb hb
            (try clear hb)
            (try clear hb2)
            (try clear hk)
            (try clear hi)
            refine hK.out _ _ ⟨(blk_cell BK142.out 0).trans rfl, (blk_cell BK142.out 1).trans rfl, (blk_cell BK142.out 2).trans rfl, (blk_cell BK142.out 3).trans rfl, (blk_cell BK142.out 4).trans rfl, (blk_cell BK142.out 5).trans rfl, (blk_cell BK142.out 6).trans rfl⟩ (fun hHeld => ?_)
            clear hK K
            refine znm ?_
            refine zpu 28 (some 74) (fl 32 536870911) ?_
            refine zpu 29 (some 75) (fl 32 1073741823) ?_
            refine zpu 30 (some 4) (fl 32 2147483647) ?_
            refine zpu 31 (some 5) (fl 32 4294967295) ?_
            refine done_ (done_of HT_.out (by kernel_rfl)) ?_
            try go_wp2
            go_ret2
            exact ⟨by first | rfl | (simp [errW_none, errW_some] <;> rfl) | (simp [*, errW_none, errW_some] <;> rfl), by repeat (first | (with_reducible first | exact HB.out | apply below_alloc | apply pw_below_drewN | apply below_drew1 | refine below_set ?_ GE142.out | refine below_set ?_ GE143.out) | exact HB.out)⟩
           ·rw [if_neg c44] at H
            have c44b0 : (t153 == a0_6) = false := beq_eq_false_iff_ne.mpr c44
            have c44b1 : (t153 != a0_6) = true := bne_iff_ne.mpr c44
            simp only [Option.some.injEq, Prod.mk.injEq] at H
            obtain ⟨rfl, rfl⟩ := H
            have hnb53 := NB143_142.out
            have hnc53 := NB142_143.out
            obtain ⟨hcz54_0, hcz54_1, hcz54_2, hcz54_3, hfz54_0, hfz54_1, hfz54_2, hfz54_3⟩ := blk4 BK143
            try go_wp2_with (first | ((with_reducible refine gate_callee (f := 16) rfl ?_); refine goesL_ (some 45) rfl rfl Try.func16 (by kernel_rfl) rfl #[.int .i64 a1_0, .int .i64 a1_1] rfl zM ?_; (with_reducible refine (spec_sqAll.calls kj28 a1_0 a1_1 t148 _ A38.out).mono ?_); rintro e w55 ⟨v149, rfl, ho0, hb⟩; refine ⟨_, rfl, ?_⟩; have HO150 := Aside0.mk (Kd.R_lower ho0 (below_size zB)); replace BK142 := zKb BK142 hb; replace BK143 := zKb BK143 hb; replace HB := zBb hb; (try clear hb); (try clear hb2); (try clear hk); (try clear hi); (try clear ho0)))
            replace HO150 := Aside0.mk (Kd.R_drew HO150.out)
            replace BK142 := Aside0.mk (blk_drew BK142.out)
            replace BK143 := Aside0.mk (blk_drew BK143.out)
            replace HB := Aside0.mk (below_drew1 HB.out)
            refine start_ (n := 32) (S := fun w' => w'.cell? ⟨gb142, 0, none⟩ = some (.int .i64 a0_0) ∧ w'.cell? ⟨gb142, 1, none⟩ = some (.int .i64 a0_1) ∧ w'.cell? ⟨gb142, 2, none⟩ = some (.slice A0_2 l0_2.length c0_2) ∧ w'.cell? ⟨gb142, 3, none⟩ = some (.slice A0_3 l0_3.length c0_3) ∧ w'.cell? ⟨gb142, 4, none⟩ = some (.int .i64 a0_4) ∧ w'.cell? ⟨gb142, 5, none⟩ = some (.bool a0_5) ∧ w'.cell? ⟨gb142, 6, none⟩ = some (.int .i64 a0_6)) (ds := []) (fl 32 0) (by kernel_rfl) rfl rfl ⟨(blk_cell BK142.out 0).trans rfl, (blk_cell BK142.out 1).trans rfl, (blk_cell BK142.out 2).trans rfl, (blk_cell BK142.out 3).trans rfl, (blk_cell BK142.out 4).trans rfl, (blk_cell BK142.out 5).trans rfl, (blk_cell BK142.out 6).trans rfl⟩ (fun hHeld => ?_); refine with_tabW spec_IsSolution.tab10 spec_IsSolution.bits10 (fun HT_ HW_ => ?_)
            generalize w55.drew = w56 at HO150 BK142 BK143 HB hHeld ⊢
            refine zpu 0 (some 46) (fl 32 1) ?_
            refine zpu 1 (some 47) (fl 32 3) ?_
            refine zpu 2 (some 48) (fl 32 7) ?_
            refine zpu 4 (some 50) (fl 32 23) ?_
            refine ztk 5 (some 51) (fl 32 55) hHeld ?_
            refine zone 3 (some 49) (fl 32 63) (fun K hK => ?_)
            refine zgo Try.func17 #[.int .i64 (Go.bits .andNot .i64 t146 t147)] ?_
            with_reducible refine (spec_moOnes.calls kj28 (Go.bits .andNot .i64 t146 t147) t151 _ A39.out).mono ?_
            rintro e w' ⟨rfl, ⟨nd, rfl⟩⟩
            refine ⟨_, rfl, ?_⟩
            refine hK.out _ _ ⟨(blk_cell BK142.out 0).trans rfl, (blk_cell BK142.out 1).trans rfl, (blk_cell BK142.out 2).trans rfl, (blk_cell BK142.out 3).trans rfl, (blk_cell BK142.out 4).trans rfl, (blk_cell BK142.out 5).trans rfl, (blk_cell BK142.out 6).trans rfl⟩ (fun hHeld => ?_)
            clear hK K
            refine znm ?_
            refine zpu 6 (some 52) (fl 32 127) ?_
            refine zpu 7 (some 53) (fl 32 255) ?_
            refine zpu 8 (some 54) (fl 32 511) ?_
            refine zpu 9 (some 55) (fl 32 1023) ?_
            refine zpu 10 (some 56) (fl 32 2047) ?_
            refine zpu 12 (some 58) (fl 32 6143) ?_
            refine zone 11 (some 57) (fl 32 8191) (fun K hK => ?_)
            refine zgo Try.func17 #[.int .i64 (Go.bits .andNot .i64 t147 t146)] ?_
            with_reducible refine (spec_moOnes.calls kj28 (Go.bits .andNot .i64 t147 t146) t152 _ A41.out).mono ?_
            rintro e w' ⟨rfl, ⟨nd, rfl⟩⟩
            refine ⟨_, rfl, ?_⟩
            obtain ⟨Ao57, co57, eo57⟩ := Kd.R_slice HO150.out
            (first | subst eo57 | (injection eo57 with f1_ f2_ f3_; have f4_ := f1_.symm; have f5_ := f3_.symm; clear f1_ f2_ f3_; subst f4_; subst f5_))
            refine hK.out _ _ ⟨(blk_cell BK142.out 0).trans rfl, (blk_cell BK142.out 1).trans rfl, (blk_cell BK142.out 2).trans rfl, (blk_cell BK142.out 3).trans rfl, (blk_cell BK142.out 4).trans rfl, (blk_cell BK142.out 5).trans rfl, (blk_cell BK142.out 6).trans rfl⟩ (fun hHeld => ?_)
            clear hK K
            refine znm ?_
            refine zpu 13 (some 59) (fl 32 16383) ?_
            refine zpu 14 (some 60) (fl 32 32767) ?_
            refine zpu 15 (some 61) (fl 32 65535) ?_
            refine zpu 16 (some 62) (fl 32 131071) ?_
            refine zpu 17 (some 63) (fl 32 262143) ?_
            refine zpu 19 (some 65) (fl 32 786431) ?_
            refine ztk 20 (some 66) (fl 32 1835007) hHeld ?_
            refine zone 18 (some 64) (fl 32 2097151) (fun K hK => ?_)
            refine zgo Try.func18 #[.slice Ao57 t148.length co57, .int .i64 t147] ?_
            with_reducible refine (spec_sqCount.calls kj28 _ _ t148 t147 t153 _ ?side1 ?side2 A43.out).mono ?_
            (case side1 => repeat (first | exact (Kd.R_reads' HO150.out).2.2 | (with_reducible refine Kd.C_alloc ?_ _) | (with_reducible refine Kd.C_drewN ?_ _) | (with_reducible refine Kd.C_drew ?_)))
            (case side2 => exact (Kd.R_reads' HO150.out).2.1)
            rintro e w58 ⟨rfl, hb⟩
            refine ⟨_, rfl, ?_⟩
            replace HO150 := Aside0.mk (Kd.R_below (zR HO150) hb)
            replace BK142 := zKb BK142 hb
            replace BK143 := zKb BK143 hb
            replace HB := zBb hb
            (try clear hb)
            (try clear hb2)
            (try clear hk)
            (try clear hi)
            refine hK.out _ _ ⟨(blk_cell BK142.out 0).trans rfl, (blk_cell BK142.out 1).trans rfl, (blk_cell BK142.out 2).trans rfl, (blk_cell BK142.out 3).trans rfl, (blk_cell BK142.out 4).trans rfl, (blk_cell BK142.out 5).trans rfl, (blk_cell BK142.out 6).trans rfl⟩ (fun hHeld => ?_)
            clear hK K
            refine znm ?_
            refine zpu 21 (some 67) (fl 32 4194303) ?_
            refine zpu 22 (some 68) (fl 32 8388607) ?_
            refine zpu 23 (some 69) (fl 32 16777215) ?_
            refine zpn 24 (some 70) (fl 32 33554431) ?_
            refine zpn 25 (some 71) (fl 32 67108863) ?_
            refine zpn 26 (some 72) (fl 32 134217727) ?_
            refine zpn 27 (some 73) (fl 32 268435455) ?_
            refine zpn 28 (some 74) (fl 32 536870911) ?_
            refine zpu 29 (some 75) (fl 32 1073741823) ?_
            refine zpu 30 (some 4) (fl 32 2147483647) ?_
            refine zpu 31 (some 5) (fl 32 4294967295) ?_
            refine done_ (done_of HT_.out (by kernel_rfl)) ?_
            try go_wp2
            go_ret2
            exact ⟨by first | rfl | (simp [errW_none, errW_some] <;> rfl) | (simp [*, errW_none, errW_some] <;> rfl), by repeat (first | (with_reducible first | exact HB.out | apply below_alloc | apply pw_below_drewN | apply below_drew1 | refine below_set ?_ GE142.out | refine below_set ?_ GE143.out) | exact HB.out)⟩
          ·rw [if_neg c42] at H
           have c42b0 : (t152 == x8_28) = false := beq_eq_false_iff_ne.mpr c42
           have c42b1 : (t152 != x8_28) = true := bne_iff_ne.mpr c42
           simp only [Option.some.injEq, Prod.mk.injEq] at H
           obtain ⟨rfl, rfl⟩ := H
           have hnb59 := NB143_142.out
           have hnc59 := NB142_143.out
           obtain ⟨hcz60_0, hcz60_1, hcz60_2, hcz60_3, hfz60_0, hfz60_1, hfz60_2, hfz60_3⟩ := blk4 BK143
           try go_wp2_with (first | ((with_reducible refine gate_callee (f := 16) rfl ?_); refine goesL_ (some 45) rfl rfl Try.func16 (by kernel_rfl) rfl #[.int .i64 a1_0, .int .i64 a1_1] rfl zM ?_; (with_reducible refine (spec_sqAll.calls kj28 a1_0 a1_1 t148 _ A38.out).mono ?_); rintro e w61 ⟨v149, rfl, ho0, hb⟩; refine ⟨_, rfl, ?_⟩; have HO150 := Aside0.mk (Kd.R_lower ho0 (below_size zB)); replace BK142 := zKb BK142 hb; replace BK143 := zKb BK143 hb; replace HB := zBb hb; (try clear hb); (try clear hb2); (try clear hk); (try clear hi); (try clear ho0)))
           replace HO150 := Aside0.mk (Kd.R_drew HO150.out)
           replace BK142 := Aside0.mk (blk_drew BK142.out)
           replace BK143 := Aside0.mk (blk_drew BK143.out)
           replace HB := Aside0.mk (below_drew1 HB.out)
           refine start_ (n := 32) (S := fun w' => w'.cell? ⟨gb142, 0, none⟩ = some (.int .i64 a0_0) ∧ w'.cell? ⟨gb142, 1, none⟩ = some (.int .i64 a0_1) ∧ w'.cell? ⟨gb142, 2, none⟩ = some (.slice A0_2 l0_2.length c0_2) ∧ w'.cell? ⟨gb142, 3, none⟩ = some (.slice A0_3 l0_3.length c0_3) ∧ w'.cell? ⟨gb142, 4, none⟩ = some (.int .i64 a0_4) ∧ w'.cell? ⟨gb142, 5, none⟩ = some (.bool a0_5) ∧ w'.cell? ⟨gb142, 6, none⟩ = some (.int .i64 a0_6)) (ds := []) (fl 32 0) (by kernel_rfl) rfl rfl ⟨(blk_cell BK142.out 0).trans rfl, (blk_cell BK142.out 1).trans rfl, (blk_cell BK142.out 2).trans rfl, (blk_cell BK142.out 3).trans rfl, (blk_cell BK142.out 4).trans rfl, (blk_cell BK142.out 5).trans rfl, (blk_cell BK142.out 6).trans rfl⟩ (fun hHeld => ?_); refine with_tabW spec_IsSolution.tab10 spec_IsSolution.bits10 (fun HT_ HW_ => ?_)
           generalize w61.drew = w62 at HO150 BK142 BK143 HB hHeld ⊢
           refine zpu 0 (some 46) (fl 32 1) ?_
           refine zpu 1 (some 47) (fl 32 3) ?_
           refine zpu 2 (some 48) (fl 32 7) ?_
           refine zpu 4 (some 50) (fl 32 23) ?_
           refine ztk 5 (some 51) (fl 32 55) hHeld ?_
           refine zone 3 (some 49) (fl 32 63) (fun K hK => ?_)
           refine zgo Try.func17 #[.int .i64 (Go.bits .andNot .i64 t146 t147)] ?_
           with_reducible refine (spec_moOnes.calls kj28 (Go.bits .andNot .i64 t146 t147) t151 _ A39.out).mono ?_
           rintro e w' ⟨rfl, ⟨nd, rfl⟩⟩
           refine ⟨_, rfl, ?_⟩
           refine hK.out _ _ ⟨(blk_cell BK142.out 0).trans rfl, (blk_cell BK142.out 1).trans rfl, (blk_cell BK142.out 2).trans rfl, (blk_cell BK142.out 3).trans rfl, (blk_cell BK142.out 4).trans rfl, (blk_cell BK142.out 5).trans rfl, (blk_cell BK142.out 6).trans rfl⟩ (fun hHeld => ?_)
           clear hK K
           refine znm ?_
           refine zpu 6 (some 52) (fl 32 127) ?_
           refine zpu 7 (some 53) (fl 32 255) ?_
           refine zpu 8 (some 54) (fl 32 511) ?_
           refine zpu 9 (some 55) (fl 32 1023) ?_
           refine zpu 10 (some 56) (fl 32 2047) ?_
           refine zpu 12 (some 58) (fl 32 6143) ?_
           refine zone 11 (some 57) (fl 32 8191) (fun K hK => ?_)
           refine zgo Try.func17 #[.int .i64 (Go.bits .andNot .i64 t147 t146)] ?_
           with_reducible refine (spec_moOnes.calls kj28 (Go.bits .andNot .i64 t147 t146) t152 _ A41.out).mono ?_
           rintro e w' ⟨rfl, ⟨nd, rfl⟩⟩
           refine ⟨_, rfl, ?_⟩
           refine hK.out _ _ ⟨(blk_cell BK142.out 0).trans rfl, (blk_cell BK142.out 1).trans rfl, (blk_cell BK142.out 2).trans rfl, (blk_cell BK142.out 3).trans rfl, (blk_cell BK142.out 4).trans rfl, (blk_cell BK142.out 5).trans rfl, (blk_cell BK142.out 6).trans rfl⟩ (fun hHeld => ?_)
           clear hK K
           refine znm ?_
           refine zpu 13 (some 59) (fl 32 16383) ?_
           refine zpu 14 (some 60) (fl 32 32767) ?_
           refine zpu 15 (some 61) (fl 32 65535) ?_
           refine zpn 16 (some 62) (fl 32 131071) ?_
           refine zpn 17 (some 63) (fl 32 262143) ?_
           refine zpn 18 (some 64) (fl 32 524287) ?_
           refine zpn 19 (some 65) (fl 32 1048575) ?_
           refine zpn 20 (some 66) (fl 32 2097151) ?_
           refine zpn 21 (some 67) (fl 32 4194303) ?_
           refine zpu 22 (some 68) (fl 32 8388607) ?_
           refine zpu 23 (some 69) (fl 32 16777215) ?_
           refine zpn 24 (some 70) (fl 32 33554431) ?_
           refine zpn 25 (some 71) (fl 32 67108863) ?_
           refine zpn 26 (some 72) (fl 32 134217727) ?_
           refine zpn 27 (some 73) (fl 32 268435455) ?_
           refine zpn 28 (some 74) (fl 32 536870911) ?_
           refine zpu 29 (some 75) (fl 32 1073741823) ?_
           refine zpu 30 (some 4) (fl 32 2147483647) ?_
           refine zpu 31 (some 5) (fl 32 4294967295) ?_
           refine done_ (done_of HT_.out (by kernel_rfl)) ?_
           try go_wp2
           go_ret2
           exact ⟨by first | rfl | (simp [errW_none, errW_some] <;> rfl) | (simp [*, errW_none, errW_some] <;> rfl), by repeat (first | (with_reducible first | exact HB.out | apply below_alloc | apply pw_below_drewN | apply below_drew1 | refine below_set ?_ GE142.out | refine below_set ?_ GE143.out) | exact HB.out)⟩
         ·rw [if_neg c40] at H
          have c40b0 : (t151 == a0_4) = false := beq_eq_false_iff_ne.mpr c40
          have c40b1 : (t151 != a0_4) = true := bne_iff_ne.mpr c40
          simp only [Option.some.injEq, Prod.mk.injEq] at H
          obtain ⟨rfl, rfl⟩ := H
          have hnb63 := NB143_142.out
          have hnc63 := NB142_143.out
          obtain ⟨hcz64_0, hcz64_1, hcz64_2, hcz64_3, hfz64_0, hfz64_1, hfz64_2, hfz64_3⟩ := blk4 BK143
          try go_wp2_with (first | ((with_reducible refine gate_callee (f := 16) rfl ?_); refine goesL_ (some 45) rfl rfl Try.func16 (by kernel_rfl) rfl #[.int .i64 a1_0, .int .i64 a1_1] rfl zM ?_; (with_reducible refine (spec_sqAll.calls kj28 a1_0 a1_1 t148 _ A38.out).mono ?_); rintro e w65 ⟨v149, rfl, ho0, hb⟩; refine ⟨_, rfl, ?_⟩; have HO150 := Aside0.mk (Kd.R_lower ho0 (below_size zB)); replace BK142 := zKb BK142 hb; replace BK143 := zKb BK143 hb; replace HB := zBb hb; (try clear hb); (try clear hb2); (try clear hk); (try clear hi); (try clear ho0)))
          replace HO150 := Aside0.mk (Kd.R_drew HO150.out)
          replace BK142 := Aside0.mk (blk_drew BK142.out)
          replace BK143 := Aside0.mk (blk_drew BK143.out)
          replace HB := Aside0.mk (below_drew1 HB.out)
          refine start_ (n := 32) (S := fun w' => w'.cell? ⟨gb142, 0, none⟩ = some (.int .i64 a0_0) ∧ w'.cell? ⟨gb142, 1, none⟩ = some (.int .i64 a0_1) ∧ w'.cell? ⟨gb142, 2, none⟩ = some (.slice A0_2 l0_2.length c0_2) ∧ w'.cell? ⟨gb142, 3, none⟩ = some (.slice A0_3 l0_3.length c0_3) ∧ w'.cell? ⟨gb142, 4, none⟩ = some (.int .i64 a0_4) ∧ w'.cell? ⟨gb142, 5, none⟩ = some (.bool a0_5) ∧ w'.cell? ⟨gb142, 6, none⟩ = some (.int .i64 a0_6)) (ds := []) (fl 32 0) (by kernel_rfl) rfl rfl ⟨(blk_cell BK142.out 0).trans rfl, (blk_cell BK142.out 1).trans rfl, (blk_cell BK142.out 2).trans rfl, (blk_cell BK142.out 3).trans rfl, (blk_cell BK142.out 4).trans rfl, (blk_cell BK142.out 5).trans rfl, (blk_cell BK142.out 6).trans rfl⟩ (fun hHeld => ?_); refine with_tabW spec_IsSolution.tab10 spec_IsSolution.bits10 (fun HT_ HW_ => ?_)
          generalize w65.drew = w66 at HO150 BK142 BK143 HB hHeld ⊢
          refine zpu 0 (some 46) (fl 32 1) ?_
          refine zpu 1 (some 47) (fl 32 3) ?_
          refine zpu 2 (some 48) (fl 32 7) ?_
          refine zpu 4 (some 50) (fl 32 23) ?_
          refine ztk 5 (some 51) (fl 32 55) hHeld ?_
          refine zone 3 (some 49) (fl 32 63) (fun K hK => ?_)
          refine zgo Try.func17 #[.int .i64 (Go.bits .andNot .i64 t146 t147)] ?_
          with_reducible refine (spec_moOnes.calls kj28 (Go.bits .andNot .i64 t146 t147) t151 _ A39.out).mono ?_
          rintro e w' ⟨rfl, ⟨nd, rfl⟩⟩
          refine ⟨_, rfl, ?_⟩
          refine hK.out _ _ ⟨(blk_cell BK142.out 0).trans rfl, (blk_cell BK142.out 1).trans rfl, (blk_cell BK142.out 2).trans rfl, (blk_cell BK142.out 3).trans rfl, (blk_cell BK142.out 4).trans rfl, (blk_cell BK142.out 5).trans rfl, (blk_cell BK142.out 6).trans rfl⟩ (fun hHeld => ?_)
          clear hK K
          refine znm ?_
          refine zpu 6 (some 52) (fl 32 127) ?_
          refine zpu 7 (some 53) (fl 32 255) ?_
          refine zpn 8 (some 54) (fl 32 511) ?_
          refine zpn 9 (some 55) (fl 32 1023) ?_
          refine zpn 10 (some 56) (fl 32 2047) ?_
          refine zpn 11 (some 57) (fl 32 4095) ?_
          refine zpn 12 (some 58) (fl 32 8191) ?_
          refine zpn 13 (some 59) (fl 32 16383) ?_
          refine zpu 14 (some 60) (fl 32 32767) ?_
          refine zpu 15 (some 61) (fl 32 65535) ?_
          refine zpn 16 (some 62) (fl 32 131071) ?_
          refine zpn 17 (some 63) (fl 32 262143) ?_
          refine zpn 18 (some 64) (fl 32 524287) ?_
          refine zpn 19 (some 65) (fl 32 1048575) ?_
          refine zpn 20 (some 66) (fl 32 2097151) ?_
          refine zpn 21 (some 67) (fl 32 4194303) ?_
          refine zpu 22 (some 68) (fl 32 8388607) ?_
          refine zpu 23 (some 69) (fl 32 16777215) ?_
          refine zpn 24 (some 70) (fl 32 33554431) ?_
          refine zpn 25 (some 71) (fl 32 67108863) ?_
          refine zpn 26 (some 72) (fl 32 134217727) ?_
          refine zpn 27 (some 73) (fl 32 268435455) ?_
          refine zpn 28 (some 74) (fl 32 536870911) ?_
          refine zpu 29 (some 75) (fl 32 1073741823) ?_
          refine zpu 30 (some 4) (fl 32 2147483647) ?_
          refine zpu 31 (some 5) (fl 32 4294967295) ?_
          refine done_ (done_of HT_.out (by kernel_rfl)) ?_
          try go_wp2
          go_ret2
          exact ⟨by first | rfl | (simp [errW_none, errW_some] <;> rfl) | (simp [*, errW_none, errW_some] <;> rfl), by repeat (first | (with_reducible first | exact HB.out | apply below_alloc | apply pw_below_drewN | apply below_drew1 | refine below_set ?_ GE142.out | refine below_set ?_ GE143.out) | exact HB.out)⟩

end Go.Proofs.Ytlmobibbefjhfaa.S
