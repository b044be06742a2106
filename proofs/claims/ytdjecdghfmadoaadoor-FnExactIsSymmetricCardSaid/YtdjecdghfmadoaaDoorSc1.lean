import Derived.Test.YtdjecdghfmadoaaDoorSd
import Derived.Test.YtdjecdghfmadoaaDoorSc0
namespace Go.Proofs.YtdjecdghfmadoaaDoor.S
open Go.RowKit Go.Proofs.YtdjecdghfmadoaaDoorW.PrintWords Go.Proofs.YtdjecdghfmadoaaDoorW.PrintLast Go.Proofs.YtdjecdghfmadoaaDoorW.PrintMore
attribute [local go_sem] max2_int min2_int max_two min_two max_three min_three max_four min_four
set_option linter.unusedVariables false
set_option linter.unusedSimpArgs false

/-! ### impl_turned: function 75 -/
def impl_turned.T6 : Bool × List (List Nat × List Nat) := (true, [([], []), ([], []), ([], []), ([2], [2]), ([], []), ([], []), ([5], [5]), ([4, 6], [4, 6]), ([3, 7], [3, 7]), ([], []), ([], []), ([10], [10]), ([9, 11], [9, 11]), ([1, 8, 12], [1, 8, 12]), ([0, 13], [0, 13]), ([14, 13, 0, 1, 2, 3, 4, 5, 6, 7, 8, 9, 10, 11, 12, 13, 14], [0, 14])])
def impl_turned.B6 : List Nat := [0, 0, 0, 4, 0, 0, 32, 112, 252, 0, 0, 1024, 3584, 8190, 16383, 32767]
theorem impl_turned.tab6 : rtab .any (opsOf Tryd.f75 6) = impl_turned.T6 := by kernel_rfl
theorem impl_turned.bits6 : waitsOk impl_turned.T6.2 impl_turned.B6 = true := by kernel_rfl
def impl_turned.T11 : Bool × List (List Nat × List Nat) := (true, [([], []), ([], []), ([], []), ([2], [2]), ([3], [3]), ([], []), ([], []), ([6], [6]), ([7], [7]), ([5, 8], [5, 8]), ([4, 9], [4, 9]), ([], []), ([], []), ([12], [12]), ([13], [13]), ([11, 14], [11, 14]), ([1, 10, 15], [1, 10, 15]), ([0, 16], [0, 16]), ([17, 16, 0, 1, 2, 3, 4, 5, 6, 7, 8, 9, 10, 11, 12, 13, 14, 15, 16, 17], [0, 17])])
def impl_turned.B11 : List Nat := [0, 0, 0, 4, 12, 0, 0, 64, 192, 480, 1020, 0, 0, 4096, 12288, 30720, 65534, 131071, 262143]
theorem impl_turned.tab11 : rtab .any (opsOf Tryd.f75 11) = impl_turned.T11 := by kernel_rfl
theorem impl_turned.bits11 : waitsOk impl_turned.T11.2 impl_turned.B11 = true := by kernel_rfl
set_option maxHeartbeats 8000000 in
set_option maxRecDepth 100000 in
theorem impl_turned.calls (k : Nat) (a0_0 : Int) (a0_1 : Int) (A0_2 : Option Addr) (c0_2 : Nat) (l0_2 : List Int) (A0_3 : Option Addr) (c0_3 : Nat) (l0_3 : List Int) (r1 : Int) (r2 : Int) (r3 : List Int) (r4 : List Int) (w : World) (hT : TzTab w) (hr0_2 : Kd.C (Kd.int .i64) w A0_2 l0_2.length l0_2) (hc0_2 : l0_2.length ≤ c0_2) (hr0_3 : Kd.C (Kd.int .i64) w A0_3 l0_3.length l0_3) (hc0_3 : l0_3.length ≤ c0_3) (h : impl_turned.f k a0_0 a0_1 l0_2 l0_3 = some (r1, r2, r3, r4)) :
  Calls Tryd.prog 75 #[.agg #[.int .i64 a0_0, .int .i64 a0_1, .slice A0_2 l0_2.length c0_2, .slice A0_3 l0_3.length c0_3]] w fun e w' => ∃ v2_ v3_ : Value, e = .returned (.agg #[.int .i64 r1, .int .i64 r2, v2_, v3_]) ∧ Kd.R (Kd.int .i64) 3 w' w.heap.size (fun k_ => some k_ ≠ (v3_ : Value).ownBlock) v2_ r3 ∧ Kd.R (Kd.int .i64) 3 w' w.heap.size (fun k_ => some k_ ≠ (v2_ : Value).ownBlock) v3_ r4 ∧ Below w.heap.size w w' := by
 have hu26 := Tryd.underlying26
 have hu55 := Tryd.underlying55
 have HT := Aside0.mk hT
 clear hT
 have HR0_2 := Aside0.mk hr0_2
 have HC0_2 := Aside0.mk hc0_2
 clear hr0_2 hc0_2
 have HR0_3 := Aside0.mk hr0_3
 have HC0_3 := Aside0.mk hc0_3
 clear hr0_3 hc0_3
 have HB := Aside0.mk (Below.refl w.heap.size w)
 have H : ((impl_Figure_grid.f a0_0 a0_1 l0_2 l0_3).bind fun bt132 => (impl_turned.l0 k 0 l0_2 (l0_2.length : Int) 0 a0_0 a0_1 l0_2 l0_3 bt132.1 bt132.2 bt132.2 bt132.1)) = some (r1, r2, r3, r4) := h
 clear h
 replace H := Option.bind_eq_some_iff.mp H
 obtain ⟨⟨t132, t133⟩, A20, H⟩ := H
 replace H : (impl_turned.l0 k 0 l0_2 (l0_2.length : Int) 0 a0_0 a0_1 l0_2 l0_3 t132 t133 t133 t132) = some (r1, r2, r3, r4) := H
 have A2 := Aside0.mk A20
 clear A20
 have H' := Aside0.mk H
 clear H
 go_enter Tryd.func75, Tryd.ntmps75
 go_wp2_with (first | ((with_reducible refine gate_dst (N := 1) rfl ?_); refine zbx 1 #[.int .i64 a0_0, .int .i64 a0_1, .slice A0_2 l0_2.length c0_2, .slice A0_3 l0_3.length c0_3] 26 ?_; intro gb130 hg w3 hbox hb; have BK130 := Aside0.mk (hbox); have GW130 := zGe hg; have GE130 := zGe hg; replace HB := zBb hb; clear hb hbox hg) | ((with_reducible refine gate_dst (N := 2) rfl ?_); refine zbx 2 #[.int .i64 0, .int .i64 0, .slice none 0 0, .slice none 0 0] 26 ?_; intro gb131 hg w4 hbox hb; have BK131 := Aside0.mk (hbox); have GW131 := zGe hg; have GE131 := zGe hg; have NB130_131 := zNl BK130 hg; have NB131_130 := zNg BK130 hg; replace BK130 := zKb BK130 hb; replace HB := zBb hb; clear hb hbox hg; have hnb5 := NB130_131.out; have hnc5 := NB131_130.out; obtain ⟨hcz6_0, hcz6_1, hcz6_2, hcz6_3, hfz6_0, hfz6_1, hfz6_2, hfz6_3⟩ := blk4 BK130) | ((with_reducible refine gate_callee (f := 33) rfl ?_); refine goesL_ (some 11) rfl rfl Tryd.func33 (by kernel_rfl) rfl #[.agg #[.int .i64 a0_0, .int .i64 a0_1, .slice A0_2 l0_2.length c0_2, .slice A0_3 l0_3.length c0_3]] rfl zM ?_; (with_reducible refine (impl_Figure_grid.calls a0_0 a0_1 _ _ l0_2 _ _ l0_3 t132 t133 _ ?side1 ?side2 ?side3 ?side4 A2.out).mono ?_); (case side1 => exact zC HR0_2); (case side2 => exact HC0_2.out); (case side3 => exact zC HR0_3); (case side4 => exact HC0_3.out); rintro e w7 ⟨rfl, hb⟩; refine ⟨_, rfl, ?_⟩; replace BK130 := zKb BK130 hb; replace BK131 := zKb BK131 hb; replace HB := zBb hb; (try clear hb); (try clear hb2); (try clear hk); (try clear hi)) | ((with_reducible refine gate_dst (N := 3) rfl ?_); refine zbx 3 #[.int .i64 0, .int .i64 0] 55 ?_; intro gb134 hg w8 hbox hb; have BK134 := Aside0.mk (hbox); have GW134 := zGe hg; have GE134 := zGe hg; have NB130_134 := zNl BK130 hg; have NB134_130 := zNg BK130 hg; replace BK130 := zKb BK130 hb; have NB131_134 := zNl BK131 hg; have NB134_131 := zNg BK131 hg; replace BK131 := zKb BK131 hb; replace HB := zBb hb; clear hb hbox hg; have hnb9 := NB134_130.out; have hnc9 := NB130_134.out; have hnb10 := NB134_131.out; have hnc10 := NB131_134.out; obtain ⟨hcz11_0, hcz11_1, hfz11_0, hfz11_1⟩ := blk2 BK134) | ((with_reducible refine gate_dst (N := 4) rfl ?_); refine zbx 4 #[.int .i64 0, .int .i64 0] 55 ?_; intro gb135 hg w12 hbox hb; have BK135 := Aside0.mk (hbox); have GW135 := zGe hg; have GE135 := zGe hg; replace HB := zBb hb; have NB130_135 := Aside0.mk ((by rw [hg]; exact Nat.ne_of_lt (blk_lt (g := gb130) (o := .cells #[.int .i64 a0_0, .int .i64 a0_1, .slice A0_2 l0_2.length c0_2, .slice A0_3 l0_3.length c0_3] 26 (0, 0)) (by (with_reducible repeat (first | refine blk_drewN ?_ _ | refine blk_drew ?_ | refine blk_alloc ?_ _)); refine blk_far ?_ NB130_134.out _; (with_reducible repeat (first | refine blk_drewN ?_ _ | refine blk_drew ?_ | refine blk_alloc ?_ _)); refine blk_far ?_ NB130_134.out _; (with_reducible repeat (first | refine blk_drewN ?_ _ | refine blk_drew ?_ | refine blk_alloc ?_ _)); exact BK130.out)) : gb130 ≠ gb135)); have NB135_130 := Aside0.mk ((by rw [hg]; exact Nat.ne_of_gt (blk_lt (g := gb130) (o := .cells #[.int .i64 a0_0, .int .i64 a0_1, .slice A0_2 l0_2.length c0_2, .slice A0_3 l0_3.length c0_3] 26 (0, 0)) (by (with_reducible repeat (first | refine blk_drewN ?_ _ | refine blk_drew ?_ | refine blk_alloc ?_ _)); refine blk_far ?_ NB130_134.out _; (with_reducible repeat (first | refine blk_drewN ?_ _ | refine blk_drew ?_ | refine blk_alloc ?_ _)); refine blk_far ?_ NB130_134.out _; (with_reducible repeat (first | refine blk_drewN ?_ _ | refine blk_drew ?_ | refine blk_alloc ?_ _)); exact BK130.out)) : gb135 ≠ gb130)); replace BK130 := Aside0.mk (blk_below (g := gb130) (o := .cells #[.int .i64 a0_0, .int .i64 a0_1, .slice A0_2 l0_2.length c0_2, .slice A0_3 l0_3.length c0_3] 26 (0, 0)) (by (with_reducible repeat (first | refine blk_drewN ?_ _ | refine blk_drew ?_ | refine blk_alloc ?_ _)); refine blk_far ?_ NB130_134.out _; (with_reducible repeat (first | refine blk_drewN ?_ _ | refine blk_drew ?_ | refine blk_alloc ?_ _)); refine blk_far ?_ NB130_134.out _; (with_reducible repeat (first | refine blk_drewN ?_ _ | refine blk_drew ?_ | refine blk_alloc ?_ _)); exact BK130.out) hb); have NB131_135 := Aside0.mk ((by rw [hg]; exact Nat.ne_of_lt (blk_lt (g := gb131) (o := .cells #[.int .i64 0, .int .i64 0, .slice none 0 0, .slice none 0 0] 26 (0, 0)) (by (with_reducible repeat (first | refine blk_drewN ?_ _ | refine blk_drew ?_ | refine blk_alloc ?_ _)); refine blk_far ?_ NB131_134.out _; (with_reducible repeat (first | refine blk_drewN ?_ _ | refine blk_drew ?_ | refine blk_alloc ?_ _)); refine blk_far ?_ NB131_134.out _; (with_reducible repeat (first | refine blk_drewN ?_ _ | refine blk_drew ?_ | refine blk_alloc ?_ _)); exact BK131.out)) : gb131 ≠ gb135)); have NB135_131 := Aside0.mk ((by rw [hg]; exact Nat.ne_of_gt (blk_lt (g := gb131) (o := .cells #[.int .i64 0, .int .i64 0, .slice none 0 0, .slice none 0 0] 26 (0, 0)) (by (with_reducible repeat (first | refine blk_drewN ?_ _ | refine blk_drew ?_ | refine blk_alloc ?_ _)); refine blk_far ?_ NB131_134.out _; (with_reducible repeat (first | refine blk_drewN ?_ _ | refine blk_drew ?_ | refine blk_alloc ?_ _)); refine blk_far ?_ NB131_134.out _; (with_reducible repeat (first | refine blk_drewN ?_ _ | refine blk_drew ?_ | refine blk_alloc ?_ _)); exact BK131.out)) : gb135 ≠ gb131)); replace BK131 := Aside0.mk (blk_below (g := gb131) (o := .cells #[.int .i64 0, .int .i64 0, .slice none 0 0, .slice none 0 0] 26 (0, 0)) (by (with_reducible repeat (first | refine blk_drewN ?_ _ | refine blk_drew ?_ | refine blk_alloc ?_ _)); refine blk_far ?_ NB131_134.out _; (with_reducible repeat (first | refine blk_drewN ?_ _ | refine blk_drew ?_ | refine blk_alloc ?_ _)); refine blk_far ?_ NB131_134.out _; (with_reducible repeat (first | refine blk_drewN ?_ _ | refine blk_drew ?_ | refine blk_alloc ?_ _)); exact BK131.out) hb); have NB134_135 := Aside0.mk ((by rw [hg]; exact Nat.ne_of_lt (blk_lt (g := gb134) (o := .cells #[.int .i64 t132, .int .i64 t133] 55 (0, 0)) (by (with_reducible repeat (first | refine blk_drewN ?_ _ | refine blk_drew ?_ | refine blk_alloc ?_ _)); refine blk_put (cs := #[.int .i64 t132, .int .i64 0]) ?_ 1 _ rfl; (with_reducible repeat (first | refine blk_drewN ?_ _ | refine blk_drew ?_ | refine blk_alloc ?_ _)); refine blk_put (cs := #[.int .i64 0, .int .i64 0]) ?_ 0 _ rfl; (with_reducible repeat (first | refine blk_drewN ?_ _ | refine blk_drew ?_ | refine blk_alloc ?_ _)); exact BK134.out)) : gb134 ≠ gb135)); have NB135_134 := Aside0.mk ((by rw [hg]; exact Nat.ne_of_gt (blk_lt (g := gb134) (o := .cells #[.int .i64 t132, .int .i64 t133] 55 (0, 0)) (by (with_reducible repeat (first | refine blk_drewN ?_ _ | refine blk_drew ?_ | refine blk_alloc ?_ _)); refine blk_put (cs := #[.int .i64 t132, .int .i64 0]) ?_ 1 _ rfl; (with_reducible repeat (first | refine blk_drewN ?_ _ | refine blk_drew ?_ | refine blk_alloc ?_ _)); refine blk_put (cs := #[.int .i64 0, .int .i64 0]) ?_ 0 _ rfl; (with_reducible repeat (first | refine blk_drewN ?_ _ | refine blk_drew ?_ | refine blk_alloc ?_ _)); exact BK134.out)) : gb135 ≠ gb134)); replace BK134 := Aside0.mk (blk_below (g := gb134) (o := .cells #[.int .i64 t132, .int .i64 t133] 55 (0, 0)) (by (with_reducible repeat (first | refine blk_drewN ?_ _ | refine blk_drew ?_ | refine blk_alloc ?_ _)); refine blk_put (cs := #[.int .i64 t132, .int .i64 0]) ?_ 1 _ rfl; (with_reducible repeat (first | refine blk_drewN ?_ _ | refine blk_drew ?_ | refine blk_alloc ?_ _)); refine blk_put (cs := #[.int .i64 0, .int .i64 0]) ?_ 0 _ rfl; (with_reducible repeat (first | refine blk_drewN ?_ _ | refine blk_drew ?_ | refine blk_alloc ?_ _)); exact BK134.out) hb); clear hb hbox hg; have hnb13 := NB135_130.out; have hnc13 := NB130_135.out; have hnb14 := NB135_131.out; have hnc14 := NB131_135.out; have hnb15 := NB135_134.out; have hnc15 := NB134_135.out; obtain ⟨hcz16_0, hcz16_1, hfz16_0, hfz16_1⟩ := blk2 BK135; obtain ⟨hcz17_0, hcz17_1, hcz17_2, hcz17_3, hfz17_0, hfz17_1, hfz17_2, hfz17_3⟩ := blk4 BK130))
 go_loopg [5, 20] k (fun kq v5 v20 w' => ∃ (x5_1 : Int) (x20_1 : Int), v5 = .int .u64 x5_1 ∧ v20 = .int .i64 x20_1 ∧ Aside0 (impl_turned.l0 kq x5_1 l0_2 (l0_2.length : Int) x20_1 a0_0 a0_1 l0_2 l0_3 t132 t133 t133 t132 = some (r1, r2, r3, r4)) ∧ Aside0 (kq ≤ k) ∧ Aside0 (w'.heap[gb130]? = some (.cells #[.int .i64 a0_0, .int .i64 a0_1, (.slice A0_2 l0_2.length c0_2), (.slice A0_3 l0_3.length c0_3)] 26 (0, 0))) ∧ Aside0 (w'.heap[gb131]? = some (.cells #[.int .i64 0, .int .i64 0, (.slice none 0 0), (.slice none 0 0)] 26 (0, 0))) ∧ Aside0 (w'.heap[gb134]? = some (.cells #[.int .i64 t132, .int .i64 t133] 55 (0, 0))) ∧ Aside0 (w'.heap[gb135]? = some (.cells #[.int .i64 t133, .int .i64 t132] 55 (0, 0))) ∧ Aside0 (Below w.heap.size w w'))
 case atStart => exact ⟨(0), (0), zA, zA, H', ⟨Nat.le_refl _⟩, ⟨by (with_reducible repeat (first | refine blk_drewN ?_ _ | refine blk_drew ?_ | refine blk_alloc ?_ _)); refine blk_far ?_ NB130_135.out _; (with_reducible repeat (first | refine blk_drewN ?_ _ | refine blk_drew ?_ | refine blk_alloc ?_ _)); refine blk_far ?_ NB130_135.out _; (with_reducible repeat (first | refine blk_drewN ?_ _ | refine blk_drew ?_ | refine blk_alloc ?_ _)); exact BK130.out⟩, ⟨by (with_reducible repeat (first | refine blk_drewN ?_ _ | refine blk_drew ?_ | refine blk_alloc ?_ _)); refine blk_far ?_ NB131_135.out _; (with_reducible repeat (first | refine blk_drewN ?_ _ | refine blk_drew ?_ | refine blk_alloc ?_ _)); refine blk_far ?_ NB131_135.out _; (with_reducible repeat (first | refine blk_drewN ?_ _ | refine blk_drew ?_ | refine blk_alloc ?_ _)); exact BK131.out⟩, ⟨by (with_reducible repeat (first | refine blk_drewN ?_ _ | refine blk_drew ?_ | refine blk_alloc ?_ _)); refine blk_far ?_ NB134_135.out _; (with_reducible repeat (first | refine blk_drewN ?_ _ | refine blk_drew ?_ | refine blk_alloc ?_ _)); refine blk_far ?_ NB134_135.out _; (with_reducible repeat (first | refine blk_drewN ?_ _ | refine blk_drew ?_ | refine blk_alloc ?_ _)); exact BK134.out⟩, ⟨by (with_reducible repeat (first | refine blk_drewN ?_ _ | refine blk_drew ?_ | refine blk_alloc ?_ _)); refine blk_put (cs := #[.int .i64 t133, .int .i64 0]) ?_ 1 _ rfl; (with_reducible repeat (first | refine blk_drewN ?_ _ | refine blk_drew ?_ | refine blk_alloc ?_ _)); refine blk_put (cs := #[.int .i64 0, .int .i64 0]) ?_ 0 _ rfl; (with_reducible repeat (first | refine blk_drewN ?_ _ | refine blk_drew ?_ | refine blk_alloc ?_ _)); exact BK135.out⟩, ⟨zB⟩⟩
 case round =>
  clear H'
  (try clear c1); (try clear p2); (try clear c3); (try clear c5); (try clear c7); (try clear c9); (try clear c10); (try clear c13); (try clear c14); (try clear c15); (try clear hcz11_0); (try clear hcz11_1); (try clear hcz16_0); (try clear hcz16_1); (try clear hcz17_0); (try clear hcz17_1); (try clear hcz17_2); (try clear hcz17_3); (try clear hcz6_0); (try clear hcz6_1); (try clear hcz6_2); (try clear hcz6_3); (try clear hfz11_0); (try clear hfz11_1); (try clear hfz16_0); (try clear hfz16_1); (try clear hfz17_0); (try clear hfz17_1); (try clear hfz17_2); (try clear hfz17_3); (try clear hfz6_0); (try clear hfz6_1); (try clear hfz6_2); (try clear hfz6_3)
  obtain ⟨x5_1, x20_1, rfl, rfl, HA, HK1, BK130, BK131, BK134, BK135, HB⟩ := hrel
  cases gk with
  | zero => exact absurd HA.out (by simp [impl_turned.l0])
  | succ k1 =>
   have H := HA.out
   clear HA
   simp only [impl_turned.l0] at H
   by_cases c18 : x20_1 < (l0_2.length : Int)
   ·rw [if_pos c18] at H
    have c18b0 : decide (x20_1 < (l0_2.length : Int)) = true := decide_eq_true c18
    clear c18
    by_cases c19 : 0 ≤ x20_1
    ·rw [if_pos c19] at H
     have c19b0 : decide (0 ≤ x20_1) = true := decide_eq_true c19
     clear c19
     by_cases c20 : x20_1 < (l0_2.length : Int)
     ·rw [if_pos c20] at H
      have c20b0 : decide (x20_1 < (l0_2.length : Int)) = true := decide_eq_true c20
      clear c20
      by_cases c21 : t132 = 0
      ·rw [if_pos c21] at H
       exact absurd H (by simp)
      ·rw [if_neg c21] at H
       have c21b0 : (t132 == 0) = false := beq_eq_false_iff_ne.mpr c21
       have c21b1 : (t132 != 0) = true := bne_iff_ne.mpr c21
       replace H := Option.bind_eq_some_iff.mp H
       obtain ⟨t137, A220, H⟩ := H
       replace H : (impl_turned.l0 k1 (Go.bits .or .u64 x5_1 t137) l0_2 (l0_2.length : Int) (wrap64 (x20_1 + 1)) a0_0 a0_1 l0_2 l0_3 t132 t133 t133 t132) = some (r1, r2, r3, r4) := H
       have A22 := Aside0.mk A220
       clear A220
       have H' := Aside0.mk H
       clear H
       have p136 : 0 ≤ (x20_1 : Int) := of_decide_eq_true (by assumption)
       have q136 : x20_1 < (l0_2.length : Int) := of_decide_eq_true (by assumption)
       obtain ⟨ad136, e136, hx136_0⟩ := Kd.at_int HR0_2.out x20_1 p136 q136
       cases e136
       replace hx136_0 := (HB.out.cell (World.block_lt_of_cell? w _ hx136_0)).trans hx136_0
       replace p136 := eq_true p136
       replace q136 := eq_true q136
       try go_wp2
       replace BK130 := Aside0.mk (blk_drew BK130.out)
       replace BK131 := Aside0.mk (blk_drew BK131.out)
       replace BK134 := Aside0.mk (blk_drew BK134.out)
       replace BK135 := Aside0.mk (blk_drew BK135.out)
       replace HB := Aside0.mk (below_drew1 HB.out)
       refine start_ (n := 16) (S := fun w' => w'.cell? ⟨gb135, 0, none⟩ = some (.int .i64 t133) ∧ w'.cell? ⟨gb135, 1, none⟩ = some (.int .i64 t132) ∧ w'.cell? ⟨gb134, 0, none⟩ = some (.int .i64 t132) ∧ w'.cell? ⟨gb134, 1, none⟩ = some (.int .i64 t133)) (ds := []) (fl 16 0) (by kernel_rfl) rfl rfl zQ (fun hHeld => ?_); refine with_tabW impl_turned.tab6 impl_turned.bits6 (fun HT_ HW_ => ?_)
       generalize wr.drew = w23 at BK130 BK131 BK134 BK135 HB hHeld ⊢
       refine zpu 0 (some 24) (fl 16 1) ?_
       refine zpu 2 (some 26) (fl 16 5) ?_
       refine zpu 4 (some 28) (fl 16 21) ?_
       refine zpu 5 (some 29) (fl 16 53) ?_
       refine zpu 9 (some 33) (fl 16 565) ?_
       refine zpu 10 (some 34) (fl 16 1589) ?_
       refine ztk 1 (some 25) (fl 16 1591) hHeld ?_
       refine ztk 3 (some 27) (fl 16 1599) hHeld ?_
       refine ztk 6 (some 30) (fl 16 1663) hHeld ?_
       refine zpu 7 (some 31) (fl 16 1791) ?_
       refine zpu 8 (some 32) (fl 16 2047) ?_
       refine ztk 11 (some 35) (fl 16 4095) hHeld ?_
       refine zpu 12 (some 36) (fl 16 8191) ?_
       refine zone 13 (some 37) (fl 16 16383) (fun K hK => ?_)
       refine zgo Tryd.func110 #[.agg #[.int .i64 t133, .int .i64 t132], .int .i64 (wrap64 (t133 - (wrap64 (Int.tdiv (rd l0_2 x20_1) t132)))), .int .i64 (Int.tmod (rd l0_2 x20_1) t132)] ?_
       with_reducible refine (impl_grid_upright.calls t133 t132 (wrap64 (t133 - (wrap64 (Int.tdiv (rd l0_2 x20_1) t132)))) (Int.tmod (rd l0_2 x20_1) t132) t137 _ A22.out).mono ?_
       rintro e w24 ⟨rfl, hb⟩
       refine ⟨_, rfl, ?_⟩
       replace BK130 := zKb BK130 hb
       replace BK131 := zKb BK131 hb
       replace BK134 := zKb BK134 hb
       replace BK135 := zKb BK135 hb
       replace HB := zBb hb
       (try clear hb)
       (try clear hb2)
       (try clear hk)
       (try clear hi)
       refine hK.out _ _ zQ (fun hHeld => ?_)
       clear hK K
       refine znm ?_
       refine zpu 14 (some 38) (fl 16 32767) ?_
       refine zpu 15 (some 5) (fl 16 65535) ?_
       refine done_ (done_of HT_.out (by kernel_rfl)) ?_
       try go_wp2
       go_roundg k1
       case measure => have := HK1.out; omega
       case rel => exact ⟨(Go.bits .or .u64 x5_1 t137), (wrap64 (x20_1 + 1)), zA, zA, H', ⟨by have := HK1.out; omega⟩, ⟨zK BK130⟩, ⟨zK BK131⟩, ⟨zK BK134⟩, ⟨zK BK135⟩, ⟨zB⟩⟩
     ·rw [if_neg c20] at H
      exact absurd H (by simp)
    ·rw [if_neg c19] at H
     exact absurd H (by simp)
   ·rw [if_neg c18] at H
    have c18b0 : decide (x20_1 < (l0_2.length : Int)) = false := decide_eq_false c18
    clear c18
    have H' := Aside0.mk H
    clear H
    have hnb25 := NB130_131.out
    have hnc25 := NB131_130.out
    have hnb26 := NB130_134.out
    have hnc26 := NB134_130.out
    have hnb27 := NB130_135.out
    have hnc27 := NB135_130.out
    obtain ⟨hcz28_0, hcz28_1, hcz28_2, hcz28_3, hfz28_0, hfz28_1, hfz28_2, hfz28_3⟩ := blk4 BK130
    go_wp2
    go_loopg [5, 43] k1 (fun kq v5 v43 w' => ∃ (x5_2 : Int) (x43_2 : Int), v5 = .int .u64 x5_2 ∧ v43 = .int .i64 x43_2 ∧ Aside0 (impl_turned.l1 kq x5_2 l0_3 (l0_3.length : Int) x43_2 t132 t133 t133 t132 = some (r1, r2, r3, r4)) ∧ Aside0 (kq ≤ k1) ∧ Aside0 (w'.heap[gb130]? = some (.cells #[.int .i64 a0_0, .int .i64 a0_1, (.slice A0_2 l0_2.length c0_2), (.slice A0_3 l0_3.length c0_3)] 26 (0, 0))) ∧ Aside0 (w'.heap[gb131]? = some (.cells #[.int .i64 0, .int .i64 0, (.slice none 0 0), (.slice none 0 0)] 26 (0, 0))) ∧ Aside0 (w'.heap[gb134]? = some (.cells #[.int .i64 t132, .int .i64 t133] 55 (0, 0))) ∧ Aside0 (w'.heap[gb135]? = some (.cells #[.int .i64 t133, .int .i64 t132] 55 (0, 0))) ∧ Aside0 (Below w.heap.size w w'))
    case atStart => exact ⟨(x5_1), (0), zA, zA, H', ⟨Nat.le_refl _⟩, ⟨zK BK130⟩, ⟨zK BK131⟩, ⟨zK BK134⟩, ⟨zK BK135⟩, ⟨zB⟩⟩
    case round =>
     clear H'
     (try clear c1); (try clear p1); (try clear q1); (try clear hx1); (try clear c2); (try clear p2); (try clear c3); (try clear c5); (try clear p6); (try clear c7); (try clear c9); (try clear c10); (try clear c11); (try clear c13); (try clear p13); (try clear q13); (try clear hx13); (try clear c14); (try clear c15); (try clear c18); (try clear c18b0); (try clear c19); (try clear c19b0); (try clear c20); (try clear c20b0); (try clear c21); (try clear c21b0); (try clear c21b1); (try clear c25); (try clear c26); (try clear c27); (try clear hcz11_0); (try clear hcz11_1); (try clear hcz16_0); (try clear hcz16_1); (try clear hcz17_0); (try clear hcz17_1); (try clear hcz17_2); (try clear hcz17_3); (try clear hcz28_0); (try clear hcz28_1); (try clear hcz28_2); (try clear hcz28_3); (try clear hcz6_0); (try clear hcz6_1); (try clear hcz6_2); (try clear hcz6_3); (try clear hfz11_0); (try clear hfz11_1); (try clear hfz16_0); (try clear hfz16_1); (try clear hfz17_0); (try clear hfz17_1); (try clear hfz17_2); (try clear hfz17_3); (try clear hfz28_0); (try clear hfz28_1); (try clear hfz28_2); (try clear hfz28_3); (try clear hfz6_0); (try clear hfz6_1); (try clear hfz6_2); (try clear hfz6_3); (try clear hx136_0); (try clear p136); (try clear p2); (try clear q136)
     obtain ⟨x5_2, x43_2, rfl, rfl, HA, HK2, BK130, BK131, BK134, BK135, HB⟩ := hrel
     cases gk with
     | zero => exact absurd HA.out (by simp [impl_turned.l1])
     | succ k2 =>
      have H := HA.out
      clear HA
      simp only [impl_turned.l1] at H
      by_cases c29 : x43_2 < (l0_3.length : Int)
      ·rw [if_pos c29] at H
       have c29b0 : decide (x43_2 < (l0_3.length : Int)) = true := decide_eq_true c29
       clear c29
       by_cases c30 : 0 ≤ x43_2
       ·rw [if_pos c30] at H
        have c30b0 : decide (0 ≤ x43_2) = true := decide_eq_true c30
        clear c30
        by_cases c31 : x43_2 < (l0_3.length : Int)
        ·rw [if_pos c31] at H
         have c31b0 : decide (x43_2 < (l0_3.length : Int)) = true := decide_eq_true c31
         clear c31
         by_cases c32 : (wrap64 (t132 + 1)) = 0
         ·rw [if_pos c32] at H
          exact absurd H (by simp)
         ·rw [if_neg c32] at H
          have c32b0 : ((wrap64 (t132 + 1)) == 0) = false := beq_eq_false_iff_ne.mpr c32
          have c32b1 : ((wrap64 (t132 + 1)) != 0) = true := bne_iff_ne.mpr c32
          replace H := Option.bind_eq_some_iff.mp H
          obtain ⟨t139, A330, H⟩ := H
          replace H : (impl_turned.l1 k2 (Go.bits .or .u64 x5_2 t139) l0_3 (l0_3.length : Int) (wrap64 (x43_2 + 1)) t132 t133 t133 t132) = some (r1, r2, r3, r4) := H
          have A33 := Aside0.mk A330
          clear A330
          have H' := Aside0.mk H
          clear H
          have p138 : 0 ≤ (x43_2 : Int) := of_decide_eq_true (by assumption)
          have q138 : x43_2 < (l0_3.length : Int) := of_decide_eq_true (by assumption)
          obtain ⟨ad138, e138, hx138_0⟩ := Kd.at_int HR0_3.out x43_2 p138 q138
          cases e138
          replace hx138_0 := (HB.out.cell (World.block_lt_of_cell? w _ hx138_0)).trans hx138_0
          replace p138 := eq_true p138
          replace q138 := eq_true q138
          try go_wp2
          replace BK130 := Aside0.mk (blk_drew BK130.out)
          replace BK131 := Aside0.mk (blk_drew BK131.out)
          replace BK134 := Aside0.mk (blk_drew BK134.out)
          replace BK135 := Aside0.mk (blk_drew BK135.out)
          replace HB := Aside0.mk (below_drew1 HB.out)
          refine start_ (n := 19) (S := fun w' => w'.cell? ⟨gb135, 0, none⟩ = some (.int .i64 t133) ∧ w'.cell? ⟨gb135, 1, none⟩ = some (.int .i64 t132) ∧ w'.cell? ⟨gb134, 0, none⟩ = some (.int .i64 t132) ∧ w'.cell? ⟨gb134, 1, none⟩ = some (.int .i64 t133)) (ds := []) (fl 19 0) (by kernel_rfl) rfl rfl zQ (fun hHeld => ?_); refine with_tabW impl_turned.tab11 impl_turned.bits11 (fun HT_ HW_ => ?_)
          generalize wr.drew = w34 at BK130 BK131 BK134 BK135 HB hHeld ⊢
          refine zpu 0 (some 47) (fl 19 1) ?_
          refine zpu 2 (some 49) (fl 19 5) ?_
          refine zpu 5 (some 52) (fl 19 37) ?_
          refine zpu 6 (some 53) (fl 19 101) ?_
          refine zpu 11 (some 58) (fl 19 2149) ?_
          refine zpu 12 (some 59) (fl 19 6245) ?_
          refine ztk 1 (some 48) (fl 19 6247) hHeld ?_
          refine ztk 3 (some 50) (fl 19 6255) hHeld ?_
          refine zpu 4 (some 51) (fl 19 6271) ?_
          refine ztk 7 (some 54) (fl 19 6399) hHeld ?_
          refine zpu 8 (some 55) (fl 19 6655) ?_
          refine zpu 9 (some 56) (fl 19 7167) ?_
          refine zpu 10 (some 57) (fl 19 8191) ?_
          refine ztk 13 (some 60) (fl 19 16383) hHeld ?_
          refine zpu 14 (some 61) (fl 19 32767) ?_
          refine zpu 15 (some 62) (fl 19 65535) ?_
          refine zone 16 (some 63) (fl 19 131071) (fun K hK => ?_)
          refine zgo Tryd.func111 #[.agg #[.int .i64 t133, .int .i64 t132], .int .i64 (wrap64 ((wrap64 (t133 - 1)) - (wrap64 (Int.tdiv (rd l0_3 x43_2) (wrap64 (t132 + 1)))))), .int .i64 (Int.tmod (rd l0_3 x43_2) (wrap64 (t132 + 1)))] ?_
          with_reducible refine (impl_grid_level.calls t133 t132 (wrap64 ((wrap64 (t133 - 1)) - (wrap64 (Int.tdiv (rd l0_3 x43_2) (wrap64 (t132 + 1)))))) (Int.tmod (rd l0_3 x43_2) (wrap64 (t132 + 1))) t139 _ A33.out).mono ?_
          rintro e w35 ⟨rfl, hb⟩
          refine ⟨_, rfl, ?_⟩
          replace BK130 := zKb BK130 hb
          replace BK131 := zKb BK131 hb
          replace BK134 := zKb BK134 hb
          replace BK135 := zKb BK135 hb
          replace HB := zBb hb
          (try clear hb)
          (try clear hb2)
          (try clear hk)
          (try clear hi)
          refine hK.out _ _ zQ (fun hHeld => ?_)
          clear hK K
          refine znm ?_
          refine zpu 17 (some 64) (fl 19 262143) ?_
          refine zpu 18 (some 5) (fl 19 524287) ?_
          refine done_ (done_of HT_.out (by kernel_rfl)) ?_
          try go_wp2
          go_roundg k2
          case measure => have := HK1.out; have := HK2.out; omega
          case rel => exact ⟨(Go.bits .or .u64 x5_2 t139), (wrap64 (x43_2 + 1)), zA, zA, H', ⟨by have := HK1.out; have := HK2.out; omega⟩, ⟨zK BK130⟩, ⟨zK BK131⟩, ⟨zK BK134⟩, ⟨zK BK135⟩, ⟨zB⟩⟩
        ·rw [if_neg c31] at H
         exact absurd H (by simp)
       ·rw [if_neg c30] at H
        exact absurd H (by simp)
      ·rw [if_neg c29] at H
       have c29b0 : decide (x43_2 < (l0_3.length : Int)) = false := decide_eq_false c29
       clear c29
       replace H := Option.bind_eq_some_iff.mp H
       obtain ⟨⟨t140, t141, t142, t145⟩, A360, H⟩ := H
       replace H : (some (t140, t141, t142, t145)) = some (r1, r2, r3, r4) := H
       have A36 := Aside0.mk A360
       clear A360
       simp only [Option.some.injEq, Prod.mk.injEq] at H
       obtain ⟨rfl, rfl, rfl, rfl⟩ := H
       have hnb37 := NB135_130.out
       have hnc37 := NB130_135.out
       have hnb38 := NB135_131.out
       have hnc38 := NB131_135.out
       have hnb39 := NB135_134.out
       have hnc39 := NB134_135.out
       obtain ⟨hcz40_0, hcz40_1, hfz40_0, hfz40_1⟩ := blk2 BK135
       go_wp2_with (first | ((with_reducible refine gate_callee (f := 34) rfl ?_); refine goesL_ (some 68) rfl rfl Tryd.func34 (by kernel_rfl) rfl #[.agg #[.int .i64 t133, .int .i64 t132], .int .u64 x5_2] rfl zM ?_; (with_reducible refine (impl_grid_figure.calls k2 t133 t132 x5_2 t140 t141 t142 t145 _ ?side1 A36.out).mono ?_); (case side1 => exact tz_below HT.out zB); rintro e w41 ⟨v143, v146, rfl, ho0, ho1, hb⟩; refine ⟨_, rfl, ?_⟩; have HO144 := Aside0.mk (Kd.R_lower ho0 (below_size zB)); have HO147 := Aside0.mk (Kd.R_lower ho1 (below_size zB)); replace BK130 := zKb BK130 hb; replace BK131 := zKb BK131 hb; replace BK134 := zKb BK134 hb; replace BK135 := zKb BK135 hb; replace HB := zBb hb; (try clear hb); (try clear hb2); (try clear hk); (try clear hi); (try clear ho0); (try clear ho1); have hnb42 := NB131_130.out; have hnc42 := NB130_131.out; have hnb43 := NB131_134.out; have hnc43 := NB134_131.out; obtain ⟨hcz44_0, hcz44_1, hcz44_2, hcz44_3, hfz44_0, hfz44_1, hfz44_2, hfz44_3⟩ := blk4 BK131; obtain ⟨Ao45, co45, eo45⟩ := Kd.R_slice HO144.out; subst eo45; obtain ⟨Ao46, co46, eo46⟩ := Kd.R_slice HO147.out; subst eo46))
       refine bodyPost_ret (results_cell_row rfl _ _ gb131 26 #[.int .i64 t140, .int .i64 t141, .slice Ao45 t142.length co45, .slice Ao46 t145.length co46] (0, 0) _ rfl (by (with_reducible repeat (first | refine blk_drewN ?_ _ | refine blk_drew ?_ | refine blk_alloc ?_ _)); refine blk_put (cs := #[.int .i64 t140, .int .i64 t141, .slice Ao45 t142.length co45, .slice none 0 0]) ?_ 3 _ rfl; (with_reducible repeat (first | refine blk_drewN ?_ _ | refine blk_drew ?_ | refine blk_alloc ?_ _)); refine blk_put (cs := #[.int .i64 t140, .int .i64 t141, .slice none 0 0, .slice none 0 0]) ?_ 2 _ rfl; (with_reducible repeat (first | refine blk_drewN ?_ _ | refine blk_drew ?_ | refine blk_alloc ?_ _)); refine blk_put (cs := #[.int .i64 t140, .int .i64 0, .slice none 0 0, .slice none 0 0]) ?_ 1 _ rfl; (with_reducible repeat (first | refine blk_drewN ?_ _ | refine blk_drew ?_ | refine blk_alloc ?_ _)); refine blk_put (cs := #[.int .i64 0, .int .i64 0, .slice none 0 0, .slice none 0 0]) ?_ 0 _ rfl; (with_reducible repeat (first | refine blk_drewN ?_ _ | refine blk_drew ?_ | refine blk_alloc ?_ _)); exact BK131.out) Tryd.underlying26 rfl (by kernel_rfl)) rfl ?_
       exact ⟨_, _, zE, by (with_reducible repeat (first | apply Kd.R_alloc | apply Kd.R_drewN | apply Kd.R_drew)); exact zF4 HO144 BK131, by (with_reducible repeat (first | apply Kd.R_alloc | apply Kd.R_drewN | apply Kd.R_drew)); exact zF4 HO147 BK131, zB⟩

/-! ### impl_mirrored: function 76 -/
def impl_mirrored.T5 : Bool × List (List Nat × List Nat) := (true, [([], []), ([], []), ([], []), ([2], [2]), ([3], [3]), ([], []), ([], []), ([6], [6]), ([5, 7], [5, 7]), ([4, 8], [4, 8]), ([], []), ([], []), ([11], [11]), ([10, 12], [10, 12]), ([1, 9, 13], [1, 9, 13]), ([0, 14], [0, 14]), ([15, 14, 0, 1, 2, 3, 4, 5, 6, 7, 8, 9, 10, 11, 12, 13, 14, 15], [0, 15])])
def impl_mirrored.B5 : List Nat := [0, 0, 0, 4, 12, 0, 0, 64, 224, 508, 0, 0, 2048, 7168, 16382, 32767, 65535]
theorem impl_mirrored.tab5 : rtab .any (opsOf Tryd.f76 5) = impl_mirrored.T5 := by kernel_rfl
theorem impl_mirrored.bits5 : waitsOk impl_mirrored.T5.2 impl_mirrored.B5 = true := by kernel_rfl
def impl_mirrored.T10 : Bool × List (List Nat × List Nat) := (true, [([], []), ([], []), ([], []), ([2], [2]), ([], []), ([], []), ([5], [5]), ([6], [6]), ([4, 7], [4, 7]), ([3, 8], [3, 8]), ([], []), ([], []), ([11], [11]), ([12], [12]), ([10, 13], [10, 13]), ([1, 9, 14], [1, 9, 14]), ([0, 15], [0, 15]), ([16, 15, 0, 1, 2, 3, 4, 5, 6, 7, 8, 9, 10, 11, 12, 13, 14, 15, 16], [0, 16])])
def impl_mirrored.B10 : List Nat := [0, 0, 0, 4, 0, 0, 32, 96, 240, 508, 0, 0, 2048, 6144, 15360, 32766, 65535, 131071]
theorem impl_mirrored.tab10 : rtab .any (opsOf Tryd.f76 10) = impl_mirrored.T10 := by kernel_rfl
theorem impl_mirrored.bits10 : waitsOk impl_mirrored.T10.2 impl_mirrored.B10 = true := by kernel_rfl
set_option maxHeartbeats 8000000 in
set_option maxRecDepth 100000 in
theorem impl_mirrored.calls (k : Nat) (a0_0 : Int) (a0_1 : Int) (A0_2 : Option Addr) (c0_2 : Nat) (l0_2 : List Int) (A0_3 : Option Addr) (c0_3 : Nat) (l0_3 : List Int) (r1 : Int) (r2 : Int) (r3 : List Int) (r4 : List Int) (w : World) (hT : TzTab w) (hr0_2 : Kd.C (Kd.int .i64) w A0_2 l0_2.length l0_2) (hc0_2 : l0_2.length ≤ c0_2) (hr0_3 : Kd.C (Kd.int .i64) w A0_3 l0_3.length l0_3) (hc0_3 : l0_3.length ≤ c0_3) (h : impl_mirrored.f k a0_0 a0_1 l0_2 l0_3 = some (r1, r2, r3, r4)) :
  Calls Tryd.prog 76 #[.agg #[.int .i64 a0_0, .int .i64 a0_1, .slice A0_2 l0_2.length c0_2, .slice A0_3 l0_3.length c0_3]] w fun e w' => ∃ v2_ v3_ : Value, e = .returned (.agg #[.int .i64 r1, .int .i64 r2, v2_, v3_]) ∧ Kd.R (Kd.int .i64) 3 w' w.heap.size (fun k_ => some k_ ≠ (v3_ : Value).ownBlock) v2_ r3 ∧ Kd.R (Kd.int .i64) 3 w' w.heap.size (fun k_ => some k_ ≠ (v2_ : Value).ownBlock) v3_ r4 ∧ Below w.heap.size w w' := by
 have hu26 := Tryd.underlying26
 have hu55 := Tryd.underlying55
 have HT := Aside0.mk hT
 clear hT
 have HR0_2 := Aside0.mk hr0_2
 have HC0_2 := Aside0.mk hc0_2
 clear hr0_2 hc0_2
 have HR0_3 := Aside0.mk hr0_3
 have HC0_3 := Aside0.mk hc0_3
 clear hr0_3 hc0_3
 have HB := Aside0.mk (Below.refl w.heap.size w)
 have H : ((impl_Figure_grid.f a0_0 a0_1 l0_2 l0_3).bind fun bt150 => (impl_mirrored.l0 k 0 l0_2 (l0_2.length : Int) 0 a0_0 a0_1 l0_2 l0_3 bt150.1 bt150.2)) = some (r1, r2, r3, r4) := h
 clear h
 replace H := Option.bind_eq_some_iff.mp H
 obtain ⟨⟨t150, t151⟩, A20, H⟩ := H
 replace H : (impl_mirrored.l0 k 0 l0_2 (l0_2.length : Int) 0 a0_0 a0_1 l0_2 l0_3 t150 t151) = some (r1, r2, r3, r4) := H
 have A2 := Aside0.mk A20
 clear A20
 have H' := Aside0.mk H
 clear H
 go_enter Tryd.func76, Tryd.ntmps76
 go_wp2_with (first | ((with_reducible refine gate_dst (N := 1) rfl ?_); refine zbx 1 #[.int .i64 a0_0, .int .i64 a0_1, .slice A0_2 l0_2.length c0_2, .slice A0_3 l0_3.length c0_3] 26 ?_; intro gb148 hg w3 hbox hb; have BK148 := Aside0.mk (hbox); have GW148 := zGe hg; have GE148 := zGe hg; replace HB := zBb hb; clear hb hbox hg) | ((with_reducible refine gate_dst (N := 2) rfl ?_); refine zbx 2 #[.int .i64 0, .int .i64 0, .slice none 0 0, .slice none 0 0] 26 ?_; intro gb149 hg w4 hbox hb; have BK149 := Aside0.mk (hbox); have GW149 := zGe hg; have GE149 := zGe hg; have NB148_149 := zNl BK148 hg; have NB149_148 := zNg BK148 hg; replace BK148 := zKb BK148 hb; replace HB := zBb hb; clear hb hbox hg; have hnb5 := NB148_149.out; have hnc5 := NB149_148.out; obtain ⟨hcz6_0, hcz6_1, hcz6_2, hcz6_3, hfz6_0, hfz6_1, hfz6_2, hfz6_3⟩ := blk4 BK148) | ((with_reducible refine gate_callee (f := 33) rfl ?_); refine goesL_ (some 10) rfl rfl Tryd.func33 (by kernel_rfl) rfl #[.agg #[.int .i64 a0_0, .int .i64 a0_1, .slice A0_2 l0_2.length c0_2, .slice A0_3 l0_3.length c0_3]] rfl zM ?_; (with_reducible refine (impl_Figure_grid.calls a0_0 a0_1 _ _ l0_2 _ _ l0_3 t150 t151 _ ?side1 ?side2 ?side3 ?side4 A2.out).mono ?_); (case side1 => exact zC HR0_2); (case side2 => exact HC0_2.out); (case side3 => exact zC HR0_3); (case side4 => exact HC0_3.out); rintro e w7 ⟨rfl, hb⟩; refine ⟨_, rfl, ?_⟩; replace BK148 := zKb BK148 hb; replace BK149 := zKb BK149 hb; replace HB := zBb hb; (try clear hb); (try clear hb2); (try clear hk); (try clear hi)) | ((with_reducible refine gate_dst (N := 3) rfl ?_); refine zbx 3 #[.int .i64 0, .int .i64 0] 55 ?_; intro gb152 hg w8 hbox hb; have BK152 := Aside0.mk (hbox); have GW152 := zGe hg; have GE152 := zGe hg; have NB148_152 := zNl BK148 hg; have NB152_148 := zNg BK148 hg; replace BK148 := zKb BK148 hb; have NB149_152 := zNl BK149 hg; have NB152_149 := zNg BK149 hg; replace BK149 := zKb BK149 hb; replace HB := zBb hb; clear hb hbox hg; have hnb9 := NB152_148.out; have hnc9 := NB148_152.out; have hnb10 := NB152_149.out; have hnc10 := NB149_152.out; obtain ⟨hcz11_0, hcz11_1, hfz11_0, hfz11_1⟩ := blk2 BK152; obtain ⟨hcz12_0, hcz12_1, hcz12_2, hcz12_3, hfz12_0, hfz12_1, hfz12_2, hfz12_3⟩ := blk4 BK148))
 go_loopg [4, 14] k (fun kq v4 v14 w' => ∃ (x4_1 : Int) (x14_1 : Int), v4 = .int .u64 x4_1 ∧ v14 = .int .i64 x14_1 ∧ Aside0 (impl_mirrored.l0 kq x4_1 l0_2 (l0_2.length : Int) x14_1 a0_0 a0_1 l0_2 l0_3 t150 t151 = some (r1, r2, r3, r4)) ∧ Aside0 (kq ≤ k) ∧ Aside0 (w'.heap[gb148]? = some (.cells #[.int .i64 a0_0, .int .i64 a0_1, (.slice A0_2 l0_2.length c0_2), (.slice A0_3 l0_3.length c0_3)] 26 (0, 0))) ∧ Aside0 (w'.heap[gb149]? = some (.cells #[.int .i64 0, .int .i64 0, (.slice none 0 0), (.slice none 0 0)] 26 (0, 0))) ∧ Aside0 (w'.heap[gb152]? = some (.cells #[.int .i64 t150, .int .i64 t151] 55 (0, 0))) ∧ Aside0 (Below w.heap.size w w'))
 case atStart => exact ⟨(0), (0), zA, zA, H', ⟨Nat.le_refl _⟩, ⟨by (with_reducible repeat (first | refine blk_drewN ?_ _ | refine blk_drew ?_ | refine blk_alloc ?_ _)); refine blk_far ?_ NB148_152.out _; (with_reducible repeat (first | refine blk_drewN ?_ _ | refine blk_drew ?_ | refine blk_alloc ?_ _)); refine blk_far ?_ NB148_152.out _; (with_reducible repeat (first | refine blk_drewN ?_ _ | refine blk_drew ?_ | refine blk_alloc ?_ _)); exact BK148.out⟩, ⟨by (with_reducible repeat (first | refine blk_drewN ?_ _ | refine blk_drew ?_ | refine blk_alloc ?_ _)); refine blk_far ?_ NB149_152.out _; (with_reducible repeat (first | refine blk_drewN ?_ _ | refine blk_drew ?_ | refine blk_alloc ?_ _)); refine blk_far ?_ NB149_152.out _; (with_reducible repeat (first | refine blk_drewN ?_ _ | refine blk_drew ?_ | refine blk_alloc ?_ _)); exact BK149.out⟩, ⟨by (with_reducible repeat (first | refine blk_drewN ?_ _ | refine blk_drew ?_ | refine blk_alloc ?_ _)); refine blk_put (cs := #[.int .i64 t150, .int .i64 0]) ?_ 1 _ rfl; (with_reducible repeat (first | refine blk_drewN ?_ _ | refine blk_drew ?_ | refine blk_alloc ?_ _)); refine blk_put (cs := #[.int .i64 0, .int .i64 0]) ?_ 0 _ rfl; (with_reducible repeat (first | refine blk_drewN ?_ _ | refine blk_drew ?_ | refine blk_alloc ?_ _)); exact BK152.out⟩, ⟨zB⟩⟩
 case round =>
  clear H'
  (try clear c1); (try clear p2); (try clear c3); (try clear c5); (try clear c7); (try clear c9); (try clear c10); (try clear hcz11_0); (try clear hcz11_1); (try clear hcz12_0); (try clear hcz12_1); (try clear hcz12_2); (try clear hcz12_3); (try clear hcz6_0); (try clear hcz6_1); (try clear hcz6_2); (try clear hcz6_3); (try clear hfz11_0); (try clear hfz11_1); (try clear hfz12_0); (try clear hfz12_1); (try clear hfz12_2); (try clear hfz12_3); (try clear hfz6_0); (try clear hfz6_1); (try clear hfz6_2); (try clear hfz6_3)
  obtain ⟨x4_1, x14_1, rfl, rfl, HA, HK1, BK148, BK149, BK152, HB⟩ := hrel
  cases gk with
  | zero => exact absurd HA.out (by simp [impl_mirrored.l0])
  | succ k1 =>
   have H := HA.out
   clear HA
   simp only [impl_mirrored.l0] at H
   by_cases c13 : x14_1 < (l0_2.length : Int)
   ·rw [if_pos c13] at H
    have c13b0 : decide (x14_1 < (l0_2.length : Int)) = true := decide_eq_true c13
    clear c13
    by_cases c14 : 0 ≤ x14_1
    ·rw [if_pos c14] at H
     have c14b0 : decide (0 ≤ x14_1) = true := decide_eq_true c14
     clear c14
     by_cases c15 : x14_1 < (l0_2.length : Int)
     ·rw [if_pos c15] at H
      have c15b0 : decide (x14_1 < (l0_2.length : Int)) = true := decide_eq_true c15
      clear c15
      by_cases c16 : t150 = 0
      ·rw [if_pos c16] at H
       exact absurd H (by simp)
      ·rw [if_neg c16] at H
       have c16b0 : (t150 == 0) = false := beq_eq_false_iff_ne.mpr c16
       have c16b1 : (t150 != 0) = true := bne_iff_ne.mpr c16
       replace H := Option.bind_eq_some_iff.mp H
       obtain ⟨t154, A170, H⟩ := H
       replace H : (impl_mirrored.l0 k1 (Go.bits .or .u64 x4_1 t154) l0_2 (l0_2.length : Int) (wrap64 (x14_1 + 1)) a0_0 a0_1 l0_2 l0_3 t150 t151) = some (r1, r2, r3, r4) := H
       have A17 := Aside0.mk A170
       clear A170
       have H' := Aside0.mk H
       clear H
       have p153 : 0 ≤ (x14_1 : Int) := of_decide_eq_true (by assumption)
       have q153 : x14_1 < (l0_2.length : Int) := of_decide_eq_true (by assumption)
       obtain ⟨ad153, e153, hx153_0⟩ := Kd.at_int HR0_2.out x14_1 p153 q153
       cases e153
       replace hx153_0 := (HB.out.cell (World.block_lt_of_cell? w _ hx153_0)).trans hx153_0
       replace p153 := eq_true p153
       replace q153 := eq_true q153
       try go_wp2
       replace BK148 := Aside0.mk (blk_drew BK148.out)
       replace BK149 := Aside0.mk (blk_drew BK149.out)
       replace BK152 := Aside0.mk (blk_drew BK152.out)
       replace HB := Aside0.mk (below_drew1 HB.out)
       refine start_ (n := 17) (S := fun w' => w'.cell? ⟨gb152, 0, none⟩ = some (.int .i64 t150) ∧ w'.cell? ⟨gb152, 1, none⟩ = some (.int .i64 t151)) (ds := []) (fl 17 0) (by kernel_rfl) rfl rfl zQ (fun hHeld => ?_); refine with_tabW impl_mirrored.tab5 impl_mirrored.bits5 (fun HT_ HW_ => ?_)
       generalize wr.drew = w18 at BK148 BK149 BK152 HB hHeld ⊢
       refine zpu 0 (some 18) (fl 17 1) ?_
       refine zpu 2 (some 20) (fl 17 5) ?_
       refine zpu 5 (some 23) (fl 17 37) ?_
       refine zpu 6 (some 24) (fl 17 101) ?_
       refine zpu 10 (some 28) (fl 17 1125) ?_
       refine zpu 11 (some 29) (fl 17 3173) ?_
       refine ztk 1 (some 19) (fl 17 3175) hHeld ?_
       refine ztk 3 (some 21) (fl 17 3183) hHeld ?_
       refine zpu 4 (some 22) (fl 17 3199) ?_
       refine ztk 7 (some 25) (fl 17 3327) hHeld ?_
       refine zpu 8 (some 26) (fl 17 3583) ?_
       refine zpu 9 (some 27) (fl 17 4095) ?_
       refine ztk 12 (some 30) (fl 17 8191) hHeld ?_
       refine zpu 13 (some 31) (fl 17 16383) ?_
       refine zone 14 (some 32) (fl 17 32767) (fun K hK => ?_)
       refine zgo Tryd.func111 #[.agg #[.int .i64 t150, .int .i64 t151], .int .i64 (wrap64 ((wrap64 (t150 - 1)) - (Int.tmod (rd l0_2 x14_1) t150))), .int .i64 (wrap64 (Int.tdiv (rd l0_2 x14_1) t150))] ?_
       with_reducible refine (impl_grid_level.calls t150 t151 (wrap64 ((wrap64 (t150 - 1)) - (Int.tmod (rd l0_2 x14_1) t150))) (wrap64 (Int.tdiv (rd l0_2 x14_1) t150)) t154 _ A17.out).mono ?_
       rintro e w19 ⟨rfl, hb⟩
       refine ⟨_, rfl, ?_⟩
       replace BK148 := zKb BK148 hb
       replace BK149 := zKb BK149 hb
       replace BK152 := zKb BK152 hb
       replace HB := zBb hb
       (try clear hb)
       (try clear hb2)
       (try clear hk)
       (try clear hi)
       refine hK.out _ _ zQ (fun hHeld => ?_)
       clear hK K
       refine znm ?_
       refine zpu 15 (some 33) (fl 17 65535) ?_
       refine zpu 16 (some 4) (fl 17 131071) ?_
       refine done_ (done_of HT_.out (by kernel_rfl)) ?_
       try go_wp2
       go_roundg k1
       case measure => have := HK1.out; omega
       case rel => exact ⟨(Go.bits .or .u64 x4_1 t154), (wrap64 (x14_1 + 1)), zA, zA, H', ⟨by have := HK1.out; omega⟩, ⟨zK BK148⟩, ⟨zK BK149⟩, ⟨zK BK152⟩, ⟨zB⟩⟩
     ·rw [if_neg c15] at H
      exact absurd H (by simp)
    ·rw [if_neg c14] at H
     exact absurd H (by simp)
   ·rw [if_neg c13] at H
    have c13b0 : decide (x14_1 < (l0_2.length : Int)) = false := decide_eq_false c13
    clear c13
    have H' := Aside0.mk H
    clear H
    have hnb20 := NB148_149.out
    have hnc20 := NB149_148.out
    have hnb21 := NB148_152.out
    have hnc21 := NB152_148.out
    obtain ⟨hcz22_0, hcz22_1, hcz22_2, hcz22_3, hfz22_0, hfz22_1, hfz22_2, hfz22_3⟩ := blk4 BK148
    go_wp2
    go_loopg [4, 38] k1 (fun kq v4 v38 w' => ∃ (x4_2 : Int) (x38_2 : Int), v4 = .int .u64 x4_2 ∧ v38 = .int .i64 x38_2 ∧ Aside0 (impl_mirrored.l1 kq x4_2 l0_3 (l0_3.length : Int) x38_2 t150 t151 = some (r1, r2, r3, r4)) ∧ Aside0 (kq ≤ k1) ∧ Aside0 (w'.heap[gb148]? = some (.cells #[.int .i64 a0_0, .int .i64 a0_1, (.slice A0_2 l0_2.length c0_2), (.slice A0_3 l0_3.length c0_3)] 26 (0, 0))) ∧ Aside0 (w'.heap[gb149]? = some (.cells #[.int .i64 0, .int .i64 0, (.slice none 0 0), (.slice none 0 0)] 26 (0, 0))) ∧ Aside0 (w'.heap[gb152]? = some (.cells #[.int .i64 t150, .int .i64 t151] 55 (0, 0))) ∧ Aside0 (Below w.heap.size w w'))
    case atStart => exact ⟨(x4_1), (0), zA, zA, H', ⟨Nat.le_refl _⟩, ⟨zK BK148⟩, ⟨zK BK149⟩, ⟨zK BK152⟩, ⟨zB⟩⟩
    case round =>
     clear H'
     (try clear c1); (try clear p1); (try clear q1); (try clear hx1); (try clear c2); (try clear p2); (try clear c3); (try clear c5); (try clear p6); (try clear c7); (try clear c9); (try clear c10); (try clear c11); (try clear c13); (try clear c13b0); (try clear c14); (try clear c14b0); (try clear c15); (try clear c15b0); (try clear p15); (try clear q15); (try clear hx15); (try clear c16); (try clear c16b0); (try clear c16b1); (try clear c20); (try clear c21); (try clear hcz11_0); (try clear hcz11_1); (try clear hcz12_0); (try clear hcz12_1); (try clear hcz12_2); (try clear hcz12_3); (try clear hcz22_0); (try clear hcz22_1); (try clear hcz22_2); (try clear hcz22_3); (try clear hcz6_0); (try clear hcz6_1); (try clear hcz6_2); (try clear hcz6_3); (try clear hfz11_0); (try clear hfz11_1); (try clear hfz12_0); (try clear hfz12_1); (try clear hfz12_2); (try clear hfz12_3); (try clear hfz22_0); (try clear hfz22_1); (try clear hfz22_2); (try clear hfz22_3); (try clear hfz6_0); (try clear hfz6_1); (try clear hfz6_2); (try clear hfz6_3); (try clear hx153_0); (try clear p153); (try clear p2); (try clear q153)
     obtain ⟨x4_2, x38_2, rfl, rfl, HA, HK2, BK148, BK149, BK152, HB⟩ := hrel
     cases gk with
     | zero => exact absurd HA.out (by simp [impl_mirrored.l1])
     | succ k2 =>
      have H := HA.out
      clear HA
      simp only [impl_mirrored.l1] at H
      by_cases c23 : x38_2 < (l0_3.length : Int)
      ·rw [if_pos c23] at H
       have c23b0 : decide (x38_2 < (l0_3.length : Int)) = true := decide_eq_true c23
       clear c23
       by_cases c24 : 0 ≤ x38_2
       ·rw [if_pos c24] at H
        have c24b0 : decide (0 ≤ x38_2) = true := decide_eq_true c24
        clear c24
        by_cases c25 : x38_2 < (l0_3.length : Int)
        ·rw [if_pos c25] at H
         have c25b0 : decide (x38_2 < (l0_3.length : Int)) = true := decide_eq_true c25
         clear c25
         by_cases c26 : (wrap64 (t150 + 1)) = 0
         ·rw [if_pos c26] at H
          exact absurd H (by simp)
         ·rw [if_neg c26] at H
          have c26b0 : ((wrap64 (t150 + 1)) == 0) = false := beq_eq_false_iff_ne.mpr c26
          have c26b1 : ((wrap64 (t150 + 1)) != 0) = true := bne_iff_ne.mpr c26
          replace H := Option.bind_eq_some_iff.mp H
          obtain ⟨t156, A270, H⟩ := H
          replace H : (impl_mirrored.l1 k2 (Go.bits .or .u64 x4_2 t156) l0_3 (l0_3.length : Int) (wrap64 (x38_2 + 1)) t150 t151) = some (r1, r2, r3, r4) := H
          have A27 := Aside0.mk A270
          clear A270
          have H' := Aside0.mk H
          clear H
          have p155 : 0 ≤ (x38_2 : Int) := of_decide_eq_true (by assumption)
          have q155 : x38_2 < (l0_3.length : Int) := of_decide_eq_true (by assumption)
          obtain ⟨ad155, e155, hx155_0⟩ := Kd.at_int HR0_3.out x38_2 p155 q155
          cases e155
          replace hx155_0 := (HB.out.cell (World.block_lt_of_cell? w _ hx155_0)).trans hx155_0
          replace p155 := eq_true p155
          replace q155 := eq_true q155
          try go_wp2
          replace BK148 := Aside0.mk (blk_drew BK148.out)
          replace BK149 := Aside0.mk (blk_drew BK149.out)
          replace BK152 := Aside0.mk (blk_drew BK152.out)
          replace HB := Aside0.mk (below_drew1 HB.out)
          refine start_ (n := 18) (S := fun w' => w'.cell? ⟨gb152, 0, none⟩ = some (.int .i64 t150) ∧ w'.cell? ⟨gb152, 1, none⟩ = some (.int .i64 t151)) (ds := []) (fl 18 0) (by kernel_rfl) rfl rfl zQ (fun hHeld => ?_); refine with_tabW impl_mirrored.tab10 impl_mirrored.bits10 (fun HT_ HW_ => ?_)
          generalize wr.drew = w28 at BK148 BK149 BK152 HB hHeld ⊢
          refine zpu 0 (some 42) (fl 18 1) ?_
          refine zpu 2 (some 44) (fl 18 5) ?_
          refine zpu 4 (some 46) (fl 18 21) ?_
          refine zpu 5 (some 47) (fl 18 53) ?_
          refine zpu 10 (some 52) (fl 18 1077) ?_
          refine zpu 11 (some 53) (fl 18 3125) ?_
          refine ztk 1 (some 43) (fl 18 3127) hHeld ?_
          refine ztk 3 (some 45) (fl 18 3135) hHeld ?_
          refine ztk 6 (some 48) (fl 18 3199) hHeld ?_
          refine zpu 7 (some 49) (fl 18 3327) ?_
          refine zpu 8 (some 50) (fl 18 3583) ?_
          refine zpu 9 (some 51) (fl 18 4095) ?_
          refine ztk 12 (some 54) (fl 18 8191) hHeld ?_
          refine zpu 13 (some 55) (fl 18 16383) ?_
          refine zpu 14 (some 56) (fl 18 32767) ?_
          refine zone 15 (some 57) (fl 18 65535) (fun K hK => ?_)
          refine zgo Tryd.func110 #[.agg #[.int .i64 t150, .int .i64 t151], .int .i64 (wrap64 (t150 - (Int.tmod (rd l0_3 x38_2) (wrap64 (t150 + 1))))), .int .i64 (wrap64 (Int.tdiv (rd l0_3 x38_2) (wrap64 (t150 + 1))))] ?_
          with_reducible refine (impl_grid_upright.calls t150 t151 (wrap64 (t150 - (Int.tmod (rd l0_3 x38_2) (wrap64 (t150 + 1))))) (wrap64 (Int.tdiv (rd l0_3 x38_2) (wrap64 (t150 + 1)))) t156 _ A27.out).mono ?_
          rintro e w29 ⟨rfl, hb⟩
          refine ⟨_, rfl, ?_⟩
          replace BK148 := zKb BK148 hb
          replace BK149 := zKb BK149 hb
          replace BK152 := zKb BK152 hb
          replace HB := zBb hb
          (try clear hb)
          (try clear hb2)
          (try clear hk)
          (try clear hi)
          refine hK.out _ _ zQ (fun hHeld => ?_)
          clear hK K
          refine znm ?_
          refine zpu 16 (some 58) (fl 18 131071) ?_
          refine zpu 17 (some 4) (fl 18 262143) ?_
          refine done_ (done_of HT_.out (by kernel_rfl)) ?_
          try go_wp2
          go_roundg k2
          case measure => have := HK1.out; have := HK2.out; omega
          case rel => exact ⟨(Go.bits .or .u64 x4_2 t156), (wrap64 (x38_2 + 1)), zA, zA, H', ⟨by have := HK1.out; have := HK2.out; omega⟩, ⟨zK BK148⟩, ⟨zK BK149⟩, ⟨zK BK152⟩, ⟨zB⟩⟩
        ·rw [if_neg c25] at H
         exact absurd H (by simp)
       ·rw [if_neg c24] at H
        exact absurd H (by simp)
      ·rw [if_neg c23] at H
       have c23b0 : decide (x38_2 < (l0_3.length : Int)) = false := decide_eq_false c23
       clear c23
       replace H := Option.bind_eq_some_iff.mp H
       obtain ⟨⟨t157, t158, t159, t162⟩, A300, H⟩ := H
       replace H : (some (t157, t158, t159, t162)) = some (r1, r2, r3, r4) := H
       have A30 := Aside0.mk A300
       clear A300
       simp only [Option.some.injEq, Prod.mk.injEq] at H
       obtain ⟨rfl, rfl, rfl, rfl⟩ := H
       have hnb31 := NB152_148.out
       have hnc31 := NB148_152.out
       have hnb32 := NB152_149.out
       have hnc32 := NB149_152.out
       obtain ⟨hcz33_0, hcz33_1, hfz33_0, hfz33_1⟩ := blk2 BK152
       go_wp2_with (first | ((with_reducible refine gate_callee (f := 34) rfl ?_); refine goesL_ (some 62) rfl rfl Tryd.func34 (by kernel_rfl) rfl #[.agg #[.int .i64 t150, .int .i64 t151], .int .u64 x4_2] rfl zM ?_; (with_reducible refine (impl_grid_figure.calls k2 t150 t151 x4_2 t157 t158 t159 t162 _ ?side1 A30.out).mono ?_); (case side1 => exact tz_below HT.out zB); rintro e w34 ⟨v160, v163, rfl, ho0, ho1, hb⟩; refine ⟨_, rfl, ?_⟩; have HO161 := Aside0.mk (Kd.R_lower ho0 (below_size zB)); have HO164 := Aside0.mk (Kd.R_lower ho1 (below_size zB)); replace BK148 := zKb BK148 hb; replace BK149 := zKb BK149 hb; replace BK152 := zKb BK152 hb; replace HB := zBb hb; (try clear hb); (try clear hb2); (try clear hk); (try clear hi); (try clear ho0); (try clear ho1); have hnb35 := NB149_148.out; have hnc35 := NB148_149.out; obtain ⟨hcz36_0, hcz36_1, hcz36_2, hcz36_3, hfz36_0, hfz36_1, hfz36_2, hfz36_3⟩ := blk4 BK149; obtain ⟨Ao37, co37, eo37⟩ := Kd.R_slice HO161.out; subst eo37; obtain ⟨Ao38, co38, eo38⟩ := Kd.R_slice HO164.out; subst eo38))
       refine bodyPost_ret (results_cell_row rfl _ _ gb149 26 #[.int .i64 t157, .int .i64 t158, .slice Ao37 t159.length co37, .slice Ao38 t162.length co38] (0, 0) _ rfl (by (with_reducible repeat (first | refine blk_drewN ?_ _ | refine blk_drew ?_ | refine blk_alloc ?_ _)); refine blk_put (cs := #[.int .i64 t157, .int .i64 t158, .slice Ao37 t159.length co37, .slice none 0 0]) ?_ 3 _ rfl; (with_reducible repeat (first | refine blk_drewN ?_ _ | refine blk_drew ?_ | refine blk_alloc ?_ _)); refine blk_put (cs := #[.int .i64 t157, .int .i64 t158, .slice none 0 0, .slice none 0 0]) ?_ 2 _ rfl; (with_reducible repeat (first | refine blk_drewN ?_ _ | refine blk_drew ?_ | refine blk_alloc ?_ _)); refine blk_put (cs := #[.int .i64 t157, .int .i64 0, .slice none 0 0, .slice none 0 0]) ?_ 1 _ rfl; (with_reducible repeat (first | refine blk_drewN ?_ _ | refine blk_drew ?_ | refine blk_alloc ?_ _)); refine blk_put (cs := #[.int .i64 0, .int .i64 0, .slice none 0 0, .slice none 0 0]) ?_ 0 _ rfl; (with_reducible repeat (first | refine blk_drewN ?_ _ | refine blk_drew ?_ | refine blk_alloc ?_ _)); exact BK149.out) Tryd.underlying26 rfl (by kernel_rfl)) rfl ?_
       exact ⟨_, _, zE, by (with_reducible repeat (first | apply Kd.R_alloc | apply Kd.R_drewN | apply Kd.R_drew)); exact zF4 HO161 BK149, by (with_reducible repeat (first | apply Kd.R_alloc | apply Kd.R_drewN | apply Kd.R_drew)); exact zF4 HO164 BK149, zB⟩

end Go.Proofs.YtdjecdghfmadoaaDoor.S
