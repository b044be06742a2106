import Derived.Test.YtfkbjflndkjlnaaDoorPd
import Derived.Test.YtfkbjflndkjlnaaDoorPc0
import Derived.Test.YtfkbjflndkjlnaaDoorPc1
import Derived.Test.YtfkbjflndkjlnaaDoorPc5
import Derived.Test.YtfkbjflndkjlnaaDoorPc7
namespace Go.Proofs.YtfkbjflndkjlnaaDoor.P
open Go.RowKit Go.Proofs.YtfkbjflndkjlnaaDoorW.PrintWords Go.Proofs.YtfkbjflndkjlnaaDoorW.PrintLast Go.Proofs.YtfkbjflndkjlnaaDoorW.PrintMore
attribute [local go_sem] max2_int min2_int max_two min_two max_three min_three max_four min_four
set_option linter.unusedVariables false
set_option linter.unusedSimpArgs false

/-! ### impl_grid_pieces: function 41 -/
set_option maxHeartbeats 8000000 in
set_option maxRecDepth 100000 in
theorem impl_grid_pieces.calls (k : Nat) (a0_0 : Int) (a0_1 : Int) (a1 : Int) (r : List (List Int)) (w : World) (h : impl_grid_pieces.f k a0_0 a0_1 a1 = some r) :
  Calls Tryd.prog 41 #[.agg #[.int .i64 a0_0, .int .i64 a0_1], .int .u64 a1] w fun e w' => ∃ v0_ : Value, e = .returned (v0_) ∧ Kd.S (Kd.slice 3 (Kd.int .i64)) 25 w' w.heap.size (fun _ => True) v0_ r ∧ Below w.heap.size w w' := by
 have hu58 := Tryd.underlying58
 have HB := Aside0.mk (Below.refl w.heap.size w)
 have H : ((impl_grid_regions.f k a0_0 a0_1 a1 false).bind fun t276 => (some t276)) = some r := h
 clear h
 replace H := Option.bind_eq_some_iff.mp H
 obtain ⟨t276, A30, H⟩ := H
 replace H : (some t276) = some r := H
 have A3 := Aside0.mk A30
 clear A30
 obtain rfl := Option.some.inj H
 go_enter Tryd.func41, Tryd.ntmps41
 go_wp2_with (first | ((with_reducible refine gate_dst (N := 2) rfl ?_); refine zbx 2 #[.int .i64 a0_0, .int .i64 a0_1] 58 ?_; intro gb275 hg w4 hbox hb; have BK275 := Aside0.mk (hbox); have GW275 := zGe hg; have GE275 := zGe hg; replace HB := zBb hb; clear hb hbox hg; obtain ⟨hcz5_0, hcz5_1, hfz5_0, hfz5_1⟩ := blk2 BK275) | ((with_reducible refine gate_callee (f := 80) rfl ?_); refine goesL_ (some 7) rfl rfl Tryd.func80 (by kernel_rfl) rfl #[.agg #[.int .i64 a0_0, .int .i64 a0_1], .int .u64 a1, .bool false] rfl zM ?_; (with_reducible refine (impl_grid_regions.calls k a0_0 a0_1 a1 false t276 _ A3.out).mono ?_); rintro e w6 ⟨v277, rfl, ho0, hb⟩; refine ⟨_, rfl, ?_⟩; have HO278 := Aside0.mk (Kd.S_lower ho0 (below_size zB)); replace BK275 := zKb BK275 hb; replace HB := zBb hb; (try clear hb); (try clear hb2); (try clear hk); (try clear hi); (try clear ho0)))
 go_ret
 exact ⟨_, zE, zS HO278, zB⟩

/-! ### slices_Index_int_int: function 81 -/
set_option maxHeartbeats 8000000 in
set_option maxRecDepth 100000 in
theorem slices_Index_int_int.calls (k : Nat) (A0 : Option Addr) (c0 : Nat) (l0 : List Int) (a1 : Int) (r : Int) (w : World) (hr0 : Kd.C (Kd.int .i64) w A0 l0.length l0) (hc0 : l0.length ≤ c0) (h : slices_Index_int_int.f k l0 a1 = some r) :
  Calls Tryd.prog 81 #[.slice A0 l0.length c0, .int .i64 a1] w fun e w' => e = .returned (.int .i64 r) ∧ Drawn0 w w' := by
 have HR0 := Aside0.mk hr0
 have HC0 := Aside0.mk hc0
 clear hr0 hc0
 have H : (slices_Index_int_int.l0 k l0 a1 (l0.length : Int) 0) = some r := h
 clear h
 have H' := Aside0.mk H
 clear H
 go_enter Tryd.func81, Tryd.ntmps81
 go_wp2
 go_loopg [8] k (fun kq v8 w' => ∃ (x8_1 : Int), v8 = .int .i64 x8_1 ∧ Aside0 (slices_Index_int_int.l0 kq l0 a1 (l0.length : Int) x8_1 = some r) ∧ Aside0 (kq ≤ k) ∧ Drawn0 w w')
 case atStart => exact ⟨(0), zA, H', ⟨Nat.le_refl _⟩, by repeat (first | exact Drawn0.refl _ | apply Drawn0.step)⟩
 case round =>
  clear H'
  try clear p2
  obtain ⟨x8_1, rfl, HA, HK1, ⟨m1, rfl⟩⟩ := hrel
  cases gk with
  | zero => exact absurd HA.out (by simp [slices_Index_int_int.l0])
  | succ k1 =>
   have H := HA.out
   clear HA
   simp only [slices_Index_int_int.l0] at H
   by_cases c3 : x8_1 < (l0.length : Int)
   ·rw [if_pos c3] at H
    have c3b0 : decide (x8_1 < (l0.length : Int)) = true := decide_eq_true c3
    clear c3
    by_cases c4 : 0 ≤ x8_1
    ·rw [if_pos c4] at H
     have c4b0 : decide (0 ≤ x8_1) = true := decide_eq_true c4
     clear c4
     by_cases c5 : x8_1 < (l0.length : Int)
     ·rw [if_pos c5] at H
      have c5b0 : decide (x8_1 < (l0.length : Int)) = true := decide_eq_true c5
      clear c5
      by_cases c6 : a1 = (rd l0 x8_1)
      ·rw [if_pos c6] at H
       have c6b0 : (a1 == (rd l0 x8_1)) = true := beq_iff_eq.mpr c6
       have c6b1 : (a1 != (rd l0 x8_1)) = false := bne_eq_false_iff_eq.mpr c6
       clear c6
       obtain rfl := Option.some.inj H
       have p279 : 0 ≤ (x8_1 : Int) := of_decide_eq_true (by assumption)
       have q279 : x8_1 < (l0.length : Int) := of_decide_eq_true (by assumption)
       obtain ⟨ad279, e279, hx279_0⟩ := Kd.at_int HR0.out x8_1 p279 q279
       cases e279
       replace p279 := eq_true p279
       replace q279 := eq_true q279
       go_wp2
       go_ret
       exact ⟨by first | rfl | (simp; done) | (simp [*]; done), by repeat (first | exact Drawn0.refl _ | apply Drawn0.step)⟩
      ·rw [if_neg c6] at H
       have c6b0 : (a1 == (rd l0 x8_1)) = false := beq_eq_false_iff_ne.mpr c6
       have c6b1 : (a1 != (rd l0 x8_1)) = true := bne_iff_ne.mpr c6
       have H' := Aside0.mk H
       clear H
       have p279 : 0 ≤ (x8_1 : Int) := of_decide_eq_true (by assumption)
       have q279 : x8_1 < (l0.length : Int) := of_decide_eq_true (by assumption)
       obtain ⟨ad279, e279, hx279_0⟩ := Kd.at_int HR0.out x8_1 p279 q279
       cases e279
       replace p279 := eq_true p279
       replace q279 := eq_true q279
       go_wp2
       go_roundg k1
       case measure => have := HK1.out; omega
       case rel => exact ⟨(wrap64 (x8_1 + 1)), zA, H', ⟨by have := HK1.out; omega⟩, by repeat (first | exact Drawn0.refl _ | apply Drawn0.step)⟩
     ·rw [if_neg c5] at H
      exact absurd H (by simp)
    ·rw [if_neg c4] at H
     exact absurd H (by simp)
   ·rw [if_neg c3] at H
    have c3b0 : decide (x8_1 < (l0.length : Int)) = false := decide_eq_false c3
    clear c3
    obtain rfl := Option.some.inj H
    go_wp2
    go_ret
    exact ⟨by first | rfl | (simp; done) | (simp [*]; done), by repeat (first | exact Drawn0.refl _ | apply Drawn0.step)⟩

/-! ### slices_Contains_int_int: function 43 -/
set_option maxHeartbeats 8000000 in
set_option maxRecDepth 100000 in
theorem slices_Contains_int_int.calls (k : Nat) (A0 : Option Addr) (c0 : Nat) (l0 : List Int) (a1 : Int) (r : Bool) (w : World) (hr0 : Kd.C (Kd.int .i64) w A0 l0.length l0) (hc0 : l0.length ≤ c0) (h : slices_Contains_int_int.f k l0 a1 = some r) :
  Calls Tryd.prog 43 #[.slice A0 l0.length c0, .int .i64 a1] w fun e w' => e = .returned (.bool r) ∧ Drawn0 w w' := by
 have HR0 := Aside0.mk hr0
 have HC0 := Aside0.mk hc0
 clear hr0 hc0
 have H : ((slices_Index_int_int.f k l0 a1).bind fun t280 => (some (decide (t280 ≥ 0)))) = some r := h
 clear h
 replace H := Option.bind_eq_some_iff.mp H
 obtain ⟨t280, A30, H⟩ := H
 replace H : (some (decide (t280 ≥ 0))) = some r := H
 have A3 := Aside0.mk A30
 clear A30
 obtain rfl := Option.some.inj H
 go_enter Tryd.func43, Tryd.ntmps43
 go_wp2_with (first | ((with_reducible refine gate_callee (f := 81) rfl ?_); refine goesL_ (some 7) rfl rfl Tryd.func81 (by kernel_rfl) rfl #[.slice A0 l0.length c0, .int .i64 a1] rfl zM ?_; (with_reducible refine (slices_Index_int_int.calls k _ _ l0 a1 t280 _ ?side1 ?side2 A3.out).mono ?_); (case side1 => repeat (first | exact HR0.out | (with_reducible refine Kd.C_alloc ?_ _) | (with_reducible refine Kd.C_drewN ?_ _) | (with_reducible refine Kd.C_drew ?_))); (case side2 => exact HC0.out); rintro e w' ⟨rfl, ⟨nd, rfl⟩⟩; refine ⟨_, rfl, ?_⟩))
 go_ret
 exact ⟨by first | rfl | (simp; done) | (simp [*]; done), by repeat (first | exact Drawn0.refl _ | apply Drawn0.step)⟩

/-! ### impl_grid_shape: function 44 -/
def impl_grid_shape.T5 : Bool × List (List Nat × List Nat) := (true, [([], []), ([0], [0]), ([], []), ([], []), ([3], [3]), ([2, 4], [2, 4]), ([1, 5], [1, 5]), ([], []), ([7], [7]), ([], []), ([], []), ([10], [10]), ([9, 11], [9, 11]), ([8, 12], [8, 12]), ([6, 13], [6, 13]), ([14, 0, 1, 2, 3, 4, 5, 6, 7, 8, 9, 10, 11, 12, 13, 14], [14])])
def impl_grid_shape.B5 : List Nat := [0, 1, 0, 0, 8, 28, 63, 0, 128, 0, 0, 1024, 3584, 8064, 16383, 32767]
theorem impl_grid_shape.tab5 : rtab .any (opsOf Tryd.f44 5) = impl_grid_shape.T5 := by kernel_rfl
theorem impl_grid_shape.bits5 : waitsOk impl_grid_shape.T5.2 impl_grid_shape.B5 = true := by kernel_rfl
def impl_grid_shape.T6 : Bool × List (List Nat × List Nat) := (true, [([], []), ([0], [0]), ([], []), ([], []), ([3], [3]), ([2, 4], [2, 4]), ([1, 5], [1, 5]), ([], []), ([7], [7]), ([], []), ([], []), ([10], [10]), ([9, 11], [9, 11]), ([8, 12], [8, 12]), ([6, 13], [6, 13]), ([14, 0, 1, 2, 3, 4, 5, 6, 7, 8, 9, 10, 11, 12, 13, 14], [14])])
def impl_grid_shape.B6 : List Nat := [0, 1, 0, 0, 8, 28, 63, 0, 128, 0, 0, 1024, 3584, 8064, 16383, 32767]
theorem impl_grid_shape.tab6 : rtab .any (opsOf Tryd.f44 6) = impl_grid_shape.T6 := by kernel_rfl
theorem impl_grid_shape.bits6 : waitsOk impl_grid_shape.T6.2 impl_grid_shape.B6 = true := by kernel_rfl
set_option maxHeartbeats 8000000 in
set_option maxRecDepth 100000 in
theorem impl_grid_shape.calls (k : Nat) (a0_0 : Int) (a0_1 : Int) (A1 : Option Addr) (c1 : Nat) (l1 : List Int) (r : ByteArray) (w : World) (hT : TzTab w) (hr1 : Kd.C (Kd.int .i64) w A1 l1.length l1) (hc1 : l1.length ≤ c1) (h : impl_grid_shape.f k a0_0 a0_1 l1 = some r) :
  Calls Tryd.prog 44 #[.agg #[.int .i64 a0_0, .int .i64 a0_1], .slice A1 l1.length c1] w fun e w' => e = .returned (.string r) ∧ Below w.heap.size w w' := by
 have hu58 := Tryd.underlying58
 have hu45 := Tryd.underlying45
 have HT := Aside0.mk hT
 clear hT
 have HR1 := Aside0.mk hr1
 have HC1 := Aside0.mk hc1
 clear hr1 hc1
 have HB := Aside0.mk (Below.refl w.heap.size w)
 have H : (impl_grid_shape.l0 k l1 l1 (l1.length : Int) 0 a0_0 a0_1 a0_0 a0_1 0 0) = some r := h
 clear h
 have H' := Aside0.mk H
 clear H
 go_enter Tryd.func44, Tryd.ntmps44
 go_wp2_with (first | ((with_reducible refine gate_dst (N := 2) rfl ?_); refine zbx 2 #[.int .i64 a0_0, .int .i64 a0_1] 58 ?_; intro gb281 hg w3 hbox hb; have BK281 := Aside0.mk (hbox); have GW281 := zGe hg; have GE281 := zGe hg; replace HB := zBb hb; clear hb hbox hg; obtain ⟨hcz4_0, hcz4_1, hfz4_0, hfz4_1⟩ := blk2 BK281) | ((with_reducible refine gate_dst (N := 5) rfl ?_); refine zbx 5 #[.int .i64 0, .int .i64 0] 45 ?_; intro gb282 hg w5 hbox hb; have BK282 := Aside0.mk (hbox); have GW282 := zGe hg; have GE282 := zGe hg; have NB281_282 := zNl BK281 hg; have NB282_281 := zNg BK281 hg; replace BK281 := zKb BK281 hb; replace HB := zBb hb; clear hb hbox hg) | ((with_reducible refine gate_dst (N := 6) rfl ?_); refine zbx 6 #[.int .i64 0, .int .i64 0] 45 ?_; intro gb283 hg w6 hbox hb; have BK283 := Aside0.mk (hbox); have GW283 := zGe hg; have GE283 := zGe hg; have NB281_283 := zNl BK281 hg; have NB283_281 := zNg BK281 hg; replace BK281 := zKb BK281 hb; have NB282_283 := zNl BK282 hg; have NB283_282 := zNg BK282 hg; replace BK282 := zKb BK282 hb; replace HB := zBb hb; clear hb hbox hg; have hnb7 := NB282_281.out; have hnc7 := NB281_282.out; have hnb8 := NB282_283.out; have hnc8 := NB283_282.out; obtain ⟨hcz9_0, hcz9_1, hfz9_0, hfz9_1⟩ := blk2 BK282; have hnb10 := NB283_281.out; have hnc10 := NB281_283.out; obtain ⟨hcz11_0, hcz11_1, hfz11_0, hfz11_1⟩ := blk2 BK283))
 go_loopg [21] k (fun kq v21 w' => ∃ (x21_1 : Int) (x283000_1 : Int) (x283001_1 : Int) (x284000_1 : Int) (x284001_1 : Int), v21 = .int .i64 x21_1 ∧ Aside0 (impl_grid_shape.l0 kq l1 l1 (l1.length : Int) x21_1 a0_0 a0_1 x283000_1 x283001_1 x284000_1 x284001_1 = some r) ∧ Aside0 (kq ≤ k) ∧ Aside0 (w'.heap[gb281]? = some (.cells #[.int .i64 a0_0, .int .i64 a0_1] 58 (0, 0))) ∧ Aside0 (w'.heap[gb282]? = some (.cells #[.int .i64 x283000_1, .int .i64 x283001_1] 45 (0, 0))) ∧ Aside0 (w'.heap[gb283]? = some (.cells #[.int .i64 x284000_1, .int .i64 x284001_1] 45 (0, 0))) ∧ Aside0 (Below w.heap.size w w'))
 case atStart => exact ⟨(0), (a0_0), (a0_1), (0), (0), zA, H', ⟨Nat.le_refl _⟩, ⟨by (with_reducible repeat (first | refine blk_drewN ?_ _ | refine blk_drew ?_ | refine blk_alloc ?_ _)); refine blk_far ?_ NB281_283.out _; (with_reducible repeat (first | refine blk_drewN ?_ _ | refine blk_drew ?_ | refine blk_alloc ?_ _)); refine blk_far ?_ NB281_283.out _; (with_reducible repeat (first | refine blk_drewN ?_ _ | refine blk_drew ?_ | refine blk_alloc ?_ _)); refine blk_far ?_ NB281_282.out _; (with_reducible repeat (first | refine blk_drewN ?_ _ | refine blk_drew ?_ | refine blk_alloc ?_ _)); refine blk_far ?_ NB281_282.out _; (with_reducible repeat (first | refine blk_drewN ?_ _ | refine blk_drew ?_ | refine blk_alloc ?_ _)); exact BK281.out⟩, ⟨by (with_reducible repeat (first | refine blk_drewN ?_ _ | refine blk_drew ?_ | refine blk_alloc ?_ _)); refine blk_far ?_ NB282_283.out _; (with_reducible repeat (first | refine blk_drewN ?_ _ | refine blk_drew ?_ | refine blk_alloc ?_ _)); refine blk_far ?_ NB282_283.out _; (with_reducible repeat (first | refine blk_drewN ?_ _ | refine blk_drew ?_ | refine blk_alloc ?_ _)); refine blk_put (cs := #[.int .i64 a0_0, .int .i64 0]) ?_ 1 _ rfl; (with_reducible repeat (first | refine blk_drewN ?_ _ | refine blk_drew ?_ | refine blk_alloc ?_ _)); refine blk_put (cs := #[.int .i64 0, .int .i64 0]) ?_ 0 _ rfl; (with_reducible repeat (first | refine blk_drewN ?_ _ | refine blk_drew ?_ | refine blk_alloc ?_ _)); exact BK282.out⟩, ⟨by (with_reducible repeat (first | refine blk_drewN ?_ _ | refine blk_drew ?_ | refine blk_alloc ?_ _)); refine blk_put (cs := #[.int .i64 0, .int .i64 0]) ?_ 1 _ rfl; (with_reducible repeat (first | refine blk_drewN ?_ _ | refine blk_drew ?_ | refine blk_alloc ?_ _)); refine blk_put (cs := #[.int .i64 0, .int .i64 0]) ?_ 0 _ rfl; (with_reducible repeat (first | refine blk_drewN ?_ _ | refine blk_drew ?_ | refine blk_alloc ?_ _)); refine blk_far ?_ NB283_282.out _; (with_reducible repeat (first | refine blk_drewN ?_ _ | refine blk_drew ?_ | refine blk_alloc ?_ _)); refine blk_far ?_ NB283_282.out _; (with_reducible repeat (first | refine blk_drewN ?_ _ | refine blk_drew ?_ | refine blk_alloc ?_ _)); exact BK283.out⟩, ⟨zB⟩⟩
 case round =>
  clear H'
  (try clear c1); (try clear p2); (try clear c4); (try clear c7); (try clear c8); (try clear c10); (try clear hcz11_0); (try clear hcz11_1); (try clear hcz4_0); (try clear hcz4_1); (try clear hcz9_0); (try clear hcz9_1); (try clear hfz11_0); (try clear hfz11_1); (try clear hfz4_0); (try clear hfz4_1); (try clear hfz9_0); (try clear hfz9_1)
  obtain ⟨x21_1, x283000_1, x283001_1, x284000_1, x284001_1, rfl, HA, HK1, BK281, BK282, BK283, HB⟩ := hrel
  cases gk with
  | zero => exact absurd HA.out (by simp [impl_grid_shape.l0])
  | succ k1 =>
   have H := HA.out
   clear HA
   simp only [impl_grid_shape.l0] at H
   by_cases c12 : x21_1 < (l1.length : Int)
   ·rw [if_pos c12] at H
    have c12b0 : decide (x21_1 < (l1.length : Int)) = true := decide_eq_true c12
    clear c12
    by_cases c13 : 0 ≤ x21_1
    ·rw [if_pos c13] at H
     have c13b0 : decide (0 ≤ x21_1) = true := decide_eq_true c13
     clear c13
     by_cases c14 : x21_1 < (l1.length : Int)
     ·rw [if_pos c14] at H
      have c14b0 : decide (x21_1 < (l1.length : Int)) = true := decide_eq_true c14
      clear c14
      by_cases c15 : a0_0 = 0
      ·rw [if_pos c15] at H
       exact absurd H (by simp)
      ·rw [if_neg c15] at H
       have c15b0 : (a0_0 == 0) = false := beq_eq_false_iff_ne.mpr c15
       have c15b1 : (a0_0 != 0) = true := bne_iff_ne.mpr c15
       obtain ⟨ji16, hji16⟩ : ∃ j_ : Int, (mn x283000_1 (Int.tmod (rd l1 x21_1) a0_0)) = j_ := ⟨_, rfl⟩
       replace H : (impl_grid_shape.l0 k1 l1 l1 (l1.length : Int) (wrap64 (x21_1 + 1)) a0_0 a0_1 ji16 (mn x283001_1 (wrap64 (Int.tdiv (rd l1 x21_1) a0_0))) (mx x284000_1 (Int.tmod (rd l1 x21_1) a0_0)) (mx x284001_1 (wrap64 (Int.tdiv (rd l1 x21_1) a0_0)))) = some r := by first | (rw [hji16] at H; exact H) | (simp only [hji16] at H ⊢; exact H)
       have hji16_ : (if (Int.tmod (rd l1 x21_1) a0_0) < x283000_1 then (Int.tmod (rd l1 x21_1) a0_0) else x283000_1) = ji16 := hji16
       obtain ⟨ji17, hji17⟩ : ∃ j_ : Int, (mn x283001_1 (wrap64 (Int.tdiv (rd l1 x21_1) a0_0))) = j_ := ⟨_, rfl⟩
       replace H : (impl_grid_shape.l0 k1 l1 l1 (l1.length : Int) (wrap64 (x21_1 + 1)) a0_0 a0_1 ji16 ji17 (mx x284000_1 (Int.tmod (rd l1 x21_1) a0_0)) (mx x284001_1 (wrap64 (Int.tdiv (rd l1 x21_1) a0_0)))) = some r := by first | (rw [hji17] at H; exact H) | (simp only [hji17] at H ⊢; exact H)
       have hji17_ : (if (wrap64 (Int.tdiv (rd l1 x21_1) a0_0)) < x283001_1 then (wrap64 (Int.tdiv (rd l1 x21_1) a0_0)) else x283001_1) = ji17 := hji17
       obtain ⟨ji18, hji18⟩ : ∃ j_ : Int, (mx x284000_1 (Int.tmod (rd l1 x21_1) a0_0)) = j_ := ⟨_, rfl⟩
       replace H : (impl_grid_shape.l0 k1 l1 l1 (l1.length : Int) (wrap64 (x21_1 + 1)) a0_0 a0_1 ji16 ji17 ji18 (mx x284001_1 (wrap64 (Int.tdiv (rd l1 x21_1) a0_0)))) = some r := by first | (rw [hji18] at H; exact H) | (simp only [hji18] at H ⊢; exact H)
       have hji18_ : (if x284000_1 < (Int.tmod (rd l1 x21_1) a0_0) then (Int.tmod (rd l1 x21_1) a0_0) else x284000_1) = ji18 := hji18
       obtain ⟨ji19, hji19⟩ : ∃ j_ : Int, (mx x284001_1 (wrap64 (Int.tdiv (rd l1 x21_1) a0_0))) = j_ := ⟨_, rfl⟩
       replace H : (impl_grid_shape.l0 k1 l1 l1 (l1.length : Int) (wrap64 (x21_1 + 1)) a0_0 a0_1 ji16 ji17 ji18 ji19) = some r := by first | (rw [hji19] at H; exact H) | (simp only [hji19] at H ⊢; exact H)
       have hji19_ : (if x284001_1 < (wrap64 (Int.tdiv (rd l1 x21_1) a0_0)) then (wrap64 (Int.tdiv (rd l1 x21_1) a0_0)) else x284001_1) = ji19 := hji19
       have H' := Aside0.mk H
       clear H
       have p284 : 0 ≤ (x21_1 : Int) := of_decide_eq_true (by assumption)
       have q284 : x21_1 < (l1.length : Int) := of_decide_eq_true (by assumption)
       obtain ⟨ad284, e284, hx284_0⟩ := Kd.at_int HR1.out x21_1 p284 q284
       cases e284
       replace hx284_0 := (HB.out.cell (World.block_lt_of_cell? w _ hx284_0)).trans hx284_0
       replace p284 := eq_true p284
       replace q284 := eq_true q284
       try go_wp2
       replace BK281 := Aside0.mk (blk_drew BK281.out)
       replace BK282 := Aside0.mk (blk_drew BK282.out)
       replace BK283 := Aside0.mk (blk_drew BK283.out)
       replace HB := Aside0.mk (below_drew1 HB.out)
       refine start_ (n := 16) (S := fun w' => w'.cell? ⟨gb282, 0, none⟩ = some (.int .i64 x283000_1) ∧ w'.cell? ⟨gb282, 1, none⟩ = some (.int .i64 x283001_1) ∧ w'.cell? ⟨gb281, 0, none⟩ = some (.int .i64 a0_0) ∧ w'.cell? ⟨gb281, 1, none⟩ = some (.int .i64 a0_1)) (ds := [15]) (fl 16 0) (by kernel_rfl) rfl rfl zQ (fun hHeld => ?_); refine with_tabW impl_grid_shape.tab5 impl_grid_shape.bits5 (fun HT_ HW_ => ?_)
       generalize wr.drew = w20 at BK281 BK282 BK283 HB hHeld ⊢
       refine zpu 0 (some 25) (fl 16 1) ?_
       refine zpu 2 (some 27) (fl 16 5) ?_
       refine zpu 3 (some 28) (fl 16 13) ?_
       refine zpu 7 (some 32) (fl 16 141) ?_
       refine zpu 9 (some 34) (fl 16 653) ?_
       refine zpu 10 (some 35) (fl 16 1677) ?_
       refine ztk 1 (some 26) (fl 16 1679) hHeld ?_
       refine ztk 4 (some 29) (fl 16 1695) hHeld ?_
       refine zpu 5 (some 30) (fl 16 1727) ?_
       refine zpu 6 (some 31) (fl 16 1791) ?_
       refine ztk 8 (some 33) (fl 16 2047) hHeld ?_
       refine ztk 11 (some 36) (fl 16 4095) hHeld ?_
       refine zpu 12 (some 37) (fl 16 8191) ?_
       refine zpu 13 (some 38) (fl 16 16383) ?_
       refine zpu 14 (some 39) (fl 16 32767) ?_
       refine last_ (i := 15) (N := none) (fl 16 65535) rfl rfl (one_of HT_.out (by kernel_rfl)) (by decide) (fun K hK => ?_)
       have hs21 : w20.cell? ⟨gb282, 0, none⟩ = some (.int .i64 x283000_1) := (blk_cell BK282.out 0).trans rfl
       have hfs21 := blk_frozen BK282.out 0
       have hns21_0 := NB281_282.out
       have hns21_2 := NB283_282.out
       have hms21_0 := NB282_281.out
       have hms21_2 := NB282_283.out
       have hs22 : w20.cell? ⟨gb282, 1, none⟩ = some (.int .i64 x283001_1) := (blk_cell BK282.out 1).trans rfl
       have hfs22 := blk_frozen BK282.out 1
       have hns22_0 := NB281_282.out
       have hns22_2 := NB283_282.out
       have hms22_0 := NB282_281.out
       have hms22_2 := NB282_283.out
       refine skip_ (w1 := ?_) (by rfl) rfl ?_ ?_
       rotate_left
       ·go_simp
        rfl
       refine hK.out _ _ ?_
       clear hK K
       refine done_ (done_of HT_.out (by kernel_rfl)) ?_
       try go_wp2
       have n0_ : Aside0 (((w20.setCell ⟨gb282, 0, none⟩ (.int .i64 ji16)).setCell ⟨gb282, 1, none⟩ (.int .i64 ji17)).heap[gb281]? = some (.cells #[.int .i64 a0_0, .int .i64 a0_1] 58 (0, 0))) := ⟨by (with_reducible repeat (first | refine blk_drewN ?_ _ | refine blk_drew ?_ | refine blk_alloc ?_ _)); refine blk_far ?_ NB281_282.out _; (with_reducible repeat (first | refine blk_drewN ?_ _ | refine blk_drew ?_ | refine blk_alloc ?_ _)); refine blk_far ?_ NB281_282.out _; (with_reducible repeat (first | refine blk_drewN ?_ _ | refine blk_drew ?_ | refine blk_alloc ?_ _)); exact BK281.out⟩
       have n1_ : Aside0 (((w20.setCell ⟨gb282, 0, none⟩ (.int .i64 ji16)).setCell ⟨gb282, 1, none⟩ (.int .i64 ji17)).heap[gb282]? = some (.cells #[.int .i64 ji16, .int .i64 ji17] 45 (0, 0))) := ⟨by (with_reducible repeat (first | refine blk_drewN ?_ _ | refine blk_drew ?_ | refine blk_alloc ?_ _)); refine blk_put (cs := #[.int .i64 ji16, .int .i64 x283001_1]) ?_ 1 _ rfl; (with_reducible repeat (first | refine blk_drewN ?_ _ | refine blk_drew ?_ | refine blk_alloc ?_ _)); refine blk_put (cs := #[.int .i64 x283000_1, .int .i64 x283001_1]) ?_ 0 _ rfl; (with_reducible repeat (first | refine blk_drewN ?_ _ | refine blk_drew ?_ | refine blk_alloc ?_ _)); exact BK282.out⟩
       have n2_ : Aside0 (((w20.setCell ⟨gb282, 0, none⟩ (.int .i64 ji16)).setCell ⟨gb282, 1, none⟩ (.int .i64 ji17)).heap[gb283]? = some (.cells #[.int .i64 x284000_1, .int .i64 x284001_1] 45 (0, 0))) := ⟨by (with_reducible repeat (first | refine blk_drewN ?_ _ | refine blk_drew ?_ | refine blk_alloc ?_ _)); refine blk_far ?_ NB283_282.out _; (with_reducible repeat (first | refine blk_drewN ?_ _ | refine blk_drew ?_ | refine blk_alloc ?_ _)); refine blk_far ?_ NB283_282.out _; (with_reducible repeat (first | refine blk_drewN ?_ _ | refine blk_drew ?_ | refine blk_alloc ?_ _)); exact BK283.out⟩
       have n3_ : Aside0 (Below w.heap.size w ((w20.setCell ⟨gb282, 0, none⟩ (.int .i64 ji16)).setCell ⟨gb282, 1, none⟩ (.int .i64 ji17))) := ⟨zB⟩
       (try clear BK281)
       (try clear BK282)
       (try clear BK283)
       (try clear HB)
       generalize ((w20.setCell ⟨gb282, 0, none⟩ (.int .i64 ji16)).setCell ⟨gb282, 1, none⟩ (.int .i64 ji17)) = w23 at n0_ n1_ n2_ n3_ ⊢
       have BK281 := n0_
       have BK282 := n1_
       have BK283 := n2_
       have HB := n3_
       clear n0_ n1_ n2_ n3_
       replace BK281 := Aside0.mk (blk_drew BK281.out)
       replace BK282 := Aside0.mk (blk_drew BK282.out)
       replace BK283 := Aside0.mk (blk_drew BK283.out)
       replace HB := Aside0.mk (below_drew1 HB.out)
       refine start_ (n := 16) (S := fun w' => w'.cell? ⟨gb283, 0, none⟩ = some (.int .i64 x284000_1) ∧ w'.cell? ⟨gb283, 1, none⟩ = some (.int .i64 x284001_1) ∧ w'.cell? ⟨gb281, 0, none⟩ = some (.int .i64 a0_0) ∧ w'.cell? ⟨gb281, 1, none⟩ = some (.int .i64 a0_1)) (ds := [15]) (fl 16 0) (by kernel_rfl) rfl rfl zQ (fun hHeld => ?_); refine with_tabW impl_grid_shape.tab6 impl_grid_shape.bits6 (fun HT_ HW_ => ?_)
       generalize w23.drew = w24 at BK281 BK282 BK283 HB hHeld ⊢
       refine zpu 0 (some 40) (fl 16 1) ?_
       refine zpu 2 (some 42) (fl 16 5) ?_
       refine zpu 3 (some 43) (fl 16 13) ?_
       refine zpu 7 (some 47) (fl 16 141) ?_
       refine zpu 9 (some 49) (fl 16 653) ?_
       refine zpu 10 (some 50) (fl 16 1677) ?_
       refine ztk 1 (some 41) (fl 16 1679) hHeld ?_
       refine ztk 4 (some 44) (fl 16 1695) hHeld ?_
       refine zpu 5 (some 45) (fl 16 1727) ?_
       refine zpu 6 (some 46) (fl 16 1791) ?_
       refine ztk 8 (some 48) (fl 16 2047) hHeld ?_
       refine ztk 11 (some 51) (fl 16 4095) hHeld ?_
       refine zpu 12 (some 52) (fl 16 8191) ?_
       refine zpu 13 (some 53) (fl 16 16383) ?_
       refine zpu 14 (some 54) (fl 16 32767) ?_
       refine last_ (i := 15) (N := none) (fl 16 65535) rfl rfl (one_of HT_.out (by kernel_rfl)) (by decide) (fun K hK => ?_)
       have hs25 : w24.cell? ⟨gb283, 0, none⟩ = some (.int .i64 x284000_1) := (blk_cell BK283.out 0).trans rfl
       have hfs25 := blk_frozen BK283.out 0
       have hns25_0 := NB281_283.out
       have hns25_1 := NB282_283.out
       have hms25_0 := NB283_281.out
       have hms25_1 := NB283_282.out
       have hs26 : w24.cell? ⟨gb283, 1, none⟩ = some (.int .i64 x284001_1) := (blk_cell BK283.out 1).trans rfl
       have hfs26 := blk_frozen BK283.out 1
       have hns26_0 := NB281_283.out
       have hns26_1 := NB282_283.out
       have hms26_0 := NB283_281.out
       have hms26_1 := NB283_282.out
       refine skip_ (w1 := ?_) (by rfl) rfl ?_ ?_
       rotate_left
       ·go_simp
        rfl
       refine hK.out _ _ ?_
       clear hK K
       refine done_ (done_of HT_.out (by kernel_rfl)) ?_
       try go_wp2
       go_roundg k1
       case measure => have := HK1.out; omega
       case rel => exact ⟨(wrap64 (x21_1 + 1)), (ji16), (ji17), (ji18), (ji19), zA, H', ⟨by have := HK1.out; omega⟩, ⟨by (with_reducible repeat (first | refine blk_drewN ?_ _ | refine blk_drew ?_ | refine blk_alloc ?_ _)); refine blk_far ?_ NB281_283.out _; (with_reducible repeat (first | refine blk_drewN ?_ _ | refine blk_drew ?_ | refine blk_alloc ?_ _)); refine blk_far ?_ NB281_283.out _; (with_reducible repeat (first | refine blk_drewN ?_ _ | refine blk_drew ?_ | refine blk_alloc ?_ _)); exact BK281.out⟩, ⟨by (with_reducible repeat (first | refine blk_drewN ?_ _ | refine blk_drew ?_ | refine blk_alloc ?_ _)); refine blk_far ?_ NB282_283.out _; (with_reducible repeat (first | refine blk_drewN ?_ _ | refine blk_drew ?_ | refine blk_alloc ?_ _)); refine blk_far ?_ NB282_283.out _; (with_reducible repeat (first | refine blk_drewN ?_ _ | refine blk_drew ?_ | refine blk_alloc ?_ _)); exact BK282.out⟩, ⟨by (with_reducible repeat (first | refine blk_drewN ?_ _ | refine blk_drew ?_ | refine blk_alloc ?_ _)); refine blk_put (cs := #[.int .i64 ji18, .int .i64 x284001_1]) ?_ 1 _ rfl; (with_reducible repeat (first | refine blk_drewN ?_ _ | refine blk_drew ?_ | refine blk_alloc ?_ _)); refine blk_put (cs := #[.int .i64 x284000_1, .int .i64 x284001_1]) ?_ 0 _ rfl; (with_reducible repeat (first | refine blk_drewN ?_ _ | refine blk_drew ?_ | refine blk_alloc ?_ _)); exact BK283.out⟩, ⟨zB⟩⟩
     ·rw [if_neg c14] at H
      exact absurd H (by simp)
    ·rw [if_neg c13] at H
     exact absurd H (by simp)
   ·rw [if_neg c12] at H
    have c12b0 : decide (x21_1 < (l1.length : Int)) = false := decide_eq_false c12
    clear c12
    obtain ⟨y285, hy285⟩ : ∃ y_ : List ByteArray, y_ = (([] : List ByteArray)) := ⟨_, rfl⟩
    replace H : (impl_grid_shape.l1 k1 l1 y285 x283001_1 a0_0 a0_1 x283000_1 x283001_1 x284000_1 x284001_1) = some r := by first | (rw [hy285]; with_reducible exact H) | (have H2_ := (Option.bind_some _ _).symm.trans H; rw [hy285]; with_reducible exact H2_) | (have H2_ := (Option.bind_some _ _).symm.trans H; with_reducible exact H2_) | with_reducible exact H | (rw [hy285]; exact H) | exact H
    have Ny285 := Aside0.mk hy285
    clear hy285
    have H' := Aside0.mk H
    clear H
    go_wp2_with (first | ((with_reducible refine gate_dst (N := 56) rfl ?_); refine Kd.R_lit Kd.string _ 9 ?hg (N := 56) ?hd (xs := ([] : List ByteArray)) (inner := []) (ok := fun _ => True) (okp := fun _ => True) ?hr ?hp (fun _ hk => hk) trivial (Below.refl _ _) (Nat.le_refl _) (by simp) ?_; (case hd => rfl); (case hg => rfl); (case hr => first | (go_simp; done) | (go_simp; rfl)); (case hp => exact (Reps.none _ _)); intro v286 w27 ho28 hb hg_ hnew_; clear hg_ hnew_; (first | rw [← Ny285.out] at ho28 | (simp only [Int.reduceToNat] at ho28; rw [← Ny285.out] at ho28)); have HO287 := Aside0.mk (Kd.R_lower ho28 (below_size zB)); replace BK281 := zKb BK281 hb; replace BK282 := zKb BK282 hb; replace BK283 := zKb BK283 hb; replace HB := zBb hb; clear hb ho28; have hnb29 := NB282_281.out; have hnc29 := NB281_282.out; have hnb30 := NB282_283.out; have hnc30 := NB283_282.out; obtain ⟨hcz31_0, hcz31_1, hfz31_0, hfz31_1⟩ := blk2 BK282))
    go_loopg [9, 10] k1 (fun kq v9 v10 w' => ∃ (x9_2 : List ByteArray) (x10_2 : Int), v10 = .int .i64 x10_2 ∧ Aside0 (impl_grid_shape.l1 kq l1 x9_2 x10_2 a0_0 a0_1 x283000_1 x283001_1 x284000_1 x284001_1 = some r) ∧ Aside0 (kq ≤ k1) ∧ Aside0 (Kd.R Kd.string 9 w' w.heap.size (fun _ => True) v9 x9_2) ∧ Aside0 (w'.heap[gb281]? = some (.cells #[.int .i64 a0_0, .int .i64 a0_1] 58 (0, 0))) ∧ Aside0 (w'.heap[gb282]? = some (.cells #[.int .i64 x283000_1, .int .i64 x283001_1] 45 (0, 0))) ∧ Aside0 (w'.heap[gb283]? = some (.cells #[.int .i64 x284000_1, .int .i64 x284001_1] 45 (0, 0))) ∧ Aside0 (Below w.heap.size w w'))
    case atStart => exact ⟨(y285), (x283001_1), zA, H', ⟨Nat.le_refl _⟩, ⟨zR HO287⟩, ⟨zK BK281⟩, ⟨zK BK282⟩, ⟨zK BK283⟩, ⟨zB⟩⟩
    case round =>
     clear H'
     (try clear c1); (try clear c2); (try clear p2); (try clear q2); (try clear hx2); (try clear c3); (try clear c4); (try clear p6); (try clear c7); (try clear c8); (try clear c10); (try clear c12); (try clear c12b0); (try clear c13); (try clear c13b0); (try clear c14); (try clear c14b0); (try clear c15); (try clear c15b0); (try clear c15b1); (try clear p28); (try clear q28); (try clear hx28); (try clear c29); (try clear c30); (try clear hcz11_0); (try clear hcz11_1); (try clear hcz31_0); (try clear hcz31_1); (try clear hcz4_0); (try clear hcz4_1); (try clear hcz9_0); (try clear hcz9_1); (try clear hfz11_0); (try clear hfz11_1); (try clear hfz31_0); (try clear hfz31_1); (try clear hfz4_0); (try clear hfz4_1); (try clear hfz9_0); (try clear hfz9_1); (try clear hx284_0); (try clear p2); (try clear p284); (try clear q284)
     obtain ⟨x9_2, x10_2, rfl, HA, HK2, HO_9, BK281, BK282, BK283, HB⟩ := hrel
     cases gk with
     | zero => exact absurd HA.out (by simp [impl_grid_shape.l1])
     | succ k2 =>
      have H := HA.out
      clear HA
      simp only [impl_grid_shape.l1] at H
      by_cases c32 : x10_2 ≤ x284001_1
      ·rw [if_pos c32] at H
       have c32b0 : decide (x10_2 ≤ x284001_1) = true := decide_eq_true c32
       clear c32
       obtain ⟨y290, hy290⟩ : ∃ y_ : List Int, y_ = (([] : List Int)) := ⟨_, rfl⟩
       replace H : (impl_grid_shape.l2 k2 l1 x9_2 x10_2 y290 x283000_1 a0_0 a0_1 x283000_1 x283001_1 x284000_1 x284001_1) = some r := by first | (rw [hy290]; with_reducible exact H) | (have H2_ := (Option.bind_some _ _).symm.trans H; rw [hy290]; with_reducible exact H2_) | (have H2_ := (Option.bind_some _ _).symm.trans H; with_reducible exact H2_) | with_reducible exact H | (rw [hy290]; exact H) | exact H
       have Ny290 := Aside0.mk hy290
       clear hy290
       have H' := Aside0.mk H
       clear H
       have hnb33 := NB283_281.out
       have hnc33 := NB281_283.out
       have hnb34 := NB283_282.out
       have hnc34 := NB282_283.out
       obtain ⟨hcz35_0, hcz35_1, hfz35_0, hfz35_1⟩ := blk2 BK283
       go_wp2_with (first | ((with_reducible refine gate_dst (N := 65) rfl ?_); refine Kd.R_lit (Kd.int .u8) _ 5 ?hg (N := 65) ?hd (xs := ([] : List Int)) (inner := []) (ok := fun _ => True) (okp := fun _ => True) ?hr ?hp (fun _ hk => hk) trivial (Below.refl _ _) (Nat.le_refl _) (by simp) ?_; (case hd => rfl); (case hg => rfl); (case hr => first | (go_simp; done) | (go_simp; rfl)); (case hp => exact (Reps.none _ _)); intro v291 w36 ho37 hb hg_ hnew_; clear hg_ hnew_; (first | rw [← Ny290.out] at ho37 | (simp only [Int.reduceToNat] at ho37; rw [← Ny290.out] at ho37)); replace HO_9 := Aside0.mk (Kd.R_below (zR HO_9) hb); have HO292 := Aside0.mk (Kd.R_lower ho37 (below_size zB)); replace BK281 := zKb BK281 hb; replace BK282 := zKb BK282 hb; replace BK283 := zKb BK283 hb; replace HB := zBb hb; clear hb ho37; have hnb38 := NB282_281.out; have hnc38 := NB281_282.out; obtain ⟨hcz39_0, hcz39_1, hfz39_0, hfz39_1⟩ := blk2 BK282))
       go_loopg [11, 12] k2 (fun kq v11 v12 w' => ∃ (x11_3 : List Int) (x12_3 : Int), v12 = .int .i64 x12_3 ∧ Aside0 (impl_grid_shape.l2 kq l1 x9_2 x10_2 x11_3 x12_3 a0_0 a0_1 x283000_1 x283001_1 x284000_1 x284001_1 = some r) ∧ Aside0 (kq ≤ k2) ∧ Aside0 (Kd.R Kd.string 9 w' w.heap.size (fun _ => True) u9 x9_2) ∧ Aside0 (Kd.R (Kd.int .u8) 5 w' w.heap.size (fun _ => True) v11 x11_3) ∧ Aside0 (w'.heap[gb281]? = some (.cells #[.int .i64 a0_0, .int .i64 a0_1] 58 (0, 0))) ∧ Aside0 (w'.heap[gb282]? = some (.cells #[.int .i64 x283000_1, .int .i64 x283001_1] 45 (0, 0))) ∧ Aside0 (w'.heap[gb283]? = some (.cells #[.int .i64 x284000_1, .int .i64 x284001_1] 45 (0, 0))) ∧ Aside0 (Below w.heap.size w w'))
       case atStart => exact ⟨(y290), (x283000_1), zA, H', ⟨Nat.le_refl _⟩, ⟨zR HO_9⟩, ⟨zR HO292⟩, ⟨zK BK281⟩, ⟨zK BK282⟩, ⟨zK BK283⟩, ⟨zB⟩⟩
       case round =>
        clear H'
        (try clear c1); (try clear c2); (try clear p2); (try clear q2); (try clear hx2); (try clear c3); (try clear c4); (try clear p6); (try clear c7); (try clear c8); (try clear c10); (try clear c12); (try clear c12b0); (try clear c13); (try clear c13b0); (try clear c14); (try clear c14b0); (try clear c15); (try clear c15b0); (try clear c15b1); (try clear p28); (try clear q28); (try clear hx28); (try clear c29); (try clear c30); (try clear c32); (try clear c32b0); (try clear c33); (try clear c34); (try clear c38); (try clear hcz11_0); (try clear hcz11_1); (try clear hcz31_0); (try clear hcz31_1); (try clear hcz35_0); (try clear hcz35_1); (try clear hcz39_0); (try clear hcz39_1); (try clear hcz4_0); (try clear hcz4_1); (try clear hcz9_0); (try clear hcz9_1); (try clear hfz11_0); (try clear hfz11_1); (try clear hfz31_0); (try clear hfz31_1); (try clear hfz35_0); (try clear hfz35_1); (try clear hfz39_0); (try clear hfz39_1); (try clear hfz4_0); (try clear hfz4_1); (try clear hfz9_0); (try clear hfz9_1); (try clear hx284_0); (try clear p2); (try clear p28); (try clear p284); (try clear p6); (try clear q2); (try clear q28); (try clear q284)
        obtain ⟨x11_3, x12_3, rfl, HA, HK3, HO_9, HO_11, BK281, BK282, BK283, HB⟩ := hrel
        cases gk with
        | zero => exact absurd HA.out (by simp [impl_grid_shape.l2])
        | succ k3 =>
         have H := HA.out
         clear HA
         simp only [impl_grid_shape.l2] at H
         by_cases c40 : x12_3 ≤ x284000_1
         ·rw [if_pos c40] at H
          have c40b0 : decide (x12_3 ≤ x284000_1) = true := decide_eq_true c40
          clear c40
          replace H := Option.bind_eq_some_iff.mp H
          obtain ⟨t293, A410, H⟩ := H
          replace H : (if t293 = true then (if x11_3.length < 140737488355328 then (impl_grid_shape.l2 k3 l1 x9_2 x10_2 (x11_3 ++ [111]) (wrap64 (x12_3 + 1)) a0_0 a0_1 x283000_1 x283001_1 x284000_1 x284001_1) else (none)) else (if x11_3.length < 140737488355328 then (impl_grid_shape.l2 k3 l1 x9_2 x10_2 (x11_3 ++ [46]) (wrap64 (x12_3 + 1)) a0_0 a0_1 x283000_1 x283001_1 x284000_1 x284001_1) else (none))) = some r := H
          have A41 := Aside0.mk A410
          clear A410
          by_cases c42 : t293 = true
          ·subst c42
           have H1 : (if x11_3.length < 140737488355328 then (impl_grid_shape.l2 k3 l1 x9_2 x10_2 (x11_3 ++ [111]) (wrap64 (x12_3 + 1)) a0_0 a0_1 x283000_1 x283001_1 x284000_1 x284001_1) else (none)) = some r := by rw [if_pos rfl] at H; exact H
           clear H
           have H := H1
           clear H1
           by_cases c43 : x11_3.length < 140737488355328
           ·rw [if_pos c43] at H
            have LMc43 := Aside0.mk c43
            clear c43
            obtain ⟨y294, hy294⟩ : ∃ y_ : List Int, y_ = (x11_3 ++ [111]) := ⟨_, rfl⟩
            replace H : (impl_grid_shape.l2 k3 l1 x9_2 x10_2 y294 (wrap64 (x12_3 + 1)) a0_0 a0_1 x283000_1 x283001_1 x284000_1 x284001_1) = some r := by first | (rw [hy294]; with_reducible exact H) | (have H2_ := (Option.bind_some _ _).symm.trans H; rw [hy294]; with_reducible exact H2_) | (have H2_ := (Option.bind_some _ _).symm.trans H; with_reducible exact H2_) | with_reducible exact H | (rw [hy294]; exact H) | exact H
            have Ny294 := Aside0.mk hy294
            clear hy294
            have H' := Aside0.mk H
            clear H
            have hnb44 := NB283_281.out
            have hnc44 := NB281_283.out
            have hnb45 := NB283_282.out
            have hnc45 := NB282_283.out
            obtain ⟨hcz46_0, hcz46_1, hfz46_0, hfz46_1⟩ := blk2 BK283
            have hnb47 := NB281_282.out
            have hnc47 := NB282_281.out
            obtain ⟨hcz48_0, hcz48_1, hfz48_0, hfz48_1⟩ := blk2 BK281
            go_wp2_with (first | ((with_reducible refine gate_callee (f := 43) rfl ?_); refine goesL_ (some 81) rfl rfl Tryd.func43 (by kernel_rfl) rfl #[.slice A1 l1.length c1, .int .i64 (wrap64 ((wrap64 (x10_2 * a0_0)) + x12_3))] rfl zM ?_; (with_reducible refine (slices_Contains_int_int.calls k3 _ _ l1 (wrap64 ((wrap64 (x10_2 * a0_0)) + x12_3)) true _ ?side1 ?side2 A41.out).mono ?_); (case side1 => exact zC HR1); (case side2 => exact HC1.out); rintro e w' ⟨rfl, ⟨nd, rfl⟩⟩; refine ⟨_, rfl, ?_⟩) | ((with_reducible refine gate_builtin (b := .append) (xs := #[.tmp 82, .tmp 83]) rfl ?_); at_builtin; refine Kd.R_append (Kd.int .u8) (w0 := w) w.heap.size rfl (.tmp 82) (.tmp 83) 46 5 (.int .u8 0) 1 rfl Tryd.underlying46 info5 rfl (by decide) (by omega) u11 x11_3 111 [.int .u8 111] (fun _ => True) (fun _ => False) rfl rfl ?aP (fun _ hk => hk.elim) ?aF ?aO ?aB ?aS ?aL ?_; (case aP => exact rfl); (case aB => exact zB); (case aF => exact (fun _ _ => trivial)); (case aO => exact (zR HO_11)); (case aS => exact (below_size zB)); (case aL => have := LMc43.out; omega); intro v295 w49 ho hb hg hat; rw [← Ny294.out] at ho; have n0_ := Aside0.mk (Kd.R_over' (zR HO_9) (Kd.R_typed (zR HO_11)) (by decide) hg); have n1_ := Aside0.mk (blk_grown (g := gb281) (o := .cells #[.int .i64 a0_0, .int .i64 a0_1] 58 (0, 0)) (zK BK281) hg (Kd.R_ne HO_11.out BK281.out (by decide))); have n2_ := Aside0.mk (blk_grown (g := gb282) (o := .cells #[.int .i64 x283000_1, .int .i64 x283001_1] 45 (0, 0)) (zK BK282) hg (Kd.R_ne HO_11.out BK282.out (by decide))); have n3_ := Aside0.mk (blk_grown (g := gb283) (o := .cells #[.int .i64 x284000_1, .int .i64 x284001_1] 45 (0, 0)) (zK BK283) hg (Kd.R_ne HO_11.out BK283.out (by decide))); have n4_ := Aside0.mk (hb); have n5_ := Aside0.mk (ho); clear HO_9; clear BK281; clear BK282; clear BK283; clear HB; clear HO_11; have HO_9 := n0_; have BK281 := n1_; have BK282 := n2_; have BK283 := n3_; have HB := n4_; have HO296 := n5_; clear n0_ n1_ n2_ n3_ n4_ n5_; clear ho hb hg hat))
            go_roundg k3
            case measure => have := HK1.out; have := HK2.out; have := HK3.out; omega
            case rel => exact ⟨(y294), (wrap64 (x12_3 + 1)), zA, H', ⟨by have := HK1.out; have := HK2.out; have := HK3.out; omega⟩, ⟨zR HO_9⟩, ⟨zR HO296⟩, ⟨zK BK281⟩, ⟨zK BK282⟩, ⟨zK BK283⟩, ⟨zB⟩⟩
           ·rw [if_neg c43] at H
            exact absurd H (by simp)
          ·replace c42 := Bool.eq_false_iff.mpr c42
           subst c42
           have H1 : (if x11_3.length < 140737488355328 then (impl_grid_shape.l2 k3 l1 x9_2 x10_2 (x11_3 ++ [46]) (wrap64 (x12_3 + 1)) a0_0 a0_1 x283000_1 x283001_1 x284000_1 x284001_1) else (none)) = some r := by rw [if_neg (show ¬ (false = true) by decide)] at H; exact H
           clear H
           have H := H1
           clear H1
           by_cases c50 : x11_3.length < 140737488355328
           ·rw [if_pos c50] at H
            have LMc50 := Aside0.mk c50
            clear c50
            obtain ⟨y297, hy297⟩ : ∃ y_ : List Int, y_ = (x11_3 ++ [46]) := ⟨_, rfl⟩
            replace H : (impl_grid_shape.l2 k3 l1 x9_2 x10_2 y297 (wrap64 (x12_3 + 1)) a0_0 a0_1 x283000_1 x283001_1 x284000_1 x284001_1) = some r := by first | (rw [hy297]; with_reducible exact H) | (have H2_ := (Option.bind_some _ _).symm.trans H; rw [hy297]; with_reducible exact H2_) | (have H2_ := (Option.bind_some _ _).symm.trans H; with_reducible exact H2_) | with_reducible exact H | (rw [hy297]; exact H) | exact H
            have Ny297 := Aside0.mk hy297
            clear hy297
            have H' := Aside0.mk H
            clear H
            have hnb51 := NB283_281.out
            have hnc51 := NB281_283.out
            have hnb52 := NB283_282.out
            have hnc52 := NB282_283.out
            obtain ⟨hcz53_0, hcz53_1, hfz53_0, hfz53_1⟩ := blk2 BK283
            have hnb54 := NB281_282.out
            have hnc54 := NB282_281.out
            obtain ⟨hcz55_0, hcz55_1, hfz55_0, hfz55_1⟩ := blk2 BK281
            go_wp2_with (first | ((with_reducible refine gate_callee (f := 43) rfl ?_); refine goesL_ (some 81) rfl rfl Tryd.func43 (by kernel_rfl) rfl #[.slice A1 l1.length c1, .int .i64 (wrap64 ((wrap64 (x10_2 * a0_0)) + x12_3))] rfl zM ?_; (with_reducible refine (slices_Contains_int_int.calls k3 _ _ l1 (wrap64 ((wrap64 (x10_2 * a0_0)) + x12_3)) false _ ?side1 ?side2 A41.out).mono ?_); (case side1 => exact zC HR1); (case side2 => exact HC1.out); rintro e w' ⟨rfl, ⟨nd, rfl⟩⟩; refine ⟨_, rfl, ?_⟩) | ((with_reducible refine gate_builtin (b := .append) (xs := #[.tmp 85, .tmp 86]) rfl ?_); at_builtin; refine Kd.R_append (Kd.int .u8) (w0 := w) w.heap.size rfl (.tmp 85) (.tmp 86) 46 5 (.int .u8 0) 1 rfl Tryd.underlying46 info5 rfl (by decide) (by omega) u11 x11_3 46 [.int .u8 46] (fun _ => True) (fun _ => False) rfl rfl ?aP (fun _ hk => hk.elim) ?aF ?aO ?aB ?aS ?aL ?_; (case aP => exact rfl); (case aB => exact zB); (case aF => exact (fun _ _ => trivial)); (case aO => exact (zR HO_11)); (case aS => exact (below_size zB)); (case aL => have := LMc50.out; omega); intro v298 w56 ho hb hg hat; rw [← Ny297.out] at ho; have n0_ := Aside0.mk (Kd.R_over' (zR HO_9) (Kd.R_typed (zR HO_11)) (by decide) hg); have n1_ := Aside0.mk (blk_grown (g := gb281) (o := .cells #[.int .i64 a0_0, .int .i64 a0_1] 58 (0, 0)) (zK BK281) hg (Kd.R_ne HO_11.out BK281.out (by decide))); have n2_ := Aside0.mk (blk_grown (g := gb282) (o := .cells #[.int .i64 x283000_1, .int .i64 x283001_1] 45 (0, 0)) (zK BK282) hg (Kd.R_ne HO_11.out BK282.out (by decide))); have n3_ := Aside0.mk (blk_grown (g := gb283) (o := .cells #[.int .i64 x284000_1, .int .i64 x284001_1] 45 (0, 0)) (zK BK283) hg (Kd.R_ne HO_11.out BK283.out (by decide))); have n4_ := Aside0.mk (hb); have n5_ := Aside0.mk (ho); clear HO_9; clear BK281; clear BK282; clear BK283; clear HB; clear HO_11; have HO_9 := n0_; have BK281 := n1_; have BK282 := n2_; have BK283 := n3_; have HB := n4_; have HO299 := n5_; clear n0_ n1_ n2_ n3_ n4_ n5_; clear ho hb hg hat))
            go_roundg k3
            case measure => have := HK1.out; have := HK2.out; have := HK3.out; omega
            case rel => exact ⟨(y297), (wrap64 (x12_3 + 1)), zA, H', ⟨by have := HK1.out; have := HK2.out; have := HK3.out; omega⟩, ⟨zR HO_9⟩, ⟨zR HO299⟩, ⟨zK BK281⟩, ⟨zK BK282⟩, ⟨zK BK283⟩, ⟨zB⟩⟩
           ·rw [if_neg c50] at H
            exact absurd H (by simp)
         ·rw [if_neg c40] at H
          have c40b0 : decide (x12_3 ≤ x284000_1) = false := decide_eq_false c40
          clear c40
          by_cases c57 : x9_2.length < 8796093022208
          ·rw [if_pos c57] at H
           have LMc57 := Aside0.mk c57
           clear c57
           obtain ⟨y300, hy300⟩ : ∃ y_ : List ByteArray, y_ = (x9_2 ++ [strOfNums x11_3]) := ⟨_, rfl⟩
           replace H : (impl_grid_shape.l1 k3 l1 y300 (wrap64 (x10_2 + 1)) a0_0 a0_1 x283000_1 x283001_1 x284000_1 x284001_1) = some r := by first | (rw [hy300]; with_reducible exact H) | (have H2_ := (Option.bind_some _ _).symm.trans H; rw [hy300]; with_reducible exact H2_) | (have H2_ := (Option.bind_some _ _).symm.trans H; with_reducible exact H2_) | with_reducible exact H | (rw [hy300]; exact H) | exact H
           have Ny300 := Aside0.mk hy300
           clear hy300
           have H' := Aside0.mk H
           clear H
           have hnb58 := NB283_281.out
           have hnc58 := NB281_283.out
           have hnb59 := NB283_282.out
           have hnc59 := NB282_283.out
           obtain ⟨hcz60_0, hcz60_1, hfz60_0, hfz60_1⟩ := blk2 BK283
           have hcv61 := own_string (P := Tryd.prog) Tryd.underlying46 Tryd.underlying5 Tryd.underlying9 (Kd.own_of_R HO_11.out)
           go_wp2_with (first | ((with_reducible refine gate_builtin (b := .append) (xs := #[.tmp 88, .tmp 91]) rfl ?_); at_builtin; refine Kd.R_append Kd.string (w0 := w) w.heap.size rfl (.tmp 88) (.tmp 91) 37 9 (.string ⟨#[]⟩) 16 rfl Tryd.underlying37 info9 rfl (by decide) (by omega) u9 x9_2 (strOfNums x11_3) [.string (strOfNums x11_3)] (fun _ => True) (fun _ => False) rfl rfl ?aP (fun _ hk => hk.elim) ?aF ?aO ?aB ?aS ?aL ?_; (case aP => exact rfl); (case aB => exact zB); (case aF => exact (fun _ _ => trivial)); (case aO => exact (zR HO_9)); (case aS => exact (below_size zB)); (case aL => have := LMc57.out; omega); intro v301 w62 ho hb hg hat; rw [← Ny300.out] at ho; have n0_ := Aside0.mk (Kd.R_over' (zR HO_11) (Kd.R_typed (zR HO_9)) (by decide) hg); have n1_ := Aside0.mk (blk_grown (g := gb281) (o := .cells #[.int .i64 a0_0, .int .i64 a0_1] 58 (0, 0)) (zK BK281) hg (Kd.R_ne HO_9.out BK281.out (by decide))); have n2_ := Aside0.mk (blk_grown (g := gb282) (o := .cells #[.int .i64 x283000_1, .int .i64 x283001_1] 45 (0, 0)) (zK BK282) hg (Kd.R_ne HO_9.out BK282.out (by decide))); have n3_ := Aside0.mk (blk_grown (g := gb283) (o := .cells #[.int .i64 x284000_1, .int .i64 x284001_1] 45 (0, 0)) (zK BK283) hg (Kd.R_ne HO_9.out BK283.out (by decide))); have n4_ := Aside0.mk (hb); have n5_ := Aside0.mk (ho); clear HO_11; clear BK281; clear BK282; clear BK283; clear HB; clear HO_9; have HO_11 := n0_; have BK281 := n1_; have BK282 := n2_; have BK283 := n3_; have HB := n4_; have HO302 := n5_; clear n0_ n1_ n2_ n3_ n4_ n5_; clear ho hb hg hat))
           go_roundg k3
           case measure => have := HK1.out; have := HK2.out; have := HK3.out; omega
           case rel => exact ⟨(y300), (wrap64 (x10_2 + 1)), zA, H', ⟨by have := HK1.out; have := HK2.out; have := HK3.out; omega⟩, ⟨zR HO302⟩, ⟨zK BK281⟩, ⟨zK BK282⟩, ⟨zK BK283⟩, ⟨zB⟩⟩
          ·rw [if_neg c57] at H
           exact absurd H (by simp)
      ·rw [if_neg c32] at H
       have c32b0 : decide (x10_2 ≤ x284001_1) = false := decide_eq_false c32
       clear c32
       replace H := Option.bind_eq_some_iff.mp H
       obtain ⟨t288, A630, H⟩ := H
       replace H : ((impl_leastShape.f t288).bind fun t289 => (some t289)) = some r := H
       have A63 := Aside0.mk A630
       clear A630
       replace H := Option.bind_eq_some_iff.mp H
       obtain ⟨t289, A640, H⟩ := H
       replace H : (some t289) = some r := H
       have A64 := Aside0.mk A640
       clear A640
       obtain rfl := Option.some.inj H
       have hnb65 := NB283_281.out
       have hnc65 := NB281_283.out
       have hnb66 := NB283_282.out
       have hnc66 := NB282_283.out
       obtain ⟨hcz67_0, hcz67_1, hfz67_0, hfz67_1⟩ := blk2 BK283
       obtain ⟨Ao68, co68, eo68⟩ := Kd.R_slice HO_9.out
       subst eo68
       go_wp2_with (first | ((with_reducible refine gate_callee (f := 63) rfl ?_); refine goesL_ (some 94) rfl rfl Tryd.func63 (by kernel_rfl) rfl #[.slice Ao68 x9_2.length co68, .string (⟨#[47]⟩ : ByteArray)] rfl zM ?_; (with_reducible refine (strings_Join.calls _ _ x9_2 (⟨#[47]⟩ : ByteArray) t288 _ ?side1 ?side2 A63.out).mono ?_); (case side1 => exact zKr (Kd.R_reads' HO_9.out).2.2); (case side2 => exact (Kd.R_reads' HO_9.out).2.1); rintro e w69 ⟨rfl, hb⟩; refine ⟨_, rfl, ?_⟩; replace HO_9 := Aside0.mk (Kd.R_below (zR HO_9) hb); replace BK281 := zKb BK281 hb; replace BK282 := zKb BK282 hb; replace BK283 := zKb BK283 hb; replace HB := zBb hb; (try clear hb); (try clear hb2); (try clear hk); (try clear hi)) | ((with_reducible refine gate_callee (f := 31) rfl ?_); refine goesL_ (some 95) rfl rfl Tryd.func31 (by kernel_rfl) rfl #[.string t288] rfl zM ?_; (with_reducible refine (impl_leastShape.calls t288 t289 _ ?side1 A64.out).mono ?_); (case side1 => exact tz_below HT.out zB); rintro e w70 ⟨rfl, hb⟩; refine ⟨_, rfl, ?_⟩; replace HO_9 := Aside0.mk (Kd.R_below (zR HO_9) hb); replace BK281 := zKb BK281 hb; replace BK282 := zKb BK282 hb; replace BK283 := zKb BK283 hb; replace HB := zBb hb; (try clear hb); (try clear hb2); (try clear hk); (try clear hi)))
       go_ret
       exact ⟨zE, zB⟩

/-! ### impl_PieceShape: function 17 -/
set_option maxHeartbeats 8000000 in
set_option maxRecDepth 100000 in
theorem impl_PieceShape.calls (k : Nat) (a0_0 : Int) (a0_1 : Int) (A0_2 : Option Addr) (c0_2 : Nat) (l0_2 : List Int) (A0_3 : Option Addr) (c0_3 : Nat) (l0_3 : List Int) (a1 : Int) (r1 : ByteArray) (r2 : Bool) (w : World) (hT : TzTab w) (hr0_2 : Kd.C (Kd.int .i64) w A0_2 l0_2.length l0_2) (hc0_2 : l0_2.length ≤ c0_2) (hr0_3 : Kd.C (Kd.int .i64) w A0_3 l0_3.length l0_3) (hc0_3 : l0_3.length ≤ c0_3) (h : impl_PieceShape.f k a0_0 a0_1 l0_2 l0_3 a1 = some (r1, r2)) :
  Calls Tryd.prog 17 #[.agg #[.int .i64 a0_0, .int .i64 a0_1, .slice A0_2 l0_2.length c0_2, .slice A0_3 l0_3.length c0_3], .int .i64 a1] w fun e w' => e = .returned (.tuple #[.string r1, .bool r2]) ∧ Below w.heap.size w w' := by
 have hu30 := Tryd.underlying30
 have hu58 := Tryd.underlying58
 have HT := Aside0.mk hT
 clear hT
 have HR0_2 := Aside0.mk hr0_2
 have HC0_2 := Aside0.mk hc0_2
 clear hr0_2 hc0_2
 have HR0_3 := Aside0.mk hr0_3
 have HC0_3 := Aside0.mk hc0_3
 clear hr0_3 hc0_3
 have HB := Aside0.mk (Below.refl w.heap.size w)
 have H : ((impl_IsFigure.f k a0_0 a0_1 l0_2 l0_3).bind fun t304 => (if t304 = true then ((impl_within.f a1 0 (wrap64 ((wrap64 (a0_0 * a0_1)) - 1))).bind fun t305 => (impl_PieceShape.j0 k a1 (!t305) a0_0 a0_1 l0_2 l0_3)) else (impl_PieceShape.j0 k a1 true a0_0 a0_1 l0_2 l0_3))) = some (r1, r2) := h
 clear h
 have HC3 := Aside0.mk H
 clear H
 go_enter Tryd.func17, Tryd.ntmps17
 go_upto_region 1 with (first | ((with_reducible refine gate_dst (N := 2) rfl ?_); refine zbx 2 #[.int .i64 a0_0, .int .i64 a0_1, .slice A0_2 l0_2.length c0_2, .slice A0_3 l0_3.length c0_3] 30 ?_; intro gb303 hg w4 hbox hb; have BK303 := Aside0.mk (hbox); have GW303 := zGe hg; have GE303 := zGe hg; replace HB := zBb hb; clear hb hbox hg))
 (try simp only [Act.put, List.setIfInBounds_toArray, List.set_cons_zero, List.set_cons_succ])
 go_cut [22] (fun v22 wc => ∃ (kq : Nat) (x22_2 : Bool), v22 = .bool x22_2 ∧ Aside0 (impl_PieceShape.j0 kq a1 x22_2 a0_0 a0_1 l0_2 l0_3 = some (r1, r2)) ∧ Aside0 (kq ≤ k) ∧ Aside0 (wc.heap[gb303]? = some (.cells #[.int .i64 a0_0, .int .i64 a0_1, (.slice A0_2 l0_2.length c0_2), (.slice A0_3 l0_3.length c0_3)] 30 (0, 0))) ∧ Aside0 (Below w.heap.size w wc))
 case first =>
  have H := HC3.out
  clear HC3
  replace H := Option.bind_eq_some_iff.mp H
  obtain ⟨t304, A50, H⟩ := H
  replace H : (if t304 = true then ((impl_within.f a1 0 (wrap64 ((wrap64 (a0_0 * a0_1)) - 1))).bind fun t305 => (impl_PieceShape.j0 k a1 (!t305) a0_0 a0_1 l0_2 l0_3)) else (impl_PieceShape.j0 k a1 true a0_0 a0_1 l0_2 l0_3)) = some (r1, r2) := H
  have A5 := Aside0.mk A50
  clear A50
  by_cases c6 : t304 = true
  ·subst c6
   have H1 : ((impl_within.f a1 0 (wrap64 ((wrap64 (a0_0 * a0_1)) - 1))).bind fun t305 => (impl_PieceShape.j0 k a1 (!t305) a0_0 a0_1 l0_2 l0_3)) = some (r1, r2) := by rw [if_pos rfl] at H; exact H
   clear H
   have H := H1
   clear H1
   replace H := Option.bind_eq_some_iff.mp H
   obtain ⟨t305, A70, H⟩ := H
   replace H : (impl_PieceShape.j0 k a1 (!t305) a0_0 a0_1 l0_2 l0_3) = some (r1, r2) := H
   have A7 := Aside0.mk A70
   clear A70
   have H' := Aside0.mk H
   clear H
   obtain ⟨hcz8_0, hcz8_1, hcz8_2, hcz8_3, hfz8_0, hfz8_1, hfz8_2, hfz8_3⟩ := blk4 BK303
   go_wp2_with (first | ((with_reducible refine gate_callee (f := 39) rfl ?_); refine goesL_ (some 10) rfl rfl Tryd.func39 (by kernel_rfl) rfl #[.agg #[.int .i64 a0_0, .int .i64 a0_1, .slice A0_2 l0_2.length c0_2, .slice A0_3 l0_3.length c0_3]] rfl zM ?_; (with_reducible refine (impl_IsFigure.calls k a0_0 a0_1 _ _ l0_2 _ _ l0_3 true _ ?side1 ?side2 ?side3 ?side4 A5.out).mono ?_); (case side1 => exact zC HR0_2); (case side2 => exact HC0_2.out); (case side3 => exact zC HR0_3); (case side4 => exact HC0_3.out); rintro e w9 ⟨rfl, hb⟩; refine ⟨_, rfl, ?_⟩; replace BK303 := zKb BK303 hb; replace HB := zBb hb; (try clear hb); (try clear hb2); (try clear hk); (try clear hi); obtain ⟨hcz10_0, hcz10_1, hcz10_2, hcz10_3, hfz10_0, hfz10_1, hfz10_2, hfz10_3⟩ := blk4 BK303) | (go_at_call 23; (with_reducible refine (impl_within.calls a1 0 (wrap64 ((wrap64 (a0_0 * a0_1)) - 1)) t305 _ A7.out).mono ?_); rintro e w' ⟨rfl, ⟨nd, rfl⟩⟩))
   go_meet
   case rel => exact ⟨_, (!t305), zA, H', ⟨by first | omega | exact Nat.le_refl _⟩, ⟨zK BK303⟩, ⟨zB⟩⟩
  ·replace c6 := Bool.eq_false_iff.mpr c6
   subst c6
   have H1 : (impl_PieceShape.j0 k a1 true a0_0 a0_1 l0_2 l0_3) = some (r1, r2) := by rw [if_neg (show ¬ (false = true) by decide)] at H; exact H
   clear H
   have H := H1
   clear H1
   have H' := Aside0.mk H
   clear H
   obtain ⟨hcz11_0, hcz11_1, hcz11_2, hcz11_3, hfz11_0, hfz11_1, hfz11_2, hfz11_3⟩ := blk4 BK303
   go_wp2_with (first | ((with_reducible refine gate_callee (f := 39) rfl ?_); refine goesL_ (some 10) rfl rfl Tryd.func39 (by kernel_rfl) rfl #[.agg #[.int .i64 a0_0, .int .i64 a0_1, .slice A0_2 l0_2.length c0_2, .slice A0_3 l0_3.length c0_3]] rfl zM ?_; (with_reducible refine (impl_IsFigure.calls k a0_0 a0_1 _ _ l0_2 _ _ l0_3 false _ ?side1 ?side2 ?side3 ?side4 A5.out).mono ?_); (case side1 => exact zC HR0_2); (case side2 => exact HC0_2.out); (case side3 => exact zC HR0_3); (case side4 => exact HC0_3.out); rintro e w12 ⟨rfl, hb⟩; refine ⟨_, rfl, ?_⟩; replace BK303 := zKb BK303 hb; replace HB := zBb hb; (try clear hb); (try clear hb2); (try clear hk); (try clear hi)))
   go_meet
   case rel => exact ⟨_, (true), zA, H', ⟨by first | omega | exact Nat.le_refl _⟩, ⟨zK BK303⟩, ⟨zB⟩⟩
 case rest =>
  clear HC3
  (try clear c1); (try clear p2); (try clear c3); (try clear c6); (try clear p6); (try clear hcz10_0); (try clear hcz10_1); (try clear hcz10_2); (try clear hcz10_3); (try clear hcz11_0); (try clear hcz11_1); (try clear hcz11_2); (try clear hcz11_3); (try clear hcz8_0); (try clear hcz8_1); (try clear hcz8_2); (try clear hcz8_3); (try clear hfz10_0); (try clear hfz10_1); (try clear hfz10_2); (try clear hfz10_3); (try clear hfz11_0); (try clear hfz11_1); (try clear hfz11_2); (try clear hfz11_3); (try clear hfz8_0); (try clear hfz8_1); (try clear hfz8_2); (try clear hfz8_3)
  obtain ⟨kq, x22_2, rfl, HA, HJ2, BK303, HB⟩ := hcut
  cases kq with
  | zero => exact absurd HA.out (by simp [impl_PieceShape.j0])
  | succ kj2 =>
   have H := HA.out
   clear HA
   simp only [impl_PieceShape.j0] at H
   by_cases c13 : x22_2 = true
   ·subst c13
    have H1 : (some ((⟨#[]⟩ : ByteArray), false)) = some (r1, r2) := by rw [if_pos rfl] at H; exact H
    clear H
    have H := H1
    clear H1
    simp only [Option.some.injEq, Prod.mk.injEq] at H
    obtain ⟨rfl, rfl⟩ := H
    go_wp2
    go_ret2
    exact ⟨zE, zB⟩
   ·replace c13 := Bool.eq_false_iff.mpr c13
    subst c13
    have H1 : ((impl_Figure_grid.f a0_0 a0_1 l0_2 l0_3).bind fun bt306 => ((impl_Figure_set.f kj2 a0_0 a0_1 l0_2 l0_3).bind fun t309 => ((impl_grid_pieces.f kj2 bt306.1 bt306.2 t309).bind fun t310 => (impl_PieceShape.l0 kj2 a1 t310 (t310.length : Int) 0 bt306.1 bt306.2)))) = some (r1, r2) := by rw [if_neg (show ¬ (false = true) by decide)] at H; exact H
    clear H
    have H := H1
    clear H1
    replace H := Option.bind_eq_some_iff.mp H
    obtain ⟨⟨t306, t307⟩, A140, H⟩ := H
    replace H : ((impl_Figure_set.f kj2 a0_0 a0_1 l0_2 l0_3).bind fun t309 => ((impl_grid_pieces.f kj2 t306 t307 t309).bind fun t310 => (impl_PieceShape.l0 kj2 a1 t310 (t310.length : Int) 0 t306 t307))) = some (r1, r2) := H
    have A14 := Aside0.mk A140
    clear A140
    replace H := Option.bind_eq_some_iff.mp H
    obtain ⟨t309, A150, H⟩ := H
    replace H : ((impl_grid_pieces.f kj2 t306 t307 t309).bind fun t310 => (impl_PieceShape.l0 kj2 a1 t310 (t310.length : Int) 0 t306 t307)) = some (r1, r2) := H
    have A15 := Aside0.mk A150
    clear A150
    replace H := Option.bind_eq_some_iff.mp H
    obtain ⟨t310, A160, H⟩ := H
    replace H : (impl_PieceShape.l0 kj2 a1 t310 (t310.length : Int) 0 t306 t307) = some (r1, r2) := H
    have A16 := Aside0.mk A160
    clear A160
    have H' := Aside0.mk H
    clear H
    obtain ⟨hcz17_0, hcz17_1, hcz17_2, hcz17_3, hfz17_0, hfz17_1, hfz17_2, hfz17_3⟩ := blk4 BK303
    try go_wp2_with (first | ((with_reducible refine gate_callee (f := 40) rfl ?_); refine goesL_ (some 24) rfl rfl Tryd.func40 (by kernel_rfl) rfl #[.agg #[.int .i64 a0_0, .int .i64 a0_1, .slice A0_2 l0_2.length c0_2, .slice A0_3 l0_3.length c0_3]] rfl zM ?_; (with_reducible refine (impl_Figure_grid.calls a0_0 a0_1 _ _ l0_2 _ _ l0_3 t306 t307 _ ?side1 ?side2 ?side3 ?side4 A14.out).mono ?_); (case side1 => exact zC HR0_2); (case side2 => exact HC0_2.out); (case side3 => exact zC HR0_3); (case side4 => exact HC0_3.out); rintro e w18 ⟨rfl, hb⟩; refine ⟨_, rfl, ?_⟩; replace BK303 := zKb BK303 hb; replace HB := zBb hb; (try clear hb); (try clear hb2); (try clear hk); (try clear hi)) | ((with_reducible refine gate_dst (N := 6) rfl ?_); refine zbx 6 #[.int .i64 0, .int .i64 0] 58 ?_; intro gb308 hg w19 hbox hb; have BK308 := Aside0.mk (hbox); have GW308 := zGe hg; have GE308 := zGe hg; have NB303_308 := zNl BK303 hg; have NB308_303 := zNg BK303 hg; replace BK303 := zKb BK303 hb; replace HB := zBb hb; clear hb hbox hg; have hnb20 := NB308_303.out; have hnc20 := NB303_308.out; obtain ⟨hcz21_0, hcz21_1, hfz21_0, hfz21_1⟩ := blk2 BK308))
    have n0_ : Aside0 (((w19.setCell ⟨gb308, 0, none⟩ (.int .i64 t306)).setCell ⟨gb308, 1, none⟩ (.int .i64 t307)).heap[gb303]? = some (.cells #[.int .i64 a0_0, .int .i64 a0_1, .slice A0_2 l0_2.length c0_2, .slice A0_3 l0_3.length c0_3] 30 (0, 0))) := ⟨by (with_reducible repeat (first | refine blk_drewN ?_ _ | refine blk_drew ?_ | refine blk_alloc ?_ _)); refine blk_far ?_ NB303_308.out _; (with_reducible repeat (first | refine blk_drewN ?_ _ | refine blk_drew ?_ | refine blk_alloc ?_ _)); refine blk_far ?_ NB303_308.out _; (with_reducible repeat (first | refine blk_drewN ?_ _ | refine blk_drew ?_ | refine blk_alloc ?_ _)); exact BK303.out⟩
    have n1_ : Aside0 (((w19.setCell ⟨gb308, 0, none⟩ (.int .i64 t306)).setCell ⟨gb308, 1, none⟩ (.int .i64 t307)).heap[gb308]? = some (.cells #[.int .i64 t306, .int .i64 t307] 58 (0, 0))) := ⟨by (with_reducible repeat (first | refine blk_drewN ?_ _ | refine blk_drew ?_ | refine blk_alloc ?_ _)); refine blk_put (cs := #[.int .i64 t306, .int .i64 0]) ?_ 1 _ rfl; (with_reducible repeat (first | refine blk_drewN ?_ _ | refine blk_drew ?_ | refine blk_alloc ?_ _)); refine blk_put (cs := #[.int .i64 0, .int .i64 0]) ?_ 0 _ rfl; (with_reducible repeat (first | refine blk_drewN ?_ _ | refine blk_drew ?_ | refine blk_alloc ?_ _)); exact BK308.out⟩
    have n2_ : Aside0 (Below w.heap.size w ((w19.setCell ⟨gb308, 0, none⟩ (.int .i64 t306)).setCell ⟨gb308, 1, none⟩ (.int .i64 t307))) := ⟨zB⟩
    (try clear BK303)
    (try clear BK308)
    (try clear HB)
    generalize ((w19.setCell ⟨gb308, 0, none⟩ (.int .i64 t306)).setCell ⟨gb308, 1, none⟩ (.int .i64 t307)) = w22 at n0_ n1_ n2_ ⊢
    have BK303 := n0_
    have BK308 := n1_
    have HB := n2_
    clear n0_ n1_ n2_
    replace BK303 := Aside0.mk (blk_drew BK303.out)
    replace BK308 := Aside0.mk (blk_drew BK308.out)
    replace HB := Aside0.mk (below_drew1 HB.out)
    refine start_ (n := 6) (S := fun w' => w'.cell? ⟨gb308, 0, none⟩ = some (.int .i64 t306) ∧ w'.cell? ⟨gb308, 1, none⟩ = some (.int .i64 t307) ∧ w'.cell? ⟨gb303, 0, none⟩ = some (.int .i64 a0_0) ∧ w'.cell? ⟨gb303, 1, none⟩ = some (.int .i64 a0_1) ∧ w'.cell? ⟨gb303, 2, none⟩ = some (.slice A0_2 l0_2.length c0_2) ∧ w'.cell? ⟨gb303, 3, none⟩ = some (.slice A0_3 l0_3.length c0_3)) (ds := []) (fl 6 0) (by kernel_rfl) rfl rfl zQ (fun hHeld => ?_)
    generalize w22.drew = w23 at BK303 BK308 HB hHeld ⊢
    refine zpu 5 (some 30) (fl 6 32) ?_
    refine ztk 0 (some 25) (fl 6 33) hHeld ?_
    refine ztk 1 (some 26) (fl 6 35) hHeld ?_
    refine zone 2 (some 27) (fl 6 39) (fun K hK => ?_)
    refine zgo Tryd.func42 #[.agg #[.int .i64 a0_0, .int .i64 a0_1, .slice A0_2 l0_2.length c0_2, .slice A0_3 l0_3.length c0_3]] ?_
    with_reducible refine (impl_Figure_set.calls kj2 a0_0 a0_1 _ _ l0_2 _ _ l0_3 t309 _ ?side1 ?side2 ?side3 ?side4 A15.out).mono ?_
    (case side1 => exact zC HR0_2)
    (case side2 => exact HC0_2.out)
    (case side3 => exact zC HR0_3)
    (case side4 => exact HC0_3.out)
    rintro e w24 ⟨rfl, hb⟩
    refine ⟨_, rfl, ?_⟩
    replace BK303 := zKb BK303 hb
    replace BK308 := zKb BK308 hb
    replace HB := zBb hb
    (try clear hb)
    (try clear hb2)
    (try clear hk)
    (try clear hi)
    refine hK.out _ _ zQ (fun hHeld => ?_)
    clear hK K
    refine znm ?_
    refine zone 3 (some 28) (fl 6 47) (fun K hK => ?_)
    refine zgo Tryd.func41 #[.agg #[.int .i64 t306, .int .i64 t307], .int .u64 t309] ?_
    with_reducible refine (impl_grid_pieces.calls kj2 t306 t307 t309 t310 _ A16.out).mono ?_
    rintro e w25 ⟨v311, rfl, ho0, hb⟩
    refine ⟨_, rfl, ?_⟩
    have HO312 := Aside0.mk (Kd.S_lower ho0 (below_size zB))
    replace BK303 := zKb BK303 hb
    replace BK308 := zKb BK308 hb
    replace HB := zBb hb
    (try clear hb)
    (try clear hb2)
    (try clear hk)
    (try clear hi)
    (try clear ho0)
    obtain ⟨Ao26, co26, eo26⟩ := Kd.S_slice HO312.out
    (first | subst eo26 | (injection eo26 with f1_ f2_ f3_; have f4_ := f1_.symm; have f5_ := f3_.symm; clear f1_ f2_ f3_; subst f4_; subst f5_))
    refine hK.out _ _ zQ (fun hHeld => ?_)
    clear hK K
    refine znm ?_
    refine zpu 4 (some 29) (fl 6 63) ?_
    refine done_ (by kernel_rfl) ?_
    try go_wp2
    go_loopg [30] kj2 (fun kq v30 w' => ∃ (x30_2 : Int), v30 = .int .i64 x30_2 ∧ Aside0 (impl_PieceShape.l0 kq a1 t310 (t310.length : Int) x30_2 t306 t307 = some (r1, r2)) ∧ Aside0 (kq ≤ kj2) ∧ Aside0 (Kd.S (Kd.slice 3 (Kd.int .i64)) 25 w' w.heap.size (fun _ => True) (.slice Ao26 t310.length co26) t310) ∧ Aside0 (w'.heap[gb303]? = some (.cells #[.int .i64 a0_0, .int .i64 a0_1, (.slice A0_2 l0_2.length c0_2), (.slice A0_3 l0_3.length c0_3)] 30 (0, 0))) ∧ Aside0 (w'.heap[gb308]? = some (.cells #[.int .i64 t306, .int .i64 t307] 58 (0, 0))) ∧ Aside0 (Below w.heap.size w w'))
    case atStart => exact ⟨(0), zA, H', ⟨Nat.le_refl _⟩, ⟨zS HO312⟩, ⟨zK BK303⟩, ⟨zK BK308⟩, ⟨zB⟩⟩
    case round =>
     clear H'
     (try clear c1); (try clear c2); (try clear p2); (try clear c3); (try clear c4); (try clear c6); (try clear p6); (try clear c13); (try clear c17); (try clear c20); (try clear hcz10_0); (try clear hcz10_1); (try clear hcz10_2); (try clear hcz10_3); (try clear hcz11_0); (try clear hcz11_1); (try clear hcz11_2); (try clear hcz11_3); (try clear hcz17_0); (try clear hcz17_1); (try clear hcz17_2); (try clear hcz17_3); (try clear hcz21_0); (try clear hcz21_1); (try clear hcz8_0); (try clear hcz8_1); (try clear hcz8_2); (try clear hcz8_3); (try clear hfz10_0); (try clear hfz10_1); (try clear hfz10_2); (try clear hfz10_3); (try clear hfz11_0); (try clear hfz11_1); (try clear hfz11_2); (try clear hfz11_3); (try clear hfz17_0); (try clear hfz17_1); (try clear hfz17_2); (try clear hfz17_3); (try clear hfz21_0); (try clear hfz21_1); (try clear hfz8_0); (try clear hfz8_1); (try clear hfz8_2); (try clear hfz8_3); (try clear p2); (try clear p6)
     obtain ⟨x30_2, rfl, HA, HK2, HO_28, BK303, BK308, HB⟩ := hrel
     cases gk with
     | zero => exact absurd HA.out (by simp [impl_PieceShape.l0])
     | succ k2 =>
      have H := HA.out
      clear HA
      simp only [impl_PieceShape.l0] at H
      by_cases c27 : x30_2 < (t310.length : Int)
      ·rw [if_pos c27] at H
       have c27b0 : decide (x30_2 < (t310.length : Int)) = true := decide_eq_true c27
       clear c27
       by_cases c28 : 0 ≤ x30_2
       ·rw [if_pos c28] at H
        have c28b0 : decide (0 ≤ x30_2) = true := decide_eq_true c28
        clear c28
        by_cases c29 : x30_2 < (t310.length : Int)
        ·rw [if_pos c29] at H
         have c29b0 : decide (x30_2 < (t310.length : Int)) = true := decide_eq_true c29
         clear c29
         replace H := Option.bind_eq_some_iff.mp H
         obtain ⟨t314, A300, H⟩ := H
         replace H : (if t314 = true then ((impl_grid_shape.f k2 t306 t307 (rd_L3 t310 x30_2)).bind fun t315 => (some (t315, true))) else (impl_PieceShape.l0 k2 a1 t310 (t310.length : Int) (wrap64 (x30_2 + 1)) t306 t307)) = some (r1, r2) := H
         have A30 := Aside0.mk A300
         clear A300
         by_cases c31 : t314 = true
         ·subst c31
          have H1 : ((impl_grid_shape.f k2 t306 t307 (rd_L3 t310 x30_2)).bind fun t315 => (some (t315, true))) = some (r1, r2) := by rw [if_pos rfl] at H; exact H
          clear H
          have H := H1
          clear H1
          replace H := Option.bind_eq_some_iff.mp H
          obtain ⟨t315, A320, H⟩ := H
          replace H : (some (t315, true)) = some (r1, r2) := H
          have A32 := Aside0.mk A320
          clear A320
          simp only [Option.some.injEq, Prod.mk.injEq] at H
          obtain ⟨rfl, rfl⟩ := H
          have p313 : 0 ≤ (x30_2 : Int) := of_decide_eq_true (by assumption)
          have q313 : x30_2 < (t310.length : Int) := of_decide_eq_true (by assumption)
          obtain ⟨ad313, A313_0, c313_0, e313, hx313_0, hl313_0, hi313_0⟩ := at_L3 (Kd.S_reads' HO_28.out).2.2 x30_2 p313 q313
          cases e313
          obtain ⟨ce313, hce313, hMe313, hcc313⟩ := Kd.S_get HO_28.out [] x30_2 p313 (by first | exact q313 | exact of_decide_eq_true (by assumption) | (have e_ := (Kd.S_reads' HO_28.out).1; omega))
          obtain ⟨ve313_0, rfl, ge313_0⟩ := hMe313
          have hv313_0 := hcc313 0 _ rfl
          rw [Nat.add_zero, show ((Kd.slice 3 (Kd.int .i64))).sz = 1 from rfl, Nat.mul_one] at hv313_0
          replace hv313_0 := Option.some.inj (hv313_0.symm.trans hx313_0)
          rw [hv313_0] at ge313_0
          have HL313_0 := Aside0.mk (show Kd.R (Kd.int .i64) 3 _ _ _ _ (rd_L3 t310 x30_2) from ge313_0)
          clear hv313_0 ge313_0
          clear hcc313 hce313
          have HR313_0 := Aside0.mk hi313_0
          have HC313_0 := Aside0.mk hl313_0
          clear hi313_0 hl313_0
          replace p313 := eq_true p313
          replace q313 := eq_true q313
          go_wp2_with (first | ((with_reducible refine gate_callee (f := 43) rfl ?_); refine goesL_ (some 36) rfl rfl Tryd.func43 (by kernel_rfl) rfl #[.slice A313_0 (rd_L3 t310 x30_2).length c313_0, .int .i64 a1] rfl zM ?_; (with_reducible refine (slices_Contains_int_int.calls k2 _ _ (rd_L3 t310 x30_2) a1 true _ ?side1 ?side2 A30.out).mono ?_); (case side1 => repeat (first | exact (by repeat (first | (with_reducible exact HR313_0.out) | (with_reducible refine Kd.C_alloc ?_ _) | (with_reducible refine Kd.C_drewN ?_ _) | (with_reducible refine Kd.C_drew ?_) | exact HR313_0.out)) | (with_reducible refine Kd.C_alloc ?_ _) | (with_reducible refine Kd.C_drewN ?_ _) | (with_reducible refine Kd.C_drew ?_))); (case side2 => exact HC313_0.out); rintro e w' ⟨rfl, ⟨nd, rfl⟩⟩; refine ⟨_, rfl, ?_⟩; have hnb33 := NB308_303.out; have hnc33 := NB303_308.out; obtain ⟨hcz34_0, hcz34_1, hfz34_0, hfz34_1⟩ := blk2 BK308) | ((with_reducible refine gate_callee (f := 44) rfl ?_); refine goesL_ (some 39) rfl rfl Tryd.func44 (by kernel_rfl) rfl #[.agg #[.int .i64 t306, .int .i64 t307], .slice A313_0 (rd_L3 t310 x30_2).length c313_0] rfl zM ?_; (with_reducible refine (impl_grid_shape.calls k2 t306 t307 _ _ (rd_L3 t310 x30_2) t315 _ ?side3 ?side1 ?side2 A32.out).mono ?_); (case side1 => repeat (first | exact (by repeat (first | (with_reducible exact HR313_0.out) | (with_reducible refine Kd.C_alloc ?_ _) | (with_reducible refine Kd.C_drewN ?_ _) | (with_reducible refine Kd.C_drew ?_) | exact HR313_0.out)) | (with_reducible refine Kd.C_alloc ?_ _) | (with_reducible refine Kd.C_drewN ?_ _) | (with_reducible refine Kd.C_drew ?_))); (case side2 => exact HC313_0.out); (case side3 => exact tz_below HT.out zB); rintro e w35 ⟨rfl, hb⟩; refine ⟨_, rfl, ?_⟩; replace HO_28 := Aside0.mk (Kd.S_below (zS HO_28) hb); replace HL313_0 := Aside0.mk (Kd.R_below (zR HL313_0) hb); replace BK303 := zKb BK303 hb; replace BK308 := zKb BK308 hb; replace HR313_0 := Aside0.mk (Kd.C_below (by repeat (first | (with_reducible exact HR313_0.out) | (with_reducible refine Kd.C_alloc ?_ _) | (with_reducible refine Kd.C_drewN ?_ _) | (with_reducible refine Kd.C_drew ?_) | exact HR313_0.out)) hb); replace HB := zBb hb; (try clear hb); (try clear hb2); (try clear hk); (try clear hi)))
          go_ret2
          exact ⟨zE, zB⟩
         ·replace c31 := Bool.eq_false_iff.mpr c31
          subst c31
          have H1 : (impl_PieceShape.l0 k2 a1 t310 (t310.length : Int) (wrap64 (x30_2 + 1)) t306 t307) = some (r1, r2) := by rw [if_neg (show ¬ (false = true) by decide)] at H; exact H
          clear H
          have H := H1
          clear H1
          have H' := Aside0.mk H
          clear H
          have p313 : 0 ≤ (x30_2 : Int) := of_decide_eq_true (by assumption)
          have q313 : x30_2 < (t310.length : Int) := of_decide_eq_true (by assumption)
          obtain ⟨ad313, A313_0, c313_0, e313, hx313_0, hl313_0, hi313_0⟩ := at_L3 (Kd.S_reads' HO_28.out).2.2 x30_2 p313 q313
          cases e313
          obtain ⟨ce313, hce313, hMe313, hcc313⟩ := Kd.S_get HO_28.out [] x30_2 p313 (by first | exact q313 | exact of_decide_eq_true (by assumption) | (have e_ := (Kd.S_reads' HO_28.out).1; omega))
          obtain ⟨ve313_0, rfl, ge313_0⟩ := hMe313
          have hv313_0 := hcc313 0 _ rfl
          rw [Nat.add_zero, show ((Kd.slice 3 (Kd.int .i64))).sz = 1 from rfl, Nat.mul_one] at hv313_0
          replace hv313_0 := Option.some.inj (hv313_0.symm.trans hx313_0)
          rw [hv313_0] at ge313_0
          have HL313_0 := Aside0.mk (show Kd.R (Kd.int .i64) 3 _ _ _ _ (rd_L3 t310 x30_2) from ge313_0)
          clear hv313_0 ge313_0
          clear hcc313 hce313
          have HR313_0 := Aside0.mk hi313_0
          have HC313_0 := Aside0.mk hl313_0
          clear hi313_0 hl313_0
          replace p313 := eq_true p313
          replace q313 := eq_true q313
          go_wp2_with (first | ((with_reducible refine gate_callee (f := 43) rfl ?_); refine goesL_ (some 36) rfl rfl Tryd.func43 (by kernel_rfl) rfl #[.slice A313_0 (rd_L3 t310 x30_2).length c313_0, .int .i64 a1] rfl zM ?_; (with_reducible refine (slices_Contains_int_int.calls k2 _ _ (rd_L3 t310 x30_2) a1 false _ ?side1 ?side2 A30.out).mono ?_); (case side1 => repeat (first | exact (by repeat (first | (with_reducible exact HR313_0.out) | (with_reducible refine Kd.C_alloc ?_ _) | (with_reducible refine Kd.C_drewN ?_ _) | (with_reducible refine Kd.C_drew ?_) | exact HR313_0.out)) | (with_reducible refine Kd.C_alloc ?_ _) | (with_reducible refine Kd.C_drewN ?_ _) | (with_reducible refine Kd.C_drew ?_))); (case side2 => exact HC313_0.out); rintro e w' ⟨rfl, ⟨nd, rfl⟩⟩; refine ⟨_, rfl, ?_⟩))
          go_roundg k2
          case measure => have := HJ2.out; have := HK2.out; omega
          case rel => exact ⟨(wrap64 (x30_2 + 1)), zA, H', ⟨by have := HJ2.out; have := HK2.out; omega⟩, ⟨zS HO_28⟩, ⟨zK BK303⟩, ⟨zK BK308⟩, ⟨zB⟩⟩
        ·rw [if_neg c29] at H
         exact absurd H (by simp)
       ·rw [if_neg c28] at H
        exact absurd H (by simp)
      ·rw [if_neg c27] at H
       have c27b0 : decide (x30_2 < (t310.length : Int)) = false := decide_eq_false c27
       clear c27
       simp only [Option.some.injEq, Prod.mk.injEq] at H
       obtain ⟨rfl, rfl⟩ := H
       go_wp2
       go_ret2
       exact ⟨zE, zB⟩

/-! ### laws_szIntS: function 32 -/
set_option maxHeartbeats 8000000 in
set_option maxRecDepth 100000 in
theorem laws_szIntS.calls (A0 : Option Addr) (c0 : Nat) (l0 : List Int) (a1 : Int) (r : Int) (w : World) (hr0 : Kd.C (Kd.int .i64) w A0 l0.length l0) (hc0 : l0.length ≤ c0) (h : laws_szIntS.f l0 a1 = some r) :
  Calls Tryd.prog 32 #[.slice A0 l0.length c0, .int .i64 a1] w fun e w' => e = .returned (.int .i64 r) ∧ Drawn0 w w' := by
 have HR0 := Aside0.mk hr0
 have HC0 := Aside0.mk hc0
 clear hr0 hc0
 have H : (if (wrap64 (a1 - (l0.length : Int))) < 0 then (some (-1)) else (some (wrap64 (a1 - (l0.length : Int))))) = some r := h
 clear h
 by_cases c3 : (wrap64 (a1 - (l0.length : Int))) < 0
 ·rw [if_pos c3] at H
  have c3b0 : decide ((wrap64 (a1 - (l0.length : Int))) < 0) = true := decide_eq_true c3
  clear c3
  obtain rfl := Option.some.inj H
  go_enter Tryd.func32, Tryd.ntmps32
  go_wp2
  go_ret
  exact ⟨by first | rfl | (simp; done) | (simp [*]; done), by repeat (first | exact Drawn0.refl _ | apply Drawn0.step)⟩
 ·rw [if_neg c3] at H
  have c3b0 : decide ((wrap64 (a1 - (l0.length : Int))) < 0) = false := decide_eq_false c3
  clear c3
  obtain rfl := Option.some.inj H
  go_enter Tryd.func32, Tryd.ntmps32
  go_wp2
  go_ret
  exact ⟨by first | rfl | (simp; done) | (simp [*]; done), by repeat (first | exact Drawn0.refl _ | apply Drawn0.step)⟩

/-! ### laws_szFigure: function 14 -/
set_option maxHeartbeats 8000000 in
set_option maxRecDepth 100000 in
theorem laws_szFigure.calls (a0_0 : Int) (a0_1 : Int) (A0_2 : Option Addr) (c0_2 : Nat) (l0_2 : List Int) (A0_3 : Option Addr) (c0_3 : Nat) (l0_3 : List Int) (a1 : Int) (r : Int) (w : World) (hr0_2 : Kd.C (Kd.int .i64) w A0_2 l0_2.length l0_2) (hc0_2 : l0_2.length ≤ c0_2) (hr0_3 : Kd.C (Kd.int .i64) w A0_3 l0_3.length l0_3) (hc0_3 : l0_3.length ≤ c0_3) (h : laws_szFigure.f a0_0 a0_1 l0_2 l0_3 a1 = some r) :
  Calls Tryd.prog 14 #[.agg #[.int .i64 a0_0, .int .i64 a0_1, .slice A0_2 l0_2.length c0_2, .slice A0_3 l0_3.length c0_3], .int .i64 a1] w fun e w' => e = .returned (.int .i64 r) ∧ Below w.heap.size w w' := by
 have hu27 := Tryd.underlying27
 have HR0_2 := Aside0.mk hr0_2
 have HC0_2 := Aside0.mk hc0_2
 clear hr0_2 hc0_2
 have HR0_3 := Aside0.mk hr0_3
 have HC0_3 := Aside0.mk hc0_3
 clear hr0_3 hc0_3
 have HB := Aside0.mk (Below.refl w.heap.size w)
 have H : ((laws_szIntS.f l0_2 a1).bind fun t317 => (if t317 < 0 then (some (-1)) else ((laws_szIntS.f l0_3 t317).bind fun t318 => (if t318 < 0 then (some (-1)) else (some t318))))) = some r := h
 clear h
 replace H := Option.bind_eq_some_iff.mp H
 obtain ⟨t317, A30, H⟩ := H
 replace H : (if t317 < 0 then (some (-1)) else ((laws_szIntS.f l0_3 t317).bind fun t318 => (if t318 < 0 then (some (-1)) else (some t318)))) = some r := H
 have A3 := Aside0.mk A30
 clear A30
 by_cases c4 : t317 < 0
 ·rw [if_pos c4] at H
  have c4b0 : decide (t317 < 0) = true := decide_eq_true c4
  clear c4
  obtain rfl := Option.some.inj H
  go_enter Tryd.func14, Tryd.ntmps14
  go_wp2_with (first | ((with_reducible refine gate_dst (N := 2) rfl ?_); refine zbx 2 #[.int .i64 a0_0, .int .i64 a0_1, .slice A0_2 l0_2.length c0_2, .slice A0_3 l0_3.length c0_3] 27 ?_; intro gb316 hg w5 hbox hb; have BK316 := Aside0.mk (hbox); have GW316 := zGe hg; have GE316 := zGe hg; replace HB := zBb hb; clear hb hbox hg; obtain ⟨hcz6_0, hcz6_1, hcz6_2, hcz6_3, hfz6_0, hfz6_1, hfz6_2, hfz6_3⟩ := blk4 BK316) | ((with_reducible refine gate_callee (f := 32) rfl ?_); refine goesL_ (some 8) rfl rfl Tryd.func32 (by kernel_rfl) rfl #[.slice A0_2 l0_2.length c0_2, .int .i64 a1] rfl zM ?_; (with_reducible refine (laws_szIntS.calls _ _ l0_2 a1 t317 _ ?side1 ?side2 A3.out).mono ?_); (case side1 => exact zC HR0_2); (case side2 => exact HC0_2.out); rintro e w' ⟨rfl, ⟨nd, rfl⟩⟩; refine ⟨_, rfl, ?_⟩))
  go_ret
  exact ⟨zE, zB⟩
 ·rw [if_neg c4] at H
  have c4b0 : decide (t317 < 0) = false := decide_eq_false c4
  clear c4
  replace H := Option.bind_eq_some_iff.mp H
  obtain ⟨t318, A70, H⟩ := H
  replace H : (if t318 < 0 then (some (-1)) else (some t318)) = some r := H
  have A7 := Aside0.mk A70
  clear A70
  by_cases c8 : t318 < 0
  ·rw [if_pos c8] at H
   have c8b0 : decide (t318 < 0) = true := decide_eq_true c8
   clear c8
   obtain rfl := Option.some.inj H
   go_enter Tryd.func14, Tryd.ntmps14
   go_wp2_with (first | ((with_reducible refine gate_dst (N := 2) rfl ?_); refine zbx 2 #[.int .i64 a0_0, .int .i64 a0_1, .slice A0_2 l0_2.length c0_2, .slice A0_3 l0_3.length c0_3] 27 ?_; intro gb316 hg w9 hbox hb; have BK316 := Aside0.mk (hbox); have GW316 := zGe hg; have GE316 := zGe hg; replace HB := zBb hb; clear hb hbox hg; obtain ⟨hcz10_0, hcz10_1, hcz10_2, hcz10_3, hfz10_0, hfz10_1, hfz10_2, hfz10_3⟩ := blk4 BK316) | ((with_reducible refine gate_callee (f := 32) rfl ?_); refine goesL_ (some 8) rfl rfl Tryd.func32 (by kernel_rfl) rfl #[.slice A0_2 l0_2.length c0_2, .int .i64 a1] rfl zM ?_; (with_reducible refine (laws_szIntS.calls _ _ l0_2 a1 t317 _ ?side1 ?side2 A3.out).mono ?_); (case side1 => exact zC HR0_2); (case side2 => exact HC0_2.out); rintro e w' ⟨rfl, ⟨nd, rfl⟩⟩; refine ⟨_, rfl, ?_⟩) | ((with_reducible refine gate_callee (f := 32) rfl ?_); refine goesL_ (some 14) rfl rfl Tryd.func32 (by kernel_rfl) rfl #[.slice A0_3 l0_3.length c0_3, .int .i64 t317] rfl zM ?_; (with_reducible refine (laws_szIntS.calls _ _ l0_3 t317 t318 _ ?side1 ?side2 A7.out).mono ?_); (case side1 => exact zC HR0_3); (case side2 => exact HC0_3.out); rintro e w' ⟨rfl, ⟨nd, rfl⟩⟩; refine ⟨_, rfl, ?_⟩))
   go_ret
   exact ⟨zE, zB⟩
  ·rw [if_neg c8] at H
   have c8b0 : decide (t318 < 0) = false := decide_eq_false c8
   clear c8
   obtain rfl := Option.some.inj H
   go_enter Tryd.func14, Tryd.ntmps14
   go_wp2_with (first | ((with_reducible refine gate_dst (N := 2) rfl ?_); refine zbx 2 #[.int .i64 a0_0, .int .i64 a0_1, .slice A0_2 l0_2.length c0_2, .slice A0_3 l0_3.length c0_3] 27 ?_; intro gb316 hg w11 hbox hb; have BK316 := Aside0.mk (hbox); have GW316 := zGe hg; have GE316 := zGe hg; replace HB := zBb hb; clear hb hbox hg; obtain ⟨hcz12_0, hcz12_1, hcz12_2, hcz12_3, hfz12_0, hfz12_1, hfz12_2, hfz12_3⟩ := blk4 BK316) | ((with_reducible refine gate_callee (f := 32) rfl ?_); refine goesL_ (some 8) rfl rfl Tryd.func32 (by kernel_rfl) rfl #[.slice A0_2 l0_2.length c0_2, .int .i64 a1] rfl zM ?_; (with_reducible refine (laws_szIntS.calls _ _ l0_2 a1 t317 _ ?side1 ?side2 A3.out).mono ?_); (case side1 => exact zC HR0_2); (case side2 => exact HC0_2.out); rintro e w' ⟨rfl, ⟨nd, rfl⟩⟩; refine ⟨_, rfl, ?_⟩) | ((with_reducible refine gate_callee (f := 32) rfl ?_); refine goesL_ (some 14) rfl rfl Tryd.func32 (by kernel_rfl) rfl #[.slice A0_3 l0_3.length c0_3, .int .i64 t317] rfl zM ?_; (with_reducible refine (laws_szIntS.calls _ _ l0_3 t317 t318 _ ?side1 ?side2 A7.out).mono ?_); (case side1 => exact zC HR0_3); (case side2 => exact HC0_3.out); rintro e w' ⟨rfl, ⟨nd, rfl⟩⟩; refine ⟨_, rfl, ?_⟩))
   go_ret
   exact ⟨zE, zB⟩

end Go.Proofs.YtfkbjflndkjlnaaDoor.P
