import Derived.Test.YtopifdmaaibcnaaDoorVd
import Derived.Test.YtopifdmaaibcnaaDoorVc0
import Derived.Test.YtopifdmaaibcnaaDoorVc1
import Derived.Test.YtopifdmaaibcnaaDoorVc3
import Derived.Test.YtopifdmaaibcnaaDoorVc5
namespace Go.Proofs.YtopifdmaaibcnaaDoor.V
open Go.RowKit Go.Proofs.YtopifdmaaibcnaaDoorW.PrintWords Go.Proofs.YtopifdmaaibcnaaDoorW.PrintLast Go.Proofs.YtopifdmaaibcnaaDoorW.PrintMore
attribute [local go_sem] max2_int min2_int max_two min_two max_three min_three max_four min_four
set_option linter.unusedVariables false
set_option linter.unusedSimpArgs false

/-! ### impl_isFew: function 55 -/
set_option maxHeartbeats 8000000 in
set_option maxRecDepth 100000 in
theorem impl_isFew.calls (k : Nat) (a0_0 : Int) (a0_1 : Int) (A0_2 : Option Addr) (c0_2 : Nat) (l0_2 : List Int) (A0_3 : Option Addr) (c0_3 : Nat) (l0_3 : List Int) (r : Bool) (w : World) (hr0_2 : Kd.C (Kd.int .i64) w A0_2 l0_2.length l0_2) (hc0_2 : l0_2.length ≤ c0_2) (hr0_3 : Kd.C (Kd.int .i64) w A0_3 l0_3.length l0_3) (hc0_3 : l0_3.length ≤ c0_3) (h : impl_isFew.f k a0_0 a0_1 l0_2 l0_3 = some r) :
  Calls Tryd.prog 55 #[.agg #[.int .i64 a0_0, .int .i64 a0_1, .slice A0_2 l0_2.length c0_2, .slice A0_3 l0_3.length c0_3]] w fun e w' => e = .returned (.bool r) ∧ Below w.heap.size w w' := by
 have hu26 := Tryd.underlying26
 have HR0_2 := Aside0.mk hr0_2
 have HC0_2 := Aside0.mk hc0_2
 clear hr0_2 hc0_2
 have HR0_3 := Aside0.mk hr0_3
 have HC0_3 := Aside0.mk hc0_3
 clear hr0_3 hc0_3
 have HB := Aside0.mk (Below.refl w.heap.size w)
 have H : ((impl_IsFigure.f k a0_0 a0_1 l0_2 l0_3).bind fun t260 => (if t260 = true then (some (decide ((wrap64 (a0_0 * a0_1)) ≤ 9))) else (some false))) = some r := h
 clear h
 replace H := Option.bind_eq_some_iff.mp H
 obtain ⟨t260, A20, H⟩ := H
 replace H : (if t260 = true then (some (decide ((wrap64 (a0_0 * a0_1)) ≤ 9))) else (some false)) = some r := H
 have A2 := Aside0.mk A20
 clear A20
 by_cases c3 : t260 = true
 ·subst c3
  have H1 : (some (decide ((wrap64 (a0_0 * a0_1)) ≤ 9))) = some r := by rw [if_pos rfl] at H; exact H
  clear H
  have H := H1
  clear H1
  obtain rfl := Option.some.inj H
  go_enter Tryd.func55, Tryd.ntmps55
  go_wp2_with (first | ((with_reducible refine gate_dst (N := 1) rfl ?_); refine zbx 1 #[.int .i64 a0_0, .int .i64 a0_1, .slice A0_2 l0_2.length c0_2, .slice A0_3 l0_3.length c0_3] 26 ?_; intro gb259 hg w4 hbox hb; have BK259 := Aside0.mk (hbox); have GW259 := zGe hg; have GE259 := zGe hg; replace HB := zBb hb; clear hb hbox hg; obtain ⟨hcz5_0, hcz5_1, hcz5_2, hcz5_3, hfz5_0, hfz5_1, hfz5_2, hfz5_3⟩ := blk4 BK259) | ((with_reducible refine gate_callee (f := 62) rfl ?_); refine goesL_ (some 4) rfl rfl Tryd.func62 (by kernel_rfl) rfl #[.agg #[.int .i64 a0_0, .int .i64 a0_1, .slice A0_2 l0_2.length c0_2, .slice A0_3 l0_3.length c0_3]] rfl zM ?_; (with_reducible refine (impl_IsFigure.calls k a0_0 a0_1 _ _ l0_2 _ _ l0_3 true _ ?side1 ?side2 ?side3 ?side4 A2.out).mono ?_); (case side1 => exact zC HR0_2); (case side2 => exact HC0_2.out); (case side3 => exact zC HR0_3); (case side4 => exact HC0_3.out); rintro e w6 ⟨rfl, hb⟩; refine ⟨_, rfl, ?_⟩; replace BK259 := zKb BK259 hb; replace HB := zBb hb; (try clear hb); (try clear hb2); (try clear hk); (try clear hi); obtain ⟨hcz7_0, hcz7_1, hcz7_2, hcz7_3, hfz7_0, hfz7_1, hfz7_2, hfz7_3⟩ := blk4 BK259))
  go_ret
  exact ⟨zE, zB⟩
 ·replace c3 := Bool.eq_false_iff.mpr c3
  subst c3
  have H1 : (some false) = some r := by rw [if_neg (show ¬ (false = true) by decide)] at H; exact H
  clear H
  have H := H1
  clear H1
  obtain rfl := Option.some.inj H
  go_enter Tryd.func55, Tryd.ntmps55
  go_wp2_with (first | ((with_reducible refine gate_dst (N := 1) rfl ?_); refine zbx 1 #[.int .i64 a0_0, .int .i64 a0_1, .slice A0_2 l0_2.length c0_2, .slice A0_3 l0_3.length c0_3] 26 ?_; intro gb259 hg w8 hbox hb; have BK259 := Aside0.mk (hbox); have GW259 := zGe hg; have GE259 := zGe hg; replace HB := zBb hb; clear hb hbox hg; obtain ⟨hcz9_0, hcz9_1, hcz9_2, hcz9_3, hfz9_0, hfz9_1, hfz9_2, hfz9_3⟩ := blk4 BK259) | ((with_reducible refine gate_callee (f := 62) rfl ?_); refine goesL_ (some 4) rfl rfl Tryd.func62 (by kernel_rfl) rfl #[.agg #[.int .i64 a0_0, .int .i64 a0_1, .slice A0_2 l0_2.length c0_2, .slice A0_3 l0_3.length c0_3]] rfl zM ?_; (with_reducible refine (impl_IsFigure.calls k a0_0 a0_1 _ _ l0_2 _ _ l0_3 false _ ?side1 ?side2 ?side3 ?side4 A2.out).mono ?_); (case side1 => exact zC HR0_2); (case side2 => exact HC0_2.out); (case side3 => exact zC HR0_3); (case side4 => exact HC0_3.out); rintro e w10 ⟨rfl, hb⟩; refine ⟨_, rfl, ?_⟩; replace BK259 := zKb BK259 hb; replace HB := zBb hb; (try clear hb); (try clear hb2); (try clear hk); (try clear hi)))
  go_ret
  exact ⟨zE, zB⟩

/-! ### impl_way_isRight: function 50 -/
set_option maxHeartbeats 8000000 in
set_option maxRecDepth 100000 in
theorem impl_way_isRight.calls (k : Nat) (a0_0 : Int) (a0_1 : Int) (A0_2 : Option Addr) (c0_2 : Nat) (l0_2 : List Int) (A0_3 : Option Addr) (c0_3 : Nat) (l0_3 : List Int) (a0_4 : Int) (a0_5 : Bool) (r : Bool) (w : World) (hr0_2 : Kd.C (Kd.int .i64) w A0_2 l0_2.length l0_2) (hc0_2 : l0_2.length ≤ c0_2) (hr0_3 : Kd.C (Kd.int .i64) w A0_3 l0_3.length l0_3) (hc0_3 : l0_3.length ≤ c0_3) (h : impl_way_isRight.f k a0_0 a0_1 l0_2 l0_3 a0_4 a0_5 = some r) :
  Calls Tryd.prog 50 #[.agg #[.int .i64 a0_0, .int .i64 a0_1, .slice A0_2 l0_2.length c0_2, .slice A0_3 l0_3.length c0_3, .int .i64 a0_4, .bool a0_5]] w fun e w' => e = .returned (.bool r) ∧ Below w.heap.size w w' := by
 have hu65 := Tryd.underlying65
 have hu26 := Tryd.underlying26
 have HR0_2 := Aside0.mk hr0_2
 have HC0_2 := Aside0.mk hc0_2
 clear hr0_2 hc0_2
 have HR0_3 := Aside0.mk hr0_3
 have HC0_3 := Aside0.mk hc0_3
 clear hr0_3 hc0_3
 have HB := Aside0.mk (Below.refl w.heap.size w)
 have H : (if a0_5 = true then ((impl_isFew.f k a0_0 a0_1 l0_2 l0_3).bind fun t262 => (if t262 = true then ((impl_within.f a0_4 0 2).bind fun t263 => (some t263)) else (some false))) else ((impl_isFew.f k a0_0 a0_1 l0_2 l0_3).bind fun t264 => (if t264 = true then ((impl_within.f a0_4 0 4).bind fun t265 => (some t265)) else (some false)))) = some r := h
 clear h
 by_cases c2 : a0_5 = true
 ·subst c2
  have H1 : ((impl_isFew.f k a0_0 a0_1 l0_2 l0_3).bind fun t262 => (if t262 = true then ((impl_within.f a0_4 0 2).bind fun t263 => (some t263)) else (some false))) = some r := by rw [if_pos rfl] at H; exact H
  clear H
  have H := H1
  clear H1
  replace H := Option.bind_eq_some_iff.mp H
  obtain ⟨t262, A30, H⟩ := H
  replace H : (if t262 = true then ((impl_within.f a0_4 0 2).bind fun t263 => (some t263)) else (some false)) = some r := H
  have A3 := Aside0.mk A30
  clear A30
  by_cases c4 : t262 = true
  ·subst c4
   have H1 : ((impl_within.f a0_4 0 2).bind fun t263 => (some t263)) = some r := by rw [if_pos rfl] at H; exact H
   clear H
   have H := H1
   clear H1
   replace H := Option.bind_eq_some_iff.mp H
   obtain ⟨t263, A50, H⟩ := H
   replace H : (some t263) = some r := H
   have A5 := Aside0.mk A50
   clear A50
   obtain rfl := Option.some.inj H
   go_enter Tryd.func50, Tryd.ntmps50
   go_wp2_with (first | ((with_reducible refine gate_dst (N := 1) rfl ?_); refine zbx 1 #[.int .i64 a0_0, .int .i64 a0_1, .slice A0_2 l0_2.length c0_2, .slice A0_3 l0_3.length c0_3, .int .i64 a0_4, .bool true] 65 ?_; intro gb261 hg w6 hbox hb; have BK261 := Aside0.mk (hbox); have GW261 := zGe hg; have GE261 := zGe hg; replace HB := zBb hb; clear hb hbox hg; have hcz7_0 : w6.cell? ⟨gb261, 0, none⟩ = some (.int .i64 a0_0) := (blk_cell BK261.out 0).trans rfl; have hcz7_1 : w6.cell? ⟨gb261, 1, none⟩ = some (.int .i64 a0_1) := (blk_cell BK261.out 1).trans rfl; have hcz7_2 : w6.cell? ⟨gb261, 2, none⟩ = some (.slice A0_2 l0_2.length c0_2) := (blk_cell BK261.out 2).trans rfl; have hcz7_3 : w6.cell? ⟨gb261, 3, none⟩ = some (.slice A0_3 l0_3.length c0_3) := (blk_cell BK261.out 3).trans rfl; have hcz7_4 : w6.cell? ⟨gb261, 4, none⟩ = some (.int .i64 a0_4) := (blk_cell BK261.out 4).trans rfl; have hcz7_5 : w6.cell? ⟨gb261, 5, none⟩ = some (.bool true) := (blk_cell BK261.out 5).trans rfl; have hfz7_0 := blk_frozen BK261.out 0; have hfz7_1 := blk_frozen BK261.out 1; have hfz7_2 := blk_frozen BK261.out 2; have hfz7_3 := blk_frozen BK261.out 3; have hfz7_4 := blk_frozen BK261.out 4; have hfz7_5 := blk_frozen BK261.out 5) | ((with_reducible refine gate_callee (f := 55) rfl ?_); refine goesL_ (some 8) rfl rfl Tryd.func55 (by kernel_rfl) rfl #[.agg #[.int .i64 a0_0, .int .i64 a0_1, .slice A0_2 l0_2.length c0_2, .slice A0_3 l0_3.length c0_3]] rfl zM ?_; (with_reducible refine (impl_isFew.calls k a0_0 a0_1 _ _ l0_2 _ _ l0_3 true _ ?side1 ?side2 ?side3 ?side4 A3.out).mono ?_); (case side1 => exact zC HR0_2); (case side2 => exact HC0_2.out); (case side3 => exact zC HR0_3); (case side4 => exact HC0_3.out); rintro e w8 ⟨rfl, hb⟩; refine ⟨_, rfl, ?_⟩; replace BK261 := zKb BK261 hb; replace HB := zBb hb; (try clear hb); (try clear hb2); (try clear hk); (try clear hi); have hcz9_0 : w8.cell? ⟨gb261, 0, none⟩ = some (.int .i64 a0_0) := (blk_cell BK261.out 0).trans rfl; have hcz9_1 : w8.cell? ⟨gb261, 1, none⟩ = some (.int .i64 a0_1) := (blk_cell BK261.out 1).trans rfl; have hcz9_2 : w8.cell? ⟨gb261, 2, none⟩ = some (.slice A0_2 l0_2.length c0_2) := (blk_cell BK261.out 2).trans rfl; have hcz9_3 : w8.cell? ⟨gb261, 3, none⟩ = some (.slice A0_3 l0_3.length c0_3) := (blk_cell BK261.out 3).trans rfl; have hcz9_4 : w8.cell? ⟨gb261, 4, none⟩ = some (.int .i64 a0_4) := (blk_cell BK261.out 4).trans rfl; have hcz9_5 : w8.cell? ⟨gb261, 5, none⟩ = some (.bool true) := (blk_cell BK261.out 5).trans rfl; have hfz9_0 := blk_frozen BK261.out 0; have hfz9_1 := blk_frozen BK261.out 1; have hfz9_2 := blk_frozen BK261.out 2; have hfz9_3 := blk_frozen BK261.out 3; have hfz9_4 := blk_frozen BK261.out 4; have hfz9_5 := blk_frozen BK261.out 5) | (go_at_call 56; (with_reducible refine (impl_within.calls a0_4 0 2 t263 _ A5.out).mono ?_); rintro e w' ⟨rfl, ⟨nd, rfl⟩⟩))
   go_ret
   exact ⟨zE, zB⟩
  ·replace c4 := Bool.eq_false_iff.mpr c4
   subst c4
   have H1 : (some false) = some r := by rw [if_neg (show ¬ (false = true) by decide)] at H; exact H
   clear H
   have H := H1
   clear H1
   obtain rfl := Option.some.inj H
   go_enter Tryd.func50, Tryd.ntmps50
   go_wp2_with (first | ((with_reducible refine gate_dst (N := 1) rfl ?_); refine zbx 1 #[.int .i64 a0_0, .int .i64 a0_1, .slice A0_2 l0_2.length c0_2, .slice A0_3 l0_3.length c0_3, .int .i64 a0_4, .bool true] 65 ?_; intro gb261 hg w10 hbox hb; have BK261 := Aside0.mk (hbox); have GW261 := zGe hg; have GE261 := zGe hg; replace HB := zBb hb; clear hb hbox hg; have hcz11_0 : w10.cell? ⟨gb261, 0, none⟩ = some (.int .i64 a0_0) := (blk_cell BK261.out 0).trans rfl; have hcz11_1 : w10.cell? ⟨gb261, 1, none⟩ = some (.int .i64 a0_1) := (blk_cell BK261.out 1).trans rfl; have hcz11_2 : w10.cell? ⟨gb261, 2, none⟩ = some (.slice A0_2 l0_2.length c0_2) := (blk_cell BK261.out 2).trans rfl; have hcz11_3 : w10.cell? ⟨gb261, 3, none⟩ = some (.slice A0_3 l0_3.length c0_3) := (blk_cell BK261.out 3).trans rfl; have hcz11_4 : w10.cell? ⟨gb261, 4, none⟩ = some (.int .i64 a0_4) := (blk_cell BK261.out 4).trans rfl; have hcz11_5 : w10.cell? ⟨gb261, 5, none⟩ = some (.bool true) := (blk_cell BK261.out 5).trans rfl; have hfz11_0 := blk_frozen BK261.out 0; have hfz11_1 := blk_frozen BK261.out 1; have hfz11_2 := blk_frozen BK261.out 2; have hfz11_3 := blk_frozen BK261.out 3; have hfz11_4 := blk_frozen BK261.out 4; have hfz11_5 := blk_frozen BK261.out 5) | ((with_reducible refine gate_callee (f := 55) rfl ?_); refine goesL_ (some 8) rfl rfl Tryd.func55 (by kernel_rfl) rfl #[.agg #[.int .i64 a0_0, .int .i64 a0_1, .slice A0_2 l0_2.length c0_2, .slice A0_3 l0_3.length c0_3]] rfl zM ?_; (with_reducible refine (impl_isFew.calls k a0_0 a0_1 _ _ l0_2 _ _ l0_3 false _ ?side1 ?side2 ?side3 ?side4 A3.out).mono ?_); (case side1 => exact zC HR0_2); (case side2 => exact HC0_2.out); (case side3 => exact zC HR0_3); (case side4 => exact HC0_3.out); rintro e w12 ⟨rfl, hb⟩; refine ⟨_, rfl, ?_⟩; replace BK261 := zKb BK261 hb; replace HB := zBb hb; (try clear hb); (try clear hb2); (try clear hk); (try clear hi)))
   go_ret
   exact ⟨zE, zB⟩
 ·replace c2 := Bool.eq_false_iff.mpr c2
  subst c2
  have H1 : ((impl_isFew.f k a0_0 a0_1 l0_2 l0_3).bind fun t264 => (if t264 = true then ((impl_within.f a0_4 0 4).bind fun t265 => (some t265)) else (some false))) = some r := by rw [if_neg (show ¬ (false = true) by decide)] at H; exact H
  clear H
  have H := H1
  clear H1
  replace H := Option.bind_eq_some_iff.mp H
  obtain ⟨t264, A130, H⟩ := H
  replace H : (if t264 = true then ((impl_within.f a0_4 0 4).bind fun t265 => (some t265)) else (some false)) = some r := H
  have A13 := Aside0.mk A130
  clear A130
  by_cases c14 : t264 = true
  ·subst c14
   have H1 : ((impl_within.f a0_4 0 4).bind fun t265 => (some t265)) = some r := by rw [if_pos rfl] at H; exact H
   clear H
   have H := H1
   clear H1
   replace H := Option.bind_eq_some_iff.mp H
   obtain ⟨t265, A150, H⟩ := H
   replace H : (some t265) = some r := H
   have A15 := Aside0.mk A150
   clear A150
   obtain rfl := Option.some.inj H
   go_enter Tryd.func50, Tryd.ntmps50
   go_wp2_with (first | ((with_reducible refine gate_dst (N := 1) rfl ?_); refine zbx 1 #[.int .i64 a0_0, .int .i64 a0_1, .slice A0_2 l0_2.length c0_2, .slice A0_3 l0_3.length c0_3, .int .i64 a0_4, .bool false] 65 ?_; intro gb261 hg w16 hbox hb; have BK261 := Aside0.mk (hbox); have GW261 := zGe hg; have GE261 := zGe hg; replace HB := zBb hb; clear hb hbox hg; have hcz17_0 : w16.cell? ⟨gb261, 0, none⟩ = some (.int .i64 a0_0) := (blk_cell BK261.out 0).trans rfl; have hcz17_1 : w16.cell? ⟨gb261, 1, none⟩ = some (.int .i64 a0_1) := (blk_cell BK261.out 1).trans rfl; have hcz17_2 : w16.cell? ⟨gb261, 2, none⟩ = some (.slice A0_2 l0_2.length c0_2) := (blk_cell BK261.out 2).trans rfl; have hcz17_3 : w16.cell? ⟨gb261, 3, none⟩ = some (.slice A0_3 l0_3.length c0_3) := (blk_cell BK261.out 3).trans rfl; have hcz17_4 : w16.cell? ⟨gb261, 4, none⟩ = some (.int .i64 a0_4) := (blk_cell BK261.out 4).trans rfl; have hcz17_5 : w16.cell? ⟨gb261, 5, none⟩ = some (.bool false) := (blk_cell BK261.out 5).trans rfl; have hfz17_0 := blk_frozen BK261.out 0; have hfz17_1 := blk_frozen BK261.out 1; have hfz17_2 := blk_frozen BK261.out 2; have hfz17_3 := blk_frozen BK261.out 3; have hfz17_4 := blk_frozen BK261.out 4; have hfz17_5 := blk_frozen BK261.out 5) | ((with_reducible refine gate_callee (f := 55) rfl ?_); refine goesL_ (some 8) rfl rfl Tryd.func55 (by kernel_rfl) rfl #[.agg #[.int .i64 a0_0, .int .i64 a0_1, .slice A0_2 l0_2.length c0_2, .slice A0_3 l0_3.length c0_3]] rfl zM ?_; (with_reducible refine (impl_isFew.calls k a0_0 a0_1 _ _ l0_2 _ _ l0_3 true _ ?side1 ?side2 ?side3 ?side4 A13.out).mono ?_); (case side1 => exact zC HR0_2); (case side2 => exact HC0_2.out); (case side3 => exact zC HR0_3); (case side4 => exact HC0_3.out); rintro e w18 ⟨rfl, hb⟩; refine ⟨_, rfl, ?_⟩; replace BK261 := zKb BK261 hb; replace HB := zBb hb; (try clear hb); (try clear hb2); (try clear hk); (try clear hi); have hcz19_0 : w18.cell? ⟨gb261, 0, none⟩ = some (.int .i64 a0_0) := (blk_cell BK261.out 0).trans rfl; have hcz19_1 : w18.cell? ⟨gb261, 1, none⟩ = some (.int .i64 a0_1) := (blk_cell BK261.out 1).trans rfl; have hcz19_2 : w18.cell? ⟨gb261, 2, none⟩ = some (.slice A0_2 l0_2.length c0_2) := (blk_cell BK261.out 2).trans rfl; have hcz19_3 : w18.cell? ⟨gb261, 3, none⟩ = some (.slice A0_3 l0_3.length c0_3) := (blk_cell BK261.out 3).trans rfl; have hcz19_4 : w18.cell? ⟨gb261, 4, none⟩ = some (.int .i64 a0_4) := (blk_cell BK261.out 4).trans rfl; have hcz19_5 : w18.cell? ⟨gb261, 5, none⟩ = some (.bool false) := (blk_cell BK261.out 5).trans rfl; have hfz19_0 := blk_frozen BK261.out 0; have hfz19_1 := blk_frozen BK261.out 1; have hfz19_2 := blk_frozen BK261.out 2; have hfz19_3 := blk_frozen BK261.out 3; have hfz19_4 := blk_frozen BK261.out 4; have hfz19_5 := blk_frozen BK261.out 5) | (go_at_call 56; (with_reducible refine (impl_within.calls a0_4 0 4 t265 _ A15.out).mono ?_); rintro e w' ⟨rfl, ⟨nd, rfl⟩⟩))
   go_ret
   exact ⟨zE, zB⟩
  ·replace c14 := Bool.eq_false_iff.mpr c14
   subst c14
   have H1 : (some false) = some r := by rw [if_neg (show ¬ (false = true) by decide)] at H; exact H
   clear H
   have H := H1
   clear H1
   obtain rfl := Option.some.inj H
   go_enter Tryd.func50, Tryd.ntmps50
   go_wp2_with (first | ((with_reducible refine gate_dst (N := 1) rfl ?_); refine zbx 1 #[.int .i64 a0_0, .int .i64 a0_1, .slice A0_2 l0_2.length c0_2, .slice A0_3 l0_3.length c0_3, .int .i64 a0_4, .bool false] 65 ?_; intro gb261 hg w20 hbox hb; have BK261 := Aside0.mk (hbox); have GW261 := zGe hg; have GE261 := zGe hg; replace HB := zBb hb; clear hb hbox hg; have hcz21_0 : w20.cell? ⟨gb261, 0, none⟩ = some (.int .i64 a0_0) := (blk_cell BK261.out 0).trans rfl; have hcz21_1 : w20.cell? ⟨gb261, 1, none⟩ = some (.int .i64 a0_1) := (blk_cell BK261.out 1).trans rfl; have hcz21_2 : w20.cell? ⟨gb261, 2, none⟩ = some (.slice A0_2 l0_2.length c0_2) := (blk_cell BK261.out 2).trans rfl; have hcz21_3 : w20.cell? ⟨gb261, 3, none⟩ = some (.slice A0_3 l0_3.length c0_3) := (blk_cell BK261.out 3).trans rfl; have hcz21_4 : w20.cell? ⟨gb261, 4, none⟩ = some (.int .i64 a0_4) := (blk_cell BK261.out 4).trans rfl; have hcz21_5 : w20.cell? ⟨gb261, 5, none⟩ = some (.bool false) := (blk_cell BK261.out 5).trans rfl; have hfz21_0 := blk_frozen BK261.out 0; have hfz21_1 := blk_frozen BK261.out 1; have hfz21_2 := blk_frozen BK261.out 2; have hfz21_3 := blk_frozen BK261.out 3; have hfz21_4 := blk_frozen BK261.out 4; have hfz21_5 := blk_frozen BK261.out 5) | ((with_reducible refine gate_callee (f := 55) rfl ?_); refine goesL_ (some 8) rfl rfl Tryd.func55 (by kernel_rfl) rfl #[.agg #[.int .i64 a0_0, .int .i64 a0_1, .slice A0_2 l0_2.length c0_2, .slice A0_3 l0_3.length c0_3]] rfl zM ?_; (with_reducible refine (impl_isFew.calls k a0_0 a0_1 _ _ l0_2 _ _ l0_3 false _ ?side1 ?side2 ?side3 ?side4 A13.out).mono ?_); (case side1 => exact zC HR0_2); (case side2 => exact HC0_2.out); (case side3 => exact zC HR0_3); (case side4 => exact HC0_3.out); rintro e w22 ⟨rfl, hb⟩; refine ⟨_, rfl, ?_⟩; replace BK261 := zKb BK261 hb; replace HB := zBb hb; (try clear hb); (try clear hb2); (try clear hk); (try clear hi)))
   go_ret
   exact ⟨zE, zB⟩

/-! ### impl_isNumber: function 51 -/
set_option maxHeartbeats 8000000 in
set_option maxRecDepth 100000 in
theorem impl_isNumber.calls (a0 : Int) (r : Bool) (w : World) (h : impl_isNumber.f a0 = some r) :
  Calls Tryd.prog 51 #[.int .i64 a0] w fun e w' => e = .returned (.bool r) ∧ Drawn0 w w' := by
 have H : ((impl_within.f a0 0 100).bind fun t266 => (some t266)) = some r := h
 clear h
 replace H := Option.bind_eq_some_iff.mp H
 obtain ⟨t266, A20, H⟩ := H
 replace H : (some t266) = some r := H
 have A2 := Aside0.mk A20
 clear A20
 obtain rfl := Option.some.inj H
 go_enter Tryd.func51, Tryd.ntmps51
 go_wp2_with (first | ((with_reducible refine gate_callee (f := 56) rfl ?_); refine goesL_ (some 4) rfl rfl Tryd.func56 (by kernel_rfl) rfl #[.int .i64 a0, .int .i64 0, .int .i64 100] rfl zM ?_; (with_reducible refine (impl_within.calls a0 0 100 t266 _ A2.out).mono ?_); rintro e w' ⟨rfl, ⟨nd, rfl⟩⟩; refine ⟨_, rfl, ?_⟩))
 go_ret
 exact ⟨by first | rfl | (simp; done) | (simp [*]; done), by repeat (first | exact Drawn0.refl _ | apply Drawn0.step)⟩

/-! ### impl_way_count: function 42 -/
set_option maxHeartbeats 8000000 in
set_option maxRecDepth 100000 in
theorem impl_way_count.calls (k : Nat) (a0_0 : Int) (a0_1 : Int) (A0_2 : Option Addr) (c0_2 : Nat) (l0_2 : List Int) (A0_3 : Option Addr) (c0_3 : Nat) (l0_3 : List Int) (a0_4 : Int) (a0_5 : Bool) (a1 : Int) (a2 : Bool) (r1 : Int) (r2 : Bool) (w : World) (hT : TzTab w) (hr0_2 : Kd.C (Kd.int .i64) w A0_2 l0_2.length l0_2) (hc0_2 : l0_2.length ≤ c0_2) (hr0_3 : Kd.C (Kd.int .i64) w A0_3 l0_3.length l0_3) (hc0_3 : l0_3.length ≤ c0_3) (h : impl_way_count.f k a0_0 a0_1 l0_2 l0_3 a0_4 a0_5 a1 a2 = some (r1, r2)) :
  Calls Tryd.prog 42 #[.agg #[.int .i64 a0_0, .int .i64 a0_1, .slice A0_2 l0_2.length c0_2, .slice A0_3 l0_3.length c0_3, .int .i64 a0_4, .bool a0_5], .int .i64 a1, .bool a2] w fun e w' => e = .returned (.tuple #[.int .i64 r1, .bool r2]) ∧ Below w.heap.size w w' := by
 have hu65 := Tryd.underlying65
 have HT := Aside0.mk hT
 clear hT
 have HR0_2 := Aside0.mk hr0_2
 have HC0_2 := Aside0.mk hc0_2
 clear hr0_2 hc0_2
 have HR0_3 := Aside0.mk hr0_3
 have HC0_3 := Aside0.mk hc0_3
 clear hr0_3 hc0_3
 have HB := Aside0.mk (Below.refl w.heap.size w)
 have H : ((impl_way_isRight.f k a0_0 a0_1 l0_2 l0_3 a0_4 a0_5).bind fun t268 => (if t268 = true then ((impl_isNumber.f a1).bind fun t269 => (if t269 = true then ((impl_way_with.f k a0_0 a0_1 l0_2 l0_3 a0_4 a0_5 a1 a2).bind fun t270 => (some ((t270.length : Int), true))) else (some (0, false)))) else (some (0, false)))) = some (r1, r2) := h
 clear h
 replace H := Option.bind_eq_some_iff.mp H
 obtain ⟨t268, A40, H⟩ := H
 replace H : (if t268 = true then ((impl_isNumber.f a1).bind fun t269 => (if t269 = true then ((impl_way_with.f k a0_0 a0_1 l0_2 l0_3 a0_4 a0_5 a1 a2).bind fun t270 => (some ((t270.length : Int), true))) else (some (0, false)))) else (some (0, false))) = some (r1, r2) := H
 have A4 := Aside0.mk A40
 clear A40
 by_cases c5 : t268 = true
 ·subst c5
  have H1 : ((impl_isNumber.f a1).bind fun t269 => (if t269 = true then ((impl_way_with.f k a0_0 a0_1 l0_2 l0_3 a0_4 a0_5 a1 a2).bind fun t270 => (some ((t270.length : Int), true))) else (some (0, false)))) = some (r1, r2) := by rw [if_pos rfl] at H; exact H
  clear H
  have H := H1
  clear H1
  replace H := Option.bind_eq_some_iff.mp H
  obtain ⟨t269, A60, H⟩ := H
  replace H : (if t269 = true then ((impl_way_with.f k a0_0 a0_1 l0_2 l0_3 a0_4 a0_5 a1 a2).bind fun t270 => (some ((t270.length : Int), true))) else (some (0, false))) = some (r1, r2) := H
  have A6 := Aside0.mk A60
  clear A60
  by_cases c7 : t269 = true
  ·subst c7
   have H1 : ((impl_way_with.f k a0_0 a0_1 l0_2 l0_3 a0_4 a0_5 a1 a2).bind fun t270 => (some ((t270.length : Int), true))) = some (r1, r2) := by rw [if_pos rfl] at H; exact H
   clear H
   have H := H1
   clear H1
   replace H := Option.bind_eq_some_iff.mp H
   obtain ⟨t270, A80, H⟩ := H
   replace H : (some ((t270.length : Int), true)) = some (r1, r2) := H
   have A8 := Aside0.mk A80
   clear A80
   simp only [Option.some.injEq, Prod.mk.injEq] at H
   obtain ⟨rfl, rfl⟩ := H
   go_enter Tryd.func42, Tryd.ntmps42
   go_wp2_with (first | ((with_reducible refine gate_dst (N := 3) rfl ?_); refine zbx 3 #[.int .i64 a0_0, .int .i64 a0_1, .slice A0_2 l0_2.length c0_2, .slice A0_3 l0_3.length c0_3, .int .i64 a0_4, .bool a0_5] 65 ?_; intro gb267 hg w9 hbox hb; have BK267 := Aside0.mk (hbox); have GW267 := zGe hg; have GE267 := zGe hg; replace HB := zBb hb; clear hb hbox hg; have hcz10_0 : w9.cell? ⟨gb267, 0, none⟩ = some (.int .i64 a0_0) := (blk_cell BK267.out 0).trans rfl; have hcz10_1 : w9.cell? ⟨gb267, 1, none⟩ = some (.int .i64 a0_1) := (blk_cell BK267.out 1).trans rfl; have hcz10_2 : w9.cell? ⟨gb267, 2, none⟩ = some (.slice A0_2 l0_2.length c0_2) := (blk_cell BK267.out 2).trans rfl; have hcz10_3 : w9.cell? ⟨gb267, 3, none⟩ = some (.slice A0_3 l0_3.length c0_3) := (blk_cell BK267.out 3).trans rfl; have hcz10_4 : w9.cell? ⟨gb267, 4, none⟩ = some (.int .i64 a0_4) := (blk_cell BK267.out 4).trans rfl; have hcz10_5 : w9.cell? ⟨gb267, 5, none⟩ = some (.bool a0_5) := (blk_cell BK267.out 5).trans rfl; have hfz10_0 := blk_frozen BK267.out 0; have hfz10_1 := blk_frozen BK267.out 1; have hfz10_2 := blk_frozen BK267.out 2; have hfz10_3 := blk_frozen BK267.out 3; have hfz10_4 := blk_frozen BK267.out 4; have hfz10_5 := blk_frozen BK267.out 5) | ((with_reducible refine gate_callee (f := 50) rfl ?_); refine goesL_ (some 9) rfl rfl Tryd.func50 (by kernel_rfl) rfl #[.agg #[.int .i64 a0_0, .int .i64 a0_1, .slice A0_2 l0_2.length c0_2, .slice A0_3 l0_3.length c0_3, .int .i64 a0_4, .bool a0_5]] rfl zM ?_; (with_reducible refine (impl_way_isRight.calls k a0_0 a0_1 _ _ l0_2 _ _ l0_3 a0_4 a0_5 true _ ?side1 ?side2 ?side3 ?side4 A4.out).mono ?_); (case side1 => exact zC HR0_2); (case side2 => exact HC0_2.out); (case side3 => exact zC HR0_3); (case side4 => exact HC0_3.out); rintro e w11 ⟨rfl, hb⟩; refine ⟨_, rfl, ?_⟩; replace BK267 := zKb BK267 hb; replace HB := zBb hb; (try clear hb); (try clear hb2); (try clear hk); (try clear hi)) | (go_at_call 51; (with_reducible refine (impl_isNumber.calls a1 true _ A6.out).mono ?_); rintro e w' ⟨rfl, ⟨nd, rfl⟩⟩; have hcz12_0 : w11.cell? ⟨gb267, 0, none⟩ = some (.int .i64 a0_0) := (blk_cell BK267.out 0).trans rfl; have hcz12_1 : w11.cell? ⟨gb267, 1, none⟩ = some (.int .i64 a0_1) := (blk_cell BK267.out 1).trans rfl; have hcz12_2 : w11.cell? ⟨gb267, 2, none⟩ = some (.slice A0_2 l0_2.length c0_2) := (blk_cell BK267.out 2).trans rfl; have hcz12_3 : w11.cell? ⟨gb267, 3, none⟩ = some (.slice A0_3 l0_3.length c0_3) := (blk_cell BK267.out 3).trans rfl; have hcz12_4 : w11.cell? ⟨gb267, 4, none⟩ = some (.int .i64 a0_4) := (blk_cell BK267.out 4).trans rfl; have hcz12_5 : w11.cell? ⟨gb267, 5, none⟩ = some (.bool a0_5) := (blk_cell BK267.out 5).trans rfl; have hfz12_0 := blk_frozen BK267.out 0; have hfz12_1 := blk_frozen BK267.out 1; have hfz12_2 := blk_frozen BK267.out 2; have hfz12_3 := blk_frozen BK267.out 3; have hfz12_4 := blk_frozen BK267.out 4; have hfz12_5 := blk_frozen BK267.out 5) | ((with_reducible refine gate_callee (f := 52) rfl ?_); refine goesL_ (some 19) rfl rfl Tryd.func52 (by kernel_rfl) rfl #[.agg #[.int .i64 a0_0, .int .i64 a0_1, .slice A0_2 l0_2.length c0_2, .slice A0_3 l0_3.length c0_3, .int .i64 a0_4, .bool a0_5], .int .i64 a1, .bool a2] rfl zM ?_; (with_reducible refine (impl_way_with.calls k a0_0 a0_1 _ _ l0_2 _ _ l0_3 a0_4 a0_5 a1 a2 t270 _ ?side5 ?side1 ?side2 ?side3 ?side4 A8.out).mono ?_); (case side1 => exact zC HR0_2); (case side2 => exact HC0_2.out); (case side3 => exact zC HR0_3); (case side4 => exact HC0_3.out); (case side5 => exact tz_below HT.out zB); rintro e w13 ⟨v271, rfl, ho0, hb⟩; refine ⟨_, rfl, ?_⟩; have HO272 := Aside0.mk (Kd.R_lower ho0 (below_size zB)); replace BK267 := zKb BK267 hb; replace HB := zBb hb; (try clear hb); (try clear hb2); (try clear hk); (try clear hi); (try clear ho0); obtain ⟨Ao14, co14, eo14⟩ := Kd.R_slice HO272.out; subst eo14))
   go_ret2
   exact ⟨zE, zB⟩
  ·replace c7 := Bool.eq_false_iff.mpr c7
   subst c7
   have H1 : (some (0, false)) = some (r1, r2) := by rw [if_neg (show ¬ (false = true) by decide)] at H; exact H
   clear H
   have H := H1
   clear H1
   simp only [Option.some.injEq, Prod.mk.injEq] at H
   obtain ⟨rfl, rfl⟩ := H
   go_enter Tryd.func42, Tryd.ntmps42
   go_wp2_with (first | ((with_reducible refine gate_dst (N := 3) rfl ?_); refine zbx 3 #[.int .i64 a0_0, .int .i64 a0_1, .slice A0_2 l0_2.length c0_2, .slice A0_3 l0_3.length c0_3, .int .i64 a0_4, .bool a0_5] 65 ?_; intro gb267 hg w15 hbox hb; have BK267 := Aside0.mk (hbox); have GW267 := zGe hg; have GE267 := zGe hg; replace HB := zBb hb; clear hb hbox hg; have hcz16_0 : w15.cell? ⟨gb267, 0, none⟩ = some (.int .i64 a0_0) := (blk_cell BK267.out 0).trans rfl; have hcz16_1 : w15.cell? ⟨gb267, 1, none⟩ = some (.int .i64 a0_1) := (blk_cell BK267.out 1).trans rfl; have hcz16_2 : w15.cell? ⟨gb267, 2, none⟩ = some (.slice A0_2 l0_2.length c0_2) := (blk_cell BK267.out 2).trans rfl; have hcz16_3 : w15.cell? ⟨gb267, 3, none⟩ = some (.slice A0_3 l0_3.length c0_3) := (blk_cell BK267.out 3).trans rfl; have hcz16_4 : w15.cell? ⟨gb267, 4, none⟩ = some (.int .i64 a0_4) := (blk_cell BK267.out 4).trans rfl; have hcz16_5 : w15.cell? ⟨gb267, 5, none⟩ = some (.bool a0_5) := (blk_cell BK267.out 5).trans rfl; have hfz16_0 := blk_frozen BK267.out 0; have hfz16_1 := blk_frozen BK267.out 1; have hfz16_2 := blk_frozen BK267.out 2; have hfz16_3 := blk_frozen BK267.out 3; have hfz16_4 := blk_frozen BK267.out 4; have hfz16_5 := blk_frozen BK267.out 5) | ((with_reducible refine gate_callee (f := 50) rfl ?_); refine goesL_ (some 9) rfl rfl Tryd.func50 (by kernel_rfl) rfl #[.agg #[.int .i64 a0_0, .int .i64 a0_1, .slice A0_2 l0_2.length c0_2, .slice A0_3 l0_3.length c0_3, .int .i64 a0_4, .bool a0_5]] rfl zM ?_; (with_reducible refine (impl_way_isRight.calls k a0_0 a0_1 _ _ l0_2 _ _ l0_3 a0_4 a0_5 true _ ?side1 ?side2 ?side3 ?side4 A4.out).mono ?_); (case side1 => exact zC HR0_2); (case side2 => exact HC0_2.out); (case side3 => exact zC HR0_3); (case side4 => exact HC0_3.out); rintro e w17 ⟨rfl, hb⟩; refine ⟨_, rfl, ?_⟩; replace BK267 := zKb BK267 hb; replace HB := zBb hb; (try clear hb); (try clear hb2); (try clear hk); (try clear hi)) | (go_at_call 51; (with_reducible refine (impl_isNumber.calls a1 false _ A6.out).mono ?_); rintro e w' ⟨rfl, ⟨nd, rfl⟩⟩))
   go_ret2
   exact ⟨zE, zB⟩
 ·replace c5 := Bool.eq_false_iff.mpr c5
  subst c5
  have H1 : (some (0, false)) = some (r1, r2) := by rw [if_neg (show ¬ (false = true) by decide)] at H; exact H
  clear H
  have H := H1
  clear H1
  simp only [Option.some.injEq, Prod.mk.injEq] at H
  obtain ⟨rfl, rfl⟩ := H
  go_enter Tryd.func42, Tryd.ntmps42
  go_wp2_with (first | ((with_reducible refine gate_dst (N := 3) rfl ?_); refine zbx 3 #[.int .i64 a0_0, .int .i64 a0_1, .slice A0_2 l0_2.length c0_2, .slice A0_3 l0_3.length c0_3, .int .i64 a0_4, .bool a0_5] 65 ?_; intro gb267 hg w18 hbox hb; have BK267 := Aside0.mk (hbox); have GW267 := zGe hg; have GE267 := zGe hg; replace HB := zBb hb; clear hb hbox hg; have hcz19_0 : w18.cell? ⟨gb267, 0, none⟩ = some (.int .i64 a0_0) := (blk_cell BK267.out 0).trans rfl; have hcz19_1 : w18.cell? ⟨gb267, 1, none⟩ = some (.int .i64 a0_1) := (blk_cell BK267.out 1).trans rfl; have hcz19_2 : w18.cell? ⟨gb267, 2, none⟩ = some (.slice A0_2 l0_2.length c0_2) := (blk_cell BK267.out 2).trans rfl; have hcz19_3 : w18.cell? ⟨gb267, 3, none⟩ = some (.slice A0_3 l0_3.length c0_3) := (blk_cell BK267.out 3).trans rfl; have hcz19_4 : w18.cell? ⟨gb267, 4, none⟩ = some (.int .i64 a0_4) := (blk_cell BK267.out 4).trans rfl; have hcz19_5 : w18.cell? ⟨gb267, 5, none⟩ = some (.bool a0_5) := (blk_cell BK267.out 5).trans rfl; have hfz19_0 := blk_frozen BK267.out 0; have hfz19_1 := blk_frozen BK267.out 1; have hfz19_2 := blk_frozen BK267.out 2; have hfz19_3 := blk_frozen BK267.out 3; have hfz19_4 := blk_frozen BK267.out 4; have hfz19_5 := blk_frozen BK267.out 5) | ((with_reducible refine gate_callee (f := 50) rfl ?_); refine goesL_ (some 9) rfl rfl Tryd.func50 (by kernel_rfl) rfl #[.agg #[.int .i64 a0_0, .int .i64 a0_1, .slice A0_2 l0_2.length c0_2, .slice A0_3 l0_3.length c0_3, .int .i64 a0_4, .bool a0_5]] rfl zM ?_; (with_reducible refine (impl_way_isRight.calls k a0_0 a0_1 _ _ l0_2 _ _ l0_3 a0_4 a0_5 false _ ?side1 ?side2 ?side3 ?side4 A4.out).mono ?_); (case side1 => exact zC HR0_2); (case side2 => exact HC0_2.out); (case side3 => exact zC HR0_3); (case side4 => exact HC0_3.out); rintro e w20 ⟨rfl, hb⟩; refine ⟨_, rfl, ?_⟩; replace BK267 := zKb BK267 hb; replace HB := zBb hb; (try clear hb); (try clear hb2); (try clear hk); (try clear hi)))
  go_ret2
  exact ⟨zE, zB⟩

/-! ### impl_fewest: function 31 -/
set_option maxHeartbeats 8000000 in
set_option maxRecDepth 100000 in
theorem impl_fewest.calls (k : Nat) (a0_0 : Int) (a0_1 : Int) (A0_2 : Option Addr) (c0_2 : Nat) (l0_2 : List Int) (A0_3 : Option Addr) (c0_3 : Nat) (l0_3 : List Int) (a1 : Int) (a2 : Bool) (r1 : Int) (r2 : Bool) (w : World) (hT : TzTab w) (hr0_2 : Kd.C (Kd.int .i64) w A0_2 l0_2.length l0_2) (hc0_2 : l0_2.length ≤ c0_2) (hr0_3 : Kd.C (Kd.int .i64) w A0_3 l0_3.length l0_3) (hc0_3 : l0_3.length ≤ c0_3) (h : impl_fewest.f k a0_0 a0_1 l0_2 l0_3 a1 a2 = some (r1, r2)) :
  Calls Tryd.prog 31 #[.agg #[.int .i64 a0_0, .int .i64 a0_1, .slice A0_2 l0_2.length c0_2, .slice A0_3 l0_3.length c0_3], .int .i64 a1, .bool a2] w fun e w' => e = .returned (.tuple #[.int .i64 r1, .bool r2]) ∧ Below w.heap.size w w' := by
 have hu26 := Tryd.underlying26
 have hu65 := Tryd.underlying65
 have HT := Aside0.mk hT
 clear hT
 have HR0_2 := Aside0.mk hr0_2
 have HC0_2 := Aside0.mk hc0_2
 clear hr0_2 hc0_2
 have HR0_3 := Aside0.mk hr0_3
 have HC0_3 := Aside0.mk hc0_3
 clear hr0_3 hc0_3
 have HB := Aside0.mk (Below.refl w.heap.size w)
 have H : (impl_fewest.l0 k a1 a2 0 a0_0 a0_1 l0_2 l0_3) = some (r1, r2) := h
 clear h
 have H' := Aside0.mk H
 clear H
 go_enter Tryd.func31, Tryd.ntmps31
 go_wp2_with (first | ((with_reducible refine gate_dst (N := 3) rfl ?_); refine zbx 3 #[.int .i64 a0_0, .int .i64 a0_1, .slice A0_2 l0_2.length c0_2, .slice A0_3 l0_3.length c0_3] 26 ?_; intro gb273 hg w4 hbox hb; have BK273 := Aside0.mk (hbox); have GW273 := zGe hg; have GE273 := zGe hg; replace HB := zBb hb; clear hb hbox hg))
 go_loopg [8] k (fun kq v8 w' => ∃ (x8_1 : Int), v8 = .int .i64 x8_1 ∧ Aside0 (impl_fewest.l0 kq a1 a2 x8_1 a0_0 a0_1 l0_2 l0_3 = some (r1, r2)) ∧ Aside0 (kq ≤ k) ∧ Aside0 (w'.heap[gb273]? = some (.cells #[.int .i64 a0_0, .int .i64 a0_1, (.slice A0_2 l0_2.length c0_2), (.slice A0_3 l0_3.length c0_3)] 26 (0, 0))) ∧ Aside0 (Below w.heap.size w w'))
 case atStart => exact ⟨(0), zA, H', ⟨Nat.le_refl _⟩, ⟨zK BK273⟩, ⟨zB⟩⟩
 case round =>
  clear H'
  (try clear p2); (try clear c3)
  obtain ⟨x8_1, rfl, HA, HK1, BK273, HB⟩ := hrel
  cases gk with
  | zero => exact absurd HA.out (by simp [impl_fewest.l0])
  | succ k1 =>
   have H := HA.out
   clear HA
   simp only [impl_fewest.l0] at H
   replace H := Option.bind_eq_some_iff.mp H
   obtain ⟨⟨t274, t275⟩, A50, H⟩ := H
   replace H : (if t275 = true then (if t274 > 0 then (some (x8_1, true)) else (impl_fewest.l0 k1 a1 a2 (wrap64 (x8_1 + 1)) a0_0 a0_1 l0_2 l0_3)) else (some (0, false))) = some (r1, r2) := H
   have A5 := Aside0.mk A50
   clear A50
   by_cases c6 : t275 = true
   ·subst c6
    have H1 : (if t274 > 0 then (some (x8_1, true)) else (impl_fewest.l0 k1 a1 a2 (wrap64 (x8_1 + 1)) a0_0 a0_1 l0_2 l0_3)) = some (r1, r2) := by rw [if_pos rfl] at H; exact H
    clear H
    have H := H1
    clear H1
    by_cases c7 : t274 > 0
    ·rw [if_pos c7] at H
     have c7b0 : decide (0 < t274) = true := decide_eq_true c7
     clear c7
     simp only [Option.some.injEq, Prod.mk.injEq] at H
     obtain ⟨rfl, rfl⟩ := H
     obtain ⟨hcz8_0, hcz8_1, hcz8_2, hcz8_3, hfz8_0, hfz8_1, hfz8_2, hfz8_3⟩ := blk4 BK273
     go_wp2_with (first | ((with_reducible refine gate_callee (f := 42) rfl ?_); refine goesL_ (some 19) rfl rfl Tryd.func42 (by kernel_rfl) rfl #[.agg #[.int .i64 a0_0, .int .i64 a0_1, .slice A0_2 l0_2.length c0_2, .slice A0_3 l0_3.length c0_3, .int .i64 x8_1, .bool a2], .int .i64 a1, .bool false] rfl zM ?_; (with_reducible refine (impl_way_count.calls k1 a0_0 a0_1 _ _ l0_2 _ _ l0_3 x8_1 a2 a1 false t274 true _ ?side5 ?side1 ?side2 ?side3 ?side4 A5.out).mono ?_); (case side1 => exact zC HR0_2); (case side2 => exact HC0_2.out); (case side3 => exact zC HR0_3); (case side4 => exact HC0_3.out); (case side5 => exact tz_below HT.out zB); rintro e w9 ⟨rfl, hb⟩; refine ⟨_, rfl, ?_⟩; replace BK273 := zKb BK273 hb; replace HB := zBb hb; (try clear hb); (try clear hb2); (try clear hk); (try clear hi)))
     go_ret2
     exact ⟨zE, zB⟩
    ·rw [if_neg c7] at H
     have c7b0 : decide (0 < t274) = false := decide_eq_false c7
     clear c7
     have H' := Aside0.mk H
     clear H
     obtain ⟨hcz10_0, hcz10_1, hcz10_2, hcz10_3, hfz10_0, hfz10_1, hfz10_2, hfz10_3⟩ := blk4 BK273
     go_wp2_with (first | ((with_reducible refine gate_callee (f := 42) rfl ?_); refine goesL_ (some 19) rfl rfl Tryd.func42 (by kernel_rfl) rfl #[.agg #[.int .i64 a0_0, .int .i64 a0_1, .slice A0_2 l0_2.length c0_2, .slice A0_3 l0_3.length c0_3, .int .i64 x8_1, .bool a2], .int .i64 a1, .bool false] rfl zM ?_; (with_reducible refine (impl_way_count.calls k1 a0_0 a0_1 _ _ l0_2 _ _ l0_3 x8_1 a2 a1 false t274 true _ ?side5 ?side1 ?side2 ?side3 ?side4 A5.out).mono ?_); (case side1 => exact zC HR0_2); (case side2 => exact HC0_2.out); (case side3 => exact zC HR0_3); (case side4 => exact HC0_3.out); (case side5 => exact tz_below HT.out zB); rintro e w11 ⟨rfl, hb⟩; refine ⟨_, rfl, ?_⟩; replace BK273 := zKb BK273 hb; replace HB := zBb hb; (try clear hb); (try clear hb2); (try clear hk); (try clear hi)))
     go_roundg k1
     case measure => have := HK1.out; omega
     case rel => exact ⟨(wrap64 (x8_1 + 1)), zA, H', ⟨by have := HK1.out; omega⟩, ⟨zK BK273⟩, ⟨zB⟩⟩
   ·replace c6 := Bool.eq_false_iff.mpr c6
    subst c6
    have H1 : (some (0, false)) = some (r1, r2) := by rw [if_neg (show ¬ (false = true) by decide)] at H; exact H
    clear H
    have H := H1
    clear H1
    simp only [Option.some.injEq, Prod.mk.injEq] at H
    obtain ⟨rfl, rfl⟩ := H
    obtain ⟨hcz12_0, hcz12_1, hcz12_2, hcz12_3, hfz12_0, hfz12_1, hfz12_2, hfz12_3⟩ := blk4 BK273
    go_wp2_with (first | ((with_reducible refine gate_callee (f := 42) rfl ?_); refine goesL_ (some 19) rfl rfl Tryd.func42 (by kernel_rfl) rfl #[.agg #[.int .i64 a0_0, .int .i64 a0_1, .slice A0_2 l0_2.length c0_2, .slice A0_3 l0_3.length c0_3, .int .i64 x8_1, .bool a2], .int .i64 a1, .bool false] rfl zM ?_; (with_reducible refine (impl_way_count.calls k1 a0_0 a0_1 _ _ l0_2 _ _ l0_3 x8_1 a2 a1 false t274 false _ ?side5 ?side1 ?side2 ?side3 ?side4 A5.out).mono ?_); (case side1 => exact zC HR0_2); (case side2 => exact HC0_2.out); (case side3 => exact zC HR0_3); (case side4 => exact HC0_3.out); (case side5 => exact tz_below HT.out zB); rintro e w13 ⟨rfl, hb⟩; refine ⟨_, rfl, ?_⟩; replace BK273 := zKb BK273 hb; replace HB := zBb hb; (try clear hb); (try clear hb2); (try clear hk); (try clear hi)))
    go_ret2
    exact ⟨zE, zB⟩

/-! ### impl_FewestTakes: function 17 -/
set_option maxHeartbeats 8000000 in
set_option maxRecDepth 100000 in
theorem impl_FewestTakes.calls (k : Nat) (a0_0 : Int) (a0_1 : Int) (A0_2 : Option Addr) (c0_2 : Nat) (l0_2 : List Int) (A0_3 : Option Addr) (c0_3 : Nat) (l0_3 : List Int) (a1 : Int) (r1 : Int) (r2 : Bool) (w : World) (hT : TzTab w) (hr0_2 : Kd.C (Kd.int .i64) w A0_2 l0_2.length l0_2) (hc0_2 : l0_2.length ≤ c0_2) (hr0_3 : Kd.C (Kd.int .i64) w A0_3 l0_3.length l0_3) (hc0_3 : l0_3.length ≤ c0_3) (h : impl_FewestTakes.f k a0_0 a0_1 l0_2 l0_3 a1 = some (r1, r2)) :
  Calls Tryd.prog 17 #[.agg #[.int .i64 a0_0, .int .i64 a0_1, .slice A0_2 l0_2.length c0_2, .slice A0_3 l0_3.length c0_3], .int .i64 a1] w fun e w' => e = .returned (.tuple #[.int .i64 r1, .bool r2]) ∧ Below w.heap.size w w' := by
 have hu26 := Tryd.underlying26
 have HT := Aside0.mk hT
 clear hT
 have HR0_2 := Aside0.mk hr0_2
 have HC0_2 := Aside0.mk hc0_2
 clear hr0_2 hc0_2
 have HR0_3 := Aside0.mk hr0_3
 have HC0_3 := Aside0.mk hc0_3
 clear hr0_3 hc0_3
 have HB := Aside0.mk (Below.refl w.heap.size w)
 have H : ((impl_fewest.f k a0_0 a0_1 l0_2 l0_3 a1 false).bind fun bt277 => (some (bt277.1, bt277.2))) = some (r1, r2) := h
 clear h
 replace H := Option.bind_eq_some_iff.mp H
 obtain ⟨⟨t277, t278⟩, A30, H⟩ := H
 replace H : (some (t277, t278)) = some (r1, r2) := H
 have A3 := Aside0.mk A30
 clear A30
 simp only [Option.some.injEq, Prod.mk.injEq] at H
 obtain ⟨rfl, rfl⟩ := H
 go_enter Tryd.func17, Tryd.ntmps17
 go_wp2_with (first | ((with_reducible refine gate_dst (N := 2) rfl ?_); refine zbx 2 #[.int .i64 a0_0, .int .i64 a0_1, .slice A0_2 l0_2.length c0_2, .slice A0_3 l0_3.length c0_3] 26 ?_; intro gb276 hg w4 hbox hb; have BK276 := Aside0.mk (hbox); have GW276 := zGe hg; have GE276 := zGe hg; replace HB := zBb hb; clear hb hbox hg; obtain ⟨hcz5_0, hcz5_1, hcz5_2, hcz5_3, hfz5_0, hfz5_1, hfz5_2, hfz5_3⟩ := blk4 BK276) | ((with_reducible refine gate_callee (f := 31) rfl ?_); refine goesL_ (some 8) rfl rfl Tryd.func31 (by kernel_rfl) rfl #[.agg #[.int .i64 a0_0, .int .i64 a0_1, .slice A0_2 l0_2.length c0_2, .slice A0_3 l0_3.length c0_3], .int .i64 a1, .bool false] rfl zM ?_; (with_reducible refine (impl_fewest.calls k a0_0 a0_1 _ _ l0_2 _ _ l0_3 a1 false t277 t278 _ ?side5 ?side1 ?side2 ?side3 ?side4 A3.out).mono ?_); (case side1 => exact zC HR0_2); (case side2 => exact HC0_2.out); (case side3 => exact zC HR0_3); (case side4 => exact HC0_3.out); (case side5 => exact tz_below HT.out zB); rintro e w6 ⟨rfl, hb⟩; refine ⟨_, rfl, ?_⟩; replace BK276 := zKb BK276 hb; replace HB := zBb hb; (try clear hb); (try clear hb2); (try clear hk); (try clear hi)))
 go_ret2
 exact ⟨zE, zB⟩

/-! ### impl_TakePuzzle: function 7 -/
def impl_TakePuzzle.T4 : Bool × List (List Nat × List Nat) := (true, [([], []), ([0], [0]), ([], []), ([2, 1], [2]), ([1, 3, 3], [1, 3]), ([], []), ([], []), ([4, 5, 6], [4, 5, 6]), ([7, 4, 0, 1, 2, 3, 4, 5, 6, 7], [7]), ([8, 0, 1, 2, 3, 4, 5, 6, 7, 8], [])])
def impl_TakePuzzle.B4 : List Nat := [0, 1, 0, 7, 15, 0, 0, 127, 255, 511]
theorem impl_TakePuzzle.tab4 : rtab .any (opsOf Tryd.f7 4) = impl_TakePuzzle.T4 := by kernel_rfl
theorem impl_TakePuzzle.bits4 : waitsOk impl_TakePuzzle.T4.2 impl_TakePuzzle.B4 = true := by kernel_rfl
set_option maxHeartbeats 8000000 in
set_option maxRecDepth 100000 in
theorem impl_TakePuzzle.calls (k : Nat) (a0_0 : Int) (a0_1 : Int) (A0_2 : Option Addr) (c0_2 : Nat) (l0_2 : List Int) (A0_3 : Option Addr) (c0_3 : Nat) (l0_3 : List Int) (a1 : Int) (r1 : Int) (r2 : Int) (r3 : List Int) (r4 : List Int) (r5 : Int) (r6 : Bool) (r7 : Int) (r8 : Bool) (w : World) (hT : TzTab w) (hr0_2 : Kd.C (Kd.int .i64) w A0_2 l0_2.length l0_2) (hc0_2 : l0_2.length ≤ c0_2) (hr0_3 : Kd.C (Kd.int .i64) w A0_3 l0_3.length l0_3) (hc0_3 : l0_3.length ≤ c0_3) (h : impl_TakePuzzle.f k a0_0 a0_1 l0_2 l0_3 a1 = some (r1, r2, r3, r4, r5, r6, r7, r8)) :
  Calls Tryd.prog 7 #[.agg #[.int .i64 a0_0, .int .i64 a0_1, .slice A0_2 l0_2.length c0_2, .slice A0_3 l0_3.length c0_3], .int .i64 a1] w fun e w' => ∃ v2_ v3_ : Value, e = .returned (.tuple #[.agg #[.int .i64 r1, .int .i64 r2, v2_, v3_, .int .i64 r5, .bool r6, .int .i64 r7], .bool r8]) ∧ Kd.R (Kd.int .i64) 3 w' w.heap.size (fun k_ => some k_ ≠ (v3_ : Value).ownBlock) v2_ r3 ∧ Kd.R (Kd.int .i64) 3 w' w.heap.size (fun k_ => some k_ ≠ (v2_ : Value).ownBlock) v3_ r4 ∧ Below w.heap.size w w' := by
 have hu26 := Tryd.underlying26
 have hu28 := Tryd.underlying28
 have HT := Aside0.mk hT
 clear hT
 have HR0_2 := Aside0.mk hr0_2
 have HC0_2 := Aside0.mk hc0_2
 clear hr0_2 hc0_2
 have HR0_3 := Aside0.mk hr0_3
 have HC0_3 := Aside0.mk hc0_3
 clear hr0_3 hc0_3
 have HB := Aside0.mk (Below.refl w.heap.size w)
 have H : ((impl_FewestTakes.f k a0_0 a0_1 l0_2 l0_3 a1).bind fun bt281 => (if bt281.2 = true then ((impl_Figure_grid.f a0_0 a0_1 l0_2 l0_3).bind fun bt283 => ((impl_Figure_set.f k a0_0 a0_1 l0_2 l0_3).bind fun t285 => ((impl_grid_figure.f k bt283.1 bt283.2 t285).bind fun bt286 => (some (bt286.1, bt286.2.1, bt286.2.2.1, bt286.2.2.2, bt281.1, false, a1, true))))) else (some (0, 0, ([] : List Int), ([] : List Int), 0, false, 0, false)))) = some (r1, r2, r3, r4, r5, r6, r7, r8) := h
 clear h
 replace H := Option.bind_eq_some_iff.mp H
 obtain ⟨⟨t281, t282⟩, A30, H⟩ := H
 replace H : (if t282 = true then ((impl_Figure_grid.f a0_0 a0_1 l0_2 l0_3).bind fun bt283 => ((impl_Figure_set.f k a0_0 a0_1 l0_2 l0_3).bind fun t285 => ((impl_grid_figure.f k bt283.1 bt283.2 t285).bind fun bt286 => (some (bt286.1, bt286.2.1, bt286.2.2.1, bt286.2.2.2, t281, false, a1, true))))) else (some (0, 0, ([] : List Int), ([] : List Int), 0, false, 0, false))) = some (r1, r2, r3, r4, r5, r6, r7, r8) := H
 have A3 := Aside0.mk A30
 clear A30
 by_cases c4 : t282 = true
 ·subst c4
  have H1 : ((impl_Figure_grid.f a0_0 a0_1 l0_2 l0_3).bind fun bt283 => ((impl_Figure_set.f k a0_0 a0_1 l0_2 l0_3).bind fun t285 => ((impl_grid_figure.f k bt283.1 bt283.2 t285).bind fun bt286 => (some (bt286.1, bt286.2.1, bt286.2.2.1, bt286.2.2.2, t281, false, a1, true))))) = some (r1, r2, r3, r4, r5, r6, r7, r8) := by rw [if_pos rfl] at H; exact H
  clear H
  have H := H1
  clear H1
  replace H := Option.bind_eq_some_iff.mp H
  obtain ⟨⟨t283, t284⟩, A50, H⟩ := H
  replace H : ((impl_Figure_set.f k a0_0 a0_1 l0_2 l0_3).bind fun t285 => ((impl_grid_figure.f k t283 t284 t285).bind fun bt286 => (some (bt286.1, bt286.2.1, bt286.2.2.1, bt286.2.2.2, t281, false, a1, true)))) = some (r1, r2, r3, r4, r5, r6, r7, r8) := H
  have A5 := Aside0.mk A50
  clear A50
  replace H := Option.bind_eq_some_iff.mp H
  obtain ⟨t285, A60, H⟩ := H
  replace H : ((impl_grid_figure.f k t283 t284 t285).bind fun bt286 => (some (bt286.1, bt286.2.1, bt286.2.2.1, bt286.2.2.2, t281, false, a1, true))) = some (r1, r2, r3, r4, r5, r6, r7, r8) := H
  have A6 := Aside0.mk A60
  clear A60
  replace H := Option.bind_eq_some_iff.mp H
  obtain ⟨⟨t286, t287, t288, t291⟩, A70, H⟩ := H
  replace H : (some (t286, t287, t288, t291, t281, false, a1, true)) = some (r1, r2, r3, r4, r5, r6, r7, r8) := H
  have A7 := Aside0.mk A70
  clear A70
  simp only [Option.some.injEq, Prod.mk.injEq] at H
  obtain ⟨rfl, rfl, rfl, rfl, rfl, rfl, rfl, rfl⟩ := H
  go_enter Tryd.func7, Tryd.ntmps7
  try go_wp2_with (first | ((with_reducible refine gate_dst (N := 2) rfl ?_); refine zbx 2 #[.int .i64 a0_0, .int .i64 a0_1, .slice A0_2 l0_2.length c0_2, .slice A0_3 l0_3.length c0_3] 26 ?_; intro gb279 hg w8 hbox hb; have BK279 := Aside0.mk (hbox); have GW279 := zGe hg; have GE279 := zGe hg; replace HB := zBb hb; clear hb hbox hg) | ((with_reducible refine gate_dst (N := 4) rfl ?_); refine zbx 4 #[.int .i64 0, .int .i64 0, .slice none 0 0, .slice none 0 0, .int .i64 0, .bool false, .int .i64 0] 28 ?_; intro gb280 hg w9 hbox hb; have BK280 := Aside0.mk (hbox); have GW280 := zGe hg; have GE280 := zGe hg; have NB279_280 := zNl BK279 hg; have NB280_279 := zNg BK279 hg; replace BK279 := zKb BK279 hb; replace HB := zBb hb; clear hb hbox hg; have hnb10 := NB279_280.out; have hnc10 := NB280_279.out; obtain ⟨hcz11_0, hcz11_1, hcz11_2, hcz11_3, hfz11_0, hfz11_1, hfz11_2, hfz11_3⟩ := blk4 BK279) | ((with_reducible refine gate_callee (f := 17) rfl ?_); refine goesL_ (some 11) rfl rfl Tryd.func17 (by kernel_rfl) rfl #[.agg #[.int .i64 a0_0, .int .i64 a0_1, .slice A0_2 l0_2.length c0_2, .slice A0_3 l0_3.length c0_3], .int .i64 a1] rfl zM ?_; (with_reducible refine (impl_FewestTakes.calls k a0_0 a0_1 _ _ l0_2 _ _ l0_3 a1 t281 true _ ?side5 ?side1 ?side2 ?side3 ?side4 A3.out).mono ?_); (case side1 => exact zC HR0_2); (case side2 => exact HC0_2.out); (case side3 => exact zC HR0_3); (case side4 => exact HC0_3.out); (case side5 => exact tz_below HT.out zB); rintro e w12 ⟨rfl, hb⟩; refine ⟨_, rfl, ?_⟩; replace BK279 := zKb BK279 hb; replace BK280 := zKb BK280 hb; replace HB := zBb hb; (try clear hb); (try clear hb2); (try clear hk); (try clear hi)))
  replace BK279 := Aside0.mk (blk_drew BK279.out)
  replace BK280 := Aside0.mk (blk_drew BK280.out)
  replace HB := Aside0.mk (below_drew1 HB.out)
  refine start_ (n := 10) (S := fun w' => w'.cell? ⟨gb279, 0, none⟩ = some (.int .i64 a0_0) ∧ w'.cell? ⟨gb279, 1, none⟩ = some (.int .i64 a0_1) ∧ w'.cell? ⟨gb279, 2, none⟩ = some (.slice A0_2 l0_2.length c0_2) ∧ w'.cell? ⟨gb279, 3, none⟩ = some (.slice A0_3 l0_3.length c0_3)) (ds := []) (fl 10 0) (by kernel_rfl) rfl rfl zQ (fun hHeld => ?_); refine with_tabW impl_TakePuzzle.tab4 impl_TakePuzzle.bits4 (fun HT_ HW_ => ?_)
  generalize w12.drew = w13 at BK279 BK280 HB hHeld ⊢
  refine zpu 5 (some 22) (fl 10 32) ?_
  refine zpu 6 (some 23) (fl 10 96) ?_
  refine ztk 0 (some 17) (fl 10 97) hHeld ?_
  refine ztk 2 (some 19) (fl 10 101) hHeld ?_
  refine zone 1 (some 18) (fl 10 103) (fun K hK => ?_)
  refine zgo Tryd.func18 #[.agg #[.int .i64 a0_0, .int .i64 a0_1, .slice A0_2 l0_2.length c0_2, .slice A0_3 l0_3.length c0_3]] ?_
  with_reducible refine (impl_Figure_grid.calls a0_0 a0_1 _ _ l0_2 _ _ l0_3 t283 t284 _ ?side1 ?side2 ?side3 ?side4 A5.out).mono ?_
  (case side1 => exact zC HR0_2)
  (case side2 => exact HC0_2.out)
  (case side3 => exact zC HR0_3)
  (case side4 => exact HC0_3.out)
  rintro e w14 ⟨rfl, hb⟩
  refine ⟨_, rfl, ?_⟩
  replace BK279 := zKb BK279 hb
  replace BK280 := zKb BK280 hb
  replace HB := zBb hb
  (try clear hb)
  (try clear hb2)
  (try clear hk)
  (try clear hi)
  refine hK.out _ _ zQ (fun hHeld => ?_)
  clear hK K
  refine znm ?_
  refine zone 3 (some 20) (fl 10 111) (fun K hK => ?_)
  refine zgo Tryd.func20 #[.agg #[.int .i64 a0_0, .int .i64 a0_1, .slice A0_2 l0_2.length c0_2, .slice A0_3 l0_3.length c0_3]] ?_
  with_reducible refine (impl_Figure_set.calls k a0_0 a0_1 _ _ l0_2 _ _ l0_3 t285 _ ?side1 ?side2 ?side3 ?side4 A6.out).mono ?_
  (case side1 => exact zC HR0_2)
  (case side2 => exact HC0_2.out)
  (case side3 => exact zC HR0_3)
  (case side4 => exact HC0_3.out)
  rintro e w15 ⟨rfl, hb⟩
  refine ⟨_, rfl, ?_⟩
  replace BK279 := zKb BK279 hb
  replace BK280 := zKb BK280 hb
  replace HB := zBb hb
  (try clear hb)
  (try clear hb2)
  (try clear hk)
  (try clear hi)
  refine hK.out _ _ zQ (fun hHeld => ?_)
  clear hK K
  refine znm ?_
  refine zone 4 (some 21) (fl 10 127) (fun K hK => ?_)
  refine zgo Tryd.func19 #[.agg #[.int .i64 t283, .int .i64 t284], .int .u64 t285] ?_
  with_reducible refine (impl_grid_figure.calls k t283 t284 t285 t286 t287 t288 t291 _ ?side1 A7.out).mono ?_
  (case side1 => exact tz_below HT.out zB)
  rintro e w16 ⟨v289, v292, rfl, ho0, ho1, hb⟩
  refine ⟨_, rfl, ?_⟩
  have HO290 := Aside0.mk (Kd.R_lower ho0 (below_size zB))
  have HO293 := Aside0.mk (Kd.R_lower ho1 (below_size zB))
  replace BK279 := zKb BK279 hb
  replace BK280 := zKb BK280 hb
  replace HB := zBb hb
  (try clear hb)
  (try clear hb2)
  (try clear hk)
  (try clear hi)
  (try clear ho0)
  (try clear ho1)
  obtain ⟨Ao17, co17, eo17⟩ := Kd.R_slice HO293.out
  (first | subst eo17 | (injection eo17 with f1_ f2_ f3_; have f4_ := f1_.symm; have f5_ := f3_.symm; clear f1_ f2_ f3_; subst f4_; subst f5_))
  obtain ⟨Ao18, co18, eo18⟩ := Kd.R_slice HO290.out
  (first | subst eo18 | (injection eo18 with f1_ f2_ f3_; have f4_ := f1_.symm; have f5_ := f3_.symm; clear f1_ f2_ f3_; subst f4_; subst f5_))
  refine hK.out _ _ zQ (fun hHeld => ?_)
  clear hK K
  refine znm ?_
  refine zpu 7 (some 24) (fl 10 255) ?_
  refine zone 8 none (fl 10 511) (fun K hK => ?_)
  have hs19 : w16.cell? ⟨gb280, 0, none⟩ = some (.int .i64 0) := (blk_cell BK280.out 0).trans rfl
  have hfs19 := blk_frozen BK280.out 0
  have hns19_0 := NB279_280.out
  have hms19_0 := NB280_279.out
  have hs20 : w16.cell? ⟨gb280, 1, none⟩ = some (.int .i64 0) := (blk_cell BK280.out 1).trans rfl
  have hfs20 := blk_frozen BK280.out 1
  have hns20_0 := NB279_280.out
  have hms20_0 := NB280_279.out
  have hs21 : w16.cell? ⟨gb280, 2, none⟩ = some (.slice none 0 0) := (blk_cell BK280.out 2).trans rfl
  have hfs21 := blk_frozen BK280.out 2
  have hns21_0 := NB279_280.out
  have hms21_0 := NB280_279.out
  have hs22 : w16.cell? ⟨gb280, 3, none⟩ = some (.slice none 0 0) := (blk_cell BK280.out 3).trans rfl
  have hfs22 := blk_frozen BK280.out 3
  have hns22_0 := NB279_280.out
  have hms22_0 := NB280_279.out
  have hs23 : w16.cell? ⟨gb280, 4, none⟩ = some (.int .i64 0) := (blk_cell BK280.out 4).trans rfl
  have hfs23 := blk_frozen BK280.out 4
  have hns23_0 := NB279_280.out
  have hms23_0 := NB280_279.out
  have hs24 : w16.cell? ⟨gb280, 5, none⟩ = some (.bool false) := (blk_cell BK280.out 5).trans rfl
  have hfs24 := blk_frozen BK280.out 5
  have hns24_0 := NB279_280.out
  have hms24_0 := NB280_279.out
  have hs25 : w16.cell? ⟨gb280, 6, none⟩ = some (.int .i64 0) := (blk_cell BK280.out 6).trans rfl
  have hfs25 := blk_frozen BK280.out 6
  have hns25_0 := NB279_280.out
  have hms25_0 := NB280_279.out
  refine skip_ (w1 := ?_) (by rfl) rfl ?_ ?_
  rotate_left
  ·go_simp
   rfl
  refine hK.out _ _ ⟨((cell_far (p := ⟨gb280, _, none⟩) NB279_280.out _).trans (((cell_far (p := ⟨gb280, _, none⟩) NB279_280.out _).trans (((cell_far (p := ⟨gb280, _, none⟩) NB279_280.out _).trans (((cell_far (p := ⟨gb280, _, none⟩) NB279_280.out _).trans (((cell_far (p := ⟨gb280, _, none⟩) NB279_280.out _).trans (((cell_far (p := ⟨gb280, _, none⟩) NB279_280.out _).trans (((cell_far (p := ⟨gb280, _, none⟩) NB279_280.out _).trans (hHeld.1)))))))))))))), ((cell_far (p := ⟨gb280, _, none⟩) NB279_280.out _).trans (((cell_far (p := ⟨gb280, _, none⟩) NB279_280.out _).trans (((cell_far (p := ⟨gb280, _, none⟩) NB279_280.out _).trans (((cell_far (p := ⟨gb280, _, none⟩) NB279_280.out _).trans (((cell_far (p := ⟨gb280, _, none⟩) NB279_280.out _).trans (((cell_far (p := ⟨gb280, _, none⟩) NB279_280.out _).trans (((cell_far (p := ⟨gb280, _, none⟩) NB279_280.out _).trans (hHeld.2.1)))))))))))))), ((cell_far (p := ⟨gb280, _, none⟩) NB279_280.out _).trans (((cell_far (p := ⟨gb280, _, none⟩) NB279_280.out _).trans (((cell_far (p := ⟨gb280, _, none⟩) NB279_280.out _).trans (((cell_far (p := ⟨gb280, _, none⟩) NB279_280.out _).trans (((cell_far (p := ⟨gb280, _, none⟩) NB279_280.out _).trans (((cell_far (p := ⟨gb280, _, none⟩) NB279_280.out _).trans (((cell_far (p := ⟨gb280, _, none⟩) NB279_280.out _).trans (hHeld.2.2.1)))))))))))))), ((cell_far (p := ⟨gb280, _, none⟩) NB279_280.out _).trans (((cell_far (p := ⟨gb280, _, none⟩) NB279_280.out _).trans (((cell_far (p := ⟨gb280, _, none⟩) NB279_280.out _).trans (((cell_far (p := ⟨gb280, _, none⟩) NB279_280.out _).trans (((cell_far (p := ⟨gb280, _, none⟩) NB279_280.out _).trans (((cell_far (p := ⟨gb280, _, none⟩) NB279_280.out _).trans (((cell_far (p := ⟨gb280, _, none⟩) NB279_280.out _).trans (hHeld.2.2.2))))))))))))))⟩ (fun hHeld => ?_)
  clear hK K
  refine zpu 9 (some 5) (fl 10 1023) ?_
  refine done_ (done_of HT_.out (by kernel_rfl)) ?_
  try go_wp2
  refine bodyPost_ret (results_ct rfl _ _ gb280 28 #[.int .i64 t286, .int .i64 t287, .slice Ao18 t288.length co18, .slice Ao17 t291.length co17, .int .i64 t281, .bool false, .int .i64 a1] (0, 0) _ rfl (by (with_reducible repeat (first | refine blk_drewN ?_ _ | refine blk_drew ?_ | refine blk_alloc ?_ _)); refine blk_put (cs := #[.int .i64 t286, .int .i64 t287, .slice Ao18 t288.length co18, .slice Ao17 t291.length co17, .int .i64 t281, .bool false, .int .i64 0]) ?_ 6 _ rfl; (with_reducible repeat (first | refine blk_drewN ?_ _ | refine blk_drew ?_ | refine blk_alloc ?_ _)); refine blk_put (cs := #[.int .i64 t286, .int .i64 t287, .slice Ao18 t288.length co18, .slice Ao17 t291.length co17, .int .i64 t281, .bool false, .int .i64 0]) ?_ 5 _ rfl; (with_reducible repeat (first | refine blk_drewN ?_ _ | refine blk_drew ?_ | refine blk_alloc ?_ _)); refine blk_put (cs := #[.int .i64 t286, .int .i64 t287, .slice Ao18 t288.length co18, .slice Ao17 t291.length co17, .int .i64 0, .bool false, .int .i64 0]) ?_ 4 _ rfl; (with_reducible repeat (first | refine blk_drewN ?_ _ | refine blk_drew ?_ | refine blk_alloc ?_ _)); refine blk_put (cs := #[.int .i64 t286, .int .i64 t287, .slice Ao18 t288.length co18, .slice none 0 0, .int .i64 0, .bool false, .int .i64 0]) ?_ 3 _ rfl; (with_reducible repeat (first | refine blk_drewN ?_ _ | refine blk_drew ?_ | refine blk_alloc ?_ _)); refine blk_put (cs := #[.int .i64 t286, .int .i64 t287, .slice none 0 0, .slice none 0 0, .int .i64 0, .bool false, .int .i64 0]) ?_ 2 _ rfl; (with_reducible repeat (first | refine blk_drewN ?_ _ | refine blk_drew ?_ | refine blk_alloc ?_ _)); refine blk_put (cs := #[.int .i64 t286, .int .i64 0, .slice none 0 0, .slice none 0 0, .int .i64 0, .bool false, .int .i64 0]) ?_ 1 _ rfl; (with_reducible repeat (first | refine blk_drewN ?_ _ | refine blk_drew ?_ | refine blk_alloc ?_ _)); refine blk_put (cs := #[.int .i64 0, .int .i64 0, .slice none 0 0, .slice none 0 0, .int .i64 0, .bool false, .int .i64 0]) ?_ 0 _ rfl; (with_reducible repeat (first | refine blk_drewN ?_ _ | refine blk_drew ?_ | refine blk_alloc ?_ _)); exact BK280.out) Tryd.underlying28 rfl (by kernel_rfl)) rfl ?_
  refine ⟨_, _, zE, ?_, ?_, ?_⟩
  · exact by (with_reducible repeat (first | apply Kd.R_alloc | apply Kd.R_drewN | apply Kd.R_drew)); exact Kd.R_mono (Kd.R_far (p := ⟨gb280, 6, none⟩) (Kd.R_far (p := ⟨gb280, 5, none⟩) (Kd.R_far (p := ⟨gb280, 4, none⟩) (Kd.R_far (p := ⟨gb280, 3, none⟩) (Kd.R_far (p := ⟨gb280, 2, none⟩) (Kd.R_far (p := ⟨gb280, 1, none⟩) (Kd.R_far (p := ⟨gb280, 0, none⟩) (Kd.R_types HO290.out BK280.out (by decide)) (fun _ hk => hk.2) (.int .i64 t286)) (fun _ hk => hk.2) (.int .i64 t287)) (fun _ hk => hk.2) (.slice Ao18 t288.length co18)) (fun _ hk => hk.2) (.slice Ao17 t291.length co17)) (fun _ hk => hk.2) (.int .i64 t281)) (fun _ hk => hk.2) (.bool false)) (fun _ hk => hk.2) (.int .i64 a1)) (fun _ hk => hk.1)
  · exact by (with_reducible repeat (first | apply Kd.R_alloc | apply Kd.R_drewN | apply Kd.R_drew)); exact Kd.R_mono (Kd.R_far (p := ⟨gb280, 6, none⟩) (Kd.R_far (p := ⟨gb280, 5, none⟩) (Kd.R_far (p := ⟨gb280, 4, none⟩) (Kd.R_far (p := ⟨gb280, 3, none⟩) (Kd.R_far (p := ⟨gb280, 2, none⟩) (Kd.R_far (p := ⟨gb280, 1, none⟩) (Kd.R_far (p := ⟨gb280, 0, none⟩) (Kd.R_types HO293.out BK280.out (by decide)) (fun _ hk => hk.2) (.int .i64 t286)) (fun _ hk => hk.2) (.int .i64 t287)) (fun _ hk => hk.2) (.slice Ao18 t288.length co18)) (fun _ hk => hk.2) (.slice Ao17 t291.length co17)) (fun _ hk => hk.2) (.int .i64 t281)) (fun _ hk => hk.2) (.bool false)) (fun _ hk => hk.2) (.int .i64 a1)) (fun _ hk => hk.1)
  · (repeat (refine below_set ?_ GE280.out)); exact HB.out
 ·replace c4 := Bool.eq_false_iff.mpr c4
  subst c4
  have H1 : (some (0, 0, ([] : List Int), ([] : List Int), 0, false, 0, false)) = some (r1, r2, r3, r4, r5, r6, r7, r8) := by rw [if_neg (show ¬ (false = true) by decide)] at H; exact H
  clear H
  have H := H1
  clear H1
  simp only [Option.some.injEq, Prod.mk.injEq] at H
  obtain ⟨rfl, rfl, rfl, rfl, rfl, rfl, rfl, rfl⟩ := H
  go_enter Tryd.func7, Tryd.ntmps7
  go_wp2_with (first | ((with_reducible refine gate_dst (N := 2) rfl ?_); refine zbx 2 #[.int .i64 a0_0, .int .i64 a0_1, .slice A0_2 l0_2.length c0_2, .slice A0_3 l0_3.length c0_3] 26 ?_; intro gb279 hg w26 hbox hb; have BK279 := Aside0.mk (hbox); have GW279 := zGe hg; have GE279 := zGe hg; replace HB := zBb hb; clear hb hbox hg) | ((with_reducible refine gate_dst (N := 4) rfl ?_); refine zbx 4 #[.int .i64 0, .int .i64 0, .slice none 0 0, .slice none 0 0, .int .i64 0, .bool false, .int .i64 0] 28 ?_; intro gb280 hg w27 hbox hb; have BK280 := Aside0.mk (hbox); have GW280 := zGe hg; have GE280 := zGe hg; have NB279_280 := zNl BK279 hg; have NB280_279 := zNg BK279 hg; replace BK279 := zKb BK279 hb; replace HB := zBb hb; clear hb hbox hg; have hnb28 := NB279_280.out; have hnc28 := NB280_279.out; obtain ⟨hcz29_0, hcz29_1, hcz29_2, hcz29_3, hfz29_0, hfz29_1, hfz29_2, hfz29_3⟩ := blk4 BK279) | ((with_reducible refine gate_callee (f := 17) rfl ?_); refine goesL_ (some 11) rfl rfl Tryd.func17 (by kernel_rfl) rfl #[.agg #[.int .i64 a0_0, .int .i64 a0_1, .slice A0_2 l0_2.length c0_2, .slice A0_3 l0_3.length c0_3], .int .i64 a1] rfl zM ?_; (with_reducible refine (impl_FewestTakes.calls k a0_0 a0_1 _ _ l0_2 _ _ l0_3 a1 t281 false _ ?side5 ?side1 ?side2 ?side3 ?side4 A3.out).mono ?_); (case side1 => exact zC HR0_2); (case side2 => exact HC0_2.out); (case side3 => exact zC HR0_3); (case side4 => exact HC0_3.out); (case side5 => exact tz_below HT.out zB); rintro e w30 ⟨rfl, hb⟩; refine ⟨_, rfl, ?_⟩; replace BK279 := zKb BK279 hb; replace BK280 := zKb BK280 hb; replace HB := zBb hb; (try clear hb); (try clear hb2); (try clear hk); (try clear hi); have hcz31_0 : w30.cell? ⟨gb280, 0, none⟩ = some (.int .i64 0) := (blk_cell BK280.out 0).trans rfl; have hcz31_1 : w30.cell? ⟨gb280, 1, none⟩ = some (.int .i64 0) := (blk_cell BK280.out 1).trans rfl; have hcz31_2 : w30.cell? ⟨gb280, 2, none⟩ = some (.slice none 0 0) := (blk_cell BK280.out 2).trans rfl; have hcz31_3 : w30.cell? ⟨gb280, 3, none⟩ = some (.slice none 0 0) := (blk_cell BK280.out 3).trans rfl; have hcz31_4 : w30.cell? ⟨gb280, 4, none⟩ = some (.int .i64 0) := (blk_cell BK280.out 4).trans rfl; have hcz31_5 : w30.cell? ⟨gb280, 5, none⟩ = some (.bool false) := (blk_cell BK280.out 5).trans rfl; have hcz31_6 : w30.cell? ⟨gb280, 6, none⟩ = some (.int .i64 0) := (blk_cell BK280.out 6).trans rfl; have hfz31_0 := blk_frozen BK280.out 0; have hfz31_1 := blk_frozen BK280.out 1; have hfz31_2 := blk_frozen BK280.out 2; have hfz31_3 := blk_frozen BK280.out 3; have hfz31_4 := blk_frozen BK280.out 4; have hfz31_5 := blk_frozen BK280.out 5; have hfz31_6 := blk_frozen BK280.out 6))
  refine bodyPost_ret (results_ct rfl _ _ gb280 28 #[.int .i64 0, .int .i64 0, .slice none 0 0, .slice none 0 0, .int .i64 0, .bool false, .int .i64 0] (0, 0) _ rfl (by (with_reducible repeat (first | refine blk_drewN ?_ _ | refine blk_drew ?_ | refine blk_alloc ?_ _)); refine blk_put (cs := #[.int .i64 0, .int .i64 0, .slice none 0 0, .slice none 0 0, .int .i64 0, .bool false, .int .i64 0]) ?_ 6 _ rfl; (with_reducible repeat (first | refine blk_drewN ?_ _ | refine blk_drew ?_ | refine blk_alloc ?_ _)); refine blk_put (cs := #[.int .i64 0, .int .i64 0, .slice none 0 0, .slice none 0 0, .int .i64 0, .bool false, .int .i64 0]) ?_ 5 _ rfl; (with_reducible repeat (first | refine blk_drewN ?_ _ | refine blk_drew ?_ | refine blk_alloc ?_ _)); refine blk_put (cs := #[.int .i64 0, .int .i64 0, .slice none 0 0, .slice none 0 0, .int .i64 0, .bool false, .int .i64 0]) ?_ 4 _ rfl; (with_reducible repeat (first | refine blk_drewN ?_ _ | refine blk_drew ?_ | refine blk_alloc ?_ _)); refine blk_put (cs := #[.int .i64 0, .int .i64 0, .slice none 0 0, .slice none 0 0, .int .i64 0, .bool false, .int .i64 0]) ?_ 3 _ rfl; (with_reducible repeat (first | refine blk_drewN ?_ _ | refine blk_drew ?_ | refine blk_alloc ?_ _)); refine blk_put (cs := #[.int .i64 0, .int .i64 0, .slice none 0 0, .slice none 0 0, .int .i64 0, .bool false, .int .i64 0]) ?_ 2 _ rfl; (with_reducible repeat (first | refine blk_drewN ?_ _ | refine blk_drew ?_ | refine blk_alloc ?_ _)); refine blk_put (cs := #[.int .i64 0, .int .i64 0, .slice none 0 0, .slice none 0 0, .int .i64 0, .bool false, .int .i64 0]) ?_ 1 _ rfl; (with_reducible repeat (first | refine blk_drewN ?_ _ | refine blk_drew ?_ | refine blk_alloc ?_ _)); refine blk_put (cs := #[.int .i64 0, .int .i64 0, .slice none 0 0, .slice none 0 0, .int .i64 0, .bool false, .int .i64 0]) ?_ 0 _ rfl; (with_reducible repeat (first | refine blk_drewN ?_ _ | refine blk_drew ?_ | refine blk_alloc ?_ _)); exact BK280.out) Tryd.underlying28 rfl (by kernel_rfl)) rfl ?_
  refine ⟨_, _, zE, ?_, ?_, ?_⟩
  · exact by first | exact Kd.R_nil _ _ _ _ _ | exact Kd.N_nil _ _ _ _ _ | exact Kd.V_nil _ _ _ _ _ | exact Kd.Q_nil _ _ _ _ _ | exact Kd.S_nil _ _ _ _ _
  · exact by first | exact Kd.R_nil _ _ _ _ _ | exact Kd.N_nil _ _ _ _ _ | exact Kd.V_nil _ _ _ _ _ | exact Kd.Q_nil _ _ _ _ _ | exact Kd.S_nil _ _ _ _ _
  · (repeat (refine below_set ?_ GE280.out)); exact HB.out

/-! ### laws_szIntS: function 13 -/
set_option maxHeartbeats 8000000 in
set_option maxRecDepth 100000 in
theorem laws_szIntS.calls (A0 : Option Addr) (c0 : Nat) (l0 : List Int) (a1 : Int) (r : Int) (w : World) (hr0 : Kd.C (Kd.int .i64) w A0 l0.length l0) (hc0 : l0.length ≤ c0) (h : laws_szIntS.f l0 a1 = some r) :
  Calls Tryd.prog 13 #[.slice A0 l0.length c0, .int .i64 a1] w fun e w' => e = .returned (.int .i64 r) ∧ Drawn0 w w' := by
 have HR0 := Aside0.mk hr0
 have HC0 := Aside0.mk hc0
 clear hr0 hc0
 have H : (if (wrap64 (a1 - (l0.length : Int))) < 0 then (some (-1)) else (some (wrap64 (a1 - (l0.length : Int))))) = some r := h
 clear h
 by_cases c3 : (wrap64 (a1 - (l0.length : Int))) < 0
 ·rw [if_pos c3] at H
  have c3b0 : decide ((wrap64 (a1 - (l0.length : Int))) < 0) = true := decide_eq_true c3
  clear c3
  obtain rfl := Option.some.inj H
  go_enter Tryd.func13, Tryd.ntmps13
  go_wp2
  go_ret
  exact ⟨by first | rfl | (simp; done) | (simp [*]; done), by repeat (first | exact Drawn0.refl _ | apply Drawn0.step)⟩
 ·rw [if_neg c3] at H
  have c3b0 : decide ((wrap64 (a1 - (l0.length : Int))) < 0) = false := decide_eq_false c3
  clear c3
  obtain rfl := Option.some.inj H
  go_enter Tryd.func13, Tryd.ntmps13
  go_wp2
  go_ret
  exact ⟨by first | rfl | (simp; done) | (simp [*]; done), by repeat (first | exact Drawn0.refl _ | apply Drawn0.step)⟩

/-! ### laws_szFigure: function 4 -/
set_option maxHeartbeats 8000000 in
set_option maxRecDepth 100000 in
theorem laws_szFigure.calls (a0_0 : Int) (a0_1 : Int) (A0_2 : Option Addr) (c0_2 : Nat) (l0_2 : List Int) (A0_3 : Option Addr) (c0_3 : Nat) (l0_3 : List Int) (a1 : Int) (r : Int) (w : World) (hr0_2 : Kd.C (Kd.int .i64) w A0_2 l0_2.length l0_2) (hc0_2 : l0_2.length ≤ c0_2) (hr0_3 : Kd.C (Kd.int .i64) w A0_3 l0_3.length l0_3) (hc0_3 : l0_3.length ≤ c0_3) (h : laws_szFigure.f a0_0 a0_1 l0_2 l0_3 a1 = some r) :
  Calls Tryd.prog 4 #[.agg #[.int .i64 a0_0, .int .i64 a0_1, .slice A0_2 l0_2.length c0_2, .slice A0_3 l0_3.length c0_3], .int .i64 a1] w fun e w' => e = .returned (.int .i64 r) ∧ Below w.heap.size w w' := by
 have hu24 := Tryd.underlying24
 have HR0_2 := Aside0.mk hr0_2
 have HC0_2 := Aside0.mk hc0_2
 clear hr0_2 hc0_2
 have HR0_3 := Aside0.mk hr0_3
 have HC0_3 := Aside0.mk hc0_3
 clear hr0_3 hc0_3
 have HB := Aside0.mk (Below.refl w.heap.size w)
 have H : ((laws_szIntS.f l0_2 a1).bind fun t295 => (if t295 < 0 then (some (-1)) else ((laws_szIntS.f l0_3 t295).bind fun t296 => (if t296 < 0 then (some (-1)) else (some t296))))) = some r := h
 clear h
 replace H := Option.bind_eq_some_iff.mp H
 obtain ⟨t295, A30, H⟩ := H
 replace H : (if t295 < 0 then (some (-1)) else ((laws_szIntS.f l0_3 t295).bind fun t296 => (if t296 < 0 then (some (-1)) else (some t296)))) = some r := H
 have A3 := Aside0.mk A30
 clear A30
 by_cases c4 : t295 < 0
 ·rw [if_pos c4] at H
  have c4b0 : decide (t295 < 0) = true := decide_eq_true c4
  clear c4
  obtain rfl := Option.some.inj H
  go_enter Tryd.func4, Tryd.ntmps4
  go_wp2_with (first | ((with_reducible refine gate_dst (N := 2) rfl ?_); refine zbx 2 #[.int .i64 a0_0, .int .i64 a0_1, .slice A0_2 l0_2.length c0_2, .slice A0_3 l0_3.length c0_3] 24 ?_; intro gb294 hg w5 hbox hb; have BK294 := Aside0.mk (hbox); have GW294 := zGe hg; have GE294 := zGe hg; replace HB := zBb hb; clear hb hbox hg; obtain ⟨hcz6_0, hcz6_1, hcz6_2, hcz6_3, hfz6_0, hfz6_1, hfz6_2, hfz6_3⟩ := blk4 BK294) | ((with_reducible refine gate_callee (f := 13) rfl ?_); refine goesL_ (some 8) rfl rfl Tryd.func13 (by kernel_rfl) rfl #[.slice A0_2 l0_2.length c0_2, .int .i64 a1] rfl zM ?_; (with_reducible refine (laws_szIntS.calls _ _ l0_2 a1 t295 _ ?side1 ?side2 A3.out).mono ?_); (case side1 => exact zC HR0_2); (case side2 => exact HC0_2.out); rintro e w' ⟨rfl, ⟨nd, rfl⟩⟩; refine ⟨_, rfl, ?_⟩))
  go_ret
  exact ⟨zE, zB⟩
 ·rw [if_neg c4] at H
  have c4b0 : decide (t295 < 0) = false := decide_eq_false c4
  clear c4
  replace H := Option.bind_eq_some_iff.mp H
  obtain ⟨t296, A70, H⟩ := H
  replace H : (if t296 < 0 then (some (-1)) else (some t296)) = some r := H
  have A7 := Aside0.mk A70
  clear A70
  by_cases c8 : t296 < 0
  ·rw [if_pos c8] at H
   have c8b0 : decide (t296 < 0) = true := decide_eq_true c8
   clear c8
   obtain rfl := Option.some.inj H
   go_enter Tryd.func4, Tryd.ntmps4
   go_wp2_with (first | ((with_reducible refine gate_dst (N := 2) rfl ?_); refine zbx 2 #[.int .i64 a0_0, .int .i64 a0_1, .slice A0_2 l0_2.length c0_2, .slice A0_3 l0_3.length c0_3] 24 ?_; intro gb294 hg w9 hbox hb; have BK294 := Aside0.mk (hbox); have GW294 := zGe hg; have GE294 := zGe hg; replace HB := zBb hb; clear hb hbox hg; obtain ⟨hcz10_0, hcz10_1, hcz10_2, hcz10_3, hfz10_0, hfz10_1, hfz10_2, hfz10_3⟩ := blk4 BK294) | ((with_reducible refine gate_callee (f := 13) rfl ?_); refine goesL_ (some 8) rfl rfl Tryd.func13 (by kernel_rfl) rfl #[.slice A0_2 l0_2.length c0_2, .int .i64 a1] rfl zM ?_; (with_reducible refine (laws_szIntS.calls _ _ l0_2 a1 t295 _ ?side1 ?side2 A3.out).mono ?_); (case side1 => exact zC HR0_2); (case side2 => exact HC0_2.out); rintro e w' ⟨rfl, ⟨nd, rfl⟩⟩; refine ⟨_, rfl, ?_⟩) | ((with_reducible refine gate_callee (f := 13) rfl ?_); refine goesL_ (some 14) rfl rfl Tryd.func13 (by kernel_rfl) rfl #[.slice A0_3 l0_3.length c0_3, .int .i64 t295] rfl zM ?_; (with_reducible refine (laws_szIntS.calls _ _ l0_3 t295 t296 _ ?side1 ?side2 A7.out).mono ?_); (case side1 => exact zC HR0_3); (case side2 => exact HC0_3.out); rintro e w' ⟨rfl, ⟨nd, rfl⟩⟩; refine ⟨_, rfl, ?_⟩))
   go_ret
   exact ⟨zE, zB⟩
  ·rw [if_neg c8] at H
   have c8b0 : decide (t296 < 0) = false := decide_eq_false c8
   clear c8
   obtain rfl := Option.some.inj H
   go_enter Tryd.func4, Tryd.ntmps4
   go_wp2_with (first | ((with_reducible refine gate_dst (N := 2) rfl ?_); refine zbx 2 #[.int .i64 a0_0, .int .i64 a0_1, .slice A0_2 l0_2.length c0_2, .slice A0_3 l0_3.length c0_3] 24 ?_; intro gb294 hg w11 hbox hb; have BK294 := Aside0.mk (hbox); have GW294 := zGe hg; have GE294 := zGe hg; replace HB := zBb hb; clear hb hbox hg; obtain ⟨hcz12_0, hcz12_1, hcz12_2, hcz12_3, hfz12_0, hfz12_1, hfz12_2, hfz12_3⟩ := blk4 BK294) | ((with_reducible refine gate_callee (f := 13) rfl ?_); refine goesL_ (some 8) rfl rfl Tryd.func13 (by kernel_rfl) rfl #[.slice A0_2 l0_2.length c0_2, .int .i64 a1] rfl zM ?_; (with_reducible refine (laws_szIntS.calls _ _ l0_2 a1 t295 _ ?side1 ?side2 A3.out).mono ?_); (case side1 => exact zC HR0_2); (case side2 => exact HC0_2.out); rintro e w' ⟨rfl, ⟨nd, rfl⟩⟩; refine ⟨_, rfl, ?_⟩) | ((with_reducible refine gate_callee (f := 13) rfl ?_); refine goesL_ (some 14) rfl rfl Tryd.func13 (by kernel_rfl) rfl #[.slice A0_3 l0_3.length c0_3, .int .i64 t295] rfl zM ?_; (with_reducible refine (laws_szIntS.calls _ _ l0_3 t295 t296 _ ?side1 ?side2 A7.out).mono ?_); (case side1 => exact zC HR0_3); (case side2 => exact HC0_3.out); rintro e w' ⟨rfl, ⟨nd, rfl⟩⟩; refine ⟨_, rfl, ?_⟩))
   go_ret
   exact ⟨zE, zB⟩

/-! ### laws_toIntS: function 16 -/
def numCells (l : List Int) : Array Value := (l.map (Value.int .i64)).toArray
theorem numCells_set (l : List Int) (k : Nat) (x : Int) : (numCells l).setIfInBounds k (.int .i64 x) = numCells (l.set k x) := by
 simp [numCells, List.map_set]
theorem numCells_get (l : List Int) (k : Nat) (h : k < l.length) : (numCells l)[k]? = some (.int .i64 (l.getD k 0)) := by
 simp [numCells, h]
theorem numCells_made (n : Nat) : madeCells #[.int .i64 0] n = numCells (List.replicate n 0) := by
 apply Array.ext
 ·simp [madeCells, numCells]
 ·intro i h1 h2
  simp [madeCells, numCells, Nat.mod_one]
def spare (l : List Int) : List Int := l ++ List.replicate (room l.length) (-7000000000000000101)
/-- a slice that toIntS makes: its block, whole -/
structure Spare (base : Nat) (w' : World) (b : Nat) (l : List Int) : Prop where
 ge : base ≤ b
 blk : w'.heap[b]? = some (.cells (numCells (spare l)) 3 (0, 0))
theorem Spare.lt {base : Nat} {w' : World} {b : Nat} {l : List Int} (h : Spare base w' b l) : b < w'.heap.size := blk_lt h.blk
theorem Spare.later {base : Nat} {w' w2 : World} {b : Nat} {l : List Int} (h : Spare base w' b l) (hb : Below w'.heap.size w' w2) : Spare base w2 b l := ⟨h.ge, (hb.block b h.lt).trans h.blk⟩
theorem Spare.set {base : Nat} {w' : World} {b : Nat} {l : List Int} (h : Spare base w' b l) {p : Addr} (hp : b ≠ p.block) (u : Value) : Spare base (w'.setCell p u) b l := ⟨h.ge, blk_far h.blk hp u⟩
theorem Spare.low {base base' : Nat} {w' : World} {b : Nat} {l : List Int} (h : Spare base w' b l) (hb : base' ≤ base) : Spare base' w' b l := ⟨Nat.le_trans hb h.ge, h.blk⟩
theorem set_fill (l : List Int) (k N : Nat) (h : k < l.length) (hN : l.length ≤ N) : (l.take k ++ List.replicate (N - k) 0).set k (rd l k) = l.take (k + 1) ++ List.replicate (N - (k + 1)) 0 := by
 have e : rd l (k : Int) = l[k] := by simp [rd, h]
 rw [e, List.set_append_right _ _ (by simp; omega), List.take_succ_eq_append_getElem h, List.append_assoc]
 congr 1
 rw [show N - k = (N - (k + 1)) + 1 by omega, List.replicate_succ]
 simp [Nat.min_eq_left (Nat.le_of_lt h)]
theorem set_spare (l : List Int) (k N : Nat) (h0 : l.length ≤ k) (h : k < N) (x : Int) : (l ++ List.replicate (k - l.length) x ++ List.replicate (N - k) 0).set k x = l ++ List.replicate (k + 1 - l.length) x ++ List.replicate (N - (k + 1)) 0 := by
 rw [List.set_append_right _ _ (by simp; omega), show k + 1 - l.length = (k - l.length) + 1 by omega, List.replicate_succ', ← List.append_assoc, List.append_assoc (l ++ _)]
 congr 1
 rw [show N - k = (N - (k + 1)) + 1 by omega, List.replicate_succ]
 have : k - (l ++ List.replicate (k - l.length) x).length = 0 := by simp; omega
 rw [this]; simp

theorem heap_at3 (w : World) (o0 o1 o2 : Obj) : (((w.alloc o0).alloc o1).alloc o2).heap[w.heap.size]? = some o0 ∧ (((w.alloc o0).alloc o1).alloc o2).heap[w.heap.size + 1]? = some o1 ∧ (((w.alloc o0).alloc o1).alloc o2).heap[w.heap.size + 1 + 1]? = some o2 := by
 refine ⟨?_, ?_, ?_⟩
 ·show (((w.heap.push o0).push o1).push o2)[w.heap.size]? = _
  rw [Array.getElem?_push, if_neg (by simp; omega), Array.getElem?_push, if_neg (by simp), Array.getElem?_push, if_pos rfl]
 ·show (((w.heap.push o0).push o1).push o2)[w.heap.size + 1]? = _
  rw [Array.getElem?_push, if_neg (by simp), Array.getElem?_push, if_pos (by simp)]
 ·show (((w.heap.push o0).push o1).push o2)[w.heap.size + 1 + 1]? = _
  rw [Array.getElem?_push, if_pos (by simp)]
theorem heap_new (w : World) (o : Obj) : (w.alloc o).heap[w.heap.size]? = some o := by
 show (w.heap.push o)[w.heap.size]? = some o
 simp

set_option maxHeartbeats 2000000 in
theorem room_calls (n : Nat) (h : n ≤ 1000000) (w : World) :
  Calls Tryd.prog 30 #[.int .i64 n] w fun e w' => e = .returned (.int .i64 (room n)) ∧ Drawn0 w w' := by
 unfold room
 by_cases h1 : n % 6 = 5
 ·rw [if_pos h1]
  have e : ((n : Int) % 6 == 5) = true := beq_iff_eq.2 (by omega)
  go_enter Tryd.func30, Tryd.ntmps30
  go_wp2
  go_ret
  exact ⟨rfl, ⟨0, rfl⟩⟩
 ·rw [if_neg h1]
  have e : ((n : Int) % 6 == 5) = false := beq_eq_false_iff_ne.2 (by omega)
  by_cases h2 : n % 3 = 0
  ·rw [if_pos h2]
   have e2 : ((n : Int) % 3 == 0) = true := beq_iff_eq.2 (by omega)
   go_enter Tryd.func30, Tryd.ntmps30
   go_wp2
   go_ret
   exact ⟨rfl, ⟨0, rfl⟩⟩
  ·rw [if_neg h2]
   have e2 : ((n : Int) % 3 == 0) = false := beq_eq_false_iff_ne.2 (by omega)
   go_enter Tryd.func30, Tryd.ntmps30
   go_wp2
   go_ret
   exact ⟨rfl, ⟨0, rfl⟩⟩

set_option maxHeartbeats 4000000 in
set_option maxRecDepth 100000 in
theorem to_full (A0 : Option Addr) (c0 : Nat) (l : List Int) (a1 : Bool) (w : World) (hr : Kd.C (Kd.int .i64) w A0 l.length l) (hlen : l.length ≤ 1000000) (ha : (a1 && ((l.length : Int) == 0)) = false) :
  Calls Tryd.prog 16 #[.slice A0 l.length c0, .bool a1] w fun e w' => ∃ b, e = .returned (.slice (some ⟨b, 0, none⟩) l.length (l.length + room l.length)) ∧ Spare w.heap.size w' b l ∧ Below w.heap.size w w' := by
 have hroom : room l.length ≤ l.length + 1 := by unfold room; split <;> (try split) <;> omega
 have RC := fun W => room_calls l.length hlen W
 obtain ⟨m, hm⟩ : ∃ m, room l.length = m := ⟨_, rfl⟩
 rw [hm] at RC hroom
 have hmk : ∀ W : World, (Instr.makeSlice 22 (.int .i64 ((l.length : Int) + (m : Int))) (.int .i64 ((l.length : Int) + (m : Int)))).run Tryd.prog W = .ok (.slice (some ⟨W.heap.size, 0, none⟩) (l.length + m) (l.length + m)) (W.alloc (.cells (numCells (List.replicate (l.length + m) 0)) 3)) := by
  intro W
  obtain ⟨i0, hi, hz⟩ := Option.map_eq_some_iff.1 info3
  simp only [Prod.mk.injEq] at hz
  have := run_make (P := Tryd.prog) W 22 3 i0 (.int .i64 0) Tryd.underlying22 hi hz.1 .i64 .i64 ((l.length : Int) + m) ((l.length : Int) + m) (by omega) (by omega) (by rw [hz.2.2]; omega) (by omega)
  rw [this, hz.2.1, show ((l.length : Int) + m).toNat = l.length + m by omega, Nat.mul_one, ← numCells_made]
  rfl
 have HM := Aside0.mk hm
 have HR := Aside0.mk hr
 clear hm hr
 have hparts : a1 = false ∨ (a1 = true ∧ ((l.length : Int) == 0) = false) := by
  cases a1
  ·exact .inl rfl
  ·exact .inr ⟨rfl, by simpa using ha⟩
 clear ha
 rcases hparts with rfl | ⟨rfl, hne⟩
 all_goals
  go_enter Tryd.func16, Tryd.ntmps16
  go_wp2_with (go_at_call 30; refine (RC _).mono ?_; rintro e w' ⟨rfl, ⟨nd, rfl⟩⟩)
  go_loopw [6] (fun i wr => ∃ k : Nat, k ≤ l.length ∧ i = .int .i64 k ∧ Aside0 (wr.heap[w.heap.size]? = some (.cells (numCells (l.take k ++ List.replicate (l.length + m - k) 0)) 3 (0, 0))) ∧ Aside0 (Below w.heap.size w wr)) (fun i _ => l.length - (intOf i).toNat)
  case atStart => exact ⟨0, Nat.zero_le _, rfl, ⟨by rw [List.take_zero, List.nil_append, Nat.sub_zero]; exact heap_new (w.drewN nd) _⟩, ⟨below_alloc (pw_below_drewN (Below.refl _ _) _) _⟩⟩
  case round =>
   obtain ⟨k, hk, rfl, HK, HB⟩ := hrel
   by_cases hlt : k < l.length
   ·have hltz : (k : Int) < (l.length : Int) := by omega
    obtain ⟨ad, rfl, hcell0⟩ := Kd.at_int (Kd.C_below HR.out HB.out) k (by omega) hltz
    rw [Int.toNat_natCast] at hcell0
    have hcell : wr.cell? (ad.add k) = some (.int .i64 (rd l k)) := hcell0
    clear hcell0
    have hc2 := blk_cell HK.out k
    rw [numCells_get _ _ (by simp; omega)] at hc2
    have hf2 := blk_frozen HK.out k
    have hput := Aside0.mk (blk_put HK.out k (.int .i64 (rd l k)) (by rw [numCells_set, set_fill l k _ hlt (by omega)]))
    generalize hy : rd l k = y at hcell
    have HY := Aside0.mk hy
    clear hy
    go_wp2
    go_roundw
    case rel => exact ⟨k + 1, by omega, by go_num, ⟨by rw [HY.out] at hput; exact hput.out⟩, ⟨below_set HB.out (Nat.le_refl _)⟩⟩
    case measure => simp [intOf]; omega
   ·have hk2 : k = l.length := by omega
    subst hk2
    have hltz : ¬ ((l.length : Int) < (l.length : Int)) := by omega
    have HK2 := Aside0.mk (by have := HK.out; rw [List.take_length, show l.length + m - l.length = m by omega] at this; exact this)
    clear HK
    go_wp2
    go_loopw [7] (fun i wr => ∃ k : Nat, l.length ≤ k ∧ k ≤ l.length + m ∧ i = .int .i64 k ∧ Aside0 (wr.heap[w.heap.size]? = some (.cells (numCells (l ++ List.replicate (k - l.length) (-7000000000000000101) ++ List.replicate (l.length + m - k) 0)) 3 (0, 0))) ∧ Aside0 (Below w.heap.size w wr)) (fun i _ => l.length + m - (intOf i).toNat)
    case atStart => exact ⟨l.length, Nat.le_refl _, by omega, rfl, ⟨by rw [Nat.sub_self, List.replicate_zero, List.append_nil, show l.length + m - l.length = m by omega]; exact HK2.out⟩, ⟨HB.out⟩⟩
    case round =>
     clear HK2 HB hltz
     obtain ⟨k, hk0, hk, rfl, HK, HB⟩ := hrel
     by_cases hlt : k < l.length + m
     ·have hltz : (k : Int) < (l.length + m : Nat) := by omega
      have hc2 := blk_cell HK.out k
      rw [numCells_get _ _ (by simp; omega)] at hc2
      have hf2 := blk_frozen HK.out k
      have hput := Aside0.mk (blk_put HK.out k (.int .i64 (-7000000000000000101)) (by rw [numCells_set, set_spare l k _ hk0 hlt]))
      go_wp2
      go_roundw
      case rel => exact ⟨k + 1, by omega, by omega, by go_num, ⟨hput.out⟩, ⟨below_set HB.out (Nat.le_refl _)⟩⟩
      case measure => simp [intOf]; omega
     ·have hk2 : k = l.length + m := by omega
      subst hk2
      have hltz : ¬ (((l.length + m : Nat) : Int) < ((l.length + m : Nat) : Int)) := by omega
      have hcut := Aside0.mk (cut_to (P := Tryd.prog) 22 3 .i64 Tryd.underlying22 (Option.map_eq_some_iff.1 info3).choose_spec.1 (some ⟨w.heap.size, 0, none⟩) (l.length + m) (l.length + m) (l.length : Int) (by omega) (by omega) (Nat.le_refl _))
      have hcut2 := hcut.out
      rw [Int.toNat_natCast] at hcut2
      go_wp2
      go_ret
      refine ⟨w.heap.size, by rw [HM.out]; rfl, ⟨Nat.le_refl _, ?_⟩, HB.out⟩
      have := HK.out
      rw [show l.length + m - l.length = m by omega, Nat.sub_self, List.replicate_zero, List.append_nil] at this
      unfold spare
      rw [HM.out]
      exact this

theorem Spare.reads {base : Nat} {w' : World} {b : Nat} {l : List Int} (h : Spare base w' b l) (hlen : l.length ≤ 1000000) : Kd.C (Kd.int .i64) w' (some ⟨b, 0, none⟩) l.length l := by
 refine Kd.C_of_reads (d := (0 : Int)) (h1 := fun _ => rfl) ?_
 refine ⟨rfl, by omega, fun hp => ⟨_, rfl, fun j hj => ?_⟩⟩
 rw [Go.Proofs.YtopifdmaaibcnaaDoorW.PrintWords.add_plain, blk_cell h.blk j, numCells_get _ _ (by unfold spare; simp; omega)]
 unfold spare
 rw [List.getD_eq_getElem?_getD, List.getElem?_append_left hj, ← List.getD_eq_getElem?_getD]

/-- a slice that reads as a list -/
def Came (w' : World) (v : Value) (l : List Int) : Prop := ∃ A c, v = .slice A l.length c ∧ l.length ≤ c ∧ Kd.C (Kd.int .i64) w' A l.length l
theorem Came.later {w' w2 : World} {v : Value} {l : List Int} (h : Came w' v l) (hb : Below w'.heap.size w' w2) : Came w2 v l := by
 obtain ⟨A, c, h1, h2, h3⟩ := h
 exact ⟨A, c, h1, h2, Kd.C_below h3 hb⟩
theorem Came.of {w' : World} {A : Option Addr} {c : Nat} {l : List Int} (h2 : l.length ≤ c) (h3 : Kd.C (Kd.int .i64) w' A l.length l) : Came w' (.slice A l.length c) l := ⟨A, c, rfl, h2, h3⟩

set_option maxHeartbeats 4000000 in
theorem to_nil (A0 : Option Addr) (c0 : Nat) (w : World) :
  Calls Tryd.prog 16 #[.slice A0 0 c0, .bool true] w fun e w' => e = .returned (.slice none 0 0) ∧ w' = w := by
 go_enter Tryd.func16, Tryd.ntmps16
 go_wp2
 go_ret
 exact ⟨rfl, rfl⟩

/-- a figure that toFigure makes: two blocks, whole -/
structure SpareFig (base : Nat) (w' : World) (v2 v3 : Value) (l2 l3 : List Int) : Prop where
 out : ∃ b2 b3, v2 = .slice (some ⟨b2, 0, none⟩) l2.length (l2.length + room l2.length) ∧ v3 = .slice (some ⟨b3, 0, none⟩) l3.length (l3.length + room l3.length) ∧ b2 ≠ b3 ∧ Spare base w' b2 l2 ∧ Spare base w' b3 l3

set_option maxHeartbeats 4000000 in
set_option maxRecDepth 100000 in
theorem tofig_full (a0 a1 : Int) (A2 : Option Addr) (c2 : Nat) (l2 : List Int) (A3 : Option Addr) (c3 : Nat) (l3 : List Int) (w : World)
  (hr2 : Kd.C (Kd.int .i64) w A2 l2.length l2) (hr3 : Kd.C (Kd.int .i64) w A3 l3.length l3) (h2 : l2.length ≤ 1000000) (h3 : l3.length ≤ 1000000) :
  Calls Tryd.prog 6 #[.agg #[.int .i64 a0, .int .i64 a1, .slice A2 l2.length c2, .slice A3 l3.length c3], .bool false] w fun e w' => ∃ v2 v3, e = .returned (.agg #[.int .i64 a0, .int .i64 a1, v2, v3]) ∧ SpareFig w.heap.size w' v2 v3 l2 l3 ∧ Below w.heap.size w w' := by
 have C2 := fun W hr => to_full A2 c2 l2 false W hr h2 rfl
 have C3 := fun W hr => to_full A3 c3 l3 false W hr h3 rfl
 have HR2 := Aside0.mk hr2
 have HR3 := Aside0.mk hr3
 have hu := Tryd.underlying24
 have hu2 := Tryd.underlying26
 clear hr2 hr3
 go_enter Tryd.func6, Tryd.ntmps6
 go_wp2_with fail
 refine (C2 _ (Kd.C_alloc (Kd.C_alloc (Kd.C_alloc HR2.out _) _) _)).mono ?_
 rintro e w1 ⟨b2, rfl, hs2, hb2⟩
 have hz : w.heap.size + 3 ≤ b2 := by have := hs2.ge; simp at this; omega
 have B0 : w1.heap[w.heap.size]? = _ := (hb2.block _ (by simp; try omega)).trans (heap_at3 _ _ _ _).1
 have B2 : w1.heap[w.heap.size + 1 + 1]? = _ := (hb2.block _ (by simp; try omega)).trans (heap_at3 _ _ _ _).2.2
 have B1 : w1.heap[w.heap.size + 1]? = _ := (hb2.block _ (by simp; try omega)).trans (heap_at3 _ _ _ _).2.1
 have k0 : w1.cell? ⟨w.heap.size, 3, none⟩ = some (.slice A3 l3.length c3) := (blk_cell B0 3).trans rfl
 have k2 : w1.cell? ⟨w.heap.size + 1 + 1, 2, none⟩ = some (.slice none 0 0) := (blk_cell B2 2).trans rfl
 have f2 : w1.frozen? ⟨w.heap.size + 1 + 1, 2, none⟩ = false := blk_frozen B2 2
 have B2' := blk_put B2 2 (.slice (some ⟨b2, 0, none⟩) l2.length (l2.length + room l2.length)) rfl
 have B0' := blk_far B0 (p := ⟨w.heap.size + 1 + 1, 2, none⟩) (by simp; omega) (.slice (some ⟨b2, 0, none⟩) l2.length (l2.length + room l2.length))
 have B1' := blk_far B1 (p := ⟨w.heap.size + 1 + 1, 2, none⟩) (by simp) (.slice (some ⟨b2, 0, none⟩) l2.length (l2.length + room l2.length))
 have HB1 := Aside0.mk B1'
 have HB2 := Aside0.mk (hs2.set (p := ⟨w.heap.size + 1 + 1, 2, none⟩) (by simp; omega) (.slice (some ⟨b2, 0, none⟩) l2.length (l2.length + room l2.length)))
 have HBB := Aside0.mk hb2
 have HB0 := Aside0.mk B0'
 have HB2' := Aside0.mk B2'
 have HZ := Aside0.mk hz
 clear B0' B1' B2' B0 B1 B2 hs2 hb2
 go_wp2_with fail
 have hbw : Below w.heap.size w w1 := below_step (below_alloc (below_alloc (below_alloc (Below.refl _ _) _) _) _) HBB.out
 have hbw2 := Aside0.mk (below_set (j := 2) (v := (.slice (some ⟨b2, 0, none⟩) l2.length (l2.length + room l2.length))) hbw (show w.heap.size ≤ w.heap.size + 1 + 1 by omega))
 clear hbw HBB
 refine (C3 _ (Kd.C_below HR3.out hbw2.out)).mono ?_
 rintro e w2 ⟨b3, rfl, hs3, hb3⟩
 have B1 := (hb3.block _ (blk_lt HB1.out)).trans HB1.out
 have B2 := (hb3.block _ (blk_lt HB2'.out)).trans HB2'.out
 have S2 := Aside0.mk (HB2.out.later hb3)
 clear k0 k2 f2
 have k0 : w2.cell? ⟨w.heap.size + 1 + 1, 0, none⟩ = some (.int .i64 a0) := (blk_cell B2 0).trans rfl
 have k1 : w2.cell? ⟨w.heap.size + 1 + 1, 1, none⟩ = some (.int .i64 a1) := (blk_cell B2 1).trans rfl
 have k2 : w2.cell? ⟨w.heap.size + 1 + 1, 2, none⟩ = some (.slice (some ⟨b2, 0, none⟩) l2.length (l2.length + room l2.length)) := (blk_cell B2 2).trans rfl
 have k3 : w2.cell? ⟨w.heap.size + 1 + 1, 3, none⟩ = some (.slice none 0 0) := (blk_cell B2 3).trans rfl
 have f3 : w2.frozen? ⟨w.heap.size + 1 + 1, 3, none⟩ = false := blk_frozen B2 3
 have m0 : w2.cell? ⟨w.heap.size + 1, 0, none⟩ = some (.int .i64 0) := (blk_cell B1 0).trans rfl
 have m1 : w2.cell? ⟨w.heap.size + 1, 1, none⟩ = some (.int .i64 0) := (blk_cell B1 1).trans rfl
 have m2 : w2.cell? ⟨w.heap.size + 1, 2, none⟩ = some (.slice none 0 0) := (blk_cell B1 2).trans rfl
 have m3 : w2.cell? ⟨w.heap.size + 1, 3, none⟩ = some (.slice none 0 0) := (blk_cell B1 3).trans rfl
 have g0 : w2.frozen? ⟨w.heap.size + 1, 0, none⟩ = false := blk_frozen B1 0
 have g1 : w2.frozen? ⟨w.heap.size + 1, 1, none⟩ = false := blk_frozen B1 1
 have g2 : w2.frozen? ⟨w.heap.size + 1, 2, none⟩ = false := blk_frozen B1 2
 have g3 : w2.frozen? ⟨w.heap.size + 1, 3, none⟩ = false := blk_frozen B1 3
 have HS3 := Aside0.mk hs3
 have HB3 := Aside0.mk hb3
 have HX1 := Aside0.mk B1
 have HX2 := Aside0.mk B2
 clear B1 B2 hs3 hb3
 go_wp2_with fail
 refine bodyPost_ret (results_cell_row rfl _ _ (w.heap.size + 1) 26 #[.int .i64 a0, .int .i64 a1, .slice (some ⟨b2, 0, none⟩) l2.length (l2.length + room l2.length), .slice (some ⟨b3, 0, none⟩) l3.length (l3.length + room l3.length)] (0, 0) _ rfl ?_ Tryd.underlying26 rfl (by kernel_rfl)) rfl ?_
 ·refine blk_put (cs := #[.int .i64 a0, .int .i64 a1, .slice (some ⟨b2, 0, none⟩) l2.length (l2.length + room l2.length), .slice none 0 0]) ?_ 3 _ rfl
  refine blk_put (cs := #[.int .i64 a0, .int .i64 a1, .slice none 0 0, .slice none 0 0]) ?_ 2 _ rfl
  refine blk_put (cs := #[.int .i64 a0, .int .i64 0, .slice none 0 0, .slice none 0 0]) ?_ 1 _ rfl
  refine blk_put (cs := #[.int .i64 0, .int .i64 0, .slice none 0 0, .slice none 0 0]) ?_ 0 _ rfl
  exact blk_far HX1.out (by simp) _
 ·have hz3 : w.heap.size + 3 ≤ b3 := by have := HS3.out.ge; have := hbw2.out.size; have := blk_lt HB2'.out; simp only [World.setCell] at *; simp at *; omega
  have hz2 := HZ.out
  have hne : b2 ≠ b3 := by have := HB2.out.lt; have := HS3.out.ge; omega
  refine ⟨_, _, rfl, ⟨b2, b3, rfl, rfl, hne, ?_, ?_⟩, ?_⟩
  ·exact ⟨Nat.le_trans (by omega) hz2, ((((S2.out.set (p := ⟨w.heap.size + 1 + 1, 3, none⟩) (by simp; omega) _).set (p := ⟨w.heap.size + 1, 0, none⟩) (by simp; omega) _).set (p := ⟨w.heap.size + 1, 1, none⟩) (by simp; omega) _).set (p := ⟨w.heap.size + 1, 2, none⟩) (by simp; omega) _).set (p := ⟨w.heap.size + 1, 3, none⟩) (by simp; omega) _ |>.blk⟩
  ·exact ⟨Nat.le_trans (by omega) hz3, ((((HS3.out.set (p := ⟨w.heap.size + 1 + 1, 3, none⟩) (by simp; omega) _).set (p := ⟨w.heap.size + 1, 0, none⟩) (by simp; omega) _).set (p := ⟨w.heap.size + 1, 1, none⟩) (by simp; omega) _).set (p := ⟨w.heap.size + 1, 2, none⟩) (by simp; omega) _).set (p := ⟨w.heap.size + 1, 3, none⟩) (by simp; omega) _ |>.blk⟩
  ·exact below_set (below_set (below_set (below_set (below_set (below_step hbw2.out HB3.out) (by omega)) (by omega)) (by omega)) (by omega)) (by omega)

theorem Spare.owns {base : Nat} {w' : World} {b : Nat} {l : List Int} (h : Spare base w' b l) (hlen : l.length ≤ 1000000) : Kd.R (Kd.int .i64) 3 w' base (fun _ => True) (.slice (some ⟨b, 0, none⟩) l.length (l.length + room l.length)) l := by
 have hroom : room l.length ≤ l.length + 1 := by unfold room; split <;> (try split) <;> omega
 refine Kd.R_of_own ⟨by simp [encs], .inr ⟨b, l.length + room l.length, numCells (spare l), rfl, h.ge, h.blk, by omega, by unfold maxLen; omega, by simp [numCells, spare], ?_⟩⟩ (fun _ _ => trivial)
 rw [Nat.mul_one]
 simp [numCells, spare, encs]

theorem laws_toIntS.calls (A0 : Option Addr) (c0 : Nat) (l0 : List Int) (a1 : Bool) (r : List Int) (w : World) (hr0 : Kd.C (Kd.int .i64) w A0 l0.length l0) (hc0 : l0.length ≤ c0) (h : laws_toIntS.f l0 a1 = some r) :
  Calls Tryd.prog 16 #[.slice A0 l0.length c0, .bool a1] w fun e w' => ∃ v0_ : Value, e = .returned (v0_) ∧ Kd.R (Kd.int .i64) 3 w' w.heap.size (fun _ => True) v0_ r ∧ Below w.heap.size w w' := by
 unfold laws_toIntS.f at h
 by_cases hlen : l0.length ≤ 1000000
 ·rw [if_pos hlen] at h
  obtain rfl := Option.some.inj h
  by_cases ha : (a1 && ((l0.length : Int) == 0)) = false
  ·refine (to_full A0 c0 l0 a1 w hr0 hlen ha).mono ?_
   rintro e w' ⟨b, rfl, hs, hb⟩
   exact ⟨_, rfl, hs.owns hlen, hb⟩
  ·have h2 : a1 = true ∧ ((l0.length : Int) == 0) = true := by simpa using ha
   obtain ⟨rfl, h0⟩ := h2
   obtain rfl : l0 = [] := List.eq_nil_of_length_eq_zero (by have := beq_iff_eq.1 h0; omega)
   refine (to_nil A0 c0 w).mono ?_
   rintro e w' ⟨rfl, rfl⟩
   exact ⟨_, rfl, Kd.R_nil _ _ _ _ _, Below.refl _ _⟩
 ·rw [if_neg hlen] at h
  cases h

end Go.Proofs.YtopifdmaaibcnaaDoor.V
