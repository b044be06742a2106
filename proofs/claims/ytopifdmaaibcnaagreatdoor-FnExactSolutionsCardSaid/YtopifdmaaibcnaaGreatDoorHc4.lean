import Derived.Test.YtopifdmaaibcnaaGreatDoorHd
import Derived.Test.YtopifdmaaibcnaaGreatDoorHc0
import Derived.Test.YtopifdmaaibcnaaGreatDoorHc3
namespace Go.Proofs.YtopifdmaaibcnaaGreatDoor.H
open Go.RowKit Go.Proofs.YtopifdmaaibcnaaGreatDoorW.PrintWords Go.Proofs.YtopifdmaaibcnaaGreatDoorW.PrintLast Go.Proofs.YtopifdmaaibcnaaGreatDoorW.PrintMore
attribute [local go_sem] max2_int min2_int max_two min_two max_three min_three max_four min_four
set_option linter.unusedVariables false
set_option linter.unusedSimpArgs false

/-! ### impl_IsFigure: function 131 -/
def impl_IsFigure.T1 : Bool × List (List Nat × List Nat) := (true, [([], []), ([0], [0]), ([], []), ([2], [2]), ([1, 3], [1, 3]), ([4, 4], [4]), ([5], [5]), ([6, 5], [5, 6]), ([7, 5, 5], [5, 7]), ([5, 8], [5, 8]), ([9, 8], [9]), ([10], [10]), ([11, 10], [10, 11]), ([12, 10, 10], [10, 12]), ([10, 13], [10, 13]), ([14, 13], [14]), ([15], [15]), ([16, 15], [15, 16]), ([15], [15]), ([18, 15, 15], [15, 18]), ([19, 19, 15], [15, 19]), ([20, 15], [15, 20]), ([17, 21, 20, 15], [15, 17, 21]), ([15, 22], [15, 22]), ([23, 22], [23]), ([24], [24]), ([25, 24], [24, 25]), ([24], [24]), ([27, 24, 24], [24, 27]), ([28, 28, 24], [24, 28]), ([29, 24], [24, 29]), ([26, 30, 29, 24], [24, 26, 30]), ([24, 31], [24, 31]), ([32, 31, 0, 1, 2, 3, 4, 5, 6, 7, 8, 9, 10, 11, 12, 13, 14, 15, 16, 17, 18, 19, 20, 21, 22, 23, 24, 25, 26, 27, 28, 29, 30, 31, 32], [32])])
def impl_IsFigure.B1 : List Nat := [0, 1, 0, 4, 15, 31, 63, 127, 255, 511, 1023, 2047, 4095, 8191, 16383, 32767, 65535, 131071, 65535, 327679, 851967, 1900543, 4194303, 8388607, 16777215, 33554431, 67108863, 33554431, 167772159, 436207615, 973078527, 2147483647, 4294967295, 8589934591]
theorem impl_IsFigure.tab1 : rtab .any (opsOf Tryz.f131 1) = impl_IsFigure.T1 := by kernel_rfl
theorem impl_IsFigure.bits1 : waitsOk impl_IsFigure.T1.2 impl_IsFigure.B1 = true := by kernel_rfl
set_option maxHeartbeats 8000000 in
set_option maxRecDepth 100000 in
theorem impl_IsFigure.calls (k : Nat) (a0_0 : Int) (a0_1 : Int) (A0_2 : Option Addr) (c0_2 : Nat) (l0_2 : List Int) (A0_3 : Option Addr) (c0_3 : Nat) (l0_3 : List Int) (r : Bool) (w : World) (hr0_2 : Kd.C (Kd.int .i64) w A0_2 l0_2.length l0_2) (hc0_2 : l0_2.length ≤ c0_2) (hr0_3 : Kd.C (Kd.int .i64) w A0_3 l0_3.length l0_3) (hc0_3 : l0_3.length ≤ c0_3) (h : impl_IsFigure.f k a0_0 a0_1 l0_2 l0_3 = some r) :
  Calls Tryz.prog 131 #[.agg #[.int .i64 a0_0, .int .i64 a0_1, .slice A0_2 l0_2.length c0_2, .slice A0_3 l0_3.length c0_3]] w fun e w' => e = .returned (.bool r) ∧ Below w.heap.size w w' := by
 have hu30 := Tryz.underlying30
 have HR0_2 := Aside0.mk hr0_2
 have HC0_2 := Aside0.mk hc0_2
 clear hr0_2 hc0_2
 have HR0_3 := Aside0.mk hr0_3
 have HC0_3 := Aside0.mk hc0_3
 clear hr0_3 hc0_3
 have HB := Aside0.mk (Below.refl w.heap.size w)
 have H : ((impl_isGrid.f a0_0 a0_1).bind fun t199 => (if t199 = true then ((impl_isRising.f k l0_2).bind fun t200 => (if t200 = true then ((impl_isRising.f k l0_3).bind fun t201 => (if t201 = true then ((impl_Figure_grid.f a0_0 a0_1 l0_2 l0_3).bind fun bt202 => ((impl_grid_levels.f bt202.1 bt202.2).bind fun t204 => ((impl_areWithin.f l0_2 0 (wrap64 (t204 - 1))).bind fun t205 => (if t205 = true then ((impl_Figure_grid.f a0_0 a0_1 l0_2 l0_3).bind fun bt206 => ((impl_grid_uprights.f bt206.1 bt206.2).bind fun t208 => ((impl_areWithin.f l0_3 0 (wrap64 (t208 - 1))).bind fun t209 => (some t209)))) else (some false))))) else (some false))) else (some false))) else (some false))) = some r := h
 clear h
 replace H := Option.bind_eq_some_iff.mp H
 obtain ⟨t199, A20, H⟩ := H
 replace H : (if t199 = true then ((impl_isRising.f k l0_2).bind fun t200 => (if t200 = true then ((impl_isRising.f k l0_3).bind fun t201 => (if t201 = true then ((impl_Figure_grid.f a0_0 a0_1 l0_2 l0_3).bind fun bt202 => ((impl_grid_levels.f bt202.1 bt202.2).bind fun t204 => ((impl_areWithin.f l0_2 0 (wrap64 (t204 - 1))).bind fun t205 => (if t205 = true then ((impl_Figure_grid.f a0_0 a0_1 l0_2 l0_3).bind fun bt206 => ((impl_grid_uprights.f bt206.1 bt206.2).bind fun t208 => ((impl_areWithin.f l0_3 0 (wrap64 (t208 - 1))).bind fun t209 => (some t209)))) else (some false))))) else (some false))) else (some false))) else (some false)) = some r := H
 have A2 := Aside0.mk A20
 clear A20
 by_cases c3 : t199 = true
 ·subst c3
  have H1 : ((impl_isRising.f k l0_2).bind fun t200 => (if t200 = true then ((impl_isRising.f k l0_3).bind fun t201 => (if t201 = true then ((impl_Figure_grid.f a0_0 a0_1 l0_2 l0_3).bind fun bt202 => ((impl_grid_levels.f bt202.1 bt202.2).bind fun t204 => ((impl_areWithin.f l0_2 0 (wrap64 (t204 - 1))).bind fun t205 => (if t205 = true then ((impl_Figure_grid.f a0_0 a0_1 l0_2 l0_3).bind fun bt206 => ((impl_grid_uprights.f bt206.1 bt206.2).bind fun t208 => ((impl_areWithin.f l0_3 0 (wrap64 (t208 - 1))).bind fun t209 => (some t209)))) else (some false))))) else (some false))) else (some false))) = some r := by rw [if_pos rfl] at H; exact H
  clear H
  have H := H1
  clear H1
  replace H := Option.bind_eq_some_iff.mp H
  obtain ⟨t200, A40, H⟩ := H
  replace H : (if t200 = true then ((impl_isRising.f k l0_3).bind fun t201 => (if t201 = true then ((impl_Figure_grid.f a0_0 a0_1 l0_2 l0_3).bind fun bt202 => ((impl_grid_levels.f bt202.1 bt202.2).bind fun t204 => ((impl_areWithin.f l0_2 0 (wrap64 (t204 - 1))).bind fun t205 => (if t205 = true then ((impl_Figure_grid.f a0_0 a0_1 l0_2 l0_3).bind fun bt206 => ((impl_grid_uprights.f bt206.1 bt206.2).bind fun t208 => ((impl_areWithin.f l0_3 0 (wrap64 (t208 - 1))).bind fun t209 => (some t209)))) else (some false))))) else (some false))) else (some false)) = some r := H
  have A4 := Aside0.mk A40
  clear A40
  by_cases c5 : t200 = true
  ·subst c5
   have H1 : ((impl_isRising.f k l0_3).bind fun t201 => (if t201 = true then ((impl_Figure_grid.f a0_0 a0_1 l0_2 l0_3).bind fun bt202 => ((impl_grid_levels.f bt202.1 bt202.2).bind fun t204 => ((impl_areWithin.f l0_2 0 (wrap64 (t204 - 1))).bind fun t205 => (if t205 = true then ((impl_Figure_grid.f a0_0 a0_1 l0_2 l0_3).bind fun bt206 => ((impl_grid_uprights.f bt206.1 bt206.2).bind fun t208 => ((impl_areWithin.f l0_3 0 (wrap64 (t208 - 1))).bind fun t209 => (some t209)))) else (some false))))) else (some false))) = some r := by rw [if_pos rfl] at H; exact H
   clear H
   have H := H1
   clear H1
   replace H := Option.bind_eq_some_iff.mp H
   obtain ⟨t201, A60, H⟩ := H
   replace H : (if t201 = true then ((impl_Figure_grid.f a0_0 a0_1 l0_2 l0_3).bind fun bt202 => ((impl_grid_levels.f bt202.1 bt202.2).bind fun t204 => ((impl_areWithin.f l0_2 0 (wrap64 (t204 - 1))).bind fun t205 => (if t205 = true then ((impl_Figure_grid.f a0_0 a0_1 l0_2 l0_3).bind fun bt206 => ((impl_grid_uprights.f bt206.1 bt206.2).bind fun t208 => ((impl_areWithin.f l0_3 0 (wrap64 (t208 - 1))).bind fun t209 => (some t209)))) else (some false))))) else (some false)) = some r := H
   have A6 := Aside0.mk A60
   clear A60
   by_cases c7 : t201 = true
   ·subst c7
    have H1 : ((impl_Figure_grid.f a0_0 a0_1 l0_2 l0_3).bind fun bt202 => ((impl_grid_levels.f bt202.1 bt202.2).bind fun t204 => ((impl_areWithin.f l0_2 0 (wrap64 (t204 - 1))).bind fun t205 => (if t205 = true then ((impl_Figure_grid.f a0_0 a0_1 l0_2 l0_3).bind fun bt206 => ((impl_grid_uprights.f bt206.1 bt206.2).bind fun t208 => ((impl_areWithin.f l0_3 0 (wrap64 (t208 - 1))).bind fun t209 => (some t209)))) else (some false))))) = some r := by rw [if_pos rfl] at H; exact H
    clear H
    have H := H1
    clear H1
    replace H := Option.bind_eq_some_iff.mp H
    obtain ⟨⟨t202, t203⟩, A80, H⟩ := H
    replace H : ((impl_grid_levels.f t202 t203).bind fun t204 => ((impl_areWithin.f l0_2 0 (wrap64 (t204 - 1))).bind fun t205 => (if t205 = true then ((impl_Figure_grid.f a0_0 a0_1 l0_2 l0_3).bind fun bt206 => ((impl_grid_uprights.f bt206.1 bt206.2).bind fun t208 => ((impl_areWithin.f l0_3 0 (wrap64 (t208 - 1))).bind fun t209 => (some t209)))) else (some false)))) = some r := H
    have A8 := Aside0.mk A80
    clear A80
    replace H := Option.bind_eq_some_iff.mp H
    obtain ⟨t204, A90, H⟩ := H
    replace H : ((impl_areWithin.f l0_2 0 (wrap64 (t204 - 1))).bind fun t205 => (if t205 = true then ((impl_Figure_grid.f a0_0 a0_1 l0_2 l0_3).bind fun bt206 => ((impl_grid_uprights.f bt206.1 bt206.2).bind fun t208 => ((impl_areWithin.f l0_3 0 (wrap64 (t208 - 1))).bind fun t209 => (some t209)))) else (some false))) = some r := H
    have A9 := Aside0.mk A90
    clear A90
    replace H := Option.bind_eq_some_iff.mp H
    obtain ⟨t205, A100, H⟩ := H
    replace H : (if t205 = true then ((impl_Figure_grid.f a0_0 a0_1 l0_2 l0_3).bind fun bt206 => ((impl_grid_uprights.f bt206.1 bt206.2).bind fun t208 => ((impl_areWithin.f l0_3 0 (wrap64 (t208 - 1))).bind fun t209 => (some t209)))) else (some false)) = some r := H
    have A10 := Aside0.mk A100
    clear A100
    by_cases c11 : t205 = true
    ·subst c11
     have H1 : ((impl_Figure_grid.f a0_0 a0_1 l0_2 l0_3).bind fun bt206 => ((impl_grid_uprights.f bt206.1 bt206.2).bind fun t208 => ((impl_areWithin.f l0_3 0 (wrap64 (t208 - 1))).bind fun t209 => (some t209)))) = some r := by rw [if_pos rfl] at H; exact H
     clear H
     have H := H1
     clear H1
     replace H := Option.bind_eq_some_iff.mp H
     obtain ⟨⟨t206, t207⟩, A120, H⟩ := H
     replace H : ((impl_grid_uprights.f t206 t207).bind fun t208 => ((impl_areWithin.f l0_3 0 (wrap64 (t208 - 1))).bind fun t209 => (some t209))) = some r := H
     have A12 := Aside0.mk A120
     clear A120
     replace H := Option.bind_eq_some_iff.mp H
     obtain ⟨t208, A130, H⟩ := H
     replace H : ((impl_areWithin.f l0_3 0 (wrap64 (t208 - 1))).bind fun t209 => (some t209)) = some r := H
     have A13 := Aside0.mk A130
     clear A130
     replace H := Option.bind_eq_some_iff.mp H
     obtain ⟨t209, A140, H⟩ := H
     replace H : (some t209) = some r := H
     have A14 := Aside0.mk A140
     clear A140
     obtain rfl := Option.some.inj H
     go_enter Tryz.func131, Tryz.ntmps131
     try go_wp2_with (first | ((with_reducible refine gate_dst (N := 1) rfl ?_); refine zbx 1 #[.int .i64 a0_0, .int .i64 a0_1, .slice A0_2 l0_2.length c0_2, .slice A0_3 l0_3.length c0_3] 30 ?_; intro gb198 hg w15 hbox hb; have BK198 := Aside0.mk (hbox); have GW198 := zGe hg; have GE198 := zGe hg; replace HB := zBb hb; clear hb hbox hg))
     replace BK198 := Aside0.mk (blk_drew BK198.out)
     replace HB := Aside0.mk (below_drew1 HB.out)
     refine start_ (n := 34) (S := fun w' => w'.cell? ⟨gb198, 0, none⟩ = some (.int .i64 a0_0) ∧ w'.cell? ⟨gb198, 1, none⟩ = some (.int .i64 a0_1) ∧ w'.cell? ⟨gb198, 2, none⟩ = some (.slice A0_2 l0_2.length c0_2) ∧ w'.cell? ⟨gb198, 3, none⟩ = some (.slice A0_3 l0_3.length c0_3)) (ds := []) (fl 34 0) (by kernel_rfl) rfl rfl zQ (fun hHeld => ?_); refine with_tabW impl_IsFigure.tab1 impl_IsFigure.bits1 (fun HT_ HW_ => ?_)
     generalize w15.drew = w16 at BK198 HB hHeld ⊢
     refine zpu 0 (some 3) (fl 34 1) ?_
     refine zpu 2 (some 5) (fl 34 5) ?_
     refine ztk 1 (some 4) (fl 34 7) hHeld ?_
     refine ztk 3 (some 6) (fl 34 15) hHeld ?_
     refine zone 4 (some 7) (fl 34 31) (fun K hK => ?_)
     refine zgo Tryz.func152 #[.int .i64 a0_0, .int .i64 a0_1] ?_
     with_reducible refine (impl_isGrid.calls a0_0 a0_1 true _ A2.out).mono ?_
     rintro e w' ⟨rfl, ⟨nd, rfl⟩⟩
     refine ⟨_, rfl, ?_⟩
     refine hK.out _ _ zQ (fun hHeld => ?_)
     clear hK K
     refine znm ?_
     refine zpu 5 (some 8) (fl 34 63) ?_
     refine zpu 6 (some 9) (fl 34 127) ?_
     refine ztk 7 (some 10) (fl 34 255) hHeld ?_
     refine zone 8 (some 11) (fl 34 511) (fun K hK => ?_)
     refine zgo Tryz.func153 #[.slice A0_2 l0_2.length c0_2] ?_
     with_reducible refine (impl_isRising.calls k _ _ l0_2 true _ ?side1 ?side2 A4.out).mono ?_
     (case side1 => exact zC HR0_2)
     (case side2 => exact HC0_2.out)
     rintro e w' ⟨rfl, ⟨nd, rfl⟩⟩
     refine ⟨_, rfl, ?_⟩
     refine hK.out _ _ zQ (fun hHeld => ?_)
     clear hK K
     refine znm ?_
     refine zpu 9 (some 12) (fl 34 1023) ?_
     refine zpu 10 (some 13) (fl 34 2047) ?_
     refine zpu 11 (some 14) (fl 34 4095) ?_
     refine ztk 12 (some 15) (fl 34 8191) hHeld ?_
     refine zone 13 (some 16) (fl 34 16383) (fun K hK => ?_)
     refine zgo Tryz.func153 #[.slice A0_3 l0_3.length c0_3] ?_
     with_reducible refine (impl_isRising.calls k _ _ l0_3 true _ ?side1 ?side2 A6.out).mono ?_
     (case side1 => exact zC HR0_3)
     (case side2 => exact HC0_3.out)
     rintro e w' ⟨rfl, ⟨nd, rfl⟩⟩
     refine ⟨_, rfl, ?_⟩
     refine hK.out _ _ zQ (fun hHeld => ?_)
     clear hK K
     refine znm ?_
     refine zpu 14 (some 17) (fl 34 32767) ?_
     refine zpu 15 (some 18) (fl 34 65535) ?_
     refine zpu 16 (some 19) (fl 34 131071) ?_
     refine ztk 17 (some 20) (fl 34 262143) hHeld ?_
     refine ztk 18 (some 21) (fl 34 524287) hHeld ?_
     refine zone 19 (some 22) (fl 34 1048575) (fun K hK => ?_)
     refine zgo Tryz.func42 #[.agg #[.int .i64 a0_0, .int .i64 a0_1, .slice A0_2 l0_2.length c0_2, .slice A0_3 l0_3.length c0_3]] ?_
     with_reducible refine (impl_Figure_grid.calls a0_0 a0_1 _ _ l0_2 _ _ l0_3 t202 t203 _ ?side1 ?side2 ?side3 ?side4 A8.out).mono ?_
     (case side1 => exact zC HR0_2)
     (case side2 => exact HC0_2.out)
     (case side3 => exact zC HR0_3)
     (case side4 => exact HC0_3.out)
     rintro e w17 ⟨rfl, hb⟩
     refine ⟨_, rfl, ?_⟩
     replace BK198 := zKb BK198 hb
     replace HB := zBb hb
     (try clear hb)
     (try clear hb2)
     (try clear hk)
     (try clear hi)
     refine hK.out _ _ zQ (fun hHeld => ?_)
     clear hK K
     refine znm ?_
     refine zone 20 (some 23) (fl 34 2097151) (fun K hK => ?_)
     refine zgo Tryz.func69 #[.agg #[.int .i64 t202, .int .i64 t203]] ?_
     with_reducible refine (impl_grid_levels.calls t202 t203 t204 _ A9.out).mono ?_
     rintro e w18 ⟨rfl, hb⟩
     refine ⟨_, rfl, ?_⟩
     replace BK198 := zKb BK198 hb
     replace HB := zBb hb
     (try clear hb)
     (try clear hb2)
     (try clear hk)
     (try clear hi)
     refine hK.out _ _ zQ (fun hHeld => ?_)
     clear hK K
     refine znm ?_
     refine zpu 21 (some 24) (fl 34 4194303) ?_
     refine zone 22 (some 25) (fl 34 8388607) (fun K hK => ?_)
     refine zgo Tryz.func154 #[.slice A0_2 l0_2.length c0_2, .int .i64 0, .int .i64 (wrap64 (t204 - 1))] ?_
     with_reducible refine (impl_areWithin.calls _ _ l0_2 0 (wrap64 (t204 - 1)) true _ ?side1 ?side2 A10.out).mono ?_
     (case side1 => exact zC HR0_2)
     (case side2 => exact HC0_2.out)
     rintro e w19 ⟨rfl, hb⟩
     refine ⟨_, rfl, ?_⟩
     replace BK198 := zKb BK198 hb
     replace HB := zBb hb
     (try clear hb)
     (try clear hb2)
     (try clear hk)
     (try clear hi)
     refine hK.out _ _ zQ (fun hHeld => ?_)
     clear hK K
     refine znm ?_
     refine zpu 23 (some 26) (fl 34 16777215) ?_
     refine zpu 24 (some 27) (fl 34 33554431) ?_
     refine zpu 25 (some 28) (fl 34 67108863) ?_
     refine ztk 26 (some 29) (fl 34 134217727) hHeld ?_
     refine ztk 27 (some 30) (fl 34 268435455) hHeld ?_
     refine zone 28 (some 31) (fl 34 536870911) (fun K hK => ?_)
     refine zgo Tryz.func42 #[.agg #[.int .i64 a0_0, .int .i64 a0_1, .slice A0_2 l0_2.length c0_2, .slice A0_3 l0_3.length c0_3]] ?_
     with_reducible refine (impl_Figure_grid.calls a0_0 a0_1 _ _ l0_2 _ _ l0_3 t206 t207 _ ?side1 ?side2 ?side3 ?side4 A12.out).mono ?_
     (case side1 => exact zC HR0_2)
     (case side2 => exact HC0_2.out)
     (case side3 => exact zC HR0_3)
     (case side4 => exact HC0_3.out)
     rintro e w20 ⟨rfl, hb⟩
     refine ⟨_, rfl, ?_⟩
     replace BK198 := zKb BK198 hb
     replace HB := zBb hb
     (try clear hb)
     (try clear hb2)
     (try clear hk)
     (try clear hi)
     refine hK.out _ _ zQ (fun hHeld => ?_)
     clear hK K
     refine znm ?_
     refine zone 29 (some 32) (fl 34 1073741823) (fun K hK => ?_)
     refine zgo Tryz.func95 #[.agg #[.int .i64 t206, .int .i64 t207]] ?_
     with_reducible refine (impl_grid_uprights.calls t206 t207 t208 _ A13.out).mono ?_
     rintro e w21 ⟨rfl, hb⟩
     refine ⟨_, rfl, ?_⟩
     replace BK198 := zKb BK198 hb
     replace HB := zBb hb
     (try clear hb)
     (try clear hb2)
     (try clear hk)
     (try clear hi)
     refine hK.out _ _ zQ (fun hHeld => ?_)
     clear hK K
     refine znm ?_
     refine zpu 30 (some 33) (fl 34 2147483647) ?_
     refine zone 31 (some 34) (fl 34 4294967295) (fun K hK => ?_)
     refine zgo Tryz.func154 #[.slice A0_3 l0_3.length c0_3, .int .i64 0, .int .i64 (wrap64 (t208 - 1))] ?_
     with_reducible refine (impl_areWithin.calls _ _ l0_3 0 (wrap64 (t208 - 1)) t209 _ ?side1 ?side2 A14.out).mono ?_
     (case side1 => exact zC HR0_3)
     (case side2 => exact HC0_3.out)
     rintro e w22 ⟨rfl, hb⟩
     refine ⟨_, rfl, ?_⟩
     replace BK198 := zKb BK198 hb
     replace HB := zBb hb
     (try clear hb)
     (try clear hb2)
     (try clear hk)
     (try clear hi)
     refine hK.out _ _ zQ (fun hHeld => ?_)
     clear hK K
     refine znm ?_
     refine zpu 32 (some 35) (fl 34 8589934591) ?_
     refine zpu 33 (some 2) (fl 34 17179869183) ?_
     refine done_ (done_of HT_.out (by kernel_rfl)) ?_
     try go_wp2
     go_ret
     exact ⟨zE, zB⟩
    ·replace c11 := Bool.eq_false_iff.mpr c11
     subst c11
     have H1 : (some false) = some r := by rw [if_neg (show ¬ (false = true) by decide)] at H; exact H
     clear H
     have H := H1
     clear H1
     obtain rfl := Option.some.inj H
     go_enter Tryz.func131, Tryz.ntmps131
     try go_wp2_with (first | ((with_reducible refine gate_dst (N := 1) rfl ?_); refine zbx 1 #[.int .i64 a0_0, .int .i64 a0_1, .slice A0_2 l0_2.length c0_2, .slice A0_3 l0_3.length c0_3] 30 ?_; intro gb198 hg w23 hbox hb; have BK198 := Aside0.mk (hbox); have GW198 := zGe hg; have GE198 := zGe hg; replace HB := zBb hb; clear hb hbox hg))
     replace BK198 := Aside0.mk (blk_drew BK198.out)
     replace HB := Aside0.mk (below_drew1 HB.out)
     refine start_ (n := 34) (S := fun w' => w'.cell? ⟨gb198, 0, none⟩ = some (.int .i64 a0_0) ∧ w'.cell? ⟨gb198, 1, none⟩ = some (.int .i64 a0_1) ∧ w'.cell? ⟨gb198, 2, none⟩ = some (.slice A0_2 l0_2.length c0_2) ∧ w'.cell? ⟨gb198, 3, none⟩ = some (.slice A0_3 l0_3.length c0_3)) (ds := []) (fl 34 0) (by kernel_rfl) rfl rfl zQ (fun hHeld => ?_); refine with_tabW impl_IsFigure.tab1 impl_IsFigure.bits1 (fun HT_ HW_ => ?_)
     generalize w23.drew = w24 at BK198 HB hHeld ⊢
     refine zpu 0 (some 3) (fl 34 1) ?_
     refine zpu 2 (some 5) (fl 34 5) ?_
     refine ztk 1 (some 4) (fl 34 7) hHeld ?_
     refine ztk 3 (some 6) (fl 34 15) hHeld ?_
     refine zone 4 (some 7) (fl 34 31) (fun K hK => ?_)
     refine zgo Tryz.func152 #[.int .i64 a0_0, .int .i64 a0_1] ?_
     with_reducible refine (impl_isGrid.calls a0_0 a0_1 true _ A2.out).mono ?_
     rintro e w' ⟨rfl, ⟨nd, rfl⟩⟩
     refine ⟨_, rfl, ?_⟩
     refine hK.out _ _ zQ (fun hHeld => ?_)
     clear hK K
     refine znm ?_
     refine zpu 5 (some 8) (fl 34 63) ?_
     refine zpu 6 (some 9) (fl 34 127) ?_
     refine ztk 7 (some 10) (fl 34 255) hHeld ?_
     refine zone 8 (some 11) (fl 34 511) (fun K hK => ?_)
     refine zgo Tryz.func153 #[.slice A0_2 l0_2.length c0_2] ?_
     with_reducible refine (impl_isRising.calls k _ _ l0_2 true _ ?side1 ?side2 A4.out).mono ?_
     (case side1 => exact zC HR0_2)
     (case side2 => exact HC0_2.out)
     rintro e w' ⟨rfl, ⟨nd, rfl⟩⟩
     refine ⟨_, rfl, ?_⟩
     refine hK.out _ _ zQ (fun hHeld => ?_)
     clear hK K
     refine znm ?_
     refine zpu 9 (some 12) (fl 34 1023) ?_
     refine zpu 10 (some 13) (fl 34 2047) ?_
     refine zpu 11 (some 14) (fl 34 4095) ?_
     refine ztk 12 (some 15) (fl 34 8191) hHeld ?_
     refine zone 13 (some 16) (fl 34 16383) (fun K hK => ?_)
     refine zgo Tryz.func153 #[.slice A0_3 l0_3.length c0_3] ?_
     with_reducible refine (impl_isRising.calls k _ _ l0_3 true _ ?side1 ?side2 A6.out).mono ?_
     (case side1 => exact zC HR0_3)
     (case side2 => exact HC0_3.out)
     rintro e w' ⟨rfl, ⟨nd, rfl⟩⟩
     refine ⟨_, rfl, ?_⟩
     refine hK.out _ _ zQ (fun hHeld => ?_)
     clear hK K
     refine znm ?_
     refine zpu 14 (some 17) (fl 34 32767) ?_
     refine zpu 15 (some 18) (fl 34 65535) ?_
     refine zpu 16 (some 19) (fl 34 131071) ?_
     refine ztk 17 (some 20) (fl 34 262143) hHeld ?_
     refine ztk 18 (some 21) (fl 34 524287) hHeld ?_
     refine zone 19 (some 22) (fl 34 1048575) (fun K hK => ?_)
     refine zgo Tryz.func42 #[.agg #[.int .i64 a0_0, .int .i64 a0_1, .slice A0_2 l0_2.length c0_2, .slice A0_3 l0_3.length c0_3]] ?_
     with_reducible refine (impl_Figure_grid.calls a0_0 a0_1 _ _ l0_2 _ _ l0_3 t202 t203 _ ?side1 ?side2 ?side3 ?side4 A8.out).mono ?_
     (case side1 => exact zC HR0_2)
     (case side2 => exact HC0_2.out)
     (case side3 => exact zC HR0_3)
     (case side4 => exact HC0_3.out)
     rintro e w25 ⟨rfl, hb⟩
     refine ⟨_, rfl, ?_⟩
     replace BK198 := zKb BK198 hb
     replace HB := zBb hb
     (try clear hb)
     (try clear hb2)
     (try clear hk)
     (try clear hi)
     refine hK.out _ _ zQ (fun hHeld => ?_)
     clear hK K
     refine znm ?_
     refine zone 20 (some 23) (fl 34 2097151) (fun K hK => ?_)
     refine zgo Tryz.func69 #[.agg #[.int .i64 t202, .int .i64 t203]] ?_
     with_reducible refine (impl_grid_levels.calls t202 t203 t204 _ A9.out).mono ?_
     rintro e w26 ⟨rfl, hb⟩
     refine ⟨_, rfl, ?_⟩
     replace BK198 := zKb BK198 hb
     replace HB := zBb hb
     (try clear hb)
     (try clear hb2)
     (try clear hk)
     (try clear hi)
     refine hK.out _ _ zQ (fun hHeld => ?_)
     clear hK K
     refine znm ?_
     refine zpu 21 (some 24) (fl 34 4194303) ?_
     refine zone 22 (some 25) (fl 34 8388607) (fun K hK => ?_)
     refine zgo Tryz.func154 #[.slice A0_2 l0_2.length c0_2, .int .i64 0, .int .i64 (wrap64 (t204 - 1))] ?_
     with_reducible refine (impl_areWithin.calls _ _ l0_2 0 (wrap64 (t204 - 1)) false _ ?side1 ?side2 A10.out).mono ?_
     (case side1 => exact zC HR0_2)
     (case side2 => exact HC0_2.out)
     rintro e w27 ⟨rfl, hb⟩
     refine ⟨_, rfl, ?_⟩
     replace BK198 := zKb BK198 hb
     replace HB := zBb hb
     (try clear hb)
     (try clear hb2)
     (try clear hk)
     (try clear hi)
     refine hK.out _ _ zQ (fun hHeld => ?_)
     clear hK K
     refine znm ?_
     refine zpu 23 (some 26) (fl 34 16777215) ?_
     refine zpu 24 (some 27) (fl 34 33554431) ?_
     refine zpn 25 (some 28) (fl 34 67108863) ?_
     refine zpn 26 (some 29) (fl 34 134217727) ?_
     refine zpn 27 (some 30) (fl 34 268435455) ?_
     refine zpn 28 (some 31) (fl 34 536870911) ?_
     refine zpn 29 (some 32) (fl 34 1073741823) ?_
     refine zpn 30 (some 33) (fl 34 2147483647) ?_
     refine zpn 31 (some 34) (fl 34 4294967295) ?_
     refine zpu 32 (some 35) (fl 34 8589934591) ?_
     refine zpu 33 (some 2) (fl 34 17179869183) ?_
     refine done_ (done_of HT_.out (by kernel_rfl)) ?_
     try go_wp2
     go_ret
     exact ⟨zE, zB⟩
   ·replace c7 := Bool.eq_false_iff.mpr c7
    subst c7
    have H1 : (some false) = some r := by rw [if_neg (show ¬ (false = true) by decide)] at H; exact H
    clear H
    have H := H1
    clear H1
    obtain rfl := Option.some.inj H
    go_enter Tryz.func131, Tryz.ntmps131
    try go_wp2_with (first | ((with_reducible refine gate_dst (N := 1) rfl ?_); refine zbx 1 #[.int .i64 a0_0, .int .i64 a0_1, .slice A0_2 l0_2.length c0_2, .slice A0_3 l0_3.length c0_3] 30 ?_; intro gb198 hg w28 hbox hb; have BK198 := Aside0.mk (hbox); have GW198 := zGe hg; have GE198 := zGe hg; replace HB := zBb hb; clear hb hbox hg))
    replace BK198 := Aside0.mk (blk_drew BK198.out)
    replace HB := Aside0.mk (below_drew1 HB.out)
    refine start_ (n := 34) (S := fun w' => w'.cell? ⟨gb198, 0, none⟩ = some (.int .i64 a0_0) ∧ w'.cell? ⟨gb198, 1, none⟩ = some (.int .i64 a0_1) ∧ w'.cell? ⟨gb198, 2, none⟩ = some (.slice A0_2 l0_2.length c0_2) ∧ w'.cell? ⟨gb198, 3, none⟩ = some (.slice A0_3 l0_3.length c0_3)) (ds := []) (fl 34 0) (by kernel_rfl) rfl rfl zQ (fun hHeld => ?_); refine with_tabW impl_IsFigure.tab1 impl_IsFigure.bits1 (fun HT_ HW_ => ?_)
    generalize w28.drew = w29 at BK198 HB hHeld ⊢
    refine zpu 0 (some 3) (fl 34 1) ?_
    refine zpu 2 (some 5) (fl 34 5) ?_
    refine ztk 1 (some 4) (fl 34 7) hHeld ?_
    refine ztk 3 (some 6) (fl 34 15) hHeld ?_
    refine zone 4 (some 7) (fl 34 31) (fun K hK => ?_)
    refine zgo Tryz.func152 #[.int .i64 a0_0, .int .i64 a0_1] ?_
    with_reducible refine (impl_isGrid.calls a0_0 a0_1 true _ A2.out).mono ?_
    rintro e w' ⟨rfl, ⟨nd, rfl⟩⟩
    refine ⟨_, rfl, ?_⟩
    refine hK.out _ _ zQ (fun hHeld => ?_)
    clear hK K
    refine znm ?_
    refine zpu 5 (some 8) (fl 34 63) ?_
    refine zpu 6 (some 9) (fl 34 127) ?_
    refine ztk 7 (some 10) (fl 34 255) hHeld ?_
    refine zone 8 (some 11) (fl 34 511) (fun K hK => ?_)
    refine zgo Tryz.func153 #[.slice A0_2 l0_2.length c0_2] ?_
    with_reducible refine (impl_isRising.calls k _ _ l0_2 true _ ?side1 ?side2 A4.out).mono ?_
    (case side1 => exact zC HR0_2)
    (case side2 => exact HC0_2.out)
    rintro e w' ⟨rfl, ⟨nd, rfl⟩⟩
    refine ⟨_, rfl, ?_⟩
    refine hK.out _ _ zQ (fun hHeld => ?_)
    clear hK K
    refine znm ?_
    refine zpu 9 (some 12) (fl 34 1023) ?_
    refine zpu 10 (some 13) (fl 34 2047) ?_
    refine zpu 11 (some 14) (fl 34 4095) ?_
    refine ztk 12 (some 15) (fl 34 8191) hHeld ?_
    refine zone 13 (some 16) (fl 34 16383) (fun K hK => ?_)
    refine zgo Tryz.func153 #[.slice A0_3 l0_3.length c0_3] ?_
    with_reducible refine (impl_isRising.calls k _ _ l0_3 false _ ?side1 ?side2 A6.out).mono ?_
    (case side1 => exact zC HR0_3)
    (case side2 => exact HC0_3.out)
    rintro e w' ⟨rfl, ⟨nd, rfl⟩⟩
    refine ⟨_, rfl, ?_⟩
    refine hK.out _ _ zQ (fun hHeld => ?_)
    clear hK K
    refine znm ?_
    refine zpu 14 (some 17) (fl 34 32767) ?_
    refine zpu 15 (some 18) (fl 34 65535) ?_
    refine zpn 16 (some 19) (fl 34 131071) ?_
    refine zpn 17 (some 20) (fl 34 262143) ?_
    refine zpn 18 (some 21) (fl 34 524287) ?_
    refine zpn 19 (some 22) (fl 34 1048575) ?_
    refine zpn 20 (some 23) (fl 34 2097151) ?_
    refine zpn 21 (some 24) (fl 34 4194303) ?_
    refine zpn 22 (some 25) (fl 34 8388607) ?_
    refine zpu 23 (some 26) (fl 34 16777215) ?_
    refine zpu 24 (some 27) (fl 34 33554431) ?_
    refine zpn 25 (some 28) (fl 34 67108863) ?_
    refine zpn 26 (some 29) (fl 34 134217727) ?_
    refine zpn 27 (some 30) (fl 34 268435455) ?_
    refine zpn 28 (some 31) (fl 34 536870911) ?_
    refine zpn 29 (some 32) (fl 34 1073741823) ?_
    refine zpn 30 (some 33) (fl 34 2147483647) ?_
    refine zpn 31 (some 34) (fl 34 4294967295) ?_
    refine zpu 32 (some 35) (fl 34 8589934591) ?_
    refine zpu 33 (some 2) (fl 34 17179869183) ?_
    refine done_ (done_of HT_.out (by kernel_rfl)) ?_
    try go_wp2
    go_ret
    exact ⟨zE, zB⟩
  ·replace c5 := Bool.eq_false_iff.mpr c5
   subst c5
   have H1 : (some false) = some r := by rw [if_neg (show ¬ (false = true) by decide)] at H; exact H
   clear H
   have H := H1
   clear H1
   obtain rfl := Option.some.inj H
   go_enter Tryz.func131, Tryz.ntmps131
   try go_wp2_with (first | ((with_reducible refine gate_dst (N := 1) rfl ?_); refine zbx 1 #[.int .i64 a0_0, .int .i64 a0_1, .slice A0_2 l0_2.length c0_2, .slice A0_3 l0_3.length c0_3] 30 ?_; intro gb198 hg w30 hbox hb; have BK198 := Aside0.mk (hbox); have GW198 := zGe hg; have GE198 := zGe hg; replace HB := zBb hb; clear hb hbox hg))
   replace BK198 := Aside0.mk (blk_drew BK198.out)
   replace HB := Aside0.mk (below_drew1 HB.out)
   refine start_ (n := 34) (S := fun w' => w'.cell? ⟨gb198, 0, none⟩ = some (.int .i64 a0_0) ∧ w'.cell? ⟨gb198, 1, none⟩ = some (.int .i64 a0_1) ∧ w'.cell? ⟨gb198, 2, none⟩ = some (.slice A0_2 l0_2.length c0_2) ∧ w'.cell? ⟨gb198, 3, none⟩ = some (.slice A0_3 l0_3.length c0_3)) (ds := []) (fl 34 0) (by kernel_rfl) rfl rfl zQ (fun hHeld => ?_); refine with_tabW impl_IsFigure.tab1 impl_IsFigure.bits1 (fun HT_ HW_ => ?_)
   generalize w30.drew = w31 at BK198 HB hHeld ⊢
   refine zpu 0 (some 3) (fl 34 1) ?_
   refine zpu 2 (some 5) (fl 34 5) ?_
   refine ztk 1 (some 4) (fl 34 7) hHeld ?_
   refine ztk 3 (some 6) (fl 34 15) hHeld ?_
   refine zone 4 (some 7) (fl 34 31) (fun K hK => ?_)
   refine zgo Tryz.func152 #[.int .i64 a0_0, .int .i64 a0_1] ?_
   with_reducible refine (impl_isGrid.calls a0_0 a0_1 true _ A2.out).mono ?_
   rintro e w' ⟨rfl, ⟨nd, rfl⟩⟩
   refine ⟨_, rfl, ?_⟩
   refine hK.out _ _ zQ (fun hHeld => ?_)
   clear hK K
   refine znm ?_
   refine zpu 5 (some 8) (fl 34 63) ?_
   refine zpu 6 (some 9) (fl 34 127) ?_
   refine ztk 7 (some 10) (fl 34 255) hHeld ?_
   refine zone 8 (some 11) (fl 34 511) (fun K hK => ?_)
   refine zgo Tryz.func153 #[.slice A0_2 l0_2.length c0_2] ?_
   with_reducible refine (impl_isRising.calls k _ _ l0_2 false _ ?side1 ?side2 A4.out).mono ?_
   (case side1 => exact zC HR0_2)
   (case side2 => exact HC0_2.out)
   rintro e w' ⟨rfl, ⟨nd, rfl⟩⟩
   refine ⟨_, rfl, ?_⟩
   refine hK.out _ _ zQ (fun hHeld => ?_)
   clear hK K
   refine znm ?_
   refine zpu 9 (some 12) (fl 34 1023) ?_
   refine zpu 10 (some 13) (fl 34 2047) ?_
   refine zpn 11 (some 14) (fl 34 4095) ?_
   refine zpn 12 (some 15) (fl 34 8191) ?_
   refine zpn 13 (some 16) (fl 34 16383) ?_
   refine zpu 14 (some 17) (fl 34 32767) ?_
   refine zpu 15 (some 18) (fl 34 65535) ?_
   refine zpn 16 (some 19) (fl 34 131071) ?_
   refine zpn 17 (some 20) (fl 34 262143) ?_
   refine zpn 18 (some 21) (fl 34 524287) ?_
   refine zpn 19 (some 22) (fl 34 1048575) ?_
   refine zpn 20 (some 23) (fl 34 2097151) ?_
   refine zpn 21 (some 24) (fl 34 4194303) ?_
   refine zpn 22 (some 25) (fl 34 8388607) ?_
   refine zpu 23 (some 26) (fl 34 16777215) ?_
   refine zpu 24 (some 27) (fl 34 33554431) ?_
   refine zpn 25 (some 28) (fl 34 67108863) ?_
   refine zpn 26 (some 29) (fl 34 134217727) ?_
   refine zpn 27 (some 30) (fl 34 268435455) ?_
   refine zpn 28 (some 31) (fl 34 536870911) ?_
   refine zpn 29 (some 32) (fl 34 1073741823) ?_
   refine zpn 30 (some 33) (fl 34 2147483647) ?_
   refine zpn 31 (some 34) (fl 34 4294967295) ?_
   refine zpu 32 (some 35) (fl 34 8589934591) ?_
   refine zpu 33 (some 2) (fl 34 17179869183) ?_
   refine done_ (done_of HT_.out (by kernel_rfl)) ?_
   try go_wp2
   go_ret
   exact ⟨zE, zB⟩
 ·replace c3 := Bool.eq_false_iff.mpr c3
  subst c3
  have H1 : (some false) = some r := by rw [if_neg (show ¬ (false = true) by decide)] at H; exact H
  clear H
  have H := H1
  clear H1
  obtain rfl := Option.some.inj H
  go_enter Tryz.func131, Tryz.ntmps131
  try go_wp2_with (first | ((with_reducible refine gate_dst (N := 1) rfl ?_); refine zbx 1 #[.int .i64 a0_0, .int .i64 a0_1, .slice A0_2 l0_2.length c0_2, .slice A0_3 l0_3.length c0_3] 30 ?_; intro gb198 hg w32 hbox hb; have BK198 := Aside0.mk (hbox); have GW198 := zGe hg; have GE198 := zGe hg; replace HB := zBb hb; clear hb hbox hg))
  replace BK198 := Aside0.mk (blk_drew BK198.out)
  replace HB := Aside0.mk (below_drew1 HB.out)
  refine start_ (n := 34) (S := fun w' => w'.cell? ⟨gb198, 0, none⟩ = some (.int .i64 a0_0) ∧ w'.cell? ⟨gb198, 1, none⟩ = some (.int .i64 a0_1) ∧ w'.cell? ⟨gb198, 2, none⟩ = some (.slice A0_2 l0_2.length c0_2) ∧ w'.cell? ⟨gb198, 3, none⟩ = some (.slice A0_3 l0_3.length c0_3)) (ds := []) (fl 34 0) (by kernel_rfl) rfl rfl zQ (fun hHeld => ?_); refine with_tabW impl_IsFigure.tab1 impl_IsFigure.bits1 (fun HT_ HW_ => ?_)
  generalize w32.drew = w33 at BK198 HB hHeld ⊢
  refine zpu 0 (some 3) (fl 34 1) ?_
  refine zpu 2 (some 5) (fl 34 5) ?_
  refine ztk 1 (some 4) (fl 34 7) hHeld ?_
  refine ztk 3 (some 6) (fl 34 15) hHeld ?_
  refine zone 4 (some 7) (fl 34 31) (fun K hK => ?_)
  refine zgo Tryz.func152 #[.int .i64 a0_0, .int .i64 a0_1] ?_
  with_reducible refine (impl_isGrid.calls a0_0 a0_1 false _ A2.out).mono ?_
  rintro e w' ⟨rfl, ⟨nd, rfl⟩⟩
  refine ⟨_, rfl, ?_⟩
  refine hK.out _ _ zQ (fun hHeld => ?_)
  clear hK K
  refine znm ?_
  refine zpu 5 (some 8) (fl 34 63) ?_
  refine zpn 6 (some 9) (fl 34 127) ?_
  refine zpn 7 (some 10) (fl 34 255) ?_
  refine zpn 8 (some 11) (fl 34 511) ?_
  refine zpu 9 (some 12) (fl 34 1023) ?_
  refine zpu 10 (some 13) (fl 34 2047) ?_
  refine zpn 11 (some 14) (fl 34 4095) ?_
  refine zpn 12 (some 15) (fl 34 8191) ?_
  refine zpn 13 (some 16) (fl 34 16383) ?_
  refine zpu 14 (some 17) (fl 34 32767) ?_
  refine zpu 15 (some 18) (fl 34 65535) ?_
  refine zpn 16 (some 19) (fl 34 131071) ?_
  refine zpn 17 (some 20) (fl 34 262143) ?_
  refine zpn 18 (some 21) (fl 34 524287) ?_
  refine zpn 19 (some 22) (fl 34 1048575) ?_
  refine zpn 20 (some 23) (fl 34 2097151) ?_
  refine zpn 21 (some 24) (fl 34 4194303) ?_
  refine zpn 22 (some 25) (fl 34 8388607) ?_
  refine zpu 23 (some 26) (fl 34 16777215) ?_
  refine zpu 24 (some 27) (fl 34 33554431) ?_
  refine zpn 25 (some 28) (fl 34 67108863) ?_
  refine zpn 26 (some 29) (fl 34 134217727) ?_
  refine zpn 27 (some 30) (fl 34 268435455) ?_
  refine zpn 28 (some 31) (fl 34 536870911) ?_
  refine zpn 29 (some 32) (fl 34 1073741823) ?_
  refine zpn 30 (some 33) (fl 34 2147483647) ?_
  refine zpn 31 (some 34) (fl 34 4294967295) ?_
  refine zpu 32 (some 35) (fl 34 8589934591) ?_
  refine zpu 33 (some 2) (fl 34 17179869183) ?_
  refine done_ (done_of HT_.out (by kernel_rfl)) ?_
  try go_wp2
  go_ret
  exact ⟨zE, zB⟩

end Go.Proofs.YtopifdmaaibcnaaGreatDoor.H
