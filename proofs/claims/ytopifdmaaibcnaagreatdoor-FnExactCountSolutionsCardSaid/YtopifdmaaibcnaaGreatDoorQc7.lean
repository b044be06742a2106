import Derived.Test.YtopifdmaaibcnaaGreatDoorQd
import Derived.Test.YtopifdmaaibcnaaGreatDoorQc2
import Derived.Test.YtopifdmaaibcnaaGreatDoorQc6
namespace Go.Proofs.YtopifdmaaibcnaaGreatDoor.Q
open Go.RowKit Go.Proofs.YtopifdmaaibcnaaGreatDoorW.PrintWords Go.Proofs.YtopifdmaaibcnaaGreatDoorW.PrintLast Go.Proofs.YtopifdmaaibcnaaGreatDoorW.PrintMore
attribute [local go_sem] max2_int min2_int max_two min_two max_three min_three max_four min_four
set_option linter.unusedVariables false
set_option linter.unusedSimpArgs false

/-! ### spec_pzGood: function 58 -/
def spec_pzGood.T1 : Bool × List (List Nat × List Nat) := (true, [([], []), ([0], [0]), ([], []), ([2], [2]), ([], []), ([4], [4]), ([1, 3, 5], [1, 3, 5]), ([6, 6], [6]), ([7], [7]), ([8, 7], [7, 8]), ([7], [7]), ([10, 7], [7, 10]), ([11, 7, 7], [7, 11]), ([9, 12, 7], [7, 9, 12]), ([7, 13], [7, 13]), ([14, 12], [14]), ([15], [15]), ([16, 15], [15, 16]), ([17, 15, 15], [15, 17]), ([15, 18], [15, 18]), ([19, 18, 0, 1, 2, 3, 4, 5, 6, 7, 8, 9, 10, 11, 12, 13, 14, 15, 16, 17, 18, 19], [19])])
def spec_pzGood.B1 : List Nat := [0, 1, 0, 4, 0, 16, 63, 127, 255, 511, 255, 1279, 3327, 8191, 16383, 32767, 65535, 131071, 262143, 524287, 1048575]
theorem spec_pzGood.tab1 : rtab .any (opsOf Tryz.f58 1) = spec_pzGood.T1 := by kernel_rfl
theorem spec_pzGood.bits1 : waitsOk spec_pzGood.T1.2 spec_pzGood.B1 = true := by kernel_rfl
set_option maxHeartbeats 8000000 in
set_option maxRecDepth 100000 in
theorem spec_pzGood.calls (k : Nat) (a0_0 : Int) (a0_1 : Int) (A0_2 : Option Addr) (c0_2 : Nat) (l0_2 : List Int) (A0_3 : Option Addr) (c0_3 : Nat) (l0_3 : List Int) (a0_4 : Int) (a0_5 : Bool) (a0_6 : Int) (r : Bool) (w : World) (hr0_2 : Kd.C (Kd.int .i64) w A0_2 l0_2.length l0_2) (hc0_2 : l0_2.length ≤ c0_2) (hr0_3 : Kd.C (Kd.int .i64) w A0_3 l0_3.length l0_3) (hc0_3 : l0_3.length ≤ c0_3) (h : spec_pzGood.f k a0_0 a0_1 l0_2 l0_3 a0_4 a0_5 a0_6 = some r) :
  Calls Tryz.prog 58 #[.agg #[.int .i64 a0_0, .int .i64 a0_1, .slice A0_2 l0_2.length c0_2, .slice A0_3 l0_3.length c0_3, .int .i64 a0_4, .bool a0_5, .int .i64 a0_6]] w fun e w' => e = .returned (.bool r) ∧ Below w.heap.size w w' := by
 have hu32 := Tryz.underlying32
 have hu30 := Tryz.underlying30
 have HR0_2 := Aside0.mk hr0_2
 have HC0_2 := Aside0.mk hc0_2
 clear hr0_2 hc0_2
 have HR0_3 := Aside0.mk hr0_3
 have HC0_3 := Aside0.mk hc0_3
 clear hr0_3 hc0_3
 have HB := Aside0.mk (Below.refl w.heap.size w)
 have H : ((spec_moAsked.f k a0_0 a0_1 l0_2 l0_3 a0_4 a0_5).bind fun t259 => (if t259 = true then ((spec_fiCount.f a0_0 a0_1 l0_2 l0_3).bind fun t260 => (if a0_4 ≤ t260 then ((spec_moSquares.f a0_6).bind fun t261 => (some t261)) else (some false))) else (some false))) = some r := h
 clear h
 replace H := Option.bind_eq_some_iff.mp H
 obtain ⟨t259, A20, H⟩ := H
 replace H : (if t259 = true then ((spec_fiCount.f a0_0 a0_1 l0_2 l0_3).bind fun t260 => (if a0_4 ≤ t260 then ((spec_moSquares.f a0_6).bind fun t261 => (some t261)) else (some false))) else (some false)) = some r := H
 have A2 := Aside0.mk A20
 clear A20
 by_cases c3 : t259 = true
 ·subst c3
  have H1 : ((spec_fiCount.f a0_0 a0_1 l0_2 l0_3).bind fun t260 => (if a0_4 ≤ t260 then ((spec_moSquares.f a0_6).bind fun t261 => (some t261)) else (some false))) = some r := by rw [if_pos rfl] at H; exact H
  clear H
  have H := H1
  clear H1
  replace H := Option.bind_eq_some_iff.mp H
  obtain ⟨t260, A40, H⟩ := H
  replace H : (if a0_4 ≤ t260 then ((spec_moSquares.f a0_6).bind fun t261 => (some t261)) else (some false)) = some r := H
  have A4 := Aside0.mk A40
  clear A40
  by_cases c5 : a0_4 ≤ t260
  ·rw [if_pos c5] at H
   have c5b0 : decide (a0_4 ≤ t260) = true := decide_eq_true c5
   clear c5
   replace H := Option.bind_eq_some_iff.mp H
   obtain ⟨t261, A60, H⟩ := H
   replace H : (some t261) = some r := H
   have A6 := Aside0.mk A60
   clear A60
   obtain rfl := Option.some.inj H
   go_enter Tryz.func58, Tryz.ntmps58
   try go_wp2_with (first | ((with_reducible refine gate_dst (N := 1) rfl ?_); refine box_event ?hg (N := 1) ?hd (cs := #[.int .i64 a0_0, .int .i64 a0_1, .slice A0_2 l0_2.length c0_2, .slice A0_3 l0_3.length c0_3, .int .i64 a0_4, .bool a0_5, .int .i64 a0_6]) (t := 32) ?hr ?_; (case hd => rfl); (case hg => rfl); (case hr => first | (go_simp; done) | (go_simp; rfl)); intro gb258 hg w7 hbox hb; have BK258 := Aside0.mk (hbox); have GW258 := Aside0.mk ((by rw [hg]; exact (below_size zB) : w.heap.size ≤ gb258)); have GE258 := Aside0.mk ((by rw [hg]; exact (below_size zB) : w.heap.size ≤ gb258)); replace HB := zBb hb; clear hb hbox hg))
   replace BK258 := Aside0.mk (blk_drew BK258.out)
   replace HB := Aside0.mk (below_drew1 HB.out)
   refine start_ (n := 21) (S := fun w' => w'.cell? ⟨gb258, 0, none⟩ = some (.int .i64 a0_0) ∧ w'.cell? ⟨gb258, 1, none⟩ = some (.int .i64 a0_1) ∧ w'.cell? ⟨gb258, 2, none⟩ = some (.slice A0_2 l0_2.length c0_2) ∧ w'.cell? ⟨gb258, 3, none⟩ = some (.slice A0_3 l0_3.length c0_3) ∧ w'.cell? ⟨gb258, 4, none⟩ = some (.int .i64 a0_4) ∧ w'.cell? ⟨gb258, 5, none⟩ = some (.bool a0_5) ∧ w'.cell? ⟨gb258, 6, none⟩ = some (.int .i64 a0_6)) (ds := []) (fl 21 0) (by kernel_rfl) rfl rfl ⟨(blk_cell BK258.out 0).trans rfl, (blk_cell BK258.out 1).trans rfl, (blk_cell BK258.out 2).trans rfl, (blk_cell BK258.out 3).trans rfl, (blk_cell BK258.out 4).trans rfl, (blk_cell BK258.out 5).trans rfl, (blk_cell BK258.out 6).trans rfl⟩ (fun hHeld => ?_); refine with_tabW spec_pzGood.tab1 spec_pzGood.bits1 (fun HT_ HW_ => ?_)
   generalize w7.drew = w8 at BK258 HB hHeld ⊢
   refine zpu 0 (some 3) (fl 21 1) ?_
   refine zpu 2 (some 5) (fl 21 5) ?_
   refine zpu 4 (some 7) (fl 21 21) ?_
   refine ztk 1 (some 4) (fl 21 23) hHeld ?_
   refine ztk 3 (some 6) (fl 21 31) hHeld ?_
   refine ztk 5 (some 8) (fl 21 63) hHeld ?_
   refine zone 6 (some 9) (fl 21 127) (fun K hK => ?_)
   refine zgo Tryz.func81 #[.agg #[.int .i64 a0_0, .int .i64 a0_1, .slice A0_2 l0_2.length c0_2, .slice A0_3 l0_3.length c0_3], .int .i64 a0_4, .bool a0_5] ?_
   with_reducible refine (spec_moAsked.calls k a0_0 a0_1 _ _ l0_2 _ _ l0_3 a0_4 a0_5 true _ ?side1 ?side2 ?side3 ?side4 A2.out).mono ?_
   (case side1 => exact zC HR0_2)
   (case side2 => exact HC0_2.out)
   (case side3 => exact zC HR0_3)
   (case side4 => exact HC0_3.out)
   rintro e w9 ⟨rfl, hb⟩
   refine ⟨_, rfl, ?_⟩
   replace BK258 := zKb BK258 hb
   replace HB := zBb hb
   (try clear hb)
   (try clear hb2)
   (try clear hk)
   (try clear hi)
   refine hK.out _ _ ⟨(blk_cell BK258.out 0).trans rfl, (blk_cell BK258.out 1).trans rfl, (blk_cell BK258.out 2).trans rfl, (blk_cell BK258.out 3).trans rfl, (blk_cell BK258.out 4).trans rfl, (blk_cell BK258.out 5).trans rfl, (blk_cell BK258.out 6).trans rfl⟩ (fun hHeld => ?_)
   clear hK K
   refine znm ?_
   refine zpu 7 (some 10) (fl 21 255) ?_
   refine zpu 8 (some 11) (fl 21 511) ?_
   refine zpu 10 (some 13) (fl 21 1535) ?_
   refine ztk 9 (some 12) (fl 21 2047) hHeld ?_
   refine ztk 11 (some 14) (fl 21 4095) hHeld ?_
   refine zone 12 (some 15) (fl 21 8191) (fun K hK => ?_)
   refine zgo Tryz.func82 #[.agg #[.int .i64 a0_0, .int .i64 a0_1, .slice A0_2 l0_2.length c0_2, .slice A0_3 l0_3.length c0_3]] ?_
   with_reducible refine (spec_fiCount.calls a0_0 a0_1 _ _ l0_2 _ _ l0_3 t260 _ ?side1 ?side2 ?side3 ?side4 A4.out).mono ?_
   (case side1 => exact zC HR0_2)
   (case side2 => exact HC0_2.out)
   (case side3 => exact zC HR0_3)
   (case side4 => exact HC0_3.out)
   rintro e w10 ⟨rfl, hb⟩
   refine ⟨_, rfl, ?_⟩
   replace BK258 := zKb BK258 hb
   replace HB := zBb hb
   (try clear hb)
   (try clear hb2)
   (try clear hk)
   (try clear hi)
   refine hK.out _ _ ⟨(blk_cell BK258.out 0).trans rfl, (blk_cell BK258.out 1).trans rfl, (blk_cell BK258.out 2).trans rfl, (blk_cell BK258.out 3).trans rfl, (blk_cell BK258.out 4).trans rfl, (blk_cell BK258.out 5).trans rfl, (blk_cell BK258.out 6).trans rfl⟩ (fun hHeld => ?_)
   clear hK K
   refine znm ?_
   refine zpu 13 (some 16) (fl 21 16383) ?_
   refine zpu 14 (some 17) (fl 21 32767) ?_
   refine zpu 15 (some 18) (fl 21 65535) ?_
   refine zpu 16 (some 19) (fl 21 131071) ?_
   refine ztk 17 (some 20) (fl 21 262143) hHeld ?_
   refine zone 18 (some 21) (fl 21 524287) (fun K hK => ?_)
   refine zgo Tryz.func83 #[.int .i64 a0_6] ?_
   with_reducible refine (spec_moSquares.calls a0_6 t261 _ A6.out).mono ?_
   rintro e w' ⟨rfl, ⟨nd, rfl⟩⟩
   refine ⟨_, rfl, ?_⟩
   refine hK.out _ _ ⟨(blk_cell BK258.out 0).trans rfl, (blk_cell BK258.out 1).trans rfl, (blk_cell BK258.out 2).trans rfl, (blk_cell BK258.out 3).trans rfl, (blk_cell BK258.out 4).trans rfl, (blk_cell BK258.out 5).trans rfl, (blk_cell BK258.out 6).trans rfl⟩ (fun hHeld => ?_)
   clear hK K
   refine znm ?_
   refine zpu 19 (some 22) (fl 21 1048575) ?_
   refine zpu 20 (some 2) (fl 21 2097151) ?_
   refine done_ (done_of HT_.out (by kernel_rfl)) ?_
   try go_wp2
   go_ret
   exact ⟨by first | rfl | (simp [errW_none, errW_some] <;> rfl) | (simp [*, errW_none, errW_some] <;> rfl), by repeat (first | (with_reducible first | exact HB.out | apply below_alloc | apply pw_below_drewN | apply below_drew1 | refine below_set ?_ GE258.out) | exact HB.out)⟩
  ·rw [if_neg c5] at H
   have c5b0 : decide (a0_4 ≤ t260) = false := decide_eq_false c5
   clear c5
   obtain rfl := Option.some.inj H
   go_enter Tryz.func58, Tryz.ntmps58
   try go_wp2_with (first | ((with_reducible refine gate_dst (N := 1) rfl ?_); refine box_event ?hg (N := 1) ?hd (cs := #[.int .i64 a0_0, .int .i64 a0_1, .slice A0_2 l0_2.length c0_2, .slice A0_3 l0_3.length c0_3, .int .i64 a0_4, .bool a0_5, .int .i64 a0_6]) (t := 32) ?hr ?_; (case hd => rfl); (case hg => rfl); (case hr => first | (go_simp; done) | (go_simp; rfl)); intro gb258 hg w11 hbox hb; have BK258 := Aside0.mk (hbox); have GW258 := Aside0.mk ((by rw [hg]; exact (below_size zB) : w.heap.size ≤ gb258)); have GE258 := Aside0.mk ((by rw [hg]; exact (below_size zB) : w.heap.size ≤ gb258)); replace HB := zBb hb; clear hb hbox hg))
   replace BK258 := Aside0.mk (blk_drew BK258.out)
   replace HB := Aside0.mk (below_drew1 HB.out)
   refine start_ (n := 21) (S := fun w' => w'.cell? ⟨gb258, 0, none⟩ = some (.int .i64 a0_0) ∧ w'.cell? ⟨gb258, 1, none⟩ = some (.int .i64 a0_1) ∧ w'.cell? ⟨gb258, 2, none⟩ = some (.slice A0_2 l0_2.length c0_2) ∧ w'.cell? ⟨gb258, 3, none⟩ = some (.slice A0_3 l0_3.length c0_3) ∧ w'.cell? ⟨gb258, 4, none⟩ = some (.int .i64 a0_4) ∧ w'.cell? ⟨gb258, 5, none⟩ = some (.bool a0_5) ∧ w'.cell? ⟨gb258, 6, none⟩ = some (.int .i64 a0_6)) (ds := []) (fl 21 0) (by kernel_rfl) rfl rfl ⟨(blk_cell BK258.out 0).trans rfl, (blk_cell BK258.out 1).trans rfl, (blk_cell BK258.out 2).trans rfl, (blk_cell BK258.out 3).trans rfl, (blk_cell BK258.out 4).trans rfl, (blk_cell BK258.out 5).trans rfl, (blk_cell BK258.out 6).trans rfl⟩ (fun hHeld => ?_); refine with_tabW spec_pzGood.tab1 spec_pzGood.bits1 (fun HT_ HW_ => ?_)
   generalize w11.drew = w12 at BK258 HB hHeld ⊢
   refine zpu 0 (some 3) (fl 21 1) ?_
   refine zpu 2 (some 5) (fl 21 5) ?_
   refine zpu 4 (some 7) (fl 21 21) ?_
   refine ztk 1 (some 4) (fl 21 23) hHeld ?_
   refine ztk 3 (some 6) (fl 21 31) hHeld ?_
   refine ztk 5 (some 8) (fl 21 63) hHeld ?_
   refine zone 6 (some 9) (fl 21 127) (fun K hK => ?_)
   refine zgo Tryz.func81 #[.agg #[.int .i64 a0_0, .int .i64 a0_1, .slice A0_2 l0_2.length c0_2, .slice A0_3 l0_3.length c0_3], .int .i64 a0_4, .bool a0_5] ?_
   with_reducible refine (spec_moAsked.calls k a0_0 a0_1 _ _ l0_2 _ _ l0_3 a0_4 a0_5 true _ ?side1 ?side2 ?side3 ?side4 A2.out).mono ?_
   (case side1 => exact zC HR0_2)
   (case side2 => exact HC0_2.out)
   (case side3 => exact zC HR0_3)
   (case side4 => exact HC0_3.out)
   rintro e w13 ⟨rfl, hb⟩
   refine ⟨_, rfl, ?_⟩
   replace BK258 := zKb BK258 hb
   replace HB := zBb hb
   (try clear hb)
   (try clear hb2)
   (try clear hk)
   (try clear hi)
   refine hK.out _ _ ⟨(blk_cell BK258.out 0).trans rfl, (blk_cell BK258.out 1).trans rfl, (blk_cell BK258.out 2).trans rfl, (blk_cell BK258.out 3).trans rfl, (blk_cell BK258.out 4).trans rfl, (blk_cell BK258.out 5).trans rfl, (blk_cell BK258.out 6).trans rfl⟩ (fun hHeld => ?_)
   clear hK K
   refine znm ?_
   refine zpu 7 (some 10) (fl 21 255) ?_
   refine zpu 8 (some 11) (fl 21 511) ?_
   refine zpu 10 (some 13) (fl 21 1535) ?_
   refine ztk 9 (some 12) (fl 21 2047) hHeld ?_
   refine ztk 11 (some 14) (fl 21 4095) hHeld ?_
   refine zone 12 (some 15) (fl 21 8191) (fun K hK => ?_)
   refine zgo Tryz.func82 #[.agg #[.int .i64 a0_0, .int .i64 a0_1, .slice A0_2 l0_2.length c0_2, .slice A0_3 l0_3.length c0_3]] ?_
   with_reducible refine (spec_fiCount.calls a0_0 a0_1 _ _ l0_2 _ _ l0_3 t260 _ ?side1 ?side2 ?side3 ?side4 A4.out).mono ?_
   (case side1 => exact zC HR0_2)
   (case side2 => exact HC0_2.out)
   (case side3 => exact zC HR0_3)
   (case side4 => exact HC0_3.out)
   rintro e w14 ⟨rfl, hb⟩
   refine ⟨_, rfl, ?_⟩
   replace BK258 := zKb BK258 hb
   replace HB := zBb hb
   (try clear hb)
   (try clear hb2)
   (try clear hk)
   (try clear hi)
   refine hK.out _ _ ⟨(blk_cell BK258.out 0).trans rfl, (blk_cell BK258.out 1).trans rfl, (blk_cell BK258.out 2).trans rfl, (blk_cell BK258.out 3).trans rfl, (blk_cell BK258.out 4).trans rfl, (blk_cell BK258.out 5).trans rfl, (blk_cell BK258.out 6).trans rfl⟩ (fun hHeld => ?_)
   clear hK K
   refine znm ?_
   refine zpu 13 (some 16) (fl 21 16383) ?_
   refine zpu 14 (some 17) (fl 21 32767) ?_
   refine zpu 15 (some 18) (fl 21 65535) ?_
   refine zpn 16 (some 19) (fl 21 131071) ?_
   refine zpn 17 (some 20) (fl 21 262143) ?_
   refine zpn 18 (some 21) (fl 21 524287) ?_
   refine zpu 19 (some 22) (fl 21 1048575) ?_
   refine zpu 20 (some 2) (fl 21 2097151) ?_
   refine done_ (done_of HT_.out (by kernel_rfl)) ?_
   try go_wp2
   go_ret
   exact ⟨by first | rfl | (simp [errW_none, errW_some] <;> rfl) | (simp [*, errW_none, errW_some] <;> rfl), by repeat (first | (with_reducible first | exact HB.out | apply below_alloc | apply pw_below_drewN | apply below_drew1 | refine below_set ?_ GE258.out) | exact HB.out)⟩
 ·replace c3 := Bool.eq_false_iff.mpr c3
  subst c3
  have H1 : (some false) = some r := by rw [if_neg (show ¬ (false = true) by decide)] at H; exact H
  clear H
  have H := H1
  clear H1
  obtain rfl := Option.some.inj H
  go_enter Tryz.func58, Tryz.ntmps58
  try go_wp2_with (first | ((with_reducible refine gate_dst (N := 1) rfl ?_); refine box_event ?hg (N := 1) ?hd (cs := #[.int .i64 a0_0, .int .i64 a0_1, .slice A0_2 l0_2.length c0_2, .slice A0_3 l0_3.length c0_3, .int .i64 a0_4, .bool a0_5, .int .i64 a0_6]) (t := 32) ?hr ?_; (case hd => rfl); (case hg => rfl); (case hr => first | (go_simp; done) | (go_simp; rfl)); intro gb258 hg w15 hbox hb; have BK258 := Aside0.mk (hbox); have GW258 := Aside0.mk ((by rw [hg]; exact (below_size zB) : w.heap.size ≤ gb258)); have GE258 := Aside0.mk ((by rw [hg]; exact (below_size zB) : w.heap.size ≤ gb258)); replace HB := zBb hb; clear hb hbox hg))
  replace BK258 := Aside0.mk (blk_drew BK258.out)
  replace HB := Aside0.mk (below_drew1 HB.out)
  refine start_ (n := 21) (S := fun w' => w'.cell? ⟨gb258, 0, none⟩ = some (.int .i64 a0_0) ∧ w'.cell? ⟨gb258, 1, none⟩ = some (.int .i64 a0_1) ∧ w'.cell? ⟨gb258, 2, none⟩ = some (.slice A0_2 l0_2.length c0_2) ∧ w'.cell? ⟨gb258, 3, none⟩ = some (.slice A0_3 l0_3.length c0_3) ∧ w'.cell? ⟨gb258, 4, none⟩ = some (.int .i64 a0_4) ∧ w'.cell? ⟨gb258, 5, none⟩ = some (.bool a0_5) ∧ w'.cell? ⟨gb258, 6, none⟩ = some (.int .i64 a0_6)) (ds := []) (fl 21 0) (by kernel_rfl) rfl rfl ⟨(blk_cell BK258.out 0).trans rfl, (blk_cell BK258.out 1).trans rfl, (blk_cell BK258.out 2).trans rfl, (blk_cell BK258.out 3).trans rfl, (blk_cell BK258.out 4).trans rfl, (blk_cell BK258.out 5).trans rfl, (blk_cell BK258.out 6).trans rfl⟩ (fun hHeld => ?_); refine with_tabW spec_pzGood.tab1 spec_pzGood.bits1 (fun HT_ HW_ => ?_)
  generalize w15.drew = w16 at BK258 HB hHeld ⊢
  refine zpu 0 (some 3) (fl 21 1) ?_
  refine zpu 2 (some 5) (fl 21 5) ?_
  refine zpu 4 (some 7) (fl 21 21) ?_
  refine ztk 1 (some 4) (fl 21 23) hHeld ?_
  refine ztk 3 (some 6) (fl 21 31) hHeld ?_
  refine ztk 5 (some 8) (fl 21 63) hHeld ?_
  refine zone 6 (some 9) (fl 21 127) (fun K hK => ?_)
  refine zgo Tryz.func81 #[.agg #[.int .i64 a0_0, .int .i64 a0_1, .slice A0_2 l0_2.length c0_2, .slice A0_3 l0_3.length c0_3], .int .i64 a0_4, .bool a0_5] ?_
  with_reducible refine (spec_moAsked.calls k a0_0 a0_1 _ _ l0_2 _ _ l0_3 a0_4 a0_5 false _ ?side1 ?side2 ?side3 ?side4 A2.out).mono ?_
  (case side1 => exact zC HR0_2)
  (case side2 => exact HC0_2.out)
  (case side3 => exact zC HR0_3)
  (case side4 => exact HC0_3.out)
  rintro e w17 ⟨rfl, hb⟩
  refine ⟨_, rfl, ?_⟩
  replace BK258 := zKb BK258 hb
  replace HB := zBb hb
  (try clear hb)
  (try clear hb2)
  (try clear hk)
  (try clear hi)
  refine hK.out _ _ ⟨(blk_cell BK258.out 0).trans rfl, (blk_cell BK258.out 1).trans rfl, (blk_cell BK258.out 2).trans rfl, (blk_cell BK258.out 3).trans rfl, (blk_cell BK258.out 4).trans rfl, (blk_cell BK258.out 5).trans rfl, (blk_cell BK258.out 6).trans rfl⟩ (fun hHeld => ?_)
  clear hK K
  refine znm ?_
  refine zpu 7 (some 10) (fl 21 255) ?_
  refine zpn 8 (some 11) (fl 21 511) ?_
  refine zpn 9 (some 12) (fl 21 1023) ?_
  refine zpn 10 (some 13) (fl 21 2047) ?_
  refine zpn 11 (some 14) (fl 21 4095) ?_
  refine zpn 12 (some 15) (fl 21 8191) ?_
  refine zpn 13 (some 16) (fl 21 16383) ?_
  refine zpu 14 (some 17) (fl 21 32767) ?_
  refine zpu 15 (some 18) (fl 21 65535) ?_
  refine zpn 16 (some 19) (fl 21 131071) ?_
  refine zpn 17 (some 20) (fl 21 262143) ?_
  refine zpn 18 (some 21) (fl 21 524287) ?_
  refine zpu 19 (some 22) (fl 21 1048575) ?_
  refine zpu 20 (some 2) (fl 21 2097151) ?_
  refine done_ (done_of HT_.out (by kernel_rfl)) ?_
  try go_wp2
  go_ret
  exact ⟨by first | rfl | (simp [errW_none, errW_some] <;> rfl) | (simp [*, errW_none, errW_some] <;> rfl), by repeat (first | (with_reducible first | exact HB.out | apply below_alloc | apply pw_below_drewN | apply below_drew1 | refine below_set ?_ GE258.out) | exact HB.out)⟩

/-! ### spec_pzAll: function 59 -/
set_option maxHeartbeats 8000000 in
set_option maxRecDepth 100000 in
theorem spec_pzAll.calls (k : Nat) (a0_0 : Int) (a0_1 : Int) (A0_2 : Option Addr) (c0_2 : Nat) (l0_2 : List Int) (A0_3 : Option Addr) (c0_3 : Nat) (l0_3 : List Int) (a0_4 : Int) (a0_5 : Bool) (a0_6 : Int) (r1 : List Int) (r2 : Bool) (w : World) (hr0_2 : Kd.C (Kd.int .i64) w A0_2 l0_2.length l0_2) (hc0_2 : l0_2.length ≤ c0_2) (hr0_3 : Kd.C (Kd.int .i64) w A0_3 l0_3.length l0_3) (hc0_3 : l0_3.length ≤ c0_3) (h : spec_pzAll.f k a0_0 a0_1 l0_2 l0_3 a0_4 a0_5 a0_6 = some (r1, r2)) :
  Calls Tryz.prog 59 #[.agg #[.int .i64 a0_0, .int .i64 a0_1, .slice A0_2 l0_2.length c0_2, .slice A0_3 l0_3.length c0_3, .int .i64 a0_4, .bool a0_5, .int .i64 a0_6]] w fun e w' => ∃ v0_ : Value, e = .returned (.tuple #[v0_, .bool r2]) ∧ Kd.R (Kd.int .i64) 3 w' w.heap.size (fun _ => True) v0_ r1 ∧ Below w.heap.size w w' := by
 have hu32 := Tryz.underlying32
 have hu30 := Tryz.underlying30
 have HR0_2 := Aside0.mk hr0_2
 have HC0_2 := Aside0.mk hc0_2
 clear hr0_2 hc0_2
 have HR0_3 := Aside0.mk hr0_3
 have HC0_3 := Aside0.mk hc0_3
 clear hr0_3 hc0_3
 have HB := Aside0.mk (Below.refl w.heap.size w)
 have H : ((spec_moThose.f k a0_0 a0_1 l0_2 l0_3 a0_4 a0_6 a0_5 true).bind fun t263 => (some (t263, decide ((t263.length : Int) ≤ 150)))) = some (r1, r2) := h
 clear h
 replace H := Option.bind_eq_some_iff.mp H
 obtain ⟨t263, A20, H⟩ := H
 replace H : (some (t263, decide ((t263.length : Int) ≤ 150))) = some (r1, r2) := H
 have A2 := Aside0.mk A20
 clear A20
 simp only [Option.some.injEq, Prod.mk.injEq] at H
 obtain ⟨rfl, rfl⟩ := H
 go_enter Tryz.func59, Tryz.ntmps59
 go_wp2_with (first | ((with_reducible refine gate_dst (N := 1) rfl ?_); refine box_event ?hg (N := 1) ?hd (cs := #[.int .i64 a0_0, .int .i64 a0_1, .slice A0_2 l0_2.length c0_2, .slice A0_3 l0_3.length c0_3, .int .i64 a0_4, .bool a0_5, .int .i64 a0_6]) (t := 32) ?hr ?_; (case hd => rfl); (case hg => rfl); (case hr => first | (go_simp; done) | (go_simp; rfl)); intro gb262 hg w3 hbox hb; have BK262 := Aside0.mk (hbox); have GW262 := Aside0.mk ((by rw [hg]; exact (below_size zB) : w.heap.size ≤ gb262)); have GE262 := Aside0.mk ((by rw [hg]; exact (below_size zB) : w.heap.size ≤ gb262)); replace HB := zBb hb; clear hb hbox hg; have hcz4_0 : w3.cell? ⟨gb262, 0, none⟩ = some (.int .i64 a0_0) := (blk_cell BK262.out 0).trans rfl; have hcz4_1 : w3.cell? ⟨gb262, 1, none⟩ = some (.int .i64 a0_1) := (blk_cell BK262.out 1).trans rfl; have hcz4_2 : w3.cell? ⟨gb262, 2, none⟩ = some (.slice A0_2 l0_2.length c0_2) := (blk_cell BK262.out 2).trans rfl; have hcz4_3 : w3.cell? ⟨gb262, 3, none⟩ = some (.slice A0_3 l0_3.length c0_3) := (blk_cell BK262.out 3).trans rfl; have hcz4_4 : w3.cell? ⟨gb262, 4, none⟩ = some (.int .i64 a0_4) := (blk_cell BK262.out 4).trans rfl; have hcz4_5 : w3.cell? ⟨gb262, 5, none⟩ = some (.bool a0_5) := (blk_cell BK262.out 5).trans rfl; have hcz4_6 : w3.cell? ⟨gb262, 6, none⟩ = some (.int .i64 a0_6) := (blk_cell BK262.out 6).trans rfl; have hfz4_0 := blk_frozen BK262.out 0; have hfz4_1 := blk_frozen BK262.out 1; have hfz4_2 := blk_frozen BK262.out 2; have hfz4_3 := blk_frozen BK262.out 3; have hfz4_4 := blk_frozen BK262.out 4; have hfz4_5 := blk_frozen BK262.out 5; have hfz4_6 := blk_frozen BK262.out 6) | ((with_reducible refine gate_callee (f := 84) rfl ?_); refine goesL_ (some 13) rfl rfl Tryz.func84 (by kernel_rfl) rfl #[.agg #[.int .i64 a0_0, .int .i64 a0_1, .slice A0_2 l0_2.length c0_2, .slice A0_3 l0_3.length c0_3], .int .i64 a0_4, .int .i64 a0_6, .bool a0_5, .bool true] rfl zM ?_; (with_reducible refine (spec_moThose.calls k a0_0 a0_1 _ _ l0_2 _ _ l0_3 a0_4 a0_6 a0_5 true t263 _ ?side1 ?side2 ?side3 ?side4 A2.out).mono ?_); (case side1 => exact zC HR0_2); (case side2 => exact HC0_2.out); (case side3 => exact zC HR0_3); (case side4 => exact HC0_3.out); rintro e w5 ⟨v264, rfl, ho0, hb⟩; refine ⟨_, rfl, ?_⟩; have HO265 := Aside0.mk (Kd.R_lower ho0 (below_size zB)); replace BK262 := zKb BK262 hb; replace HB := zBb hb; (try clear hb); (try clear hb2); (try clear hk); (try clear hi); (try clear ho0); obtain ⟨Ao6, co6, eo6⟩ := Kd.R_slice HO265.out; subst eo6))
 go_ret2
 exact ⟨_, by first | rfl | (simp [errW_none, errW_some] <;> rfl) | (simp [*, errW_none, errW_some] <;> rfl), by (with_reducible repeat (first | apply Kd.R_alloc | apply Kd.R_drewN | apply Kd.R_drew)); exact HO265.out, by repeat (first | (with_reducible first | exact HB.out | apply below_alloc | apply pw_below_drewN | apply below_drew1 | refine below_set ?_ GE262.out) | exact HB.out)⟩

/-! ### spec_pzAsked: function 35 -/
set_option maxHeartbeats 8000000 in
set_option maxRecDepth 100000 in
theorem spec_pzAsked.calls (k : Nat) (a0_0 : Int) (a0_1 : Int) (A0_2 : Option Addr) (c0_2 : Nat) (l0_2 : List Int) (A0_3 : Option Addr) (c0_3 : Nat) (l0_3 : List Int) (a0_4 : Int) (a0_5 : Bool) (a0_6 : Int) (r1 : List Int) (r2 : Bool) (w : World) (hr0_2 : Kd.C (Kd.int .i64) w A0_2 l0_2.length l0_2) (hc0_2 : l0_2.length ≤ c0_2) (hr0_3 : Kd.C (Kd.int .i64) w A0_3 l0_3.length l0_3) (hc0_3 : l0_3.length ≤ c0_3) (h : spec_pzAsked.f k a0_0 a0_1 l0_2 l0_3 a0_4 a0_5 a0_6 = some (r1, r2)) :
  Calls Tryz.prog 35 #[.agg #[.int .i64 a0_0, .int .i64 a0_1, .slice A0_2 l0_2.length c0_2, .slice A0_3 l0_3.length c0_3, .int .i64 a0_4, .bool a0_5, .int .i64 a0_6]] w fun e w' => ∃ v0_ : Value, e = .returned (.tuple #[v0_, .bool r2]) ∧ Kd.R (Kd.int .i64) 3 w' w.heap.size (fun _ => True) v0_ r1 ∧ Below w.heap.size w w' := by
 have hu32 := Tryz.underlying32
 have HR0_2 := Aside0.mk hr0_2
 have HC0_2 := Aside0.mk hc0_2
 clear hr0_2 hc0_2
 have HR0_3 := Aside0.mk hr0_3
 have HC0_3 := Aside0.mk hc0_3
 clear hr0_3 hc0_3
 have HB := Aside0.mk (Below.refl w.heap.size w)
 have H : ((spec_pzGood.f k a0_0 a0_1 l0_2 l0_3 a0_4 a0_5 a0_6).bind fun t267 => (if t267 = true then ((spec_pzAll.f k a0_0 a0_1 l0_2 l0_3 a0_4 a0_5 a0_6).bind fun bt268 => (some (bt268.1, bt268.2))) else (some (([] : List Int), false)))) = some (r1, r2) := h
 clear h
 replace H := Option.bind_eq_some_iff.mp H
 obtain ⟨t267, A20, H⟩ := H
 replace H : (if t267 = true then ((spec_pzAll.f k a0_0 a0_1 l0_2 l0_3 a0_4 a0_5 a0_6).bind fun bt268 => (some (bt268.1, bt268.2))) else (some (([] : List Int), false))) = some (r1, r2) := H
 have A2 := Aside0.mk A20
 clear A20
 by_cases c3 : t267 = true
 ·subst c3
  have H1 : ((spec_pzAll.f k a0_0 a0_1 l0_2 l0_3 a0_4 a0_5 a0_6).bind fun bt268 => (some (bt268.1, bt268.2))) = some (r1, r2) := by rw [if_pos rfl] at H; exact H
  clear H
  have H := H1
  clear H1
  replace H := Option.bind_eq_some_iff.mp H
  obtain ⟨⟨t268, t271⟩, A40, H⟩ := H
  replace H : (some (t268, t271)) = some (r1, r2) := H
  have A4 := Aside0.mk A40
  clear A40
  simp only [Option.some.injEq, Prod.mk.injEq] at H
  obtain ⟨rfl, rfl⟩ := H
  go_enter Tryz.func35, Tryz.ntmps35
  go_wp2_with (first | ((with_reducible refine gate_dst (N := 1) rfl ?_); refine box_event ?hg (N := 1) ?hd (cs := #[.int .i64 a0_0, .int .i64 a0_1, .slice A0_2 l0_2.length c0_2, .slice A0_3 l0_3.length c0_3, .int .i64 a0_4, .bool a0_5, .int .i64 a0_6]) (t := 32) ?hr ?_; (case hd => rfl); (case hg => rfl); (case hr => first | (go_simp; done) | (go_simp; rfl)); intro gb266 hg w5 hbox hb; have BK266 := Aside0.mk (hbox); have GW266 := Aside0.mk ((by rw [hg]; exact (below_size zB) : w.heap.size ≤ gb266)); have GE266 := Aside0.mk ((by rw [hg]; exact (below_size zB) : w.heap.size ≤ gb266)); replace HB := zBb hb; clear hb hbox hg; have hcz6_0 : w5.cell? ⟨gb266, 0, none⟩ = some (.int .i64 a0_0) := (blk_cell BK266.out 0).trans rfl; have hcz6_1 : w5.cell? ⟨gb266, 1, none⟩ = some (.int .i64 a0_1) := (blk_cell BK266.out 1).trans rfl; have hcz6_2 : w5.cell? ⟨gb266, 2, none⟩ = some (.slice A0_2 l0_2.length c0_2) := (blk_cell BK266.out 2).trans rfl; have hcz6_3 : w5.cell? ⟨gb266, 3, none⟩ = some (.slice A0_3 l0_3.length c0_3) := (blk_cell BK266.out 3).trans rfl; have hcz6_4 : w5.cell? ⟨gb266, 4, none⟩ = some (.int .i64 a0_4) := (blk_cell BK266.out 4).trans rfl; have hcz6_5 : w5.cell? ⟨gb266, 5, none⟩ = some (.bool a0_5) := (blk_cell BK266.out 5).trans rfl; have hcz6_6 : w5.cell? ⟨gb266, 6, none⟩ = some (.int .i64 a0_6) := (blk_cell BK266.out 6).trans rfl; have hfz6_0 := blk_frozen BK266.out 0; have hfz6_1 := blk_frozen BK266.out 1; have hfz6_2 := blk_frozen BK266.out 2; have hfz6_3 := blk_frozen BK266.out 3; have hfz6_4 := blk_frozen BK266.out 4; have hfz6_5 := blk_frozen BK266.out 5; have hfz6_6 := blk_frozen BK266.out 6) | ((with_reducible refine gate_callee (f := 58) rfl ?_); refine goesL_ (some 5) rfl rfl Tryz.func58 (by kernel_rfl) rfl #[.agg #[.int .i64 a0_0, .int .i64 a0_1, .slice A0_2 l0_2.length c0_2, .slice A0_3 l0_3.length c0_3, .int .i64 a0_4, .bool a0_5, .int .i64 a0_6]] rfl zM ?_; (with_reducible refine (spec_pzGood.calls k a0_0 a0_1 _ _ l0_2 _ _ l0_3 a0_4 a0_5 a0_6 true _ ?side1 ?side2 ?side3 ?side4 A2.out).mono ?_); (case side1 => exact zC HR0_2); (case side2 => exact HC0_2.out); (case side3 => exact zC HR0_3); (case side4 => exact HC0_3.out); rintro e w7 ⟨rfl, hb⟩; refine ⟨_, rfl, ?_⟩; replace BK266 := zKb BK266 hb; replace HB := zBb hb; (try clear hb); (try clear hb2); (try clear hk); (try clear hi); have hcz8_0 : w7.cell? ⟨gb266, 0, none⟩ = some (.int .i64 a0_0) := (blk_cell BK266.out 0).trans rfl; have hcz8_1 : w7.cell? ⟨gb266, 1, none⟩ = some (.int .i64 a0_1) := (blk_cell BK266.out 1).trans rfl; have hcz8_2 : w7.cell? ⟨gb266, 2, none⟩ = some (.slice A0_2 l0_2.length c0_2) := (blk_cell BK266.out 2).trans rfl; have hcz8_3 : w7.cell? ⟨gb266, 3, none⟩ = some (.slice A0_3 l0_3.length c0_3) := (blk_cell BK266.out 3).trans rfl; have hcz8_4 : w7.cell? ⟨gb266, 4, none⟩ = some (.int .i64 a0_4) := (blk_cell BK266.out 4).trans rfl; have hcz8_5 : w7.cell? ⟨gb266, 5, none⟩ = some (.bool a0_5) := (blk_cell BK266.out 5).trans rfl; have hcz8_6 : w7.cell? ⟨gb266, 6, none⟩ = some (.int .i64 a0_6) := (blk_cell BK266.out 6).trans rfl; have hfz8_0 := blk_frozen BK266.out 0; have hfz8_1 := blk_frozen BK266.out 1; have hfz8_2 := blk_frozen BK266.out 2; have hfz8_3 := blk_frozen BK266.out 3; have hfz8_4 := blk_frozen BK266.out 4; have hfz8_5 := blk_frozen BK266.out 5; have hfz8_6 := blk_frozen BK266.out 6) | ((with_reducible refine gate_callee (f := 59) rfl ?_); refine goesL_ (some 8) rfl rfl Tryz.func59 (by kernel_rfl) rfl #[.agg #[.int .i64 a0_0, .int .i64 a0_1, .slice A0_2 l0_2.length c0_2, .slice A0_3 l0_3.length c0_3, .int .i64 a0_4, .bool a0_5, .int .i64 a0_6]] rfl zM ?_; (with_reducible refine (spec_pzAll.calls k a0_0 a0_1 _ _ l0_2 _ _ l0_3 a0_4 a0_5 a0_6 t268 t271 _ ?side1 ?side2 ?side3 ?side4 A4.out).mono ?_); (case side1 => exact zC HR0_2); (case side2 => exact HC0_2.out); (case side3 => exact zC HR0_3); (case side4 => exact HC0_3.out); rintro e w9 ⟨v269, rfl, ho0, hb⟩; refine ⟨_, rfl, ?_⟩; have HO270 := Aside0.mk (Kd.R_lower ho0 (below_size zB)); replace BK266 := zKb BK266 hb; replace HB := zBb hb; (try clear hb); (try clear hb2); (try clear hk); (try clear hi); (try clear ho0)))
  go_ret2
  exact ⟨_, by first | rfl | (simp [errW_none, errW_some] <;> rfl) | (simp [*, errW_none, errW_some] <;> rfl), by (with_reducible repeat (first | apply Kd.R_alloc | apply Kd.R_drewN | apply Kd.R_drew)); exact HO270.out, by repeat (first | (with_reducible first | exact HB.out | apply below_alloc | apply pw_below_drewN | apply below_drew1 | refine below_set ?_ GE266.out) | exact HB.out)⟩
 ·replace c3 := Bool.eq_false_iff.mpr c3
  subst c3
  have H1 : (some (([] : List Int), false)) = some (r1, r2) := by rw [if_neg (show ¬ (false = true) by decide)] at H; exact H
  clear H
  have H := H1
  clear H1
  simp only [Option.some.injEq, Prod.mk.injEq] at H
  obtain ⟨rfl, rfl⟩ := H
  go_enter Tryz.func35, Tryz.ntmps35
  go_wp2_with (first | ((with_reducible refine gate_dst (N := 1) rfl ?_); refine box_event ?hg (N := 1) ?hd (cs := #[.int .i64 a0_0, .int .i64 a0_1, .slice A0_2 l0_2.length c0_2, .slice A0_3 l0_3.length c0_3, .int .i64 a0_4, .bool a0_5, .int .i64 a0_6]) (t := 32) ?hr ?_; (case hd => rfl); (case hg => rfl); (case hr => first | (go_simp; done) | (go_simp; rfl)); intro gb266 hg w10 hbox hb; have BK266 := Aside0.mk (hbox); have GW266 := Aside0.mk ((by rw [hg]; exact (below_size zB) : w.heap.size ≤ gb266)); have GE266 := Aside0.mk ((by rw [hg]; exact (below_size zB) : w.heap.size ≤ gb266)); replace HB := zBb hb; clear hb hbox hg; have hcz11_0 : w10.cell? ⟨gb266, 0, none⟩ = some (.int .i64 a0_0) := (blk_cell BK266.out 0).trans rfl; have hcz11_1 : w10.cell? ⟨gb266, 1, none⟩ = some (.int .i64 a0_1) := (blk_cell BK266.out 1).trans rfl; have hcz11_2 : w10.cell? ⟨gb266, 2, none⟩ = some (.slice A0_2 l0_2.length c0_2) := (blk_cell BK266.out 2).trans rfl; have hcz11_3 : w10.cell? ⟨gb266, 3, none⟩ = some (.slice A0_3 l0_3.length c0_3) := (blk_cell BK266.out 3).trans rfl; have hcz11_4 : w10.cell? ⟨gb266, 4, none⟩ = some (.int .i64 a0_4) := (blk_cell BK266.out 4).trans rfl; have hcz11_5 : w10.cell? ⟨gb266, 5, none⟩ = some (.bool a0_5) := (blk_cell BK266.out 5).trans rfl; have hcz11_6 : w10.cell? ⟨gb266, 6, none⟩ = some (.int .i64 a0_6) := (blk_cell BK266.out 6).trans rfl; have hfz11_0 := blk_frozen BK266.out 0; have hfz11_1 := blk_frozen BK266.out 1; have hfz11_2 := blk_frozen BK266.out 2; have hfz11_3 := blk_frozen BK266.out 3; have hfz11_4 := blk_frozen BK266.out 4; have hfz11_5 := blk_frozen BK266.out 5; have hfz11_6 := blk_frozen BK266.out 6) | ((with_reducible refine gate_callee (f := 58) rfl ?_); refine goesL_ (some 5) rfl rfl Tryz.func58 (by kernel_rfl) rfl #[.agg #[.int .i64 a0_0, .int .i64 a0_1, .slice A0_2 l0_2.length c0_2, .slice A0_3 l0_3.length c0_3, .int .i64 a0_4, .bool a0_5, .int .i64 a0_6]] rfl zM ?_; (with_reducible refine (spec_pzGood.calls k a0_0 a0_1 _ _ l0_2 _ _ l0_3 a0_4 a0_5 a0_6 false _ ?side1 ?side2 ?side3 ?side4 A2.out).mono ?_); (case side1 => exact zC HR0_2); (case side2 => exact HC0_2.out); (case side3 => exact zC HR0_3); (case side4 => exact HC0_3.out); rintro e w12 ⟨rfl, hb⟩; refine ⟨_, rfl, ?_⟩; replace BK266 := zKb BK266 hb; replace HB := zBb hb; (try clear hb); (try clear hb2); (try clear hk); (try clear hi)))
  go_ret2
  exact ⟨_, by first | rfl | (simp [errW_none, errW_some] <;> rfl) | (simp [*, errW_none, errW_some] <;> rfl), by first | exact Kd.R_nil _ _ _ _ _ | exact Kd.N_nil _ _ _ _ _ | exact Kd.V_nil _ _ _ _ _ | exact Kd.Q_nil _ _ _ _ _ | exact Kd.S_nil _ _ _ _ _, by repeat (first | (with_reducible first | exact HB.out | apply below_alloc | apply pw_below_drewN | apply below_drew1 | refine below_set ?_ GE266.out) | exact HB.out)⟩

/-! ### spec_CountSolutions: function 11 -/
set_option maxHeartbeats 8000000 in
set_option maxRecDepth 100000 in
theorem spec_CountSolutions.calls (k : Nat) (a0_0 : Int) (a0_1 : Int) (A0_2 : Option Addr) (c0_2 : Nat) (l0_2 : List Int) (A0_3 : Option Addr) (c0_3 : Nat) (l0_3 : List Int) (a0_4 : Int) (a0_5 : Bool) (a0_6 : Int) (r1 : Int) (r2 : Bool) (w : World) (hr0_2 : Kd.C (Kd.int .i64) w A0_2 l0_2.length l0_2) (hc0_2 : l0_2.length ≤ c0_2) (hr0_3 : Kd.C (Kd.int .i64) w A0_3 l0_3.length l0_3) (hc0_3 : l0_3.length ≤ c0_3) (h : spec_CountSolutions.f k a0_0 a0_1 l0_2 l0_3 a0_4 a0_5 a0_6 = some (r1, r2)) :
  Calls Tryz.prog 11 #[.agg #[.int .i64 a0_0, .int .i64 a0_1, .slice A0_2 l0_2.length c0_2, .slice A0_3 l0_3.length c0_3, .int .i64 a0_4, .bool a0_5, .int .i64 a0_6]] w fun e w' => e = .returned (.tuple #[.int .i64 r1, .bool r2]) ∧ Below w.heap.size w w' := by
 have hu32 := Tryz.underlying32
 have HR0_2 := Aside0.mk hr0_2
 have HC0_2 := Aside0.mk hc0_2
 clear hr0_2 hc0_2
 have HR0_3 := Aside0.mk hr0_3
 have HC0_3 := Aside0.mk hc0_3
 clear hr0_3 hc0_3
 have HB := Aside0.mk (Below.refl w.heap.size w)
 have H : ((spec_pzAsked.f k a0_0 a0_1 l0_2 l0_3 a0_4 a0_5 a0_6).bind fun bt273 => (if bt273.2 = true then (some ((bt273.1.length : Int), true)) else (some (0, false)))) = some (r1, r2) := h
 clear h
 replace H := Option.bind_eq_some_iff.mp H
 obtain ⟨⟨t273, t276⟩, A20, H⟩ := H
 replace H : (if t276 = true then (some ((t273.length : Int), true)) else (some (0, false))) = some (r1, r2) := H
 have A2 := Aside0.mk A20
 clear A20
 by_cases c3 : t276 = true
 ·subst c3
  have H1 : (some ((t273.length : Int), true)) = some (r1, r2) := by rw [if_pos rfl] at H; exact H
  clear H
  have H := H1
  clear H1
  simp only [Option.some.injEq, Prod.mk.injEq] at H
  obtain ⟨rfl, rfl⟩ := H
  go_enter Tryz.func11, Tryz.ntmps11
  go_wp2_with (first | ((with_reducible refine gate_dst (N := 1) rfl ?_); refine box_event ?hg (N := 1) ?hd (cs := #[.int .i64 a0_0, .int .i64 a0_1, .slice A0_2 l0_2.length c0_2, .slice A0_3 l0_3.length c0_3, .int .i64 a0_4, .bool a0_5, .int .i64 a0_6]) (t := 32) ?hr ?_; (case hd => rfl); (case hg => rfl); (case hr => first | (go_simp; done) | (go_simp; rfl)); intro gb272 hg w4 hbox hb; have BK272 := Aside0.mk (hbox); have GW272 := Aside0.mk ((by rw [hg]; exact (below_size zB) : w.heap.size ≤ gb272)); have GE272 := Aside0.mk ((by rw [hg]; exact (below_size zB) : w.heap.size ≤ gb272)); replace HB := zBb hb; clear hb hbox hg; have hcz5_0 : w4.cell? ⟨gb272, 0, none⟩ = some (.int .i64 a0_0) := (blk_cell BK272.out 0).trans rfl; have hcz5_1 : w4.cell? ⟨gb272, 1, none⟩ = some (.int .i64 a0_1) := (blk_cell BK272.out 1).trans rfl; have hcz5_2 : w4.cell? ⟨gb272, 2, none⟩ = some (.slice A0_2 l0_2.length c0_2) := (blk_cell BK272.out 2).trans rfl; have hcz5_3 : w4.cell? ⟨gb272, 3, none⟩ = some (.slice A0_3 l0_3.length c0_3) := (blk_cell BK272.out 3).trans rfl; have hcz5_4 : w4.cell? ⟨gb272, 4, none⟩ = some (.int .i64 a0_4) := (blk_cell BK272.out 4).trans rfl; have hcz5_5 : w4.cell? ⟨gb272, 5, none⟩ = some (.bool a0_5) := (blk_cell BK272.out 5).trans rfl; have hcz5_6 : w4.cell? ⟨gb272, 6, none⟩ = some (.int .i64 a0_6) := (blk_cell BK272.out 6).trans rfl; have hfz5_0 := blk_frozen BK272.out 0; have hfz5_1 := blk_frozen BK272.out 1; have hfz5_2 := blk_frozen BK272.out 2; have hfz5_3 := blk_frozen BK272.out 3; have hfz5_4 := blk_frozen BK272.out 4; have hfz5_5 := blk_frozen BK272.out 5; have hfz5_6 := blk_frozen BK272.out 6) | ((with_reducible refine gate_callee (f := 35) rfl ?_); refine goesL_ (some 8) rfl rfl Tryz.func35 (by kernel_rfl) rfl #[.agg #[.int .i64 a0_0, .int .i64 a0_1, .slice A0_2 l0_2.length c0_2, .slice A0_3 l0_3.length c0_3, .int .i64 a0_4, .bool a0_5, .int .i64 a0_6]] rfl zM ?_; (with_reducible refine (spec_pzAsked.calls k a0_0 a0_1 _ _ l0_2 _ _ l0_3 a0_4 a0_5 a0_6 t273 true _ ?side1 ?side2 ?side3 ?side4 A2.out).mono ?_); (case side1 => exact zC HR0_2); (case side2 => exact HC0_2.out); (case side3 => exact zC HR0_3); (case side4 => exact HC0_3.out); rintro e w6 ⟨v274, rfl, ho0, hb⟩; refine ⟨_, rfl, ?_⟩; have HO275 := Aside0.mk (Kd.R_lower ho0 (below_size zB)); replace BK272 := zKb BK272 hb; replace HB := zBb hb; (try clear hb); (try clear hb2); (try clear hk); (try clear hi); (try clear ho0); obtain ⟨Ao7, co7, eo7⟩ := Kd.R_slice HO275.out; subst eo7))
  go_ret2
  exact ⟨by first | rfl | (simp [errW_none, errW_some] <;> rfl) | (simp [*, errW_none, errW_some] <;> rfl), by repeat (first | (with_reducible first | exact HB.out | apply below_alloc | apply pw_below_drewN | apply below_drew1 | refine below_set ?_ GE272.out) | exact HB.out)⟩
 ·replace c3 := Bool.eq_false_iff.mpr c3
  subst c3
  have H1 : (some (0, false)) = some (r1, r2) := by rw [if_neg (show ¬ (false = true) by decide)] at H; exact H
  clear H
  have H := H1
  clear H1
  simp only [Option.some.injEq, Prod.mk.injEq] at H
  obtain ⟨rfl, rfl⟩ := H
  go_enter Tryz.func11, Tryz.ntmps11
  go_wp2_with (first | ((with_reducible refine gate_dst (N := 1) rfl ?_); refine box_event ?hg (N := 1) ?hd (cs := #[.int .i64 a0_0, .int .i64 a0_1, .slice A0_2 l0_2.length c0_2, .slice A0_3 l0_3.length c0_3, .int .i64 a0_4, .bool a0_5, .int .i64 a0_6]) (t := 32) ?hr ?_; (case hd => rfl); (case hg => rfl); (case hr => first | (go_simp; done) | (go_simp; rfl)); intro gb272 hg w8 hbox hb; have BK272 := Aside0.mk (hbox); have GW272 := Aside0.mk ((by rw [hg]; exact (below_size zB) : w.heap.size ≤ gb272)); have GE272 := Aside0.mk ((by rw [hg]; exact (below_size zB) : w.heap.size ≤ gb272)); replace HB := zBb hb; clear hb hbox hg; have hcz9_0 : w8.cell? ⟨gb272, 0, none⟩ = some (.int .i64 a0_0) := (blk_cell BK272.out 0).trans rfl; have hcz9_1 : w8.cell? ⟨gb272, 1, none⟩ = some (.int .i64 a0_1) := (blk_cell BK272.out 1).trans rfl; have hcz9_2 : w8.cell? ⟨gb272, 2, none⟩ = some (.slice A0_2 l0_2.length c0_2) := (blk_cell BK272.out 2).trans rfl; have hcz9_3 : w8.cell? ⟨gb272, 3, none⟩ = some (.slice A0_3 l0_3.length c0_3) := (blk_cell BK272.out 3).trans rfl; have hcz9_4 : w8.cell? ⟨gb272, 4, none⟩ = some (.int .i64 a0_4) := (blk_cell BK272.out 4).trans rfl; have hcz9_5 : w8.cell? ⟨gb272, 5, none⟩ = some (.bool a0_5) := (blk_cell BK272.out 5).trans rfl; have hcz9_6 : w8.cell? ⟨gb272, 6, none⟩ = some (.int .i64 a0_6) := (blk_cell BK272.out 6).trans rfl; have hfz9_0 := blk_frozen BK272.out 0; have hfz9_1 := blk_frozen BK272.out 1; have hfz9_2 := blk_frozen BK272.out 2; have hfz9_3 := blk_frozen BK272.out 3; have hfz9_4 := blk_frozen BK272.out 4; have hfz9_5 := blk_frozen BK272.out 5; have hfz9_6 := blk_frozen BK272.out 6) | ((with_reducible refine gate_callee (f := 35) rfl ?_); refine goesL_ (some 8) rfl rfl Tryz.func35 (by kernel_rfl) rfl #[.agg #[.int .i64 a0_0, .int .i64 a0_1, .slice A0_2 l0_2.length c0_2, .slice A0_3 l0_3.length c0_3, .int .i64 a0_4, .bool a0_5, .int .i64 a0_6]] rfl zM ?_; (with_reducible refine (spec_pzAsked.calls k a0_0 a0_1 _ _ l0_2 _ _ l0_3 a0_4 a0_5 a0_6 t273 false _ ?side1 ?side2 ?side3 ?side4 A2.out).mono ?_); (case side1 => exact zC HR0_2); (case side2 => exact HC0_2.out); (case side3 => exact zC HR0_3); (case side4 => exact HC0_3.out); rintro e w10 ⟨v274, rfl, ho0, hb⟩; refine ⟨_, rfl, ?_⟩; have HO275 := Aside0.mk (Kd.R_lower ho0 (below_size zB)); replace BK272 := zKb BK272 hb; replace HB := zBb hb; (try clear hb); (try clear hb2); (try clear hk); (try clear hi); (try clear ho0)))
  go_ret2
  exact ⟨by first | rfl | (simp [errW_none, errW_some] <;> rfl) | (simp [*, errW_none, errW_some] <;> rfl), by repeat (first | (with_reducible first | exact HB.out | apply below_alloc | apply pw_below_drewN | apply below_drew1 | refine below_set ?_ GE272.out) | exact HB.out)⟩

/-! ### laws_szIntS: function 57 -/
set_option maxHeartbeats 8000000 in
set_option maxRecDepth 100000 in
theorem laws_szIntS.calls (A0 : Option Addr) (c0 : Nat) (l0 : List Int) (a1 : Int) (r : Int) (w : World) (hr0 : Kd.C (Kd.int .i64) w A0 l0.length l0) (hc0 : l0.length ≤ c0) (h : laws_szIntS.f l0 a1 = some r) :
  Calls Tryz.prog 57 #[.slice A0 l0.length c0, .int .i64 a1] w fun e w' => e = .returned (.int .i64 r) ∧ Drawn0 w w' := by
 have HR0 := Aside0.mk hr0
 have HC0 := Aside0.mk hc0
 clear hr0 hc0
 have H : (if (wrap64 (a1 - (l0.length : Int))) < 0 then (some (-1)) else (some (wrap64 (a1 - (l0.length : Int))))) = some r := h
 clear h
 by_cases c3 : (wrap64 (a1 - (l0.length : Int))) < 0
 ·rw [if_pos c3] at H
  have c3b0 : decide ((wrap64 (a1 - (l0.length : Int))) < 0) = true := decide_eq_true c3
  clear c3
  obtain rfl := Option.some.inj H
  go_enter Tryz.func57, Tryz.ntmps57
  go_wp2
  go_ret
  exact ⟨by first | rfl | (simp; done) | (simp [*]; done), by repeat (first | exact Drawn0.refl _ | apply Drawn0.step)⟩
 ·rw [if_neg c3] at H
  have c3b0 : decide ((wrap64 (a1 - (l0.length : Int))) < 0) = false := decide_eq_false c3
  clear c3
  obtain rfl := Option.some.inj H
  go_enter Tryz.func57, Tryz.ntmps57
  go_wp2
  go_ret
  exact ⟨by first | rfl | (simp; done) | (simp [*]; done), by repeat (first | exact Drawn0.refl _ | apply Drawn0.step)⟩

/-! ### laws_szFigure: function 34 -/
set_option maxHeartbeats 8000000 in
set_option maxRecDepth 100000 in
theorem laws_szFigure.calls (a0_0 : Int) (a0_1 : Int) (A0_2 : Option Addr) (c0_2 : Nat) (l0_2 : List Int) (A0_3 : Option Addr) (c0_3 : Nat) (l0_3 : List Int) (a1 : Int) (r : Int) (w : World) (hr0_2 : Kd.C (Kd.int .i64) w A0_2 l0_2.length l0_2) (hc0_2 : l0_2.length ≤ c0_2) (hr0_3 : Kd.C (Kd.int .i64) w A0_3 l0_3.length l0_3) (hc0_3 : l0_3.length ≤ c0_3) (h : laws_szFigure.f a0_0 a0_1 l0_2 l0_3 a1 = some r) :
  Calls Tryz.prog 34 #[.agg #[.int .i64 a0_0, .int .i64 a0_1, .slice A0_2 l0_2.length c0_2, .slice A0_3 l0_3.length c0_3], .int .i64 a1] w fun e w' => e = .returned (.int .i64 r) ∧ Below w.heap.size w w' := by
 have hu24 := Tryz.underlying24
 have HR0_2 := Aside0.mk hr0_2
 have HC0_2 := Aside0.mk hc0_2
 clear hr0_2 hc0_2
 have HR0_3 := Aside0.mk hr0_3
 have HC0_3 := Aside0.mk hc0_3
 clear hr0_3 hc0_3
 have HB := Aside0.mk (Below.refl w.heap.size w)
 have H : ((laws_szIntS.f l0_2 a1).bind fun t278 => (if t278 < 0 then (some (-1)) else ((laws_szIntS.f l0_3 t278).bind fun t279 => (if t279 < 0 then (some (-1)) else (some t279))))) = some r := h
 clear h
 replace H := Option.bind_eq_some_iff.mp H
 obtain ⟨t278, A30, H⟩ := H
 replace H : (if t278 < 0 then (some (-1)) else ((laws_szIntS.f l0_3 t278).bind fun t279 => (if t279 < 0 then (some (-1)) else (some t279)))) = some r := H
 have A3 := Aside0.mk A30
 clear A30
 by_cases c4 : t278 < 0
 ·rw [if_pos c4] at H
  have c4b0 : decide (t278 < 0) = true := decide_eq_true c4
  clear c4
  obtain rfl := Option.some.inj H
  go_enter Tryz.func34, Tryz.ntmps34
  go_wp2_with (first | ((with_reducible refine gate_dst (N := 2) rfl ?_); refine box_event ?hg (N := 2) ?hd (cs := #[.int .i64 a0_0, .int .i64 a0_1, .slice A0_2 l0_2.length c0_2, .slice A0_3 l0_3.length c0_3]) (t := 24) ?hr ?_; (case hd => rfl); (case hg => rfl); (case hr => first | (go_simp; done) | (go_simp; rfl)); intro gb277 hg w5 hbox hb; have BK277 := Aside0.mk (hbox); have GW277 := Aside0.mk ((by rw [hg]; exact (below_size zB) : w.heap.size ≤ gb277)); have GE277 := Aside0.mk ((by rw [hg]; exact (below_size zB) : w.heap.size ≤ gb277)); replace HB := zBb hb; clear hb hbox hg; obtain ⟨hcz6_0, hcz6_1, hcz6_2, hcz6_3, hfz6_0, hfz6_1, hfz6_2, hfz6_3⟩ := blk4 BK277) | ((with_reducible refine gate_callee (f := 57) rfl ?_); refine goesL_ (some 8) rfl rfl Tryz.func57 (by kernel_rfl) rfl #[.slice A0_2 l0_2.length c0_2, .int .i64 a1] rfl zM ?_; (with_reducible refine (laws_szIntS.calls _ _ l0_2 a1 t278 _ ?side1 ?side2 A3.out).mono ?_); (case side1 => exact zC HR0_2); (case side2 => exact HC0_2.out); rintro e w' ⟨rfl, ⟨nd, rfl⟩⟩; refine ⟨_, rfl, ?_⟩))
  go_ret
  exact ⟨by first | rfl | (simp [errW_none, errW_some] <;> rfl) | (simp [*, errW_none, errW_some] <;> rfl), by repeat (first | (with_reducible first | exact HB.out | apply below_alloc | apply pw_below_drewN | apply below_drew1 | refine below_set ?_ GE277.out) | exact HB.out)⟩
 ·rw [if_neg c4] at H
  have c4b0 : decide (t278 < 0) = false := decide_eq_false c4
  clear c4
  replace H := Option.bind_eq_some_iff.mp H
  obtain ⟨t279, A70, H⟩ := H
  replace H : (if t279 < 0 then (some (-1)) else (some t279)) = some r := H
  have A7 := Aside0.mk A70
  clear A70
  by_cases c8 : t279 < 0
  ·rw [if_pos c8] at H
   have c8b0 : decide (t279 < 0) = true := decide_eq_true c8
   clear c8
   obtain rfl := Option.some.inj H
   go_enter Tryz.func34, Tryz.ntmps34
   go_wp2_with (first | ((with_reducible refine gate_dst (N := 2) rfl ?_); refine box_event ?hg (N := 2) ?hd (cs := #[.int .i64 a0_0, .int .i64 a0_1, .slice A0_2 l0_2.length c0_2, .slice A0_3 l0_3.length c0_3]) (t := 24) ?hr ?_; (case hd => rfl); (case hg => rfl); (case hr => first | (go_simp; done) | (go_simp; rfl)); intro gb277 hg w9 hbox hb; have BK277 := Aside0.mk (hbox); have GW277 := Aside0.mk ((by rw [hg]; exact (below_size zB) : w.heap.size ≤ gb277)); have GE277 := Aside0.mk ((by rw [hg]; exact (below_size zB) : w.heap.size ≤ gb277)); replace HB := zBb hb; clear hb hbox hg; obtain ⟨hcz10_0, hcz10_1, hcz10_2, hcz10_3, hfz10_0, hfz10_1, hfz10_2, hfz10_3⟩ := blk4 BK277) | ((with_reducible refine gate_callee (f := 57) rfl ?_); refine goesL_ (some 8) rfl rfl Tryz.func57 (by kernel_rfl) rfl #[.slice A0_2 l0_2.length c0_2, .int .i64 a1] rfl zM ?_; (with_reducible refine (laws_szIntS.calls _ _ l0_2 a1 t278 _ ?side1 ?side2 A3.out).mono ?_); (case side1 => exact zC HR0_2); (case side2 => exact HC0_2.out); rintro e w' ⟨rfl, ⟨nd, rfl⟩⟩; refine ⟨_, rfl, ?_⟩) | ((with_reducible refine gate_callee (f := 57) rfl ?_); refine goesL_ (some 14) rfl rfl Tryz.func57 (by kernel_rfl) rfl #[.slice A0_3 l0_3.length c0_3, .int .i64 t278] rfl zM ?_; (with_reducible refine (laws_szIntS.calls _ _ l0_3 t278 t279 _ ?side1 ?side2 A7.out).mono ?_); (case side1 => exact zC HR0_3); (case side2 => exact HC0_3.out); rintro e w' ⟨rfl, ⟨nd, rfl⟩⟩; refine ⟨_, rfl, ?_⟩))
   go_ret
   exact ⟨by first | rfl | (simp [errW_none, errW_some] <;> rfl) | (simp [*, errW_none, errW_some] <;> rfl), by repeat (first | (with_reducible first | exact HB.out | apply below_alloc | apply pw_below_drewN | apply below_drew1 | refine below_set ?_ GE277.out) | exact HB.out)⟩
  ·rw [if_neg c8] at H
   have c8b0 : decide (t279 < 0) = false := decide_eq_false c8
   clear c8
   obtain rfl := Option.some.inj H
   go_enter Tryz.func34, Tryz.ntmps34
   go_wp2_with (first | ((with_reducible refine gate_dst (N := 2) rfl ?_); refine box_event ?hg (N := 2) ?hd (cs := #[.int .i64 a0_0, .int .i64 a0_1, .slice A0_2 l0_2.length c0_2, .slice A0_3 l0_3.length c0_3]) (t := 24) ?hr ?_; (case hd => rfl); (case hg => rfl); (case hr => first | (go_simp; done) | (go_simp; rfl)); intro gb277 hg w11 hbox hb; have BK277 := Aside0.mk (hbox); have GW277 := Aside0.mk ((by rw [hg]; exact (below_size zB) : w.heap.size ≤ gb277)); have GE277 := Aside0.mk ((by rw [hg]; exact (below_size zB) : w.heap.size ≤ gb277)); replace HB := zBb hb; clear hb hbox hg; obtain ⟨hcz12_0, hcz12_1, hcz12_2, hcz12_3, hfz12_0, hfz12_1, hfz12_2, hfz12_3⟩ := blk4 BK277) | ((with_reducible refine gate_callee (f := 57) rfl ?_); refine goesL_ (some 8) rfl rfl Tryz.func57 (by kernel_rfl) rfl #[.slice A0_2 l0_2.length c0_2, .int .i64 a1] rfl zM ?_; (with_reducible refine (laws_szIntS.calls _ _ l0_2 a1 t278 _ ?side1 ?side2 A3.out).mono ?_); (case side1 => exact zC HR0_2); (case side2 => exact HC0_2.out); rintro e w' ⟨rfl, ⟨nd, rfl⟩⟩; refine ⟨_, rfl, ?_⟩) | ((with_reducible refine gate_callee (f := 57) rfl ?_); refine goesL_ (some 14) rfl rfl Tryz.func57 (by kernel_rfl) rfl #[.slice A0_3 l0_3.length c0_3, .int .i64 t278] rfl zM ?_; (with_reducible refine (laws_szIntS.calls _ _ l0_3 t278 t279 _ ?side1 ?side2 A7.out).mono ?_); (case side1 => exact zC HR0_3); (case side2 => exact HC0_3.out); rintro e w' ⟨rfl, ⟨nd, rfl⟩⟩; refine ⟨_, rfl, ?_⟩))
   go_ret
   exact ⟨by first | rfl | (simp [errW_none, errW_some] <;> rfl) | (simp [*, errW_none, errW_some] <;> rfl), by repeat (first | (with_reducible first | exact HB.out | apply below_alloc | apply pw_below_drewN | apply below_drew1 | refine below_set ?_ GE277.out) | exact HB.out)⟩

/-! ### laws_szPuzzle: function 10 -/
set_option maxHeartbeats 8000000 in
set_option maxRecDepth 100000 in
theorem laws_szPuzzle.calls (a0_0 : Int) (a0_1 : Int) (A0_2 : Option Addr) (c0_2 : Nat) (l0_2 : List Int) (A0_3 : Option Addr) (c0_3 : Nat) (l0_3 : List Int) (a0_4 : Int) (a0_5 : Bool) (a0_6 : Int) (a1 : Int) (r : Int) (w : World) (hr0_2 : Kd.C (Kd.int .i64) w A0_2 l0_2.length l0_2) (hc0_2 : l0_2.length ≤ c0_2) (hr0_3 : Kd.C (Kd.int .i64) w A0_3 l0_3.length l0_3) (hc0_3 : l0_3.length ≤ c0_3) (h : laws_szPuzzle.f a0_0 a0_1 l0_2 l0_3 a0_4 a0_5 a0_6 a1 = some r) :
  Calls Tryz.prog 10 #[.agg #[.int .i64 a0_0, .int .i64 a0_1, .slice A0_2 l0_2.length c0_2, .slice A0_3 l0_3.length c0_3, .int .i64 a0_4, .bool a0_5, .int .i64 a0_6], .int .i64 a1] w fun e w' => e = .returned (.int .i64 r) ∧ Below w.heap.size w w' := by
 have hu26 := Tryz.underlying26
 have hu24 := Tryz.underlying24
 have HR0_2 := Aside0.mk hr0_2
 have HC0_2 := Aside0.mk hc0_2
 clear hr0_2 hc0_2
 have HR0_3 := Aside0.mk hr0_3
 have HC0_3 := Aside0.mk hc0_3
 clear hr0_3 hc0_3
 have HB := Aside0.mk (Below.refl w.heap.size w)
 have H : ((laws_szFigure.f a0_0 a0_1 l0_2 l0_3 a1).bind fun t281 => (if t281 < 0 then (some (-1)) else (some t281))) = some r := h
 clear h
 replace H := Option.bind_eq_some_iff.mp H
 obtain ⟨t281, A30, H⟩ := H
 replace H : (if t281 < 0 then (some (-1)) else (some t281)) = some r := H
 have A3 := Aside0.mk A30
 clear A30
 by_cases c4 : t281 < 0
 ·rw [if_pos c4] at H
  have c4b0 : decide (t281 < 0) = true := decide_eq_true c4
  clear c4
  obtain rfl := Option.some.inj H
  go_enter Tryz.func10, Tryz.ntmps10
  go_wp2_with (first | ((with_reducible refine gate_dst (N := 2) rfl ?_); refine box_event ?hg (N := 2) ?hd (cs := #[.int .i64 a0_0, .int .i64 a0_1, .slice A0_2 l0_2.length c0_2, .slice A0_3 l0_3.length c0_3, .int .i64 a0_4, .bool a0_5, .int .i64 a0_6]) (t := 26) ?hr ?_; (case hd => rfl); (case hg => rfl); (case hr => first | (go_simp; done) | (go_simp; rfl)); intro gb280 hg w5 hbox hb; have BK280 := Aside0.mk (hbox); have GW280 := Aside0.mk ((by rw [hg]; exact (below_size zB) : w.heap.size ≤ gb280)); have GE280 := Aside0.mk ((by rw [hg]; exact (below_size zB) : w.heap.size ≤ gb280)); replace HB := zBb hb; clear hb hbox hg; have hcz6_0 : w5.cell? ⟨gb280, 0, none⟩ = some (.int .i64 a0_0) := (blk_cell BK280.out 0).trans rfl; have hcz6_1 : w5.cell? ⟨gb280, 1, none⟩ = some (.int .i64 a0_1) := (blk_cell BK280.out 1).trans rfl; have hcz6_2 : w5.cell? ⟨gb280, 2, none⟩ = some (.slice A0_2 l0_2.length c0_2) := (blk_cell BK280.out 2).trans rfl; have hcz6_3 : w5.cell? ⟨gb280, 3, none⟩ = some (.slice A0_3 l0_3.length c0_3) := (blk_cell BK280.out 3).trans rfl; have hcz6_4 : w5.cell? ⟨gb280, 4, none⟩ = some (.int .i64 a0_4) := (blk_cell BK280.out 4).trans rfl; have hcz6_5 : w5.cell? ⟨gb280, 5, none⟩ = some (.bool a0_5) := (blk_cell BK280.out 5).trans rfl; have hcz6_6 : w5.cell? ⟨gb280, 6, none⟩ = some (.int .i64 a0_6) := (blk_cell BK280.out 6).trans rfl; have hfz6_0 := blk_frozen BK280.out 0; have hfz6_1 := blk_frozen BK280.out 1; have hfz6_2 := blk_frozen BK280.out 2; have hfz6_3 := blk_frozen BK280.out 3; have hfz6_4 := blk_frozen BK280.out 4; have hfz6_5 := blk_frozen BK280.out 5; have hfz6_6 := blk_frozen BK280.out 6) | ((with_reducible refine gate_callee (f := 34) rfl ?_); refine goesL_ (some 8) rfl rfl Tryz.func34 (by kernel_rfl) rfl #[.agg #[.int .i64 a0_0, .int .i64 a0_1, .slice A0_2 l0_2.length c0_2, .slice A0_3 l0_3.length c0_3], .int .i64 a1] rfl zM ?_; (with_reducible refine (laws_szFigure.calls a0_0 a0_1 _ _ l0_2 _ _ l0_3 a1 t281 _ ?side1 ?side2 ?side3 ?side4 A3.out).mono ?_); (case side1 => exact zC HR0_2); (case side2 => exact HC0_2.out); (case side3 => exact zC HR0_3); (case side4 => exact HC0_3.out); rintro e w7 ⟨rfl, hb⟩; refine ⟨_, rfl, ?_⟩; replace BK280 := zKb BK280 hb; replace HB := zBb hb; (try clear hb); (try clear hb2); (try clear hk); (try clear hi)))
  go_ret
  exact ⟨by first | rfl | (simp [errW_none, errW_some] <;> rfl) | (simp [*, errW_none, errW_some] <;> rfl), by repeat (first | (with_reducible first | exact HB.out | apply below_alloc | apply pw_below_drewN | apply below_drew1 | refine below_set ?_ GE280.out) | exact HB.out)⟩
 ·rw [if_neg c4] at H
  have c4b0 : decide (t281 < 0) = false := decide_eq_false c4
  clear c4
  obtain rfl := Option.some.inj H
  go_enter Tryz.func10, Tryz.ntmps10
  go_wp2_with (first | ((with_reducible refine gate_dst (N := 2) rfl ?_); refine box_event ?hg (N := 2) ?hd (cs := #[.int .i64 a0_0, .int .i64 a0_1, .slice A0_2 l0_2.length c0_2, .slice A0_3 l0_3.length c0_3, .int .i64 a0_4, .bool a0_5, .int .i64 a0_6]) (t := 26) ?hr ?_; (case hd => rfl); (case hg => rfl); (case hr => first | (go_simp; done) | (go_simp; rfl)); intro gb280 hg w8 hbox hb; have BK280 := Aside0.mk (hbox); have GW280 := Aside0.mk ((by rw [hg]; exact (below_size zB) : w.heap.size ≤ gb280)); have GE280 := Aside0.mk ((by rw [hg]; exact (below_size zB) : w.heap.size ≤ gb280)); replace HB := zBb hb; clear hb hbox hg; have hcz9_0 : w8.cell? ⟨gb280, 0, none⟩ = some (.int .i64 a0_0) := (blk_cell BK280.out 0).trans rfl; have hcz9_1 : w8.cell? ⟨gb280, 1, none⟩ = some (.int .i64 a0_1) := (blk_cell BK280.out 1).trans rfl; have hcz9_2 : w8.cell? ⟨gb280, 2, none⟩ = some (.slice A0_2 l0_2.length c0_2) := (blk_cell BK280.out 2).trans rfl; have hcz9_3 : w8.cell? ⟨gb280, 3, none⟩ = some (.slice A0_3 l0_3.length c0_3) := (blk_cell BK280.out 3).trans rfl; have hcz9_4 : w8.cell? ⟨gb280, 4, none⟩ = some (.int .i64 a0_4) := (blk_cell BK280.out 4).trans rfl; have hcz9_5 : w8.cell? ⟨gb280, 5, none⟩ = some (.bool a0_5) := (blk_cell BK280.out 5).trans rfl; have hcz9_6 : w8.cell? ⟨gb280, 6, none⟩ = some (.int .i64 a0_6) := (blk_cell BK280.out 6).trans rfl; have hfz9_0 := blk_frozen BK280.out 0; have hfz9_1 := blk_frozen BK280.out 1; have hfz9_2 := blk_frozen BK280.out 2; have hfz9_3 := blk_frozen BK280.out 3; have hfz9_4 := blk_frozen BK280.out 4; have hfz9_5 := blk_frozen BK280.out 5; have hfz9_6 := blk_frozen BK280.out 6) | ((with_reducible refine gate_callee (f := 34) rfl ?_); refine goesL_ (some 8) rfl rfl Tryz.func34 (by kernel_rfl) rfl #[.agg #[.int .i64 a0_0, .int .i64 a0_1, .slice A0_2 l0_2.length c0_2, .slice A0_3 l0_3.length c0_3], .int .i64 a1] rfl zM ?_; (with_reducible refine (laws_szFigure.calls a0_0 a0_1 _ _ l0_2 _ _ l0_3 a1 t281 _ ?side1 ?side2 ?side3 ?side4 A3.out).mono ?_); (case side1 => exact zC HR0_2); (case side2 => exact HC0_2.out); (case side3 => exact zC HR0_3); (case side4 => exact HC0_3.out); rintro e w10 ⟨rfl, hb⟩; refine ⟨_, rfl, ?_⟩; replace BK280 := zKb BK280 hb; replace HB := zBb hb; (try clear hb); (try clear hb2); (try clear hk); (try clear hi)))
  go_ret
  exact ⟨by first | rfl | (simp [errW_none, errW_some] <;> rfl) | (simp [*, errW_none, errW_some] <;> rfl), by repeat (first | (with_reducible first | exact HB.out | apply below_alloc | apply pw_below_drewN | apply below_drew1 | refine below_set ?_ GE280.out) | exact HB.out)⟩

/-! ### laws_toIntS: function 60 -/
def numCells (l : List Int) : Array Value := (l.map (Value.int .i64)).toArray
theorem numCells_set (l : List Int) (k : Nat) (x : Int) : (numCells l).setIfInBounds k (.int .i64 x) = numCells (l.set k x) := by
 simp [numCells, List.map_set]
theorem numCells_get (l : List Int) (k : Nat) (h : k < l.length) : (numCells l)[k]? = some (.int .i64 (l.getD k 0)) := by
 simp [numCells, h]
theorem numCells_made (n : Nat) : madeCells #[.int .i64 0] n = numCells (List.replicate n 0) := by
 apply Array.ext
 ·simp [madeCells, numCells]
 ·intro i h1 h2
  simp [madeCells, numCells, Nat.mod_one]
def spare (l : List Int) : List Int := l ++ List.replicate (room l.length) (-7000000000000000101)
/-- a slice that toIntS makes: its block, whole -/
structure Spare (base : Nat) (w' : World) (b : Nat) (l : List Int) : Prop where
 ge : base ≤ b
 blk : w'.heap[b]? = some (.cells (numCells (spare l)) 3 (0, 0))
theorem Spare.lt {base : Nat} {w' : World} {b : Nat} {l : List Int} (h : Spare base w' b l) : b < w'.heap.size := blk_lt h.blk
theorem Spare.later {base : Nat} {w' w2 : World} {b : Nat} {l : List Int} (h : Spare base w' b l) (hb : Below w'.heap.size w' w2) : Spare base w2 b l := ⟨h.ge, (hb.block b h.lt).trans h.blk⟩
theorem Spare.set {base : Nat} {w' : World} {b : Nat} {l : List Int} (h : Spare base w' b l) {p : Addr} (hp : b ≠ p.block) (u : Value) : Spare base (w'.setCell p u) b l := ⟨h.ge, blk_far h.blk hp u⟩
theorem Spare.low {base base' : Nat} {w' : World} {b : Nat} {l : List Int} (h : Spare base w' b l) (hb : base' ≤ base) : Spare base' w' b l := ⟨Nat.le_trans hb h.ge, h.blk⟩
theorem set_fill (l : List Int) (k N : Nat) (h : k < l.length) (hN : l.length ≤ N) : (l.take k ++ List.replicate (N - k) 0).set k (rd l k) = l.take (k + 1) ++ List.replicate (N - (k + 1)) 0 := by
 have e : rd l (k : Int) = l[k] := by simp [rd, h]
 rw [e, List.set_append_right _ _ (by simp; omega), List.take_succ_eq_append_getElem h, List.append_assoc]
 congr 1
 rw [show N - k = (N - (k + 1)) + 1 by omega, List.replicate_succ]
 simp [Nat.min_eq_left (Nat.le_of_lt h)]
theorem set_spare (l : List Int) (k N : Nat) (h0 : l.length ≤ k) (h : k < N) (x : Int) : (l ++ List.replicate (k - l.length) x ++ List.replicate (N - k) 0).set k x = l ++ List.replicate (k + 1 - l.length) x ++ List.replicate (N - (k + 1)) 0 := by
 rw [List.set_append_right _ _ (by simp; omega), show k + 1 - l.length = (k - l.length) + 1 by omega, List.replicate_succ', ← List.append_assoc, List.append_assoc (l ++ _)]
 congr 1
 rw [show N - k = (N - (k + 1)) + 1 by omega, List.replicate_succ]
 have : k - (l ++ List.replicate (k - l.length) x).length = 0 := by simp; omega
 rw [this]; simp

theorem heap_at3 (w : World) (o0 o1 o2 : Obj) : (((w.alloc o0).alloc o1).alloc o2).heap[w.heap.size]? = some o0 ∧ (((w.alloc o0).alloc o1).alloc o2).heap[w.heap.size + 1]? = some o1 ∧ (((w.alloc o0).alloc o1).alloc o2).heap[w.heap.size + 1 + 1]? = some o2 := by
 refine ⟨?_, ?_, ?_⟩
 ·show (((w.heap.push o0).push o1).push o2)[w.heap.size]? = _
  rw [Array.getElem?_push, if_neg (by simp; omega), Array.getElem?_push, if_neg (by simp), Array.getElem?_push, if_pos rfl]
 ·show (((w.heap.push o0).push o1).push o2)[w.heap.size + 1]? = _
  rw [Array.getElem?_push, if_neg (by simp), Array.getElem?_push, if_pos (by simp)]
 ·show (((w.heap.push o0).push o1).push o2)[w.heap.size + 1 + 1]? = _
  rw [Array.getElem?_push, if_pos (by simp)]
theorem heap_new (w : World) (o : Obj) : (w.alloc o).heap[w.heap.size]? = some o := by
 show (w.heap.push o)[w.heap.size]? = some o
 simp

set_option maxHeartbeats 2000000 in
theorem room_calls (n : Nat) (h : n ≤ 1000000) (w : World) :
  Calls Tryz.prog 85 #[.int .i64 n] w fun e w' => e = .returned (.int .i64 (room n)) ∧ Drawn0 w w' := by
 unfold room
 by_cases h1 : n % 6 = 5
 ·rw [if_pos h1]
  have e : ((n : Int) % 6 == 5) = true := beq_iff_eq.2 (by omega)
  go_enter Tryz.func85, Tryz.ntmps85
  go_wp2
  go_ret
  exact ⟨rfl, ⟨0, rfl⟩⟩
 ·rw [if_neg h1]
  have e : ((n : Int) % 6 == 5) = false := beq_eq_false_iff_ne.2 (by omega)
  by_cases h2 : n % 3 = 0
  ·rw [if_pos h2]
   have e2 : ((n : Int) % 3 == 0) = true := beq_iff_eq.2 (by omega)
   go_enter Tryz.func85, Tryz.ntmps85
   go_wp2
   go_ret
   exact ⟨rfl, ⟨0, rfl⟩⟩
  ·rw [if_neg h2]
   have e2 : ((n : Int) % 3 == 0) = false := beq_eq_false_iff_ne.2 (by omega)
   go_enter Tryz.func85, Tryz.ntmps85
   go_wp2
   go_ret
   exact ⟨rfl, ⟨0, rfl⟩⟩

set_option maxHeartbeats 4000000 in
set_option maxRecDepth 100000 in
theorem to_full (A0 : Option Addr) (c0 : Nat) (l : List Int) (a1 : Bool) (w : World) (hr : Kd.C (Kd.int .i64) w A0 l.length l) (hlen : l.length ≤ 1000000) (ha : (a1 && ((l.length : Int) == 0)) = false) :
  Calls Tryz.prog 60 #[.slice A0 l.length c0, .bool a1] w fun e w' => ∃ b, e = .returned (.slice (some ⟨b, 0, none⟩) l.length (l.length + room l.length)) ∧ Spare w.heap.size w' b l ∧ Below w.heap.size w w' := by
 have hroom : room l.length ≤ l.length + 1 := by unfold room; split <;> (try split) <;> omega
 have RC := fun W => room_calls l.length hlen W
 obtain ⟨m, hm⟩ : ∃ m, room l.length = m := ⟨_, rfl⟩
 rw [hm] at RC hroom
 have hmk : ∀ W : World, (Instr.makeSlice 22 (.int .i64 ((l.length : Int) + (m : Int))) (.int .i64 ((l.length : Int) + (m : Int)))).run Tryz.prog W = .ok (.slice (some ⟨W.heap.size, 0, none⟩) (l.length + m) (l.length + m)) (W.alloc (.cells (numCells (List.replicate (l.length + m) 0)) 3)) := by
  intro W
  obtain ⟨i0, hi, hz⟩ := Option.map_eq_some_iff.1 info3
  simp only [Prod.mk.injEq] at hz
  have := run_make (P := Tryz.prog) W 22 3 i0 (.int .i64 0) Tryz.underlying22 hi hz.1 .i64 .i64 ((l.length : Int) + m) ((l.length : Int) + m) (by omega) (by omega) (by rw [hz.2.2]; omega) (by omega)
  rw [this, hz.2.1, show ((l.length : Int) + m).toNat = l.length + m by omega, Nat.mul_one, ← numCells_made]
  rfl
 have HM := Aside0.mk hm
 have HR := Aside0.mk hr
 clear hm hr
 have hparts : a1 = false ∨ (a1 = true ∧ ((l.length : Int) == 0) = false) := by
  cases a1
  ·exact .inl rfl
  ·exact .inr ⟨rfl, by simpa using ha⟩
 clear ha
 rcases hparts with rfl | ⟨rfl, hne⟩
 all_goals
  go_enter Tryz.func60, Tryz.ntmps60
  go_wp2_with (go_at_call 85; refine (RC _).mono ?_; rintro e w' ⟨rfl, ⟨nd, rfl⟩⟩)
  go_loopw [6] (fun i wr => ∃ k : Nat, k ≤ l.length ∧ i = .int .i64 k ∧ Aside0 (wr.heap[w.heap.size]? = some (.cells (numCells (l.take k ++ List.replicate (l.length + m - k) 0)) 3 (0, 0))) ∧ Aside0 (Below w.heap.size w wr)) (fun i _ => l.length - (intOf i).toNat)
  case atStart => exact ⟨0, Nat.zero_le _, rfl, ⟨by rw [List.take_zero, List.nil_append, Nat.sub_zero]; exact heap_new (w.drewN nd) _⟩, ⟨below_alloc (pw_below_drewN (Below.refl _ _) _) _⟩⟩
  case round =>
   obtain ⟨k, hk, rfl, HK, HB⟩ := hrel
   by_cases hlt : k < l.length
   ·have hltz : (k : Int) < (l.length : Int) := by omega
    obtain ⟨ad, rfl, hcell0⟩ := Kd.at_int (Kd.C_below HR.out HB.out) k (by omega) hltz
    rw [Int.toNat_natCast] at hcell0
    have hcell : wr.cell? (ad.add k) = some (.int .i64 (rd l k)) := hcell0
    clear hcell0
    have hc2 := blk_cell HK.out k
    rw [numCells_get _ _ (by simp; omega)] at hc2
    have hf2 := blk_frozen HK.out k
    have hput := Aside0.mk (blk_put HK.out k (.int .i64 (rd l k)) (by rw [numCells_set, set_fill l k _ hlt (by omega)]))
    generalize hy : rd l k = y at hcell
    have HY := Aside0.mk hy
    clear hy
    go_wp2
    go_roundw
    case rel => exact ⟨k + 1, by omega, by go_num, ⟨by rw [HY.out] at hput; exact hput.out⟩, ⟨below_set HB.out (Nat.le_refl _)⟩⟩
    case measure => simp [intOf]; omega
   ·have hk2 : k = l.length := by omega
    subst hk2
    have hltz : ¬ ((l.length : Int) < (l.length : Int)) := by omega
    have HK2 := Aside0.mk (by have := HK.out; rw [List.take_length, show l.length + m - l.length = m by omega] at this; exact this)
    clear HK
    go_wp2
    go_loopw [7] (fun i wr => ∃ k : Nat, l.length ≤ k ∧ k ≤ l.length + m ∧ i = .int .i64 k ∧ Aside0 (wr.heap[w.heap.size]? = some (.cells (numCells (l ++ List.replicate (k - l.length) (-7000000000000000101) ++ List.replicate (l.length + m - k) 0)) 3 (0, 0))) ∧ Aside0 (Below w.heap.size w wr)) (fun i _ => l.length + m - (intOf i).toNat)
    case atStart => exact ⟨l.length, Nat.le_refl _, by omega, rfl, ⟨by rw [Nat.sub_self, List.replicate_zero, List.append_nil, show l.length + m - l.length = m by omega]; exact HK2.out⟩, ⟨HB.out⟩⟩
    case round =>
     clear HK2 HB hltz
     obtain ⟨k, hk0, hk, rfl, HK, HB⟩ := hrel
     by_cases hlt : k < l.length + m
     ·have hltz : (k : Int) < (l.length + m : Nat) := by omega
      have hc2 := blk_cell HK.out k
      rw [numCells_get _ _ (by simp; omega)] at hc2
      have hf2 := blk_frozen HK.out k
      have hput := Aside0.mk (blk_put HK.out k (.int .i64 (-7000000000000000101)) (by rw [numCells_set, set_spare l k _ hk0 hlt]))
      go_wp2
      go_roundw
      case rel => exact ⟨k + 1, by omega, by omega, by go_num, ⟨hput.out⟩, ⟨below_set HB.out (Nat.le_refl _)⟩⟩
      case measure => simp [intOf]; omega
     ·have hk2 : k = l.length + m := by omega
      subst hk2
      have hltz : ¬ (((l.length + m : Nat) : Int) < ((l.length + m : Nat) : Int)) := by omega
      have hcut := Aside0.mk (cut_to (P := Tryz.prog) 22 3 .i64 Tryz.underlying22 (Option.map_eq_some_iff.1 info3).choose_spec.1 (some ⟨w.heap.size, 0, none⟩) (l.length + m) (l.length + m) (l.length : Int) (by omega) (by omega) (Nat.le_refl _))
      have hcut2 := hcut.out
      rw [Int.toNat_natCast] at hcut2
      go_wp2
      go_ret
      refine ⟨w.heap.size, by rw [HM.out]; rfl, ⟨Nat.le_refl _, ?_⟩, HB.out⟩
      have := HK.out
      rw [show l.length + m - l.length = m by omega, Nat.sub_self, List.replicate_zero, List.append_nil] at this
      unfold spare
      rw [HM.out]
      exact this

theorem Spare.reads {base : Nat} {w' : World} {b : Nat} {l : List Int} (h : Spare base w' b l) (hlen : l.length ≤ 1000000) : Kd.C (Kd.int .i64) w' (some ⟨b, 0, none⟩) l.length l := by
 refine Kd.C_of_reads (d := (0 : Int)) (h1 := fun _ => rfl) ?_
 refine ⟨rfl, by omega, fun hp => ⟨_, rfl, fun j hj => ?_⟩⟩
 rw [Go.Proofs.YtopifdmaaibcnaaGreatDoorW.PrintWords.add_plain, blk_cell h.blk j, numCells_get _ _ (by unfold spare; simp; omega)]
 unfold spare
 rw [List.getD_eq_getElem?_getD, List.getElem?_append_left hj, ← List.getD_eq_getElem?_getD]

/-- a slice that reads as a list -/
def Came (w' : World) (v : Value) (l : List Int) : Prop := ∃ A c, v = .slice A l.length c ∧ l.length ≤ c ∧ Kd.C (Kd.int .i64) w' A l.length l
theorem Came.later {w' w2 : World} {v : Value} {l : List Int} (h : Came w' v l) (hb : Below w'.heap.size w' w2) : Came w2 v l := by
 obtain ⟨A, c, h1, h2, h3⟩ := h
 exact ⟨A, c, h1, h2, Kd.C_below h3 hb⟩
theorem Came.of {w' : World} {A : Option Addr} {c : Nat} {l : List Int} (h2 : l.length ≤ c) (h3 : Kd.C (Kd.int .i64) w' A l.length l) : Came w' (.slice A l.length c) l := ⟨A, c, rfl, h2, h3⟩

set_option maxHeartbeats 4000000 in
theorem to_nil (A0 : Option Addr) (c0 : Nat) (w : World) :
  Calls Tryz.prog 60 #[.slice A0 0 c0, .bool true] w fun e w' => e = .returned (.slice none 0 0) ∧ w' = w := by
 go_enter Tryz.func60, Tryz.ntmps60
 go_wp2
 go_ret
 exact ⟨rfl, rfl⟩

/-- a figure that toFigure makes: two blocks, whole -/
structure SpareFig (base : Nat) (w' : World) (v2 v3 : Value) (l2 l3 : List Int) : Prop where
 out : ∃ b2 b3, v2 = .slice (some ⟨b2, 0, none⟩) l2.length (l2.length + room l2.length) ∧ v3 = .slice (some ⟨b3, 0, none⟩) l3.length (l3.length + room l3.length) ∧ b2 ≠ b3 ∧ Spare base w' b2 l2 ∧ Spare base w' b3 l3

set_option maxHeartbeats 4000000 in
set_option maxRecDepth 100000 in
theorem tofig_full (a0 a1 : Int) (A2 : Option Addr) (c2 : Nat) (l2 : List Int) (A3 : Option Addr) (c3 : Nat) (l3 : List Int) (w : World)
  (hr2 : Kd.C (Kd.int .i64) w A2 l2.length l2) (hr3 : Kd.C (Kd.int .i64) w A3 l3.length l3) (h2 : l2.length ≤ 1000000) (h3 : l3.length ≤ 1000000) :
  Calls Tryz.prog 36 #[.agg #[.int .i64 a0, .int .i64 a1, .slice A2 l2.length c2, .slice A3 l3.length c3], .bool false] w fun e w' => ∃ v2 v3, e = .returned (.agg #[.int .i64 a0, .int .i64 a1, v2, v3]) ∧ SpareFig w.heap.size w' v2 v3 l2 l3 ∧ Below w.heap.size w w' := by
 have C2 := fun W hr => to_full A2 c2 l2 false W hr h2 rfl
 have C3 := fun W hr => to_full A3 c3 l3 false W hr h3 rfl
 have HR2 := Aside0.mk hr2
 have HR3 := Aside0.mk hr3
 have hu := Tryz.underlying24
 have hu2 := Tryz.underlying30
 clear hr2 hr3
 go_enter Tryz.func36, Tryz.ntmps36
 go_wp2_with fail
 refine (C2 _ (Kd.C_alloc (Kd.C_alloc (Kd.C_alloc HR2.out _) _) _)).mono ?_
 rintro e w1 ⟨b2, rfl, hs2, hb2⟩
 have hz : w.heap.size + 3 ≤ b2 := by have := hs2.ge; simp at this; omega
 have B0 : w1.heap[w.heap.size]? = _ := (hb2.block _ (by simp; try omega)).trans (heap_at3 _ _ _ _).1
 have B2 : w1.heap[w.heap.size + 1 + 1]? = _ := (hb2.block _ (by simp; try omega)).trans (heap_at3 _ _ _ _).2.2
 have B1 : w1.heap[w.heap.size + 1]? = _ := (hb2.block _ (by simp; try omega)).trans (heap_at3 _ _ _ _).2.1
 have k0 : w1.cell? ⟨w.heap.size, 3, none⟩ = some (.slice A3 l3.length c3) := (blk_cell B0 3).trans rfl
 have k2 : w1.cell? ⟨w.heap.size + 1 + 1, 2, none⟩ = some (.slice none 0 0) := (blk_cell B2 2).trans rfl
 have f2 : w1.frozen? ⟨w.heap.size + 1 + 1, 2, none⟩ = false := blk_frozen B2 2
 have B2' := blk_put B2 2 (.slice (some ⟨b2, 0, none⟩) l2.length (l2.length + room l2.length)) rfl
 have B0' := blk_far B0 (p := ⟨w.heap.size + 1 + 1, 2, none⟩) (by simp; omega) (.slice (some ⟨b2, 0, none⟩) l2.length (l2.length + room l2.length))
 have B1' := blk_far B1 (p := ⟨w.heap.size + 1 + 1, 2, none⟩) (by simp) (.slice (some ⟨b2, 0, none⟩) l2.length (l2.length + room l2.length))
 have HB1 := Aside0.mk B1'
 have HB2 := Aside0.mk (hs2.set (p := ⟨w.heap.size + 1 + 1, 2, none⟩) (by simp; omega) (.slice (some ⟨b2, 0, none⟩) l2.length (l2.length + room l2.length)))
 have HBB := Aside0.mk hb2
 have HB0 := Aside0.mk B0'
 have HB2' := Aside0.mk B2'
 have HZ := Aside0.mk hz
 clear B0' B1' B2' B0 B1 B2 hs2 hb2
 go_wp2_with fail
 have hbw : Below w.heap.size w w1 := below_step (below_alloc (below_alloc (below_alloc (Below.refl _ _) _) _) _) HBB.out
 have hbw2 := Aside0.mk (below_set (j := 2) (v := (.slice (some ⟨b2, 0, none⟩) l2.length (l2.length + room l2.length))) hbw (show w.heap.size ≤ w.heap.size + 1 + 1 by omega))
 clear hbw HBB
 refine (C3 _ (Kd.C_below HR3.out hbw2.out)).mono ?_
 rintro e w2 ⟨b3, rfl, hs3, hb3⟩
 have B1 := (hb3.block _ (blk_lt HB1.out)).trans HB1.out
 have B2 := (hb3.block _ (blk_lt HB2'.out)).trans HB2'.out
 have S2 := Aside0.mk (HB2.out.later hb3)
 clear k0 k2 f2
 have k0 : w2.cell? ⟨w.heap.size + 1 + 1, 0, none⟩ = some (.int .i64 a0) := (blk_cell B2 0).trans rfl
 have k1 : w2.cell? ⟨w.heap.size + 1 + 1, 1, none⟩ = some (.int .i64 a1) := (blk_cell B2 1).trans rfl
 have k2 : w2.cell? ⟨w.heap.size + 1 + 1, 2, none⟩ = some (.slice (some ⟨b2, 0, none⟩) l2.length (l2.length + room l2.length)) := (blk_cell B2 2).trans rfl
 have k3 : w2.cell? ⟨w.heap.size + 1 + 1, 3, none⟩ = some (.slice none 0 0) := (blk_cell B2 3).trans rfl
 have f3 : w2.frozen? ⟨w.heap.size + 1 + 1, 3, none⟩ = false := blk_frozen B2 3
 have m0 : w2.cell? ⟨w.heap.size + 1, 0, none⟩ = some (.int .i64 0) := (blk_cell B1 0).trans rfl
 have m1 : w2.cell? ⟨w.heap.size + 1, 1, none⟩ = some (.int .i64 0) := (blk_cell B1 1).trans rfl
 have m2 : w2.cell? ⟨w.heap.size + 1, 2, none⟩ = some (.slice none 0 0) := (blk_cell B1 2).trans rfl
 have m3 : w2.cell? ⟨w.heap.size + 1, 3, none⟩ = some (.slice none 0 0) := (blk_cell B1 3).trans rfl
 have g0 : w2.frozen? ⟨w.heap.size + 1, 0, none⟩ = false := blk_frozen B1 0
 have g1 : w2.frozen? ⟨w.heap.size + 1, 1, none⟩ = false := blk_frozen B1 1
 have g2 : w2.frozen? ⟨w.heap.size + 1, 2, none⟩ = false := blk_frozen B1 2
 have g3 : w2.frozen? ⟨w.heap.size + 1, 3, none⟩ = false := blk_frozen B1 3
 have HS3 := Aside0.mk hs3
 have HB3 := Aside0.mk hb3
 have HX1 := Aside0.mk B1
 have HX2 := Aside0.mk B2
 clear B1 B2 hs3 hb3
 go_wp2_with fail
 refine bodyPost_ret (results_cell_row rfl _ _ (w.heap.size + 1) 30 #[.int .i64 a0, .int .i64 a1, .slice (some ⟨b2, 0, none⟩) l2.length (l2.length + room l2.length), .slice (some ⟨b3, 0, none⟩) l3.length (l3.length + room l3.length)] (0, 0) _ rfl ?_ Tryz.underlying30 rfl (by kernel_rfl)) rfl ?_
 ·refine blk_put (cs := #[.int .i64 a0, .int .i64 a1, .slice (some ⟨b2, 0, none⟩) l2.length (l2.length + room l2.length), .slice none 0 0]) ?_ 3 _ rfl
  refine blk_put (cs := #[.int .i64 a0, .int .i64 a1, .slice none 0 0, .slice none 0 0]) ?_ 2 _ rfl
  refine blk_put (cs := #[.int .i64 a0, .int .i64 0, .slice none 0 0, .slice none 0 0]) ?_ 1 _ rfl
  refine blk_put (cs := #[.int .i64 0, .int .i64 0, .slice none 0 0, .slice none 0 0]) ?_ 0 _ rfl
  exact blk_far HX1.out (by simp) _
 ·have hz3 : w.heap.size + 3 ≤ b3 := by have := HS3.out.ge; have := hbw2.out.size; have := blk_lt HB2'.out; simp only [World.setCell] at *; simp at *; omega
  have hz2 := HZ.out
  have hne : b2 ≠ b3 := by have := HB2.out.lt; have := HS3.out.ge; omega
  refine ⟨_, _, rfl, ⟨b2, b3, rfl, rfl, hne, ?_, ?_⟩, ?_⟩
  ·exact ⟨Nat.le_trans (by omega) hz2, ((((S2.out.set (p := ⟨w.heap.size + 1 + 1, 3, none⟩) (by simp; omega) _).set (p := ⟨w.heap.size + 1, 0, none⟩) (by simp; omega) _).set (p := ⟨w.heap.size + 1, 1, none⟩) (by simp; omega) _).set (p := ⟨w.heap.size + 1, 2, none⟩) (by simp; omega) _).set (p := ⟨w.heap.size + 1, 3, none⟩) (by simp; omega) _ |>.blk⟩
  ·exact ⟨Nat.le_trans (by omega) hz3, ((((HS3.out.set (p := ⟨w.heap.size + 1 + 1, 3, none⟩) (by simp; omega) _).set (p := ⟨w.heap.size + 1, 0, none⟩) (by simp; omega) _).set (p := ⟨w.heap.size + 1, 1, none⟩) (by simp; omega) _).set (p := ⟨w.heap.size + 1, 2, none⟩) (by simp; omega) _).set (p := ⟨w.heap.size + 1, 3, none⟩) (by simp; omega) _ |>.blk⟩
  ·exact below_set (below_set (below_set (below_set (below_set (below_step hbw2.out HB3.out) (by omega)) (by omega)) (by omega)) (by omega)) (by omega)

theorem Spare.owns {base : Nat} {w' : World} {b : Nat} {l : List Int} (h : Spare base w' b l) (hlen : l.length ≤ 1000000) : Kd.R (Kd.int .i64) 3 w' base (fun _ => True) (.slice (some ⟨b, 0, none⟩) l.length (l.length + room l.length)) l := by
 have hroom : room l.length ≤ l.length + 1 := by unfold room; split <;> (try split) <;> omega
 refine Kd.R_of_own ⟨by simp [encs], .inr ⟨b, l.length + room l.length, numCells (spare l), rfl, h.ge, h.blk, by omega, by unfold maxLen; omega, by simp [numCells, spare], ?_⟩⟩ (fun _ _ => trivial)
 rw [Nat.mul_one]
 simp [numCells, spare, encs]

theorem laws_toIntS.calls (A0 : Option Addr) (c0 : Nat) (l0 : List Int) (a1 : Bool) (r : List Int) (w : World) (hr0 : Kd.C (Kd.int .i64) w A0 l0.length l0) (hc0 : l0.length ≤ c0) (h : laws_toIntS.f l0 a1 = some r) :
  Calls Tryz.prog 60 #[.slice A0 l0.length c0, .bool a1] w fun e w' => ∃ v0_ : Value, e = .returned (v0_) ∧ Kd.R (Kd.int .i64) 3 w' w.heap.size (fun _ => True) v0_ r ∧ Below w.heap.size w w' := by
 unfold laws_toIntS.f at h
 by_cases hlen : l0.length ≤ 1000000
 ·rw [if_pos hlen] at h
  obtain rfl := Option.some.inj h
  by_cases ha : (a1 && ((l0.length : Int) == 0)) = false
  ·refine (to_full A0 c0 l0 a1 w hr0 hlen ha).mono ?_
   rintro e w' ⟨b, rfl, hs, hb⟩
   exact ⟨_, rfl, hs.owns hlen, hb⟩
  ·have h2 : a1 = true ∧ ((l0.length : Int) == 0) = true := by simpa using ha
   obtain ⟨rfl, h0⟩ := h2
   obtain rfl : l0 = [] := List.eq_nil_of_length_eq_zero (by have := beq_iff_eq.1 h0; omega)
   refine (to_nil A0 c0 w).mono ?_
   rintro e w' ⟨rfl, rfl⟩
   exact ⟨_, rfl, Kd.R_nil _ _ _ _ _, Below.refl _ _⟩
 ·rw [if_neg hlen] at h
  cases h

end Go.Proofs.YtopifdmaaibcnaaGreatDoor.Q
