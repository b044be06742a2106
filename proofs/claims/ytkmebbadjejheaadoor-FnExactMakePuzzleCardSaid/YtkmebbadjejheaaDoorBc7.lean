import Derived.Test.YtkmebbadjejheaaDoorBd
import Derived.Test.YtkmebbadjejheaaDoorBc1
import Derived.Test.YtkmebbadjejheaaDoorBc3
import Derived.Test.YtkmebbadjejheaaDoorBc5
import Derived.Test.YtkmebbadjejheaaDoorBc6
namespace Go.Proofs.YtkmebbadjejheaaDoor.B
open Go.RowKit Go.Proofs.YtkmebbadjejheaaDoorW.PrintWords Go.Proofs.YtkmebbadjejheaaDoorW.PrintLast Go.Proofs.YtkmebbadjejheaaDoorW.PrintMore
attribute [local go_sem] max2_int min2_int max_two min_two max_three min_three max_four min_four
set_option linter.unusedVariables false
set_option linter.unusedSimpArgs false

/-! ### laws_FnExactMakePuzzle: function 4 -/
set_option maxHeartbeats 8000000 in
set_option maxRecDepth 100000 in
theorem laws_FnExactMakePuzzle.calls (k : Nat) (a0 : Int) (a1 : Int) (a2 : Int) (w : World) (hT : TzTab w) (h : laws_FnExactMakePuzzle.f k a0 a1 a2 = some true) :
    Calls Tryd.prog 4 #[.int .i64 a0, .int .i64 a1, .int .i64 a2] w fun e w' => e = .returned (.bool true) ∧ Below w.heap.size w w' := by
  have hu32 := Tryd.underlying32
  have HT := Aside0.mk hT
  clear hT
  have HB := Aside0.mk (Below.refl w.heap.size w)
  have H : ((spec_MakePuzzle.f k a0 a1 a2).bind fun bt181 => ((impl_MakePuzzle.f k a0 a1 a2).bind fun bt194 => ((laws_eqPuzzle.f k bt194.1 bt194.2.1 bt194.2.2.1 bt194.2.2.2.1 bt194.2.2.2.2.1 bt194.2.2.2.2.2.1 bt194.2.2.2.2.2.2.1 bt181.1 bt181.2.1 bt181.2.2.1 bt181.2.2.2.1 bt181.2.2.2.2.1 bt181.2.2.2.2.2.1 bt181.2.2.2.2.2.2.1).bind fun t207 => (if t207 = true then (laws_FnExactMakePuzzle.j0 k a0 a1 a2 bt181.2.2.2.2.2.2.2 (bt194.2.2.2.2.2.2.2 != bt181.2.2.2.2.2.2.2) bt181.1 bt181.2.1 bt181.2.2.1 bt181.2.2.2.1 bt181.2.2.2.2.1 bt181.2.2.2.2.2.1 bt181.2.2.2.2.2.2.1 bt194.1 bt194.2.1 bt194.2.2.1 bt194.2.2.2.1 bt194.2.2.2.2.1 bt194.2.2.2.2.2.1 bt194.2.2.2.2.2.2.1) else (laws_FnExactMakePuzzle.j0 k a0 a1 a2 bt181.2.2.2.2.2.2.2 true bt181.1 bt181.2.1 bt181.2.2.1 bt181.2.2.2.1 bt181.2.2.2.2.1 bt181.2.2.2.2.2.1 bt181.2.2.2.2.2.2.1 bt194.1 bt194.2.1 bt194.2.2.1 bt194.2.2.2.1 bt194.2.2.2.2.1 bt194.2.2.2.2.2.1 bt194.2.2.2.2.2.2.1))))) = some true := h
  clear h
  replace H := Option.bind_eq_some_iff.mp H
  obtain ⟨⟨t181, t182, t183, t186, t189, t190, t191, t192⟩, A40, H⟩ := H
  replace H : ((impl_MakePuzzle.f k a0 a1 a2).bind fun bt194 => ((laws_eqPuzzle.f k bt194.1 bt194.2.1 bt194.2.2.1 bt194.2.2.2.1 bt194.2.2.2.2.1 bt194.2.2.2.2.2.1 bt194.2.2.2.2.2.2.1 t181 t182 t183 t186 t189 t190 t191).bind fun t207 => (if t207 = true then (laws_FnExactMakePuzzle.j0 k a0 a1 a2 t192 (bt194.2.2.2.2.2.2.2 != t192) t181 t182 t183 t186 t189 t190 t191 bt194.1 bt194.2.1 bt194.2.2.1 bt194.2.2.2.1 bt194.2.2.2.2.1 bt194.2.2.2.2.2.1 bt194.2.2.2.2.2.2.1) else (laws_FnExactMakePuzzle.j0 k a0 a1 a2 t192 true t181 t182 t183 t186 t189 t190 t191 bt194.1 bt194.2.1 bt194.2.2.1 bt194.2.2.2.1 bt194.2.2.2.2.1 bt194.2.2.2.2.2.1 bt194.2.2.2.2.2.2.1)))) = some true := H
  have A4 := Aside0.mk A40
  clear A40
  replace H := Option.bind_eq_some_iff.mp H
  obtain ⟨⟨t194, t195, t196, t199, t202, t203, t204, t205⟩, A50, H⟩ := H
  replace H : ((laws_eqPuzzle.f k t194 t195 t196 t199 t202 t203 t204 t181 t182 t183 t186 t189 t190 t191).bind fun t207 => (if t207 = true then (laws_FnExactMakePuzzle.j0 k a0 a1 a2 t192 (t205 != t192) t181 t182 t183 t186 t189 t190 t191 t194 t195 t196 t199 t202 t203 t204) else (laws_FnExactMakePuzzle.j0 k a0 a1 a2 t192 true t181 t182 t183 t186 t189 t190 t191 t194 t195 t196 t199 t202 t203 t204))) = some true := H
  have A5 := Aside0.mk A50
  clear A50
  have HC6 := Aside0.mk H
  clear H
  go_enter Tryd.func4, Tryd.ntmps4
  go_upto_region 3 with (first | ((with_reducible refine gate_callee (f := 10) rfl ?_); refine goesL_ (some 19) rfl rfl Tryd.func10 (by kernel_rfl) rfl #[.int .i64 a0, .int .i64 a1, .int .i64 a2] rfl (by (try simp only [List.map_toArray, List.map_cons, List.map_nil]); first | done | rfl | (simp only [List.length_drop, List.length_take]; rfl)) ?_; (with_reducible refine (spec_MakePuzzle.calls k a0 a1 a2 t181 t182 t183 t186 t189 t190 t191 t192 _ A4.out).mono ?_); rintro e w7 ⟨v184, v187, rfl, ho0, ho1, hb⟩; refine ⟨_, rfl, ?_⟩; have n0_ := Aside0.mk (Kd.R_lower ho0 (below_size (by repeat (first | (with_reducible first | exact HB.out | apply below_alloc | apply pw_below_drewN | apply below_drew1) | exact HB.out)))); have n1_ := Aside0.mk (Kd.R_lower ho1 (below_size (by repeat (first | (with_reducible first | exact HB.out | apply below_alloc | apply pw_below_drewN | apply below_drew1) | exact HB.out)))); have n2_ := Aside0.mk (below_step (by repeat (first | (with_reducible first | exact HB.out | apply below_alloc | apply pw_below_drewN | apply below_drew1) | exact HB.out)) hb); clear HB; have HO185 := n0_; have HO188 := n1_; have HB := n2_; clear n0_ n1_ n2_; (try clear hb); (try clear hb2); (try clear hk); (try clear hi); (try clear ho0); (try clear ho1)) | ((with_reducible refine gate_dst (N := 7) rfl ?_); refine box_event ?hg (N := 7) ?hd (cs := #[.int .i64 0, .int .i64 0, .slice none 0 0, .slice none 0 0, .int .i64 0, .bool false, .int .i64 0]) (t := 32) ?hr ?_; (case hd => rfl); (case hg => rfl); (case hr => first | (go_simp; done) | (go_simp; rfl)); intro gb193 hg w8 hbox hb; have n0_ := Aside0.mk (Kd.R_below (by (with_reducible repeat (first | apply Kd.R_alloc | apply Kd.R_drewN | apply Kd.R_drew)); exact HO185.out) hb); have n1_ := Aside0.mk (Kd.R_below (by (with_reducible repeat (first | apply Kd.R_alloc | apply Kd.R_drewN | apply Kd.R_drew)); exact HO188.out) hb); have n2_ := Aside0.mk (below_step (by repeat (first | (with_reducible first | exact HB.out | apply below_alloc | apply pw_below_drewN | apply below_drew1) | exact HB.out)) hb); have n3_ := Aside0.mk (hbox); have n4_ := Aside0.mk ((by rw [hg]; exact (below_size (by repeat (first | (with_reducible first | exact HB.out | apply below_alloc | apply pw_below_drewN | apply below_drew1) | exact HB.out))) : w.heap.size ≤ gb193)); have n5_ := Aside0.mk ((by rw [hg]; exact (below_size (by repeat (first | (with_reducible first | exact HB.out | apply below_alloc | apply pw_below_drewN | apply below_drew1) | exact HB.out))) : w.heap.size ≤ gb193)); clear HO185; clear HO188; clear HB; have HO185 := n0_; have HO188 := n1_; have HB := n2_; have BK193 := n3_; have GW193 := n4_; have GE193 := n5_; clear n0_ n1_ n2_ n3_ n4_ n5_; clear hb hbox hg; have hcz9_0 : w8.cell? ⟨gb193, 0, none⟩ = some (.int .i64 0) := (blk_cell BK193.out 0).trans rfl; have hcz9_1 : w8.cell? ⟨gb193, 1, none⟩ = some (.int .i64 0) := (blk_cell BK193.out 1).trans rfl; have hcz9_2 : w8.cell? ⟨gb193, 2, none⟩ = some (.slice none 0 0) := (blk_cell BK193.out 2).trans rfl; have hcz9_3 : w8.cell? ⟨gb193, 3, none⟩ = some (.slice none 0 0) := (blk_cell BK193.out 3).trans rfl; have hcz9_4 : w8.cell? ⟨gb193, 4, none⟩ = some (.int .i64 0) := (blk_cell BK193.out 4).trans rfl; have hcz9_5 : w8.cell? ⟨gb193, 5, none⟩ = some (.bool false) := (blk_cell BK193.out 5).trans rfl; have hcz9_6 : w8.cell? ⟨gb193, 6, none⟩ = some (.int .i64 0) := (blk_cell BK193.out 6).trans rfl; have hfz9_0 := blk_frozen BK193.out 0; have hfz9_1 := blk_frozen BK193.out 1; have hfz9_2 := blk_frozen BK193.out 2; have hfz9_3 := blk_frozen BK193.out 3; have hfz9_4 := blk_frozen BK193.out 4; have hfz9_5 := blk_frozen BK193.out 5; have hfz9_6 := blk_frozen BK193.out 6; obtain ⟨Ao10, co10, eo10⟩ := Kd.R_slice HO185.out; subst eo10; obtain ⟨Ao11, co11, eo11⟩ := Kd.R_slice HO188.out; subst eo11) | ((with_reducible refine gate_callee (f := 11) rfl ?_); refine goesL_ (some 26) rfl rfl Tryd.func11 (by kernel_rfl) rfl #[.int .i64 a0, .int .i64 a1, .int .i64 a2] rfl (by (try simp only [List.map_toArray, List.map_cons, List.map_nil]); first | done | rfl | (simp only [List.length_drop, List.length_take]; rfl)) ?_; (with_reducible refine (impl_MakePuzzle.calls k a0 a1 a2 t194 t195 t196 t199 t202 t203 t204 t205 _ ?side1 A5.out).mono ?_); (case side1 => exact tz_below HT.out (by repeat (first | (with_reducible first | exact HB.out | apply below_alloc | apply pw_below_drewN | apply below_drew1 | refine below_set ?_ GE193.out) | exact HB.out))); rintro e w12 ⟨v197, v200, rfl, ho0, ho1, hb⟩; refine ⟨_, rfl, ?_⟩; have n0_ := Aside0.mk (Kd.R_mono (Kd.R_told (Kd.R_told (Kd.R_old (by (with_reducible repeat (first | apply Kd.R_alloc | apply Kd.R_drewN | apply Kd.R_drew)); exact (Kd.R_mono (Kd.R_far (p := ⟨gb193, 6, none⟩) (Kd.R_far (p := ⟨gb193, 5, none⟩) (Kd.R_far (p := ⟨gb193, 4, none⟩) (Kd.R_far (p := ⟨gb193, 3, none⟩) (Kd.R_far (p := ⟨gb193, 2, none⟩) (Kd.R_far (p := ⟨gb193, 1, none⟩) (Kd.R_far (p := ⟨gb193, 0, none⟩) (Kd.R_types HO185.out BK193.out (by decide)) (fun _ hk => hk.2) (.int .i64 t181)) (fun _ hk => hk.2) (.int .i64 t182)) (fun _ hk => hk.2) (.slice Ao10 t183.length co10)) (fun _ hk => hk.2) (.slice Ao11 t186.length co11)) (fun _ hk => hk.2) (.int .i64 t189)) (fun _ hk => hk.2) (.bool t190)) (fun _ hk => hk.2) (.int .i64 t191)) (fun _ h_ => h_.1))) hb) (Kd.R_base ho0)) (Kd.R_base ho1)) (fun _ h_ => h_.1)); have n1_ := Aside0.mk (Kd.R_mono (Kd.R_told (Kd.R_told (Kd.R_old (by (with_reducible repeat (first | apply Kd.R_alloc | apply Kd.R_drewN | apply Kd.R_drew)); exact (Kd.R_mono (Kd.R_far (p := ⟨gb193, 6, none⟩) (Kd.R_far (p := ⟨gb193, 5, none⟩) (Kd.R_far (p := ⟨gb193, 4, none⟩) (Kd.R_far (p := ⟨gb193, 3, none⟩) (Kd.R_far (p := ⟨gb193, 2, none⟩) (Kd.R_far (p := ⟨gb193, 1, none⟩) (Kd.R_far (p := ⟨gb193, 0, none⟩) (Kd.R_types HO188.out BK193.out (by decide)) (fun _ hk => hk.2) (.int .i64 t181)) (fun _ hk => hk.2) (.int .i64 t182)) (fun _ hk => hk.2) (.slice Ao10 t183.length co10)) (fun _ hk => hk.2) (.slice Ao11 t186.length co11)) (fun _ hk => hk.2) (.int .i64 t189)) (fun _ hk => hk.2) (.bool t190)) (fun _ hk => hk.2) (.int .i64 t191)) (fun _ h_ => h_.1))) hb) (Kd.R_base ho0)) (Kd.R_base ho1)) (fun _ h_ => h_.1)); have n2_ := Aside0.mk (Kd.R_lower (Kd.R_new' (Kd.R_new' ho0 (Kd.R_lt (by (with_reducible repeat (first | apply Kd.R_alloc | apply Kd.R_drewN | apply Kd.R_drew)); exact (Kd.R_mono (Kd.R_far (p := ⟨gb193, 6, none⟩) (Kd.R_far (p := ⟨gb193, 5, none⟩) (Kd.R_far (p := ⟨gb193, 4, none⟩) (Kd.R_far (p := ⟨gb193, 3, none⟩) (Kd.R_far (p := ⟨gb193, 2, none⟩) (Kd.R_far (p := ⟨gb193, 1, none⟩) (Kd.R_far (p := ⟨gb193, 0, none⟩) (Kd.R_types HO185.out BK193.out (by decide)) (fun _ hk => hk.2) (.int .i64 t181)) (fun _ hk => hk.2) (.int .i64 t182)) (fun _ hk => hk.2) (.slice Ao10 t183.length co10)) (fun _ hk => hk.2) (.slice Ao11 t186.length co11)) (fun _ hk => hk.2) (.int .i64 t189)) (fun _ hk => hk.2) (.bool t190)) (fun _ hk => hk.2) (.int .i64 t191)) (fun _ h_ => h_.1))))) (Kd.R_lt (by (with_reducible repeat (first | apply Kd.R_alloc | apply Kd.R_drewN | apply Kd.R_drew)); exact (Kd.R_mono (Kd.R_far (p := ⟨gb193, 6, none⟩) (Kd.R_far (p := ⟨gb193, 5, none⟩) (Kd.R_far (p := ⟨gb193, 4, none⟩) (Kd.R_far (p := ⟨gb193, 3, none⟩) (Kd.R_far (p := ⟨gb193, 2, none⟩) (Kd.R_far (p := ⟨gb193, 1, none⟩) (Kd.R_far (p := ⟨gb193, 0, none⟩) (Kd.R_types HO188.out BK193.out (by decide)) (fun _ hk => hk.2) (.int .i64 t181)) (fun _ hk => hk.2) (.int .i64 t182)) (fun _ hk => hk.2) (.slice Ao10 t183.length co10)) (fun _ hk => hk.2) (.slice Ao11 t186.length co11)) (fun _ hk => hk.2) (.int .i64 t189)) (fun _ hk => hk.2) (.bool t190)) (fun _ hk => hk.2) (.int .i64 t191)) (fun _ h_ => h_.1))))) (below_size (by repeat (first | (with_reducible first | exact HB.out | apply below_alloc | apply pw_below_drewN | apply below_drew1 | refine below_set ?_ GE193.out) | exact HB.out)))); have n3_ := Aside0.mk (Kd.R_lower (Kd.R_new' (Kd.R_new' ho1 (Kd.R_lt (by (with_reducible repeat (first | apply Kd.R_alloc | apply Kd.R_drewN | apply Kd.R_drew)); exact (Kd.R_mono (Kd.R_far (p := ⟨gb193, 6, none⟩) (Kd.R_far (p := ⟨gb193, 5, none⟩) (Kd.R_far (p := ⟨gb193, 4, none⟩) (Kd.R_far (p := ⟨gb193, 3, none⟩) (Kd.R_far (p := ⟨gb193, 2, none⟩) (Kd.R_far (p := ⟨gb193, 1, none⟩) (Kd.R_far (p := ⟨gb193, 0, none⟩) (Kd.R_types HO185.out BK193.out (by decide)) (fun _ hk => hk.2) (.int .i64 t181)) (fun _ hk => hk.2) (.int .i64 t182)) (fun _ hk => hk.2) (.slice Ao10 t183.length co10)) (fun _ hk => hk.2) (.slice Ao11 t186.length co11)) (fun _ hk => hk.2) (.int .i64 t189)) (fun _ hk => hk.2) (.bool t190)) (fun _ hk => hk.2) (.int .i64 t191)) (fun _ h_ => h_.1))))) (Kd.R_lt (by (with_reducible repeat (first | apply Kd.R_alloc | apply Kd.R_drewN | apply Kd.R_drew)); exact (Kd.R_mono (Kd.R_far (p := ⟨gb193, 6, none⟩) (Kd.R_far (p := ⟨gb193, 5, none⟩) (Kd.R_far (p := ⟨gb193, 4, none⟩) (Kd.R_far (p := ⟨gb193, 3, none⟩) (Kd.R_far (p := ⟨gb193, 2, none⟩) (Kd.R_far (p := ⟨gb193, 1, none⟩) (Kd.R_far (p := ⟨gb193, 0, none⟩) (Kd.R_types HO188.out BK193.out (by decide)) (fun _ hk => hk.2) (.int .i64 t181)) (fun _ hk => hk.2) (.int .i64 t182)) (fun _ hk => hk.2) (.slice Ao10 t183.length co10)) (fun _ hk => hk.2) (.slice Ao11 t186.length co11)) (fun _ hk => hk.2) (.int .i64 t189)) (fun _ hk => hk.2) (.bool t190)) (fun _ hk => hk.2) (.int .i64 t191)) (fun _ h_ => h_.1))))) (below_size (by repeat (first | (with_reducible first | exact HB.out | apply below_alloc | apply pw_below_drewN | apply below_drew1 | refine below_set ?_ GE193.out) | exact HB.out)))); have n4_ := Aside0.mk (blk_below (g := gb193) (o := .cells #[.int .i64 t181, .int .i64 t182, .slice Ao10 t183.length co10, .slice Ao11 t186.length co11, .int .i64 t189, .bool t190, .int .i64 t191] 32 (0, 0)) (by (with_reducible repeat (first | refine blk_drewN ?_ _ | refine blk_drew ?_ | refine blk_alloc ?_ _)); refine blk_put (cs := #[.int .i64 t181, .int .i64 t182, .slice Ao10 t183.length co10, .slice Ao11 t186.length co11, .int .i64 t189, .bool t190, .int .i64 0]) ?_ 6 _ rfl; (with_reducible repeat (first | refine blk_drewN ?_ _ | refine blk_drew ?_ | refine blk_alloc ?_ _)); refine blk_put (cs := #[.int .i64 t181, .int .i64 t182, .slice Ao10 t183.length co10, .slice Ao11 t186.length co11, .int .i64 t189, .bool false, .int .i64 0]) ?_ 5 _ rfl; (with_reducible repeat (first | refine blk_drewN ?_ _ | refine blk_drew ?_ | refine blk_alloc ?_ _)); refine blk_put (cs := #[.int .i64 t181, .int .i64 t182, .slice Ao10 t183.length co10, .slice Ao11 t186.length co11, .int .i64 0, .bool false, .int .i64 0]) ?_ 4 _ rfl; (with_reducible repeat (first | refine blk_drewN ?_ _ | refine blk_drew ?_ | refine blk_alloc ?_ _)); refine blk_put (cs := #[.int .i64 t181, .int .i64 t182, .slice Ao10 t183.length co10, .slice none 0 0, .int .i64 0, .bool false, .int .i64 0]) ?_ 3 _ rfl; (with_reducible repeat (first | refine blk_drewN ?_ _ | refine blk_drew ?_ | refine blk_alloc ?_ _)); refine blk_put (cs := #[.int .i64 t181, .int .i64 t182, .slice none 0 0, .slice none 0 0, .int .i64 0, .bool false, .int .i64 0]) ?_ 2 _ rfl; (with_reducible repeat (first | refine blk_drewN ?_ _ | refine blk_drew ?_ | refine blk_alloc ?_ _)); refine blk_put (cs := #[.int .i64 t181, .int .i64 0, .slice none 0 0, .slice none 0 0, .int .i64 0, .bool false, .int .i64 0]) ?_ 1 _ rfl; (with_reducible repeat (first | refine blk_drewN ?_ _ | refine blk_drew ?_ | refine blk_alloc ?_ _)); refine blk_put (cs := #[.int .i64 0, .int .i64 0, .slice none 0 0, .slice none 0 0, .int .i64 0, .bool false, .int .i64 0]) ?_ 0 _ rfl; (with_reducible repeat (first | refine blk_drewN ?_ _ | refine blk_drew ?_ | refine blk_alloc ?_ _)); exact BK193.out) hb); have n5_ := Aside0.mk (below_step (by repeat (first | (with_reducible first | exact HB.out | apply below_alloc | apply pw_below_drewN | apply below_drew1 | refine below_set ?_ GE193.out) | exact HB.out)) hb); clear HO185; clear HO188; clear BK193; clear HB; have HO185 := n0_; have HO188 := n1_; have HO198 := n2_; have HO201 := n3_; have BK193 := n4_; have HB := n5_; clear n0_ n1_ n2_ n3_ n4_ n5_; (try clear hb); (try clear hb2); (try clear hk); (try clear hi); (try clear ho0); (try clear ho1)) | ((with_reducible refine gate_dst (N := 9) rfl ?_); refine box_event ?hg (N := 9) ?hd (cs := #[.int .i64 0, .int .i64 0, .slice none 0 0, .slice none 0 0, .int .i64 0, .bool false, .int .i64 0]) (t := 32) ?hr ?_; (case hd => rfl); (case hg => rfl); (case hr => first | (go_simp; done) | (go_simp; rfl)); intro gb206 hg w13 hbox hb; have n0_ := Aside0.mk (Kd.R_below (by (with_reducible repeat (first | apply Kd.R_alloc | apply Kd.R_drewN | apply Kd.R_drew)); exact HO185.out) hb); have n1_ := Aside0.mk (Kd.R_below (by (with_reducible repeat (first | apply Kd.R_alloc | apply Kd.R_drewN | apply Kd.R_drew)); exact HO188.out) hb); have n2_ := Aside0.mk (Kd.R_below (by (with_reducible repeat (first | apply Kd.R_alloc | apply Kd.R_drewN | apply Kd.R_drew)); exact HO198.out) hb); have n3_ := Aside0.mk (Kd.R_below (by (with_reducible repeat (first | apply Kd.R_alloc | apply Kd.R_drewN | apply Kd.R_drew)); exact HO201.out) hb); have n4_ := Aside0.mk (blk_below (g := gb193) (o := .cells #[.int .i64 t181, .int .i64 t182, .slice Ao10 t183.length co10, .slice Ao11 t186.length co11, .int .i64 t189, .bool t190, .int .i64 t191] 32 (0, 0)) (by (with_reducible repeat (first | refine blk_drewN ?_ _ | refine blk_drew ?_ | refine blk_alloc ?_ _)); exact BK193.out) hb); have n5_ := Aside0.mk (below_step (by repeat (first | (with_reducible first | exact HB.out | apply below_alloc | apply pw_below_drewN | apply below_drew1 | refine below_set ?_ GE193.out) | exact HB.out)) hb); have n6_ := Aside0.mk (hbox); have n7_ := Aside0.mk ((by rw [hg]; exact (below_size (by repeat (first | (with_reducible first | exact HB.out | apply below_alloc | apply pw_below_drewN | apply below_drew1 | refine below_set ?_ GE193.out) | exact HB.out))) : w.heap.size ≤ gb206)); have n8_ := Aside0.mk ((by rw [hg]; exact (below_size (by repeat (first | (with_reducible first | exact HB.out | apply below_alloc | apply pw_below_drewN | apply below_drew1 | refine below_set ?_ GE193.out) | exact HB.out))) : w.heap.size ≤ gb206)); have n9_ := Aside0.mk ((by rw [hg]; exact Nat.ne_of_lt (blk_lt (g := gb193) (o := .cells #[.int .i64 t181, .int .i64 t182, .slice Ao10 t183.length co10, .slice Ao11 t186.length co11, .int .i64 t189, .bool t190, .int .i64 t191] 32 (0, 0)) (by (with_reducible repeat (first | refine blk_drewN ?_ _ | refine blk_drew ?_ | refine blk_alloc ?_ _)); exact BK193.out)) : gb193 ≠ gb206)); have n10_ := Aside0.mk ((by rw [hg]; exact Nat.ne_of_gt (blk_lt (g := gb193) (o := .cells #[.int .i64 t181, .int .i64 t182, .slice Ao10 t183.length co10, .slice Ao11 t186.length co11, .int .i64 t189, .bool t190, .int .i64 t191] 32 (0, 0)) (by (with_reducible repeat (first | refine blk_drewN ?_ _ | refine blk_drew ?_ | refine blk_alloc ?_ _)); exact BK193.out)) : gb206 ≠ gb193)); clear HO185; clear HO188; clear HO198; clear HO201; clear BK193; clear HB; have HO185 := n0_; have HO188 := n1_; have HO198 := n2_; have HO201 := n3_; have BK193 := n4_; have HB := n5_; have BK206 := n6_; have GW206 := n7_; have GE206 := n8_; have NB193_206 := n9_; have NB206_193 := n10_; clear n0_ n1_ n2_ n3_ n4_ n5_ n6_ n7_ n8_ n9_ n10_; clear hb hbox hg; have hnb14 := NB206_193.out; have hnc14 := NB193_206.out; have hcz15_0 : w13.cell? ⟨gb206, 0, none⟩ = some (.int .i64 0) := (blk_cell BK206.out 0).trans rfl; have hcz15_1 : w13.cell? ⟨gb206, 1, none⟩ = some (.int .i64 0) := (blk_cell BK206.out 1).trans rfl; have hcz15_2 : w13.cell? ⟨gb206, 2, none⟩ = some (.slice none 0 0) := (blk_cell BK206.out 2).trans rfl; have hcz15_3 : w13.cell? ⟨gb206, 3, none⟩ = some (.slice none 0 0) := (blk_cell BK206.out 3).trans rfl; have hcz15_4 : w13.cell? ⟨gb206, 4, none⟩ = some (.int .i64 0) := (blk_cell BK206.out 4).trans rfl; have hcz15_5 : w13.cell? ⟨gb206, 5, none⟩ = some (.bool false) := (blk_cell BK206.out 5).trans rfl; have hcz15_6 : w13.cell? ⟨gb206, 6, none⟩ = some (.int .i64 0) := (blk_cell BK206.out 6).trans rfl; have hfz15_0 := blk_frozen BK206.out 0; have hfz15_1 := blk_frozen BK206.out 1; have hfz15_2 := blk_frozen BK206.out 2; have hfz15_3 := blk_frozen BK206.out 3; have hfz15_4 := blk_frozen BK206.out 4; have hfz15_5 := blk_frozen BK206.out 5; have hfz15_6 := blk_frozen BK206.out 6; obtain ⟨Ao16, co16, eo16⟩ := Kd.R_slice HO198.out; subst eo16; obtain ⟨Ao17, co17, eo17⟩ := Kd.R_slice HO201.out; subst eo17))
  (try simp only [Act.put, List.setIfInBounds_toArray, List.set_cons_zero, List.set_cons_succ])
  go_cut [37] (fun v37 wc => ∃ (kq : Nat) (x37_5 : Bool), v37 = .bool x37_5 ∧ Aside0 (laws_FnExactMakePuzzle.j0 kq a0 a1 a2 t192 x37_5 t181 t182 t183 t186 t189 t190 t191 t194 t195 t196 t199 t202 t203 t204 = some true) ∧ Aside0 (kq ≤ k) ∧ Aside0 (Kd.R (Kd.int .i64) 3 wc w.heap.size (fun k_ => some k_ ≠ ((.slice Ao11 t186.length co11) : Value).ownBlock ∧ some k_ ≠ ((.slice Ao16 t196.length co16) : Value).ownBlock ∧ some k_ ≠ ((.slice Ao17 t199.length co17) : Value).ownBlock) (.slice Ao10 t183.length co10) t183) ∧ Aside0 (Kd.R (Kd.int .i64) 3 wc w.heap.size (fun k_ => some k_ ≠ ((.slice Ao10 t183.length co10) : Value).ownBlock ∧ some k_ ≠ ((.slice Ao16 t196.length co16) : Value).ownBlock ∧ some k_ ≠ ((.slice Ao17 t199.length co17) : Value).ownBlock) (.slice Ao11 t186.length co11) t186) ∧ Aside0 (Kd.R (Kd.int .i64) 3 wc w.heap.size (fun k_ => some k_ ≠ ((.slice Ao10 t183.length co10) : Value).ownBlock ∧ some k_ ≠ ((.slice Ao11 t186.length co11) : Value).ownBlock ∧ some k_ ≠ ((.slice Ao17 t199.length co17) : Value).ownBlock) (.slice Ao16 t196.length co16) t196) ∧ Aside0 (Kd.R (Kd.int .i64) 3 wc w.heap.size (fun k_ => some k_ ≠ ((.slice Ao10 t183.length co10) : Value).ownBlock ∧ some k_ ≠ ((.slice Ao11 t186.length co11) : Value).ownBlock ∧ some k_ ≠ ((.slice Ao16 t196.length co16) : Value).ownBlock) (.slice Ao17 t199.length co17) t199) ∧ Aside0 (wc.heap[gb193]? = some (.cells #[.int .i64 t181, .int .i64 t182, (.slice Ao10 t183.length co10), (.slice Ao11 t186.length co11), .int .i64 t189, .bool t190, .int .i64 t191] 32 (0, 0))) ∧ Aside0 (wc.heap[gb206]? = some (.cells #[.int .i64 t194, .int .i64 t195, (.slice Ao16 t196.length co16), (.slice Ao17 t199.length co17), .int .i64 t202, .bool t203, .int .i64 t204] 32 (0, 0))) ∧ Aside0 (Below w.heap.size w wc))
  case first =>
    have H := HC6.out
    clear HC6
    replace H := Option.bind_eq_some_iff.mp H
    obtain ⟨t207, A180, H⟩ := H
    replace H : (if t207 = true then (laws_FnExactMakePuzzle.j0 k a0 a1 a2 t192 (t205 != t192) t181 t182 t183 t186 t189 t190 t191 t194 t195 t196 t199 t202 t203 t204) else (laws_FnExactMakePuzzle.j0 k a0 a1 a2 t192 true t181 t182 t183 t186 t189 t190 t191 t194 t195 t196 t199 t202 t203 t204)) = some true := H
    have A18 := Aside0.mk A180
    clear A180
    by_cases c19 : t207 = true
    · subst c19
      have H1 : (laws_FnExactMakePuzzle.j0 k a0 a1 a2 t192 (t205 != t192) t181 t182 t183 t186 t189 t190 t191 t194 t195 t196 t199 t202 t203 t204) = some true := by rw [if_pos rfl] at H; exact H
      clear H
      have H := H1
      clear H1
      have H' := Aside0.mk H
      clear H
      have hnb20 := NB206_193.out
      have hnc20 := NB193_206.out
      have hcz21_0 : w13.cell? ⟨gb206, 0, none⟩ = some (.int .i64 0) := (blk_cell BK206.out 0).trans rfl
      have hcz21_1 : w13.cell? ⟨gb206, 1, none⟩ = some (.int .i64 0) := (blk_cell BK206.out 1).trans rfl
      have hcz21_2 : w13.cell? ⟨gb206, 2, none⟩ = some (.slice none 0 0) := (blk_cell BK206.out 2).trans rfl
      have hcz21_3 : w13.cell? ⟨gb206, 3, none⟩ = some (.slice none 0 0) := (blk_cell BK206.out 3).trans rfl
      have hcz21_4 : w13.cell? ⟨gb206, 4, none⟩ = some (.int .i64 0) := (blk_cell BK206.out 4).trans rfl
      have hcz21_5 : w13.cell? ⟨gb206, 5, none⟩ = some (.bool false) := (blk_cell BK206.out 5).trans rfl
      have hcz21_6 : w13.cell? ⟨gb206, 6, none⟩ = some (.int .i64 0) := (blk_cell BK206.out 6).trans rfl
      have hfz21_0 := blk_frozen BK206.out 0
      have hfz21_1 := blk_frozen BK206.out 1
      have hfz21_2 := blk_frozen BK206.out 2
      have hfz21_3 := blk_frozen BK206.out 3
      have hfz21_4 := blk_frozen BK206.out 4
      have hfz21_5 := blk_frozen BK206.out 5
      have hfz21_6 := blk_frozen BK206.out 6
      have hcz22_0 : w13.cell? ⟨gb193, 0, none⟩ = some (.int .i64 t181) := (blk_cell BK193.out 0).trans rfl
      have hcz22_1 : w13.cell? ⟨gb193, 1, none⟩ = some (.int .i64 t182) := (blk_cell BK193.out 1).trans rfl
      have hcz22_2 : w13.cell? ⟨gb193, 2, none⟩ = some (.slice Ao10 t183.length co10) := (blk_cell BK193.out 2).trans rfl
      have hcz22_3 : w13.cell? ⟨gb193, 3, none⟩ = some (.slice Ao11 t186.length co11) := (blk_cell BK193.out 3).trans rfl
      have hcz22_4 : w13.cell? ⟨gb193, 4, none⟩ = some (.int .i64 t189) := (blk_cell BK193.out 4).trans rfl
      have hcz22_5 : w13.cell? ⟨gb193, 5, none⟩ = some (.bool t190) := (blk_cell BK193.out 5).trans rfl
      have hcz22_6 : w13.cell? ⟨gb193, 6, none⟩ = some (.int .i64 t191) := (blk_cell BK193.out 6).trans rfl
      have hfz22_0 := blk_frozen BK193.out 0
      have hfz22_1 := blk_frozen BK193.out 1
      have hfz22_2 := blk_frozen BK193.out 2
      have hfz22_3 := blk_frozen BK193.out 3
      have hfz22_4 := blk_frozen BK193.out 4
      have hfz22_5 := blk_frozen BK193.out 5
      have hfz22_6 := blk_frozen BK193.out 6
      go_wp2_with (first | ((with_reducible refine gate_callee (f := 12) rfl ?_); refine goesL_ (some 31) rfl rfl Tryd.func12 (by kernel_rfl) rfl #[.agg #[.int .i64 t194, .int .i64 t195, .slice Ao16 t196.length co16, .slice Ao17 t199.length co17, .int .i64 t202, .bool t203, .int .i64 t204], .agg #[.int .i64 t181, .int .i64 t182, .slice Ao10 t183.length co10, .slice Ao11 t186.length co11, .int .i64 t189, .bool t190, .int .i64 t191]] rfl (by (try simp only [List.map_toArray, List.map_cons, List.map_nil]); first | done | rfl | (simp only [List.length_drop, List.length_take]; rfl)) ?_; (with_reducible refine (laws_eqPuzzle.calls k t194 t195 _ _ t196 _ _ t199 t202 t203 t204 t181 t182 _ _ t183 _ _ t186 t189 t190 t191 true _ ?side1 ?side2 ?side3 ?side4 ?side5 ?side6 ?side7 ?side8 A18.out).mono ?_); (case side1 => refine (Kd.R_reads' (e := 3) (base := w.heap.size) (ok := fun k_ => ((some k_ ≠ (.slice Ao17 t199.length co17 : Value).ownBlock ∧ some k_ ≠ (.slice Ao10 t183.length co10 : Value).ownBlock) ∧ some k_ ≠ (.slice Ao11 t186.length co11 : Value).ownBlock)) (n := t196.length) (c := co16) ?_).2.2; exact (by (with_reducible repeat (first | apply Kd.R_alloc | apply Kd.R_drewN | apply Kd.R_drew)); exact (Kd.R_mono (Kd.R_far (p := ⟨gb206, 6, none⟩) (Kd.R_far (p := ⟨gb206, 5, none⟩) (Kd.R_far (p := ⟨gb206, 4, none⟩) (Kd.R_far (p := ⟨gb206, 3, none⟩) (Kd.R_far (p := ⟨gb206, 2, none⟩) (Kd.R_far (p := ⟨gb206, 1, none⟩) (Kd.R_far (p := ⟨gb206, 0, none⟩) (Kd.R_types HO198.out BK206.out (by decide)) (fun _ hk => hk.2) (.int .i64 t194)) (fun _ hk => hk.2) (.int .i64 t195)) (fun _ hk => hk.2) (.slice Ao16 t196.length co16)) (fun _ hk => hk.2) (.slice Ao17 t199.length co17)) (fun _ hk => hk.2) (.int .i64 t202)) (fun _ hk => hk.2) (.bool t203)) (fun _ hk => hk.2) (.int .i64 t204)) (fun _ h_ => h_.1)))); (case side2 => exact (Kd.R_reads' HO198.out).2.1); (case side3 => refine (Kd.R_reads' (e := 3) (base := w.heap.size) (ok := fun k_ => ((some k_ ≠ (.slice Ao16 t196.length co16 : Value).ownBlock ∧ some k_ ≠ (.slice Ao10 t183.length co10 : Value).ownBlock) ∧ some k_ ≠ (.slice Ao11 t186.length co11 : Value).ownBlock)) (n := t199.length) (c := co17) ?_).2.2; exact (by (with_reducible repeat (first | apply Kd.R_alloc | apply Kd.R_drewN | apply Kd.R_drew)); exact (Kd.R_mono (Kd.R_far (p := ⟨gb206, 6, none⟩) (Kd.R_far (p := ⟨gb206, 5, none⟩) (Kd.R_far (p := ⟨gb206, 4, none⟩) (Kd.R_far (p := ⟨gb206, 3, none⟩) (Kd.R_far (p := ⟨gb206, 2, none⟩) (Kd.R_far (p := ⟨gb206, 1, none⟩) (Kd.R_far (p := ⟨gb206, 0, none⟩) (Kd.R_types HO201.out BK206.out (by decide)) (fun _ hk => hk.2) (.int .i64 t194)) (fun _ hk => hk.2) (.int .i64 t195)) (fun _ hk => hk.2) (.slice Ao16 t196.length co16)) (fun _ hk => hk.2) (.slice Ao17 t199.length co17)) (fun _ hk => hk.2) (.int .i64 t202)) (fun _ hk => hk.2) (.bool t203)) (fun _ hk => hk.2) (.int .i64 t204)) (fun _ h_ => h_.1)))); (case side4 => exact (Kd.R_reads' HO201.out).2.1); (case side5 => refine (Kd.R_reads' (e := 3) (base := w.heap.size) (ok := fun k_ => ((some k_ ≠ (.slice Ao11 t186.length co11 : Value).ownBlock ∧ some k_ ≠ (.slice Ao16 t196.length co16 : Value).ownBlock) ∧ some k_ ≠ (.slice Ao17 t199.length co17 : Value).ownBlock)) (n := t183.length) (c := co10) ?_).2.2; exact (by (with_reducible repeat (first | apply Kd.R_alloc | apply Kd.R_drewN | apply Kd.R_drew)); exact (Kd.R_mono (Kd.R_far (p := ⟨gb206, 6, none⟩) (Kd.R_far (p := ⟨gb206, 5, none⟩) (Kd.R_far (p := ⟨gb206, 4, none⟩) (Kd.R_far (p := ⟨gb206, 3, none⟩) (Kd.R_far (p := ⟨gb206, 2, none⟩) (Kd.R_far (p := ⟨gb206, 1, none⟩) (Kd.R_far (p := ⟨gb206, 0, none⟩) (Kd.R_types HO185.out BK206.out (by decide)) (fun _ hk => hk.2) (.int .i64 t194)) (fun _ hk => hk.2) (.int .i64 t195)) (fun _ hk => hk.2) (.slice Ao16 t196.length co16)) (fun _ hk => hk.2) (.slice Ao17 t199.length co17)) (fun _ hk => hk.2) (.int .i64 t202)) (fun _ hk => hk.2) (.bool t203)) (fun _ hk => hk.2) (.int .i64 t204)) (fun _ h_ => h_.1)))); (case side6 => exact (Kd.R_reads' HO185.out).2.1); (case side7 => refine (Kd.R_reads' (e := 3) (base := w.heap.size) (ok := fun k_ => ((some k_ ≠ (.slice Ao10 t183.length co10 : Value).ownBlock ∧ some k_ ≠ (.slice Ao16 t196.length co16 : Value).ownBlock) ∧ some k_ ≠ (.slice Ao17 t199.length co17 : Value).ownBlock)) (n := t186.length) (c := co11) ?_).2.2; exact (by (with_reducible repeat (first | apply Kd.R_alloc | apply Kd.R_drewN | apply Kd.R_drew)); exact (Kd.R_mono (Kd.R_far (p := ⟨gb206, 6, none⟩) (Kd.R_far (p := ⟨gb206, 5, none⟩) (Kd.R_far (p := ⟨gb206, 4, none⟩) (Kd.R_far (p := ⟨gb206, 3, none⟩) (Kd.R_far (p := ⟨gb206, 2, none⟩) (Kd.R_far (p := ⟨gb206, 1, none⟩) (Kd.R_far (p := ⟨gb206, 0, none⟩) (Kd.R_types HO188.out BK206.out (by decide)) (fun _ hk => hk.2) (.int .i64 t194)) (fun _ hk => hk.2) (.int .i64 t195)) (fun _ hk => hk.2) (.slice Ao16 t196.length co16)) (fun _ hk => hk.2) (.slice Ao17 t199.length co17)) (fun _ hk => hk.2) (.int .i64 t202)) (fun _ hk => hk.2) (.bool t203)) (fun _ hk => hk.2) (.int .i64 t204)) (fun _ h_ => h_.1)))); (case side8 => exact (Kd.R_reads' HO188.out).2.1); rintro e w23 ⟨rfl, hb⟩; refine ⟨_, rfl, ?_⟩; have n0_ := Aside0.mk (Kd.R_below (by (with_reducible repeat (first | apply Kd.R_alloc | apply Kd.R_drewN | apply Kd.R_drew)); exact (Kd.R_mono (Kd.R_far (p := ⟨gb206, 6, none⟩) (Kd.R_far (p := ⟨gb206, 5, none⟩) (Kd.R_far (p := ⟨gb206, 4, none⟩) (Kd.R_far (p := ⟨gb206, 3, none⟩) (Kd.R_far (p := ⟨gb206, 2, none⟩) (Kd.R_far (p := ⟨gb206, 1, none⟩) (Kd.R_far (p := ⟨gb206, 0, none⟩) (Kd.R_types HO185.out BK206.out (by decide)) (fun _ hk => hk.2) (.int .i64 t194)) (fun _ hk => hk.2) (.int .i64 t195)) (fun _ hk => hk.2) (.slice Ao16 t196.length co16)) (fun _ hk => hk.2) (.slice Ao17 t199.length co17)) (fun _ hk => hk.2) (.int .i64 t202)) (fun _ hk => hk.2) (.bool t203)) (fun _ hk => hk.2) (.int .i64 t204)) (fun _ h_ => h_.1))) hb); have n1_ := Aside0.mk (Kd.R_below (by (with_reducible repeat (first | apply Kd.R_alloc | apply Kd.R_drewN | apply Kd.R_drew)); exact (Kd.R_mono (Kd.R_far (p := ⟨gb206, 6, none⟩) (Kd.R_far (p := ⟨gb206, 5, none⟩) (Kd.R_far (p := ⟨gb206, 4, none⟩) (Kd.R_far (p := ⟨gb206, 3, none⟩) (Kd.R_far (p := ⟨gb206, 2, none⟩) (Kd.R_far (p := ⟨gb206, 1, none⟩) (Kd.R_far (p := ⟨gb206, 0, none⟩) (Kd.R_types HO188.out BK206.out (by decide)) (fun _ hk => hk.2) (.int .i64 t194)) (fun _ hk => hk.2) (.int .i64 t195)) (fun _ hk => hk.2) (.slice Ao16 t196.length co16)) (fun _ hk => hk.2) (.slice Ao17 t199.length co17)) (fun _ hk => hk.2) (.int .i64 t202)) (fun _ hk => hk.2) (.bool t203)) (fun _ hk => hk.2) (.int .i64 t204)) (fun _ h_ => h_.1))) hb); have n2_ := Aside0.mk (Kd.R_below (by (with_reducible repeat (first | apply Kd.R_alloc | apply Kd.R_drewN | apply Kd.R_drew)); exact (Kd.R_mono (Kd.R_far (p := ⟨gb206, 6, none⟩) (Kd.R_far (p := ⟨gb206, 5, none⟩) (Kd.R_far (p := ⟨gb206, 4, none⟩) (Kd.R_far (p := ⟨gb206, 3, none⟩) (Kd.R_far (p := ⟨gb206, 2, none⟩) (Kd.R_far (p := ⟨gb206, 1, none⟩) (Kd.R_far (p := ⟨gb206, 0, none⟩) (Kd.R_types HO198.out BK206.out (by decide)) (fun _ hk => hk.2) (.int .i64 t194)) (fun _ hk => hk.2) (.int .i64 t195)) (fun _ hk => hk.2) (.slice Ao16 t196.length co16)) (fun _ hk => hk.2) (.slice Ao17 t199.length co17)) (fun _ hk => hk.2) (.int .i64 t202)) (fun _ hk => hk.2) (.bool t203)) (fun _ hk => hk.2) (.int .i64 t204)) (fun _ h_ => h_.1))) hb); have n3_ := Aside0.mk (Kd.R_below (by (with_reducible repeat (first | apply Kd.R_alloc | apply Kd.R_drewN | apply Kd.R_drew)); exact (Kd.R_mono (Kd.R_far (p := ⟨gb206, 6, none⟩) (Kd.R_far (p := ⟨gb206, 5, none⟩) (Kd.R_far (p := ⟨gb206, 4, none⟩) (Kd.R_far (p := ⟨gb206, 3, none⟩) (Kd.R_far (p := ⟨gb206, 2, none⟩) (Kd.R_far (p := ⟨gb206, 1, none⟩) (Kd.R_far (p := ⟨gb206, 0, none⟩) (Kd.R_types HO201.out BK206.out (by decide)) (fun _ hk => hk.2) (.int .i64 t194)) (fun _ hk => hk.2) (.int .i64 t195)) (fun _ hk => hk.2) (.slice Ao16 t196.length co16)) (fun _ hk => hk.2) (.slice Ao17 t199.length co17)) (fun _ hk => hk.2) (.int .i64 t202)) (fun _ hk => hk.2) (.bool t203)) (fun _ hk => hk.2) (.int .i64 t204)) (fun _ h_ => h_.1))) hb); have n4_ := Aside0.mk (blk_below (g := gb193) (o := .cells #[.int .i64 t181, .int .i64 t182, .slice Ao10 t183.length co10, .slice Ao11 t186.length co11, .int .i64 t189, .bool t190, .int .i64 t191] 32 (0, 0)) (by (with_reducible repeat (first | refine blk_drewN ?_ _ | refine blk_drew ?_ | refine blk_alloc ?_ _)); refine blk_far ?_ NB193_206.out _; (with_reducible repeat (first | refine blk_drewN ?_ _ | refine blk_drew ?_ | refine blk_alloc ?_ _)); refine blk_far ?_ NB193_206.out _; (with_reducible repeat (first | refine blk_drewN ?_ _ | refine blk_drew ?_ | refine blk_alloc ?_ _)); refine blk_far ?_ NB193_206.out _; (with_reducible repeat (first | refine blk_drewN ?_ _ | refine blk_drew ?_ | refine blk_alloc ?_ _)); refine blk_far ?_ NB193_206.out _; (with_reducible repeat (first | refine blk_drewN ?_ _ | refine blk_drew ?_ | refine blk_alloc ?_ _)); refine blk_far ?_ NB193_206.out _; (with_reducible repeat (first | refine blk_drewN ?_ _ | refine blk_drew ?_ | refine blk_alloc ?_ _)); refine blk_far ?_ NB193_206.out _; (with_reducible repeat (first | refine blk_drewN ?_ _ | refine blk_drew ?_ | refine blk_alloc ?_ _)); refine blk_far ?_ NB193_206.out _; (with_reducible repeat (first | refine blk_drewN ?_ _ | refine blk_drew ?_ | refine blk_alloc ?_ _)); exact BK193.out) hb); have n5_ := Aside0.mk (blk_below (g := gb206) (o := .cells #[.int .i64 t194, .int .i64 t195, .slice Ao16 t196.length co16, .slice Ao17 t199.length co17, .int .i64 t202, .bool t203, .int .i64 t204] 32 (0, 0)) (by (with_reducible repeat (first | refine blk_drewN ?_ _ | refine blk_drew ?_ | refine blk_alloc ?_ _)); refine blk_put (cs := #[.int .i64 t194, .int .i64 t195, .slice Ao16 t196.length co16, .slice Ao17 t199.length co17, .int .i64 t202, .bool t203, .int .i64 0]) ?_ 6 _ rfl; (with_reducible repeat (first | refine blk_drewN ?_ _ | refine blk_drew ?_ | refine blk_alloc ?_ _)); refine blk_put (cs := #[.int .i64 t194, .int .i64 t195, .slice Ao16 t196.length co16, .slice Ao17 t199.length co17, .int .i64 t202, .bool false, .int .i64 0]) ?_ 5 _ rfl; (with_reducible repeat (first | refine blk_drewN ?_ _ | refine blk_drew ?_ | refine blk_alloc ?_ _)); refine blk_put (cs := #[.int .i64 t194, .int .i64 t195, .slice Ao16 t196.length co16, .slice Ao17 t199.length co17, .int .i64 0, .bool false, .int .i64 0]) ?_ 4 _ rfl; (with_reducible repeat (first | refine blk_drewN ?_ _ | refine blk_drew ?_ | refine blk_alloc ?_ _)); refine blk_put (cs := #[.int .i64 t194, .int .i64 t195, .slice Ao16 t196.length co16, .slice none 0 0, .int .i64 0, .bool false, .int .i64 0]) ?_ 3 _ rfl; (with_reducible repeat (first | refine blk_drewN ?_ _ | refine blk_drew ?_ | refine blk_alloc ?_ _)); refine blk_put (cs := #[.int .i64 t194, .int .i64 t195, .slice none 0 0, .slice none 0 0, .int .i64 0, .bool false, .int .i64 0]) ?_ 2 _ rfl; (with_reducible repeat (first | refine blk_drewN ?_ _ | refine blk_drew ?_ | refine blk_alloc ?_ _)); refine blk_put (cs := #[.int .i64 t194, .int .i64 0, .slice none 0 0, .slice none 0 0, .int .i64 0, .bool false, .int .i64 0]) ?_ 1 _ rfl; (with_reducible repeat (first | refine blk_drewN ?_ _ | refine blk_drew ?_ | refine blk_alloc ?_ _)); refine blk_put (cs := #[.int .i64 0, .int .i64 0, .slice none 0 0, .slice none 0 0, .int .i64 0, .bool false, .int .i64 0]) ?_ 0 _ rfl; (with_reducible repeat (first | refine blk_drewN ?_ _ | refine blk_drew ?_ | refine blk_alloc ?_ _)); exact BK206.out) hb); have n6_ := Aside0.mk (below_step (by repeat (first | (with_reducible first | exact HB.out | apply below_alloc | apply pw_below_drewN | apply below_drew1 | refine below_set ?_ GE193.out | refine below_set ?_ GE206.out) | exact HB.out)) hb); clear HO185; clear HO188; clear HO198; clear HO201; clear BK193; clear BK206; clear HB; have HO185 := n0_; have HO188 := n1_; have HO198 := n2_; have HO201 := n3_; have BK193 := n4_; have BK206 := n5_; have HB := n6_; clear n0_ n1_ n2_ n3_ n4_ n5_ n6_; (try clear hb); (try clear hb2); (try clear hk); (try clear hi)))
      go_meet
      case rel => exact ⟨_, ((t205 != t192)), (by first | rfl | (simp; done) | (simp [*]; done)), H', ⟨by first | omega | exact Nat.le_refl _⟩, ⟨by (with_reducible repeat (first | apply Kd.R_alloc | apply Kd.R_drewN | apply Kd.R_drew)); exact Kd.R_mono HO185.out (fun _ hk => ⟨hk.1.1, ⟨hk.1.2, hk.2⟩⟩)⟩, ⟨by (with_reducible repeat (first | apply Kd.R_alloc | apply Kd.R_drewN | apply Kd.R_drew)); exact Kd.R_mono HO188.out (fun _ hk => ⟨hk.1.1, ⟨hk.1.2, hk.2⟩⟩)⟩, ⟨by (with_reducible repeat (first | apply Kd.R_alloc | apply Kd.R_drewN | apply Kd.R_drew)); exact Kd.R_mono HO198.out (fun _ hk => ⟨hk.1.2, ⟨hk.2, hk.1.1⟩⟩)⟩, ⟨by (with_reducible repeat (first | apply Kd.R_alloc | apply Kd.R_drewN | apply Kd.R_drew)); exact Kd.R_mono HO201.out (fun _ hk => ⟨hk.1.2, ⟨hk.2, hk.1.1⟩⟩)⟩, ⟨by (with_reducible repeat (first | refine blk_drewN ?_ _ | refine blk_drew ?_ | refine blk_alloc ?_ _)); exact BK193.out⟩, ⟨by (with_reducible repeat (first | refine blk_drewN ?_ _ | refine blk_drew ?_ | refine blk_alloc ?_ _)); exact BK206.out⟩, ⟨by repeat (first | (with_reducible first | exact HB.out | apply below_alloc | apply pw_below_drewN | apply below_drew1 | refine below_set ?_ GE193.out | refine below_set ?_ GE206.out) | exact HB.out)⟩⟩
    · replace c19 := Bool.eq_false_iff.mpr c19
      subst c19
      have H1 : (laws_FnExactMakePuzzle.j0 k a0 a1 a2 t192 true t181 t182 t183 t186 t189 t190 t191 t194 t195 t196 t199 t202 t203 t204) = some true := by rw [if_neg (show ¬ (false = true) by decide)] at H; exact H
      clear H
      have H := H1
      clear H1
      have H' := Aside0.mk H
      clear H
      have hnb24 := NB206_193.out
      have hnc24 := NB193_206.out
      have hcz25_0 : w13.cell? ⟨gb206, 0, none⟩ = some (.int .i64 0) := (blk_cell BK206.out 0).trans rfl
      have hcz25_1 : w13.cell? ⟨gb206, 1, none⟩ = some (.int .i64 0) := (blk_cell BK206.out 1).trans rfl
      have hcz25_2 : w13.cell? ⟨gb206, 2, none⟩ = some (.slice none 0 0) := (blk_cell BK206.out 2).trans rfl
      have hcz25_3 : w13.cell? ⟨gb206, 3, none⟩ = some (.slice none 0 0) := (blk_cell BK206.out 3).trans rfl
      have hcz25_4 : w13.cell? ⟨gb206, 4, none⟩ = some (.int .i64 0) := (blk_cell BK206.out 4).trans rfl
      have hcz25_5 : w13.cell? ⟨gb206, 5, none⟩ = some (.bool false) := (blk_cell BK206.out 5).trans rfl
      have hcz25_6 : w13.cell? ⟨gb206, 6, none⟩ = some (.int .i64 0) := (blk_cell BK206.out 6).trans rfl
      have hfz25_0 := blk_frozen BK206.out 0
      have hfz25_1 := blk_frozen BK206.out 1
      have hfz25_2 := blk_frozen BK206.out 2
      have hfz25_3 := blk_frozen BK206.out 3
      have hfz25_4 := blk_frozen BK206.out 4
      have hfz25_5 := blk_frozen BK206.out 5
      have hfz25_6 := blk_frozen BK206.out 6
      have hcz26_0 : w13.cell? ⟨gb193, 0, none⟩ = some (.int .i64 t181) := (blk_cell BK193.out 0).trans rfl
      have hcz26_1 : w13.cell? ⟨gb193, 1, none⟩ = some (.int .i64 t182) := (blk_cell BK193.out 1).trans rfl
      have hcz26_2 : w13.cell? ⟨gb193, 2, none⟩ = some (.slice Ao10 t183.length co10) := (blk_cell BK193.out 2).trans rfl
      have hcz26_3 : w13.cell? ⟨gb193, 3, none⟩ = some (.slice Ao11 t186.length co11) := (blk_cell BK193.out 3).trans rfl
      have hcz26_4 : w13.cell? ⟨gb193, 4, none⟩ = some (.int .i64 t189) := (blk_cell BK193.out 4).trans rfl
      have hcz26_5 : w13.cell? ⟨gb193, 5, none⟩ = some (.bool t190) := (blk_cell BK193.out 5).trans rfl
      have hcz26_6 : w13.cell? ⟨gb193, 6, none⟩ = some (.int .i64 t191) := (blk_cell BK193.out 6).trans rfl
      have hfz26_0 := blk_frozen BK193.out 0
      have hfz26_1 := blk_frozen BK193.out 1
      have hfz26_2 := blk_frozen BK193.out 2
      have hfz26_3 := blk_frozen BK193.out 3
      have hfz26_4 := blk_frozen BK193.out 4
      have hfz26_5 := blk_frozen BK193.out 5
      have hfz26_6 := blk_frozen BK193.out 6
      go_wp2_with (first | ((with_reducible refine gate_callee (f := 12) rfl ?_); refine goesL_ (some 31) rfl rfl Tryd.func12 (by kernel_rfl) rfl #[.agg #[.int .i64 t194, .int .i64 t195, .slice Ao16 t196.length co16, .slice Ao17 t199.length co17, .int .i64 t202, .bool t203, .int .i64 t204], .agg #[.int .i64 t181, .int .i64 t182, .slice Ao10 t183.length co10, .slice Ao11 t186.length co11, .int .i64 t189, .bool t190, .int .i64 t191]] rfl (by (try simp only [List.map_toArray, List.map_cons, List.map_nil]); first | done | rfl | (simp only [List.length_drop, List.length_take]; rfl)) ?_; (with_reducible refine (laws_eqPuzzle.calls k t194 t195 _ _ t196 _ _ t199 t202 t203 t204 t181 t182 _ _ t183 _ _ t186 t189 t190 t191 false _ ?side1 ?side2 ?side3 ?side4 ?side5 ?side6 ?side7 ?side8 A18.out).mono ?_); (case side1 => refine (Kd.R_reads' (e := 3) (base := w.heap.size) (ok := fun k_ => ((some k_ ≠ (.slice Ao17 t199.length co17 : Value).ownBlock ∧ some k_ ≠ (.slice Ao10 t183.length co10 : Value).ownBlock) ∧ some k_ ≠ (.slice Ao11 t186.length co11 : Value).ownBlock)) (n := t196.length) (c := co16) ?_).2.2; exact (by (with_reducible repeat (first | apply Kd.R_alloc | apply Kd.R_drewN | apply Kd.R_drew)); exact (Kd.R_mono (Kd.R_far (p := ⟨gb206, 6, none⟩) (Kd.R_far (p := ⟨gb206, 5, none⟩) (Kd.R_far (p := ⟨gb206, 4, none⟩) (Kd.R_far (p := ⟨gb206, 3, none⟩) (Kd.R_far (p := ⟨gb206, 2, none⟩) (Kd.R_far (p := ⟨gb206, 1, none⟩) (Kd.R_far (p := ⟨gb206, 0, none⟩) (Kd.R_types HO198.out BK206.out (by decide)) (fun _ hk => hk.2) (.int .i64 t194)) (fun _ hk => hk.2) (.int .i64 t195)) (fun _ hk => hk.2) (.slice Ao16 t196.length co16)) (fun _ hk => hk.2) (.slice Ao17 t199.length co17)) (fun _ hk => hk.2) (.int .i64 t202)) (fun _ hk => hk.2) (.bool t203)) (fun _ hk => hk.2) (.int .i64 t204)) (fun _ h_ => h_.1)))); (case side2 => exact (Kd.R_reads' HO198.out).2.1); (case side3 => refine (Kd.R_reads' (e := 3) (base := w.heap.size) (ok := fun k_ => ((some k_ ≠ (.slice Ao16 t196.length co16 : Value).ownBlock ∧ some k_ ≠ (.slice Ao10 t183.length co10 : Value).ownBlock) ∧ some k_ ≠ (.slice Ao11 t186.length co11 : Value).ownBlock)) (n := t199.length) (c := co17) ?_).2.2; exact (by (with_reducible repeat (first | apply Kd.R_alloc | apply Kd.R_drewN | apply Kd.R_drew)); exact (Kd.R_mono (Kd.R_far (p := ⟨gb206, 6, none⟩) (Kd.R_far (p := ⟨gb206, 5, none⟩) (Kd.R_far (p := ⟨gb206, 4, none⟩) (Kd.R_far (p := ⟨gb206, 3, none⟩) (Kd.R_far (p := ⟨gb206, 2, none⟩) (Kd.R_far (p := ⟨gb206, 1, none⟩) (Kd.R_far (p := ⟨gb206, 0, none⟩) (Kd.R_types HO201.out BK206.out (by decide)) (fun _ hk => hk.2) (.int .i64 t194)) (fun _ hk => hk.2) (.int .i64 t195)) (fun _ hk => hk.2) (.slice Ao16 t196.length co16)) (fun _ hk => hk.2) (.slice Ao17 t199.length co17)) (fun _ hk => hk.2) (.int .i64 t202)) (fun _ hk => hk.2) (.bool t203)) (fun _ hk => hk.2) (.int .i64 t204)) (fun _ h_ => h_.1)))); (case side4 => exact (Kd.R_reads' HO201.out).2.1); (case side5 => refine (Kd.R_reads' (e := 3) (base := w.heap.size) (ok := fun k_ => ((some k_ ≠ (.slice Ao11 t186.length co11 : Value).ownBlock ∧ some k_ ≠ (.slice Ao16 t196.length co16 : Value).ownBlock) ∧ some k_ ≠ (.slice Ao17 t199.length co17 : Value).ownBlock)) (n := t183.length) (c := co10) ?_).2.2; exact (by (with_reducible repeat (first | apply Kd.R_alloc | apply Kd.R_drewN | apply Kd.R_drew)); exact (Kd.R_mono (Kd.R_far (p := ⟨gb206, 6, none⟩) (Kd.R_far (p := ⟨gb206, 5, none⟩) (Kd.R_far (p := ⟨gb206, 4, none⟩) (Kd.R_far (p := ⟨gb206, 3, none⟩) (Kd.R_far (p := ⟨gb206, 2, none⟩) (Kd.R_far (p := ⟨gb206, 1, none⟩) (Kd.R_far (p := ⟨gb206, 0, none⟩) (Kd.R_types HO185.out BK206.out (by decide)) (fun _ hk => hk.2) (.int .i64 t194)) (fun _ hk => hk.2) (.int .i64 t195)) (fun _ hk => hk.2) (.slice Ao16 t196.length co16)) (fun _ hk => hk.2) (.slice Ao17 t199.length co17)) (fun _ hk => hk.2) (.int .i64 t202)) (fun _ hk => hk.2) (.bool t203)) (fun _ hk => hk.2) (.int .i64 t204)) (fun _ h_ => h_.1)))); (case side6 => exact (Kd.R_reads' HO185.out).2.1); (case side7 => refine (Kd.R_reads' (e := 3) (base := w.heap.size) (ok := fun k_ => ((some k_ ≠ (.slice Ao10 t183.length co10 : Value).ownBlock ∧ some k_ ≠ (.slice Ao16 t196.length co16 : Value).ownBlock) ∧ some k_ ≠ (.slice Ao17 t199.length co17 : Value).ownBlock)) (n := t186.length) (c := co11) ?_).2.2; exact (by (with_reducible repeat (first | apply Kd.R_alloc | apply Kd.R_drewN | apply Kd.R_drew)); exact (Kd.R_mono (Kd.R_far (p := ⟨gb206, 6, none⟩) (Kd.R_far (p := ⟨gb206, 5, none⟩) (Kd.R_far (p := ⟨gb206, 4, none⟩) (Kd.R_far (p := ⟨gb206, 3, none⟩) (Kd.R_far (p := ⟨gb206, 2, none⟩) (Kd.R_far (p := ⟨gb206, 1, none⟩) (Kd.R_far (p := ⟨gb206, 0, none⟩) (Kd.R_types HO188.out BK206.out (by decide)) (fun _ hk => hk.2) (.int .i64 t194)) (fun _ hk => hk.2) (.int .i64 t195)) (fun _ hk => hk.2) (.slice Ao16 t196.length co16)) (fun _ hk => hk.2) (.slice Ao17 t199.length co17)) (fun _ hk => hk.2) (.int .i64 t202)) (fun _ hk => hk.2) (.bool t203)) (fun _ hk => hk.2) (.int .i64 t204)) (fun _ h_ => h_.1)))); (case side8 => exact (Kd.R_reads' HO188.out).2.1); rintro e w27 ⟨rfl, hb⟩; refine ⟨_, rfl, ?_⟩; have n0_ := Aside0.mk (Kd.R_below (by (with_reducible repeat (first | apply Kd.R_alloc | apply Kd.R_drewN | apply Kd.R_drew)); exact (Kd.R_mono (Kd.R_far (p := ⟨gb206, 6, none⟩) (Kd.R_far (p := ⟨gb206, 5, none⟩) (Kd.R_far (p := ⟨gb206, 4, none⟩) (Kd.R_far (p := ⟨gb206, 3, none⟩) (Kd.R_far (p := ⟨gb206, 2, none⟩) (Kd.R_far (p := ⟨gb206, 1, none⟩) (Kd.R_far (p := ⟨gb206, 0, none⟩) (Kd.R_types HO185.out BK206.out (by decide)) (fun _ hk => hk.2) (.int .i64 t194)) (fun _ hk => hk.2) (.int .i64 t195)) (fun _ hk => hk.2) (.slice Ao16 t196.length co16)) (fun _ hk => hk.2) (.slice Ao17 t199.length co17)) (fun _ hk => hk.2) (.int .i64 t202)) (fun _ hk => hk.2) (.bool t203)) (fun _ hk => hk.2) (.int .i64 t204)) (fun _ h_ => h_.1))) hb); have n1_ := Aside0.mk (Kd.R_below (by (with_reducible repeat (first | apply Kd.R_alloc | apply Kd.R_drewN | apply Kd.R_drew)); exact (Kd.R_mono (Kd.R_far (p := ⟨gb206, 6, none⟩) (Kd.R_far (p := ⟨gb206, 5, none⟩) (Kd.R_far (p := ⟨gb206, 4, none⟩) (Kd.R_far (p := ⟨gb206, 3, none⟩) (Kd.R_far (p := ⟨gb206, 2, none⟩) (Kd.R_far (p := ⟨gb206, 1, none⟩) (Kd.R_far (p := ⟨gb206, 0, none⟩) (Kd.R_types HO188.out BK206.out (by decide)) (fun _ hk => hk.2) (.int .i64 t194)) (fun _ hk => hk.2) (.int .i64 t195)) (fun _ hk => hk.2) (.slice Ao16 t196.length co16)) (fun _ hk => hk.2) (.slice Ao17 t199.length co17)) (fun _ hk => hk.2) (.int .i64 t202)) (fun _ hk => hk.2) (.bool t203)) (fun _ hk => hk.2) (.int .i64 t204)) (fun _ h_ => h_.1))) hb); have n2_ := Aside0.mk (Kd.R_below (by (with_reducible repeat (first | apply Kd.R_alloc | apply Kd.R_drewN | apply Kd.R_drew)); exact (Kd.R_mono (Kd.R_far (p := ⟨gb206, 6, none⟩) (Kd.R_far (p := ⟨gb206, 5, none⟩) (Kd.R_far (p := ⟨gb206, 4, none⟩) (Kd.R_far (p := ⟨gb206, 3, none⟩) (Kd.R_far (p := ⟨gb206, 2, none⟩) (Kd.R_far (p := ⟨gb206, 1, none⟩) (Kd.R_far (p := ⟨gb206, 0, none⟩) (Kd.R_types HO198.out BK206.out (by decide)) (fun _ hk => hk.2) (.int .i64 t194)) (fun _ hk => hk.2) (.int .i64 t195)) (fun _ hk => hk.2) (.slice Ao16 t196.length co16)) (fun _ hk => hk.2) (.slice Ao17 t199.length co17)) (fun _ hk => hk.2) (.int .i64 t202)) (fun _ hk => hk.2) (.bool t203)) (fun _ hk => hk.2) (.int .i64 t204)) (fun _ h_ => h_.1))) hb); have n3_ := Aside0.mk (Kd.R_below (by (with_reducible repeat (first | apply Kd.R_alloc | apply Kd.R_drewN | apply Kd.R_drew)); exact (Kd.R_mono (Kd.R_far (p := ⟨gb206, 6, none⟩) (Kd.R_far (p := ⟨gb206, 5, none⟩) (Kd.R_far (p := ⟨gb206, 4, none⟩) (Kd.R_far (p := ⟨gb206, 3, none⟩) (Kd.R_far (p := ⟨gb206, 2, none⟩) (Kd.R_far (p := ⟨gb206, 1, none⟩) (Kd.R_far (p := ⟨gb206, 0, none⟩) (Kd.R_types HO201.out BK206.out (by decide)) (fun _ hk => hk.2) (.int .i64 t194)) (fun _ hk => hk.2) (.int .i64 t195)) (fun _ hk => hk.2) (.slice Ao16 t196.length co16)) (fun _ hk => hk.2) (.slice Ao17 t199.length co17)) (fun _ hk => hk.2) (.int .i64 t202)) (fun _ hk => hk.2) (.bool t203)) (fun _ hk => hk.2) (.int .i64 t204)) (fun _ h_ => h_.1))) hb); have n4_ := Aside0.mk (blk_below (g := gb193) (o := .cells #[.int .i64 t181, .int .i64 t182, .slice Ao10 t183.length co10, .slice Ao11 t186.length co11, .int .i64 t189, .bool t190, .int .i64 t191] 32 (0, 0)) (by (with_reducible repeat (first | refine blk_drewN ?_ _ | refine blk_drew ?_ | refine blk_alloc ?_ _)); refine blk_far ?_ NB193_206.out _; (with_reducible repeat (first | refine blk_drewN ?_ _ | refine blk_drew ?_ | refine blk_alloc ?_ _)); refine blk_far ?_ NB193_206.out _; (with_reducible repeat (first | refine blk_drewN ?_ _ | refine blk_drew ?_ | refine blk_alloc ?_ _)); refine blk_far ?_ NB193_206.out _; (with_reducible repeat (first | refine blk_drewN ?_ _ | refine blk_drew ?_ | refine blk_alloc ?_ _)); refine blk_far ?_ NB193_206.out _; (with_reducible repeat (first | refine blk_drewN ?_ _ | refine blk_drew ?_ | refine blk_alloc ?_ _)); refine blk_far ?_ NB193_206.out _; (with_reducible repeat (first | refine blk_drewN ?_ _ | refine blk_drew ?_ | refine blk_alloc ?_ _)); refine blk_far ?_ NB193_206.out _; (with_reducible repeat (first | refine blk_drewN ?_ _ | refine blk_drew ?_ | refine blk_alloc ?_ _)); refine blk_far ?_ NB193_206.out _; (with_reducible repeat (first | refine blk_drewN ?_ _ | refine blk_drew ?_ | refine blk_alloc ?_ _)); exact BK193.out) hb); have n5_ := Aside0.mk (blk_below (g := gb206) (o := .cells #[.int .i64 t194, .int .i64 t195, .slice Ao16 t196.length co16, .slice Ao17 t199.length co17, .int .i64 t202, .bool t203, .int .i64 t204] 32 (0, 0)) (by (with_reducible repeat (first | refine blk_drewN ?_ _ | refine blk_drew ?_ | refine blk_alloc ?_ _)); refine blk_put (cs := #[.int .i64 t194, .int .i64 t195, .slice Ao16 t196.length co16, .slice Ao17 t199.length co17, .int .i64 t202, .bool t203, .int .i64 0]) ?_ 6 _ rfl; (with_reducible repeat (first | refine blk_drewN ?_ _ | refine blk_drew ?_ | refine blk_alloc ?_ _)); refine blk_put (cs := #[.int .i64 t194, .int .i64 t195, .slice Ao16 t196.length co16, .slice Ao17 t199.length co17, .int .i64 t202, .bool false, .int .i64 0]) ?_ 5 _ rfl; (with_reducible repeat (first | refine blk_drewN ?_ _ | refine blk_drew ?_ | refine blk_alloc ?_ _)); refine blk_put (cs := #[.int .i64 t194, .int .i64 t195, .slice Ao16 t196.length co16, .slice Ao17 t199.length co17, .int .i64 0, .bool false, .int .i64 0]) ?_ 4 _ rfl; (with_reducible repeat (first | refine blk_drewN ?_ _ | refine blk_drew ?_ | refine blk_alloc ?_ _)); refine blk_put (cs := #[.int .i64 t194, .int .i64 t195, .slice Ao16 t196.length co16, .slice none 0 0, .int .i64 0, .bool false, .int .i64 0]) ?_ 3 _ rfl; (with_reducible repeat (first | refine blk_drewN ?_ _ | refine blk_drew ?_ | refine blk_alloc ?_ _)); refine blk_put (cs := #[.int .i64 t194, .int .i64 t195, .slice none 0 0, .slice none 0 0, .int .i64 0, .bool false, .int .i64 0]) ?_ 2 _ rfl; (with_reducible repeat (first | refine blk_drewN ?_ _ | refine blk_drew ?_ | refine blk_alloc ?_ _)); refine blk_put (cs := #[.int .i64 t194, .int .i64 0, .slice none 0 0, .slice none 0 0, .int .i64 0, .bool false, .int .i64 0]) ?_ 1 _ rfl; (with_reducible repeat (first | refine blk_drewN ?_ _ | refine blk_drew ?_ | refine blk_alloc ?_ _)); refine blk_put (cs := #[.int .i64 0, .int .i64 0, .slice none 0 0, .slice none 0 0, .int .i64 0, .bool false, .int .i64 0]) ?_ 0 _ rfl; (with_reducible repeat (first | refine blk_drewN ?_ _ | refine blk_drew ?_ | refine blk_alloc ?_ _)); exact BK206.out) hb); have n6_ := Aside0.mk (below_step (by repeat (first | (with_reducible first | exact HB.out | apply below_alloc | apply pw_below_drewN | apply below_drew1 | refine below_set ?_ GE193.out | refine below_set ?_ GE206.out) | exact HB.out)) hb); clear HO185; clear HO188; clear HO198; clear HO201; clear BK193; clear BK206; clear HB; have HO185 := n0_; have HO188 := n1_; have HO198 := n2_; have HO201 := n3_; have BK193 := n4_; have BK206 := n5_; have HB := n6_; clear n0_ n1_ n2_ n3_ n4_ n5_ n6_; (try clear hb); (try clear hb2); (try clear hk); (try clear hi)))
      go_meet
      case rel => exact ⟨_, (true), (by first | rfl | (simp; done) | (simp [*]; done)), H', ⟨by first | omega | exact Nat.le_refl _⟩, ⟨by (with_reducible repeat (first | apply Kd.R_alloc | apply Kd.R_drewN | apply Kd.R_drew)); exact Kd.R_mono HO185.out (fun _ hk => ⟨hk.1.1, ⟨hk.1.2, hk.2⟩⟩)⟩, ⟨by (with_reducible repeat (first | apply Kd.R_alloc | apply Kd.R_drewN | apply Kd.R_drew)); exact Kd.R_mono HO188.out (fun _ hk => ⟨hk.1.1, ⟨hk.1.2, hk.2⟩⟩)⟩, ⟨by (with_reducible repeat (first | apply Kd.R_alloc | apply Kd.R_drewN | apply Kd.R_drew)); exact Kd.R_mono HO198.out (fun _ hk => ⟨hk.1.2, ⟨hk.2, hk.1.1⟩⟩)⟩, ⟨by (with_reducible repeat (first | apply Kd.R_alloc | apply Kd.R_drewN | apply Kd.R_drew)); exact Kd.R_mono HO201.out (fun _ hk => ⟨hk.1.2, ⟨hk.2, hk.1.1⟩⟩)⟩, ⟨by (with_reducible repeat (first | refine blk_drewN ?_ _ | refine blk_drew ?_ | refine blk_alloc ?_ _)); exact BK193.out⟩, ⟨by (with_reducible repeat (first | refine blk_drewN ?_ _ | refine blk_drew ?_ | refine blk_alloc ?_ _)); exact BK206.out⟩, ⟨by repeat (first | (with_reducible first | exact HB.out | apply below_alloc | apply pw_below_drewN | apply below_drew1 | refine below_set ?_ GE193.out | refine below_set ?_ GE206.out) | exact HB.out)⟩⟩
  case rest =>
    clear HC6
    try clear c1
    try clear c2
    try clear p2
    try clear c4
    try clear c10
    try clear c11
    try clear c12
    try clear c14
    try clear c19
    try clear c20
    try clear c24
    try clear hcz15_0
    try clear hcz15_1
    try clear hcz15_2
    try clear hcz15_3
    try clear hcz15_4
    try clear hcz15_5
    try clear hcz15_6
    try clear hcz21_0
    try clear hcz21_1
    try clear hcz21_2
    try clear hcz21_3
    try clear hcz21_4
    try clear hcz21_5
    try clear hcz21_6
    try clear hcz22_0
    try clear hcz22_1
    try clear hcz22_2
    try clear hcz22_3
    try clear hcz22_4
    try clear hcz22_5
    try clear hcz22_6
    try clear hcz25_0
    try clear hcz25_1
    try clear hcz25_2
    try clear hcz25_3
    try clear hcz25_4
    try clear hcz25_5
    try clear hcz25_6
    try clear hcz26_0
    try clear hcz26_1
    try clear hcz26_2
    try clear hcz26_3
    try clear hcz26_4
    try clear hcz26_5
    try clear hcz26_6
    try clear hcz9_0
    try clear hcz9_1
    try clear hcz9_2
    try clear hcz9_3
    try clear hcz9_4
    try clear hcz9_5
    try clear hcz9_6
    try clear hfz15_0
    try clear hfz15_1
    try clear hfz15_2
    try clear hfz15_3
    try clear hfz15_4
    try clear hfz15_5
    try clear hfz15_6
    try clear hfz21_0
    try clear hfz21_1
    try clear hfz21_2
    try clear hfz21_3
    try clear hfz21_4
    try clear hfz21_5
    try clear hfz21_6
    try clear hfz22_0
    try clear hfz22_1
    try clear hfz22_2
    try clear hfz22_3
    try clear hfz22_4
    try clear hfz22_5
    try clear hfz22_6
    try clear hfz25_0
    try clear hfz25_1
    try clear hfz25_2
    try clear hfz25_3
    try clear hfz25_4
    try clear hfz25_5
    try clear hfz25_6
    try clear hfz26_0
    try clear hfz26_1
    try clear hfz26_2
    try clear hfz26_3
    try clear hfz26_4
    try clear hfz26_5
    try clear hfz26_6
    try clear hfz9_0
    try clear hfz9_1
    try clear hfz9_2
    try clear hfz9_3
    try clear hfz9_4
    try clear hfz9_5
    try clear hfz9_6
    obtain ⟨kq, x37_5, rfl, HA, HJ5, HO_194002, HO_194003, HO_207002, HO_207003, BK193, BK206, HB⟩ := hcut
    cases kq with
    | zero => exact absurd HA.out (by simp [laws_FnExactMakePuzzle.j0])
    | succ kj5 =>
      have H := HA.out
      clear HA
      simp only [laws_FnExactMakePuzzle.j0] at H
      by_cases c28 : x37_5 = true
      · subst c28
        have H1 : (some false) = some true := by rw [if_pos rfl] at H; exact H
        clear H
        have H := H1
        clear H1
        exact absurd (Option.some.inj H) (by decide)
      · replace c28 := Bool.eq_false_iff.mpr c28
        subst c28
        have H1 : ((laws_markPuzzle.f kj5 t194 t195 t196 t199 t202 t203 t204 101).bind fun bt208 => ((laws_heldPuzzle.f kj5 t194 t195 bt208.2.1 bt208.2.2 t202 t203 t204 101).bind fun t211 => (if t211 < 0 then (some false) else (if t211 = bt208.1 then ((impl_MakePuzzle.f kj5 a0 a1 a2).bind fun bt212 => ((laws_eqPuzzle.f kj5 bt212.1 bt212.2.1 bt212.2.2.1 bt212.2.2.2.1 bt212.2.2.2.2.1 bt212.2.2.2.2.2.1 bt212.2.2.2.2.2.2.1 t181 t182 t183 t186 t189 t190 t191).bind fun t225 => (if t225 = true then (laws_FnExactMakePuzzle.j1 kj5 bt208.1 (bt212.2.2.2.2.2.2.2 != t192) t194 t195 bt208.2.1 bt208.2.2 t202 t203 t204) else (laws_FnExactMakePuzzle.j1 kj5 bt208.1 true t194 t195 bt208.2.1 bt208.2.2 t202 t203 t204)))) else (some false))))) = some true := by rw [if_neg (show ¬ (false = true) by decide)] at H; exact H
        clear H
        have H := H1
        clear H1
        replace H := Option.bind_eq_some_iff.mp H
        obtain ⟨⟨t208, t209, t210⟩, A290, H⟩ := H
        replace H : ((laws_heldPuzzle.f kj5 t194 t195 t209 t210 t202 t203 t204 101).bind fun t211 => (if t211 < 0 then (some false) else (if t211 = t208 then ((impl_MakePuzzle.f kj5 a0 a1 a2).bind fun bt212 => ((laws_eqPuzzle.f kj5 bt212.1 bt212.2.1 bt212.2.2.1 bt212.2.2.2.1 bt212.2.2.2.2.1 bt212.2.2.2.2.2.1 bt212.2.2.2.2.2.2.1 t181 t182 t183 t186 t189 t190 t191).bind fun t225 => (if t225 = true then (laws_FnExactMakePuzzle.j1 kj5 t208 (bt212.2.2.2.2.2.2.2 != t192) t194 t195 t209 t210 t202 t203 t204) else (laws_FnExactMakePuzzle.j1 kj5 t208 true t194 t195 t209 t210 t202 t203 t204)))) else (some false)))) = some true := H
        have A29 := Aside0.mk A290
        clear A290
        replace H := Option.bind_eq_some_iff.mp H
        obtain ⟨t211, A300, H⟩ := H
        replace H : (if t211 < 0 then (some false) else (if t211 = t208 then ((impl_MakePuzzle.f kj5 a0 a1 a2).bind fun bt212 => ((laws_eqPuzzle.f kj5 bt212.1 bt212.2.1 bt212.2.2.1 bt212.2.2.2.1 bt212.2.2.2.2.1 bt212.2.2.2.2.2.1 bt212.2.2.2.2.2.2.1 t181 t182 t183 t186 t189 t190 t191).bind fun t225 => (if t225 = true then (laws_FnExactMakePuzzle.j1 kj5 t208 (bt212.2.2.2.2.2.2.2 != t192) t194 t195 t209 t210 t202 t203 t204) else (laws_FnExactMakePuzzle.j1 kj5 t208 true t194 t195 t209 t210 t202 t203 t204)))) else (some false))) = some true := H
        have A30 := Aside0.mk A300
        clear A300
        by_cases c31 : t211 < 0
        · rw [if_pos c31] at H
          have c31b0 : decide (t211 < 0) = true := decide_eq_true c31
          clear c31
          exact absurd (Option.some.inj H) (by decide)
        · rw [if_neg c31] at H
          have c31b0 : decide (t211 < 0) = false := decide_eq_false c31
          clear c31
          by_cases c37 : t211 = t208
          · rw [if_pos c37] at H
            have c37b0 : (t211 == t208) = true := beq_iff_eq.mpr c37
            have c37b1 : (t211 != t208) = false := bne_eq_false_iff_eq.mpr c37
            clear c37
            replace H := Option.bind_eq_some_iff.mp H
            obtain ⟨⟨t212, t213, t214, t217, t220, t221, t222, t223⟩, A380, H⟩ := H
            replace H : ((laws_eqPuzzle.f kj5 t212 t213 t214 t217 t220 t221 t222 t181 t182 t183 t186 t189 t190 t191).bind fun t225 => (if t225 = true then (laws_FnExactMakePuzzle.j1 kj5 t208 (t223 != t192) t194 t195 t209 t210 t202 t203 t204) else (laws_FnExactMakePuzzle.j1 kj5 t208 true t194 t195 t209 t210 t202 t203 t204))) = some true := H
            have A38 := Aside0.mk A380
            clear A380
            have HC39 := Aside0.mk H
            clear H
            have hnb40 := NB206_193.out
            have hnc40 := NB193_206.out
            have hcz41_0 : wc.cell? ⟨gb206, 0, none⟩ = some (.int .i64 t194) := (blk_cell BK206.out 0).trans rfl
            have hcz41_1 : wc.cell? ⟨gb206, 1, none⟩ = some (.int .i64 t195) := (blk_cell BK206.out 1).trans rfl
            have hcz41_2 : wc.cell? ⟨gb206, 2, none⟩ = some (.slice Ao16 t196.length co16) := (blk_cell BK206.out 2).trans rfl
            have hcz41_3 : wc.cell? ⟨gb206, 3, none⟩ = some (.slice Ao17 t199.length co17) := (blk_cell BK206.out 3).trans rfl
            have hcz41_4 : wc.cell? ⟨gb206, 4, none⟩ = some (.int .i64 t202) := (blk_cell BK206.out 4).trans rfl
            have hcz41_5 : wc.cell? ⟨gb206, 5, none⟩ = some (.bool t203) := (blk_cell BK206.out 5).trans rfl
            have hcz41_6 : wc.cell? ⟨gb206, 6, none⟩ = some (.int .i64 t204) := (blk_cell BK206.out 6).trans rfl
            have hfz41_0 := blk_frozen BK206.out 0
            have hfz41_1 := blk_frozen BK206.out 1
            have hfz41_2 := blk_frozen BK206.out 2
            have hfz41_3 := blk_frozen BK206.out 3
            have hfz41_4 := blk_frozen BK206.out 4
            have hfz41_5 := blk_frozen BK206.out 5
            have hfz41_6 := blk_frozen BK206.out 6
            go_upto_region 14 with (first | ((with_reducible refine gate_callee (f := 13) rfl ?_); refine goesL_ (some 40) rfl rfl Tryd.func13 (by kernel_rfl) rfl #[.agg #[.int .i64 t194, .int .i64 t195, .slice Ao16 t196.length co16, .slice Ao17 t199.length co17, .int .i64 t202, .bool t203, .int .i64 t204], .int .i64 101] rfl (by (try simp only [List.map_toArray, List.map_cons, List.map_nil]); first | done | rfl | (simp only [List.length_drop, List.length_take]; rfl)) ?_; (with_reducible refine (laws_markPuzzle.calls kj5 t194 t195 (fun k_ => some k_ = (.slice Ao16 t196.length co16 : Value).ownBlock) (.slice Ao16 t196.length co16) t196 (fun k_ => some k_ = (.slice Ao17 t199.length co17 : Value).ownBlock) (.slice Ao17 t199.length co17) t199 t202 t203 t204 101 t208 t209 t210 w _ ?side1 ?side2 ?side3 ?side4 ?side5 A29.out).mono ?_); (case side1 => repeat (first | (with_reducible first | exact HB.out | apply below_alloc | apply pw_below_drewN | apply below_drew1 | refine below_set ?_ GE193.out | refine below_set ?_ GE206.out) | exact HB.out)); (case side2 => exact Kd.R_tight rfl HO_207002.out); (case side3 => exact fun k_ e_ => (HO_207002.out.1 k_ e_.symm).2.2); (case side4 => exact Kd.R_tight rfl HO_207003.out); (case side5 => exact fun k_ e_ => (HO_207003.out.1 k_ e_.symm).2.2); rintro e w42 ⟨rfl, hy0, hy1, hb, hkp⟩; refine ⟨_, rfl, ?_⟩; have n0_ := Aside0.mk (Kd.R_mono (ok' := fun k_ => some k_ ≠ (.slice Ao11 t186.length co11 : Value).ownBlock ∧ some k_ ≠ (.slice Ao16 t196.length co16 : Value).ownBlock ∧ some k_ ≠ (.slice Ao17 t199.length co17 : Value).ownBlock) (Kd.R_keptB (HO_194002.out) hkp (fun k_ hk_ hs_ => Or.elim hs_ (fun e_ => (hk_.2.1) e_) (fun e_ => (hk_.2.2) e_))) (fun k_ hk_ => ⟨hk_.1.1, hk_.1.2.1, hk_.1.2.2⟩)); have n1_ := Aside0.mk (Kd.R_mono (ok' := fun k_ => some k_ ≠ (.slice Ao10 t183.length co10 : Value).ownBlock ∧ some k_ ≠ (.slice Ao16 t196.length co16 : Value).ownBlock ∧ some k_ ≠ (.slice Ao17 t199.length co17 : Value).ownBlock) (Kd.R_keptB (HO_194003.out) hkp (fun k_ hk_ hs_ => Or.elim hs_ (fun e_ => (hk_.2.1) e_) (fun e_ => (hk_.2.2) e_))) (fun k_ hk_ => ⟨hk_.1.1, hk_.1.2.1, hk_.1.2.2⟩)); have n2_ := Aside0.mk (Kd.R_reok rfl hy0 (fun k_ e_ => HO_207002.out.1 k_ e_)); have n3_ := Aside0.mk (Kd.R_reok rfl hy1 (fun k_ e_ => HO_207003.out.1 k_ e_)); have n4_ := Aside0.mk (blk_kept (by (with_reducible repeat (first | refine blk_drewN ?_ _ | refine blk_drew ?_ | refine blk_alloc ?_ _)); exact BK193.out) hkp (fun hs_ => Or.elim hs_ (fun e_ => (fun e_ => (Kd.R_ne HO_207002.out BK193.out (by decide)) e_) e_) (fun e_ => (fun e_ => (Kd.R_ne HO_207003.out BK193.out (by decide)) e_) e_))); have n5_ := Aside0.mk (blk_kept (by (with_reducible repeat (first | refine blk_drewN ?_ _ | refine blk_drew ?_ | refine blk_alloc ?_ _)); exact BK206.out) hkp (fun hs_ => Or.elim hs_ (fun e_ => (fun e_ => (Kd.R_ne HO_207002.out BK206.out (by decide)) e_) e_) (fun e_ => (fun e_ => (Kd.R_ne HO_207003.out BK206.out (by decide)) e_) e_))); have n6_ := Aside0.mk (hb); clear HO_194002; clear HO_194003; clear HO_207002; clear HO_207003; clear BK193; clear BK206; clear HB; have HO_194002 := n0_; have HO_194003 := n1_; have HO_207002 := n2_; have HO_207003 := n3_; have BK193 := n4_; have BK206 := n5_; have HB := n6_; clear n0_ n1_ n2_ n3_ n4_ n5_ n6_; (try clear hb); (try clear hkp); (try clear hy0); (try clear hy1); have hcz43_0 : w42.cell? ⟨gb206, 0, none⟩ = some (.int .i64 t194) := (blk_cell BK206.out 0).trans rfl; have hcz43_1 : w42.cell? ⟨gb206, 1, none⟩ = some (.int .i64 t195) := (blk_cell BK206.out 1).trans rfl; have hcz43_2 : w42.cell? ⟨gb206, 2, none⟩ = some (.slice Ao16 t196.length co16) := (blk_cell BK206.out 2).trans rfl; have hcz43_3 : w42.cell? ⟨gb206, 3, none⟩ = some (.slice Ao17 t199.length co17) := (blk_cell BK206.out 3).trans rfl; have hcz43_4 : w42.cell? ⟨gb206, 4, none⟩ = some (.int .i64 t202) := (blk_cell BK206.out 4).trans rfl; have hcz43_5 : w42.cell? ⟨gb206, 5, none⟩ = some (.bool t203) := (blk_cell BK206.out 5).trans rfl; have hcz43_6 : w42.cell? ⟨gb206, 6, none⟩ = some (.int .i64 t204) := (blk_cell BK206.out 6).trans rfl; have hfz43_0 := blk_frozen BK206.out 0; have hfz43_1 := blk_frozen BK206.out 1; have hfz43_2 := blk_frozen BK206.out 2; have hfz43_3 := blk_frozen BK206.out 3; have hfz43_4 := blk_frozen BK206.out 4; have hfz43_5 := blk_frozen BK206.out 5; have hfz43_6 := blk_frozen BK206.out 6) | ((with_reducible refine gate_callee (f := 14) rfl ?_); refine goesL_ (some 43) rfl rfl Tryd.func14 (by kernel_rfl) rfl #[.agg #[.int .i64 t194, .int .i64 t195, .slice Ao16 t209.length co16, .slice Ao17 t210.length co17, .int .i64 t202, .bool t203, .int .i64 t204], .int .i64 101] rfl (by (try simp only [List.map_toArray, List.map_cons, List.map_nil]); first | done | (rw [show t209.length = t196.length from (Kd.R_reads' HO_207002.out).1.symm, show t210.length = t199.length from (Kd.R_reads' HO_207003.out).1.symm] <;> rfl) | rfl | (simp only [List.length_drop, List.length_take]; rfl)) ?_; (with_reducible refine (laws_heldPuzzle.calls kj5 t194 t195 _ _ t209 _ _ t210 t202 t203 t204 101 t211 _ ?side1 ?side2 ?side3 ?side4 A30.out).mono ?_); (case side1 => repeat (first | exact (Kd.R_reads' HO_207002.out).2.2 | (with_reducible refine Kd.C_alloc ?_ _) | (with_reducible refine Kd.C_drewN ?_ _) | (with_reducible refine Kd.C_drew ?_))); (case side2 => rw [show t209.length = t196.length from (Kd.R_reads' HO_207002.out).1.symm]; exact (Kd.R_reads' HO_207002.out).2.1); (case side3 => repeat (first | exact (Kd.R_reads' HO_207003.out).2.2 | (with_reducible refine Kd.C_alloc ?_ _) | (with_reducible refine Kd.C_drewN ?_ _) | (with_reducible refine Kd.C_drew ?_))); (case side4 => rw [show t210.length = t199.length from (Kd.R_reads' HO_207003.out).1.symm]; exact (Kd.R_reads' HO_207003.out).2.1); rintro e w44 ⟨rfl, hb⟩; refine ⟨_, rfl, ?_⟩; have n0_ := Aside0.mk (Kd.R_below (by (with_reducible repeat (first | apply Kd.R_alloc | apply Kd.R_drewN | apply Kd.R_drew)); exact HO_194002.out) hb); have n1_ := Aside0.mk (Kd.R_below (by (with_reducible repeat (first | apply Kd.R_alloc | apply Kd.R_drewN | apply Kd.R_drew)); exact HO_194003.out) hb); have n2_ := Aside0.mk (Kd.R_below (by (with_reducible repeat (first | apply Kd.R_alloc | apply Kd.R_drewN | apply Kd.R_drew)); exact HO_207002.out) hb); have n3_ := Aside0.mk (Kd.R_below (by (with_reducible repeat (first | apply Kd.R_alloc | apply Kd.R_drewN | apply Kd.R_drew)); exact HO_207003.out) hb); have n4_ := Aside0.mk (blk_below (g := gb193) (o := .cells #[.int .i64 t181, .int .i64 t182, .slice Ao10 t183.length co10, .slice Ao11 t186.length co11, .int .i64 t189, .bool t190, .int .i64 t191] 32 (0, 0)) (by (with_reducible repeat (first | refine blk_drewN ?_ _ | refine blk_drew ?_ | refine blk_alloc ?_ _)); exact BK193.out) hb); have n5_ := Aside0.mk (blk_below (g := gb206) (o := .cells #[.int .i64 t194, .int .i64 t195, .slice Ao16 t196.length co16, .slice Ao17 t199.length co17, .int .i64 t202, .bool t203, .int .i64 t204] 32 (0, 0)) (by (with_reducible repeat (first | refine blk_drewN ?_ _ | refine blk_drew ?_ | refine blk_alloc ?_ _)); exact BK206.out) hb); have n6_ := Aside0.mk (below_step (by repeat (first | (with_reducible first | exact HB.out | apply below_alloc | apply pw_below_drewN | apply below_drew1 | refine below_set ?_ GE193.out | refine below_set ?_ GE206.out) | exact HB.out)) hb); clear HO_194002; clear HO_194003; clear HO_207002; clear HO_207003; clear BK193; clear BK206; clear HB; have HO_194002 := n0_; have HO_194003 := n1_; have HO_207002 := n2_; have HO_207003 := n3_; have BK193 := n4_; have BK206 := n5_; have HB := n6_; clear n0_ n1_ n2_ n3_ n4_ n5_ n6_; (try clear hb); (try clear hb2); (try clear hk); (try clear hi)) | ((with_reducible refine gate_callee (f := 11) rfl ?_); refine goesL_ (some 53) rfl rfl Tryd.func11 (by kernel_rfl) rfl #[.int .i64 a0, .int .i64 a1, .int .i64 a2] rfl (by (try simp only [List.map_toArray, List.map_cons, List.map_nil]); first | done | rfl | (simp only [List.length_drop, List.length_take]; rfl)) ?_; (with_reducible refine (impl_MakePuzzle.calls kj5 a0 a1 a2 t212 t213 t214 t217 t220 t221 t222 t223 _ ?side1 A38.out).mono ?_); (case side1 => exact tz_below HT.out (by repeat (first | (with_reducible first | exact HB.out | apply below_alloc | apply pw_below_drewN | apply below_drew1 | refine below_set ?_ GE193.out | refine below_set ?_ GE206.out) | exact HB.out))); rintro e w45 ⟨v215, v218, rfl, ho0, ho1, hb⟩; refine ⟨_, rfl, ?_⟩; have n0_ := Aside0.mk (Kd.R_mono (Kd.R_told (Kd.R_told (Kd.R_old (by (with_reducible repeat (first | apply Kd.R_alloc | apply Kd.R_drewN | apply Kd.R_drew)); exact HO_194002.out) hb) (Kd.R_base ho0)) (Kd.R_base ho1)) (fun _ h_ => h_.1)); have n1_ := Aside0.mk (Kd.R_mono (Kd.R_told (Kd.R_told (Kd.R_old (by (with_reducible repeat (first | apply Kd.R_alloc | apply Kd.R_drewN | apply Kd.R_drew)); exact HO_194003.out) hb) (Kd.R_base ho0)) (Kd.R_base ho1)) (fun _ h_ => h_.1)); have n2_ := Aside0.mk (Kd.R_mono (Kd.R_told (Kd.R_told (Kd.R_old (by (with_reducible repeat (first | apply Kd.R_alloc | apply Kd.R_drewN | apply Kd.R_drew)); exact HO_207002.out) hb) (Kd.R_base ho0)) (Kd.R_base ho1)) (fun _ h_ => h_.1)); have n3_ := Aside0.mk (Kd.R_mono (Kd.R_told (Kd.R_told (Kd.R_old (by (with_reducible repeat (first | apply Kd.R_alloc | apply Kd.R_drewN | apply Kd.R_drew)); exact HO_207003.out) hb) (Kd.R_base ho0)) (Kd.R_base ho1)) (fun _ h_ => h_.1)); have n4_ := Aside0.mk (Kd.R_lower (Kd.R_new' (Kd.R_new' (Kd.R_new' (Kd.R_new' ho0 (Kd.R_lt (by (with_reducible repeat (first | apply Kd.R_alloc | apply Kd.R_drewN | apply Kd.R_drew)); exact HO_194002.out))) (Kd.R_lt (by (with_reducible repeat (first | apply Kd.R_alloc | apply Kd.R_drewN | apply Kd.R_drew)); exact HO_194003.out))) (Kd.R_lt (by (with_reducible repeat (first | apply Kd.R_alloc | apply Kd.R_drewN | apply Kd.R_drew)); exact HO_207002.out))) (Kd.R_lt (by (with_reducible repeat (first | apply Kd.R_alloc | apply Kd.R_drewN | apply Kd.R_drew)); exact HO_207003.out))) (below_size (by repeat (first | (with_reducible first | exact HB.out | apply below_alloc | apply pw_below_drewN | apply below_drew1 | refine below_set ?_ GE193.out | refine below_set ?_ GE206.out) | exact HB.out)))); have n5_ := Aside0.mk (Kd.R_lower (Kd.R_new' (Kd.R_new' (Kd.R_new' (Kd.R_new' ho1 (Kd.R_lt (by (with_reducible repeat (first | apply Kd.R_alloc | apply Kd.R_drewN | apply Kd.R_drew)); exact HO_194002.out))) (Kd.R_lt (by (with_reducible repeat (first | apply Kd.R_alloc | apply Kd.R_drewN | apply Kd.R_drew)); exact HO_194003.out))) (Kd.R_lt (by (with_reducible repeat (first | apply Kd.R_alloc | apply Kd.R_drewN | apply Kd.R_drew)); exact HO_207002.out))) (Kd.R_lt (by (with_reducible repeat (first | apply Kd.R_alloc | apply Kd.R_drewN | apply Kd.R_drew)); exact HO_207003.out))) (below_size (by repeat (first | (with_reducible first | exact HB.out | apply below_alloc | apply pw_below_drewN | apply below_drew1 | refine below_set ?_ GE193.out | refine below_set ?_ GE206.out) | exact HB.out)))); have n6_ := Aside0.mk (blk_below (g := gb193) (o := .cells #[.int .i64 t181, .int .i64 t182, .slice Ao10 t183.length co10, .slice Ao11 t186.length co11, .int .i64 t189, .bool t190, .int .i64 t191] 32 (0, 0)) (by (with_reducible repeat (first | refine blk_drewN ?_ _ | refine blk_drew ?_ | refine blk_alloc ?_ _)); exact BK193.out) hb); have n7_ := Aside0.mk (blk_below (g := gb206) (o := .cells #[.int .i64 t194, .int .i64 t195, .slice Ao16 t196.length co16, .slice Ao17 t199.length co17, .int .i64 t202, .bool t203, .int .i64 t204] 32 (0, 0)) (by (with_reducible repeat (first | refine blk_drewN ?_ _ | refine blk_drew ?_ | refine blk_alloc ?_ _)); exact BK206.out) hb); have n8_ := Aside0.mk (below_step (by repeat (first | (with_reducible first | exact HB.out | apply below_alloc | apply pw_below_drewN | apply below_drew1 | refine below_set ?_ GE193.out | refine below_set ?_ GE206.out) | exact HB.out)) hb); clear HO_194002; clear HO_194003; clear HO_207002; clear HO_207003; clear BK193; clear BK206; clear HB; have HO_194002 := n0_; have HO_194003 := n1_; have HO_207002 := n2_; have HO_207003 := n3_; have HO216 := n4_; have HO219 := n5_; have BK193 := n6_; have BK206 := n7_; have HB := n8_; clear n0_ n1_ n2_ n3_ n4_ n5_ n6_ n7_ n8_; (try clear hb); (try clear hb2); (try clear hk); (try clear hi); (try clear ho0); (try clear ho1)) | ((with_reducible refine gate_dst (N := 13) rfl ?_); refine box_event ?hg (N := 13) ?hd (cs := #[.int .i64 0, .int .i64 0, .slice none 0 0, .slice none 0 0, .int .i64 0, .bool false, .int .i64 0]) (t := 32) ?hr ?_; (case hd => rfl); (case hg => rfl); (case hr => first | (go_simp; done) | (go_simp; rfl)); intro gb224 hg w46 hbox hb; have n0_ := Aside0.mk (Kd.R_below (by (with_reducible repeat (first | apply Kd.R_alloc | apply Kd.R_drewN | apply Kd.R_drew)); exact HO_194002.out) hb); have n1_ := Aside0.mk (Kd.R_below (by (with_reducible repeat (first | apply Kd.R_alloc | apply Kd.R_drewN | apply Kd.R_drew)); exact HO_194003.out) hb); have n2_ := Aside0.mk (Kd.R_below (by (with_reducible repeat (first | apply Kd.R_alloc | apply Kd.R_drewN | apply Kd.R_drew)); exact HO_207002.out) hb); have n3_ := Aside0.mk (Kd.R_below (by (with_reducible repeat (first | apply Kd.R_alloc | apply Kd.R_drewN | apply Kd.R_drew)); exact HO_207003.out) hb); have n4_ := Aside0.mk (Kd.R_below (by (with_reducible repeat (first | apply Kd.R_alloc | apply Kd.R_drewN | apply Kd.R_drew)); exact HO216.out) hb); have n5_ := Aside0.mk (Kd.R_below (by (with_reducible repeat (first | apply Kd.R_alloc | apply Kd.R_drewN | apply Kd.R_drew)); exact HO219.out) hb); have n6_ := Aside0.mk (blk_below (g := gb193) (o := .cells #[.int .i64 t181, .int .i64 t182, .slice Ao10 t183.length co10, .slice Ao11 t186.length co11, .int .i64 t189, .bool t190, .int .i64 t191] 32 (0, 0)) (by (with_reducible repeat (first | refine blk_drewN ?_ _ | refine blk_drew ?_ | refine blk_alloc ?_ _)); exact BK193.out) hb); have n7_ := Aside0.mk (blk_below (g := gb206) (o := .cells #[.int .i64 t194, .int .i64 t195, .slice Ao16 t196.length co16, .slice Ao17 t199.length co17, .int .i64 t202, .bool t203, .int .i64 t204] 32 (0, 0)) (by (with_reducible repeat (first | refine blk_drewN ?_ _ | refine blk_drew ?_ | refine blk_alloc ?_ _)); exact BK206.out) hb); have n8_ := Aside0.mk (below_step (by repeat (first | (with_reducible first | exact HB.out | apply below_alloc | apply pw_below_drewN | apply below_drew1 | refine below_set ?_ GE193.out | refine below_set ?_ GE206.out) | exact HB.out)) hb); have n9_ := Aside0.mk (hbox); have n10_ := Aside0.mk ((by rw [hg]; exact (below_size (by repeat (first | (with_reducible first | exact HB.out | apply below_alloc | apply pw_below_drewN | apply below_drew1 | refine below_set ?_ GE193.out | refine below_set ?_ GE206.out) | exact HB.out))) : w.heap.size ≤ gb224)); have n11_ := Aside0.mk ((by rw [hg]; exact (below_size (by repeat (first | (with_reducible first | exact HB.out | apply below_alloc | apply pw_below_drewN | apply below_drew1 | refine below_set ?_ GE193.out | refine below_set ?_ GE206.out) | exact HB.out))) : w.heap.size ≤ gb224)); have n12_ := Aside0.mk ((by rw [hg]; exact Nat.ne_of_lt (blk_lt (g := gb193) (o := .cells #[.int .i64 t181, .int .i64 t182, .slice Ao10 t183.length co10, .slice Ao11 t186.length co11, .int .i64 t189, .bool t190, .int .i64 t191] 32 (0, 0)) (by (with_reducible repeat (first | refine blk_drewN ?_ _ | refine blk_drew ?_ | refine blk_alloc ?_ _)); exact BK193.out)) : gb193 ≠ gb224)); have n13_ := Aside0.mk ((by rw [hg]; exact Nat.ne_of_gt (blk_lt (g := gb193) (o := .cells #[.int .i64 t181, .int .i64 t182, .slice Ao10 t183.length co10, .slice Ao11 t186.length co11, .int .i64 t189, .bool t190, .int .i64 t191] 32 (0, 0)) (by (with_reducible repeat (first | refine blk_drewN ?_ _ | refine blk_drew ?_ | refine blk_alloc ?_ _)); exact BK193.out)) : gb224 ≠ gb193)); have n14_ := Aside0.mk ((by rw [hg]; exact Nat.ne_of_lt (blk_lt (g := gb206) (o := .cells #[.int .i64 t194, .int .i64 t195, .slice Ao16 t196.length co16, .slice Ao17 t199.length co17, .int .i64 t202, .bool t203, .int .i64 t204] 32 (0, 0)) (by (with_reducible repeat (first | refine blk_drewN ?_ _ | refine blk_drew ?_ | refine blk_alloc ?_ _)); exact BK206.out)) : gb206 ≠ gb224)); have n15_ := Aside0.mk ((by rw [hg]; exact Nat.ne_of_gt (blk_lt (g := gb206) (o := .cells #[.int .i64 t194, .int .i64 t195, .slice Ao16 t196.length co16, .slice Ao17 t199.length co17, .int .i64 t202, .bool t203, .int .i64 t204] 32 (0, 0)) (by (with_reducible repeat (first | refine blk_drewN ?_ _ | refine blk_drew ?_ | refine blk_alloc ?_ _)); exact BK206.out)) : gb224 ≠ gb206)); clear HO_194002; clear HO_194003; clear HO_207002; clear HO_207003; clear HO216; clear HO219; clear BK193; clear BK206; clear HB; have HO_194002 := n0_; have HO_194003 := n1_; have HO_207002 := n2_; have HO_207003 := n3_; have HO216 := n4_; have HO219 := n5_; have BK193 := n6_; have BK206 := n7_; have HB := n8_; have BK224 := n9_; have GW224 := n10_; have GE224 := n11_; have NB193_224 := n12_; have NB224_193 := n13_; have NB206_224 := n14_; have NB224_206 := n15_; clear n0_ n1_ n2_ n3_ n4_ n5_ n6_ n7_ n8_ n9_ n10_ n11_ n12_ n13_ n14_ n15_; clear hb hbox hg; have hnb47 := NB224_193.out; have hnc47 := NB193_224.out; have hnb48 := NB224_206.out; have hnc48 := NB206_224.out; have hcz49_0 : w46.cell? ⟨gb224, 0, none⟩ = some (.int .i64 0) := (blk_cell BK224.out 0).trans rfl; have hcz49_1 : w46.cell? ⟨gb224, 1, none⟩ = some (.int .i64 0) := (blk_cell BK224.out 1).trans rfl; have hcz49_2 : w46.cell? ⟨gb224, 2, none⟩ = some (.slice none 0 0) := (blk_cell BK224.out 2).trans rfl; have hcz49_3 : w46.cell? ⟨gb224, 3, none⟩ = some (.slice none 0 0) := (blk_cell BK224.out 3).trans rfl; have hcz49_4 : w46.cell? ⟨gb224, 4, none⟩ = some (.int .i64 0) := (blk_cell BK224.out 4).trans rfl; have hcz49_5 : w46.cell? ⟨gb224, 5, none⟩ = some (.bool false) := (blk_cell BK224.out 5).trans rfl; have hcz49_6 : w46.cell? ⟨gb224, 6, none⟩ = some (.int .i64 0) := (blk_cell BK224.out 6).trans rfl; have hfz49_0 := blk_frozen BK224.out 0; have hfz49_1 := blk_frozen BK224.out 1; have hfz49_2 := blk_frozen BK224.out 2; have hfz49_3 := blk_frozen BK224.out 3; have hfz49_4 := blk_frozen BK224.out 4; have hfz49_5 := blk_frozen BK224.out 5; have hfz49_6 := blk_frozen BK224.out 6; obtain ⟨Ao50, co50, eo50⟩ := Kd.R_slice HO216.out; subst eo50; obtain ⟨Ao51, co51, eo51⟩ := Kd.R_slice HO219.out; subst eo51))
            (try simp only [Act.put, List.setIfInBounds_toArray, List.set_cons_zero, List.set_cons_succ])
            go_cut [64] (fun v64 wc => ∃ (kq : Nat) (x64_38 : Bool), v64 = .bool x64_38 ∧ Aside0 (laws_FnExactMakePuzzle.j1 kq t208 x64_38 t194 t195 t209 t210 t202 t203 t204 = some true) ∧ Aside0 (kq ≤ kj5) ∧ Aside0 (Kd.R (Kd.int .i64) 3 wc w.heap.size (fun k_ => some k_ ≠ ((.slice Ao11 t186.length co11) : Value).ownBlock ∧ some k_ ≠ ((.slice Ao16 t196.length co16) : Value).ownBlock ∧ some k_ ≠ ((.slice Ao17 t199.length co17) : Value).ownBlock ∧ some k_ ≠ ((.slice Ao50 t214.length co50) : Value).ownBlock ∧ some k_ ≠ ((.slice Ao51 t217.length co51) : Value).ownBlock) (.slice Ao10 t183.length co10) t183) ∧ Aside0 (Kd.R (Kd.int .i64) 3 wc w.heap.size (fun k_ => some k_ ≠ ((.slice Ao10 t183.length co10) : Value).ownBlock ∧ some k_ ≠ ((.slice Ao16 t196.length co16) : Value).ownBlock ∧ some k_ ≠ ((.slice Ao17 t199.length co17) : Value).ownBlock ∧ some k_ ≠ ((.slice Ao50 t214.length co50) : Value).ownBlock ∧ some k_ ≠ ((.slice Ao51 t217.length co51) : Value).ownBlock) (.slice Ao11 t186.length co11) t186) ∧ Aside0 (Kd.R (Kd.int .i64) 3 wc w.heap.size (fun k_ => some k_ ≠ ((.slice Ao10 t183.length co10) : Value).ownBlock ∧ some k_ ≠ ((.slice Ao11 t186.length co11) : Value).ownBlock ∧ some k_ ≠ ((.slice Ao17 t199.length co17) : Value).ownBlock ∧ some k_ ≠ ((.slice Ao50 t214.length co50) : Value).ownBlock ∧ some k_ ≠ ((.slice Ao51 t217.length co51) : Value).ownBlock) (.slice Ao16 t196.length co16) t209) ∧ Aside0 (Kd.R (Kd.int .i64) 3 wc w.heap.size (fun k_ => some k_ ≠ ((.slice Ao10 t183.length co10) : Value).ownBlock ∧ some k_ ≠ ((.slice Ao11 t186.length co11) : Value).ownBlock ∧ some k_ ≠ ((.slice Ao16 t196.length co16) : Value).ownBlock ∧ some k_ ≠ ((.slice Ao50 t214.length co50) : Value).ownBlock ∧ some k_ ≠ ((.slice Ao51 t217.length co51) : Value).ownBlock) (.slice Ao17 t199.length co17) t210) ∧ Aside0 (Kd.R (Kd.int .i64) 3 wc w.heap.size (fun k_ => some k_ ≠ ((.slice Ao10 t183.length co10) : Value).ownBlock ∧ some k_ ≠ ((.slice Ao11 t186.length co11) : Value).ownBlock ∧ some k_ ≠ ((.slice Ao16 t196.length co16) : Value).ownBlock ∧ some k_ ≠ ((.slice Ao17 t199.length co17) : Value).ownBlock ∧ some k_ ≠ ((.slice Ao51 t217.length co51) : Value).ownBlock) (.slice Ao50 t214.length co50) t214) ∧ Aside0 (Kd.R (Kd.int .i64) 3 wc w.heap.size (fun k_ => some k_ ≠ ((.slice Ao10 t183.length co10) : Value).ownBlock ∧ some k_ ≠ ((.slice Ao11 t186.length co11) : Value).ownBlock ∧ some k_ ≠ ((.slice Ao16 t196.length co16) : Value).ownBlock ∧ some k_ ≠ ((.slice Ao17 t199.length co17) : Value).ownBlock ∧ some k_ ≠ ((.slice Ao50 t214.length co50) : Value).ownBlock) (.slice Ao51 t217.length co51) t217) ∧ Aside0 (wc.heap[gb193]? = some (.cells #[.int .i64 t181, .int .i64 t182, (.slice Ao10 t183.length co10), (.slice Ao11 t186.length co11), .int .i64 t189, .bool t190, .int .i64 t191] 32 (0, 0))) ∧ Aside0 (wc.heap[gb206]? = some (.cells #[.int .i64 t194, .int .i64 t195, (.slice Ao16 t196.length co16), (.slice Ao17 t199.length co17), .int .i64 t202, .bool t203, .int .i64 t204] 32 (0, 0))) ∧ Aside0 (wc.heap[gb224]? = some (.cells #[.int .i64 t212, .int .i64 t213, (.slice Ao50 t214.length co50), (.slice Ao51 t217.length co51), .int .i64 t220, .bool t221, .int .i64 t222] 32 (0, 0))) ∧ Aside0 (Below w.heap.size w wc))
            case first =>
              have H := HC39.out
              clear HC39
              replace H := Option.bind_eq_some_iff.mp H
              obtain ⟨t225, A520, H⟩ := H
              replace H : (if t225 = true then (laws_FnExactMakePuzzle.j1 kj5 t208 (t223 != t192) t194 t195 t209 t210 t202 t203 t204) else (laws_FnExactMakePuzzle.j1 kj5 t208 true t194 t195 t209 t210 t202 t203 t204)) = some true := H
              have A52 := Aside0.mk A520
              clear A520
              by_cases c53 : t225 = true
              · subst c53
                have H1 : (laws_FnExactMakePuzzle.j1 kj5 t208 (t223 != t192) t194 t195 t209 t210 t202 t203 t204) = some true := by rw [if_pos rfl] at H; exact H
                clear H
                have H := H1
                clear H1
                have H' := Aside0.mk H
                clear H
                have hnb54 := NB224_193.out
                have hnc54 := NB193_224.out
                have hnb55 := NB224_206.out
                have hnc55 := NB206_224.out
                have hcz56_0 : w46.cell? ⟨gb224, 0, none⟩ = some (.int .i64 0) := (blk_cell BK224.out 0).trans rfl
                have hcz56_1 : w46.cell? ⟨gb224, 1, none⟩ = some (.int .i64 0) := (blk_cell BK224.out 1).trans rfl
                have hcz56_2 : w46.cell? ⟨gb224, 2, none⟩ = some (.slice none 0 0) := (blk_cell BK224.out 2).trans rfl
                have hcz56_3 : w46.cell? ⟨gb224, 3, none⟩ = some (.slice none 0 0) := (blk_cell BK224.out 3).trans rfl
                have hcz56_4 : w46.cell? ⟨gb224, 4, none⟩ = some (.int .i64 0) := (blk_cell BK224.out 4).trans rfl
                have hcz56_5 : w46.cell? ⟨gb224, 5, none⟩ = some (.bool false) := (blk_cell BK224.out 5).trans rfl
                have hcz56_6 : w46.cell? ⟨gb224, 6, none⟩ = some (.int .i64 0) := (blk_cell BK224.out 6).trans rfl
                have hfz56_0 := blk_frozen BK224.out 0
                have hfz56_1 := blk_frozen BK224.out 1
                have hfz56_2 := blk_frozen BK224.out 2
                have hfz56_3 := blk_frozen BK224.out 3
                have hfz56_4 := blk_frozen BK224.out 4
                have hfz56_5 := blk_frozen BK224.out 5
                have hfz56_6 := blk_frozen BK224.out 6
                have hnb57 := NB193_206.out
                have hnc57 := NB206_193.out
                have hcz58_0 : w46.cell? ⟨gb193, 0, none⟩ = some (.int .i64 t181) := (blk_cell BK193.out 0).trans rfl
                have hcz58_1 : w46.cell? ⟨gb193, 1, none⟩ = some (.int .i64 t182) := (blk_cell BK193.out 1).trans rfl
                have hcz58_2 : w46.cell? ⟨gb193, 2, none⟩ = some (.slice Ao10 t183.length co10) := (blk_cell BK193.out 2).trans rfl
                have hcz58_3 : w46.cell? ⟨gb193, 3, none⟩ = some (.slice Ao11 t186.length co11) := (blk_cell BK193.out 3).trans rfl
                have hcz58_4 : w46.cell? ⟨gb193, 4, none⟩ = some (.int .i64 t189) := (blk_cell BK193.out 4).trans rfl
                have hcz58_5 : w46.cell? ⟨gb193, 5, none⟩ = some (.bool t190) := (blk_cell BK193.out 5).trans rfl
                have hcz58_6 : w46.cell? ⟨gb193, 6, none⟩ = some (.int .i64 t191) := (blk_cell BK193.out 6).trans rfl
                have hfz58_0 := blk_frozen BK193.out 0
                have hfz58_1 := blk_frozen BK193.out 1
                have hfz58_2 := blk_frozen BK193.out 2
                have hfz58_3 := blk_frozen BK193.out 3
                have hfz58_4 := blk_frozen BK193.out 4
                have hfz58_5 := blk_frozen BK193.out 5
                have hfz58_6 := blk_frozen BK193.out 6
                go_wp2_with (first | ((with_reducible refine gate_callee (f := 12) rfl ?_); refine goesL_ (some 58) rfl rfl Tryd.func12 (by kernel_rfl) rfl #[.agg #[.int .i64 t212, .int .i64 t213, .slice Ao50 t214.length co50, .slice Ao51 t217.length co51, .int .i64 t220, .bool t221, .int .i64 t222], .agg #[.int .i64 t181, .int .i64 t182, .slice Ao10 t183.length co10, .slice Ao11 t186.length co11, .int .i64 t189, .bool t190, .int .i64 t191]] rfl (by (try simp only [List.map_toArray, List.map_cons, List.map_nil]); first | done | rfl | (simp only [List.length_drop, List.length_take]; rfl)) ?_; (with_reducible refine (laws_eqPuzzle.calls kj5 t212 t213 _ _ t214 _ _ t217 t220 t221 t222 t181 t182 _ _ t183 _ _ t186 t189 t190 t191 true _ ?side1 ?side2 ?side3 ?side4 ?side5 ?side6 ?side7 ?side8 A52.out).mono ?_); (case side1 => refine (Kd.R_reads' (e := 3) (base := w.heap.size) (ok := fun k_ => ((((some k_ ≠ (.slice Ao51 t217.length co51 : Value).ownBlock ∧ some k_ ≠ (.slice Ao10 t183.length co10 : Value).ownBlock) ∧ some k_ ≠ (.slice Ao11 t186.length co11 : Value).ownBlock) ∧ some k_ ≠ (.slice Ao16 t196.length co16 : Value).ownBlock) ∧ some k_ ≠ (.slice Ao17 t199.length co17 : Value).ownBlock)) (n := t214.length) (c := co50) ?_).2.2; exact (by (with_reducible repeat (first | apply Kd.R_alloc | apply Kd.R_drewN | apply Kd.R_drew)); exact (Kd.R_mono (Kd.R_far (p := ⟨gb224, 6, none⟩) (Kd.R_far (p := ⟨gb224, 5, none⟩) (Kd.R_far (p := ⟨gb224, 4, none⟩) (Kd.R_far (p := ⟨gb224, 3, none⟩) (Kd.R_far (p := ⟨gb224, 2, none⟩) (Kd.R_far (p := ⟨gb224, 1, none⟩) (Kd.R_far (p := ⟨gb224, 0, none⟩) (Kd.R_types HO216.out BK224.out (by decide)) (fun _ hk => hk.2) (.int .i64 t212)) (fun _ hk => hk.2) (.int .i64 t213)) (fun _ hk => hk.2) (.slice Ao50 t214.length co50)) (fun _ hk => hk.2) (.slice Ao51 t217.length co51)) (fun _ hk => hk.2) (.int .i64 t220)) (fun _ hk => hk.2) (.bool t221)) (fun _ hk => hk.2) (.int .i64 t222)) (fun _ h_ => h_.1)))); (case side2 => exact (Kd.R_reads' HO216.out).2.1); (case side3 => refine (Kd.R_reads' (e := 3) (base := w.heap.size) (ok := fun k_ => ((((some k_ ≠ (.slice Ao50 t214.length co50 : Value).ownBlock ∧ some k_ ≠ (.slice Ao10 t183.length co10 : Value).ownBlock) ∧ some k_ ≠ (.slice Ao11 t186.length co11 : Value).ownBlock) ∧ some k_ ≠ (.slice Ao16 t196.length co16 : Value).ownBlock) ∧ some k_ ≠ (.slice Ao17 t199.length co17 : Value).ownBlock)) (n := t217.length) (c := co51) ?_).2.2; exact (by (with_reducible repeat (first | apply Kd.R_alloc | apply Kd.R_drewN | apply Kd.R_drew)); exact (Kd.R_mono (Kd.R_far (p := ⟨gb224, 6, none⟩) (Kd.R_far (p := ⟨gb224, 5, none⟩) (Kd.R_far (p := ⟨gb224, 4, none⟩) (Kd.R_far (p := ⟨gb224, 3, none⟩) (Kd.R_far (p := ⟨gb224, 2, none⟩) (Kd.R_far (p := ⟨gb224, 1, none⟩) (Kd.R_far (p := ⟨gb224, 0, none⟩) (Kd.R_types HO219.out BK224.out (by decide)) (fun _ hk => hk.2) (.int .i64 t212)) (fun _ hk => hk.2) (.int .i64 t213)) (fun _ hk => hk.2) (.slice Ao50 t214.length co50)) (fun _ hk => hk.2) (.slice Ao51 t217.length co51)) (fun _ hk => hk.2) (.int .i64 t220)) (fun _ hk => hk.2) (.bool t221)) (fun _ hk => hk.2) (.int .i64 t222)) (fun _ h_ => h_.1)))); (case side4 => exact (Kd.R_reads' HO219.out).2.1); (case side5 => refine (Kd.R_reads' (e := 3) (base := w.heap.size) (ok := fun k_ => (((some k_ ≠ (.slice Ao11 t186.length co11 : Value).ownBlock ∧ (some k_ ≠ (.slice Ao16 t196.length co16 : Value).ownBlock ∧ some k_ ≠ (.slice Ao17 t199.length co17 : Value).ownBlock)) ∧ some k_ ≠ (.slice Ao50 t214.length co50 : Value).ownBlock) ∧ some k_ ≠ (.slice Ao51 t217.length co51 : Value).ownBlock)) (n := t183.length) (c := co10) ?_).2.2; exact (by (with_reducible repeat (first | apply Kd.R_alloc | apply Kd.R_drewN | apply Kd.R_drew)); exact (Kd.R_mono (Kd.R_far (p := ⟨gb224, 6, none⟩) (Kd.R_far (p := ⟨gb224, 5, none⟩) (Kd.R_far (p := ⟨gb224, 4, none⟩) (Kd.R_far (p := ⟨gb224, 3, none⟩) (Kd.R_far (p := ⟨gb224, 2, none⟩) (Kd.R_far (p := ⟨gb224, 1, none⟩) (Kd.R_far (p := ⟨gb224, 0, none⟩) (Kd.R_types HO_194002.out BK224.out (by decide)) (fun _ hk => hk.2) (.int .i64 t212)) (fun _ hk => hk.2) (.int .i64 t213)) (fun _ hk => hk.2) (.slice Ao50 t214.length co50)) (fun _ hk => hk.2) (.slice Ao51 t217.length co51)) (fun _ hk => hk.2) (.int .i64 t220)) (fun _ hk => hk.2) (.bool t221)) (fun _ hk => hk.2) (.int .i64 t222)) (fun _ h_ => h_.1)))); (case side6 => exact (Kd.R_reads' HO_194002.out).2.1); (case side7 => refine (Kd.R_reads' (e := 3) (base := w.heap.size) (ok := fun k_ => (((some k_ ≠ (.slice Ao10 t183.length co10 : Value).ownBlock ∧ (some k_ ≠ (.slice Ao16 t196.length co16 : Value).ownBlock ∧ some k_ ≠ (.slice Ao17 t199.length co17 : Value).ownBlock)) ∧ some k_ ≠ (.slice Ao50 t214.length co50 : Value).ownBlock) ∧ some k_ ≠ (.slice Ao51 t217.length co51 : Value).ownBlock)) (n := t186.length) (c := co11) ?_).2.2; exact (by (with_reducible repeat (first | apply Kd.R_alloc | apply Kd.R_drewN | apply Kd.R_drew)); exact (Kd.R_mono (Kd.R_far (p := ⟨gb224, 6, none⟩) (Kd.R_far (p := ⟨gb224, 5, none⟩) (Kd.R_far (p := ⟨gb224, 4, none⟩) (Kd.R_far (p := ⟨gb224, 3, none⟩) (Kd.R_far (p := ⟨gb224, 2, none⟩) (Kd.R_far (p := ⟨gb224, 1, none⟩) (Kd.R_far (p := ⟨gb224, 0, none⟩) (Kd.R_types HO_194003.out BK224.out (by decide)) (fun _ hk => hk.2) (.int .i64 t212)) (fun _ hk => hk.2) (.int .i64 t213)) (fun _ hk => hk.2) (.slice Ao50 t214.length co50)) (fun _ hk => hk.2) (.slice Ao51 t217.length co51)) (fun _ hk => hk.2) (.int .i64 t220)) (fun _ hk => hk.2) (.bool t221)) (fun _ hk => hk.2) (.int .i64 t222)) (fun _ h_ => h_.1)))); (case side8 => exact (Kd.R_reads' HO_194003.out).2.1); rintro e w59 ⟨rfl, hb⟩; refine ⟨_, rfl, ?_⟩; have n0_ := Aside0.mk (Kd.R_below (by (with_reducible repeat (first | apply Kd.R_alloc | apply Kd.R_drewN | apply Kd.R_drew)); exact (Kd.R_mono (Kd.R_far (p := ⟨gb224, 6, none⟩) (Kd.R_far (p := ⟨gb224, 5, none⟩) (Kd.R_far (p := ⟨gb224, 4, none⟩) (Kd.R_far (p := ⟨gb224, 3, none⟩) (Kd.R_far (p := ⟨gb224, 2, none⟩) (Kd.R_far (p := ⟨gb224, 1, none⟩) (Kd.R_far (p := ⟨gb224, 0, none⟩) (Kd.R_types HO_194002.out BK224.out (by decide)) (fun _ hk => hk.2) (.int .i64 t212)) (fun _ hk => hk.2) (.int .i64 t213)) (fun _ hk => hk.2) (.slice Ao50 t214.length co50)) (fun _ hk => hk.2) (.slice Ao51 t217.length co51)) (fun _ hk => hk.2) (.int .i64 t220)) (fun _ hk => hk.2) (.bool t221)) (fun _ hk => hk.2) (.int .i64 t222)) (fun _ h_ => h_.1))) hb); have n1_ := Aside0.mk (Kd.R_below (by (with_reducible repeat (first | apply Kd.R_alloc | apply Kd.R_drewN | apply Kd.R_drew)); exact (Kd.R_mono (Kd.R_far (p := ⟨gb224, 6, none⟩) (Kd.R_far (p := ⟨gb224, 5, none⟩) (Kd.R_far (p := ⟨gb224, 4, none⟩) (Kd.R_far (p := ⟨gb224, 3, none⟩) (Kd.R_far (p := ⟨gb224, 2, none⟩) (Kd.R_far (p := ⟨gb224, 1, none⟩) (Kd.R_far (p := ⟨gb224, 0, none⟩) (Kd.R_types HO_194003.out BK224.out (by decide)) (fun _ hk => hk.2) (.int .i64 t212)) (fun _ hk => hk.2) (.int .i64 t213)) (fun _ hk => hk.2) (.slice Ao50 t214.length co50)) (fun _ hk => hk.2) (.slice Ao51 t217.length co51)) (fun _ hk => hk.2) (.int .i64 t220)) (fun _ hk => hk.2) (.bool t221)) (fun _ hk => hk.2) (.int .i64 t222)) (fun _ h_ => h_.1))) hb); have n2_ := Aside0.mk (Kd.R_below (by (with_reducible repeat (first | apply Kd.R_alloc | apply Kd.R_drewN | apply Kd.R_drew)); exact (Kd.R_mono (Kd.R_far (p := ⟨gb224, 6, none⟩) (Kd.R_far (p := ⟨gb224, 5, none⟩) (Kd.R_far (p := ⟨gb224, 4, none⟩) (Kd.R_far (p := ⟨gb224, 3, none⟩) (Kd.R_far (p := ⟨gb224, 2, none⟩) (Kd.R_far (p := ⟨gb224, 1, none⟩) (Kd.R_far (p := ⟨gb224, 0, none⟩) (Kd.R_types HO_207002.out BK224.out (by decide)) (fun _ hk => hk.2) (.int .i64 t212)) (fun _ hk => hk.2) (.int .i64 t213)) (fun _ hk => hk.2) (.slice Ao50 t214.length co50)) (fun _ hk => hk.2) (.slice Ao51 t217.length co51)) (fun _ hk => hk.2) (.int .i64 t220)) (fun _ hk => hk.2) (.bool t221)) (fun _ hk => hk.2) (.int .i64 t222)) (fun _ h_ => h_.1))) hb); have n3_ := Aside0.mk (Kd.R_below (by (with_reducible repeat (first | apply Kd.R_alloc | apply Kd.R_drewN | apply Kd.R_drew)); exact (Kd.R_mono (Kd.R_far (p := ⟨gb224, 6, none⟩) (Kd.R_far (p := ⟨gb224, 5, none⟩) (Kd.R_far (p := ⟨gb224, 4, none⟩) (Kd.R_far (p := ⟨gb224, 3, none⟩) (Kd.R_far (p := ⟨gb224, 2, none⟩) (Kd.R_far (p := ⟨gb224, 1, none⟩) (Kd.R_far (p := ⟨gb224, 0, none⟩) (Kd.R_types HO_207003.out BK224.out (by decide)) (fun _ hk => hk.2) (.int .i64 t212)) (fun _ hk => hk.2) (.int .i64 t213)) (fun _ hk => hk.2) (.slice Ao50 t214.length co50)) (fun _ hk => hk.2) (.slice Ao51 t217.length co51)) (fun _ hk => hk.2) (.int .i64 t220)) (fun _ hk => hk.2) (.bool t221)) (fun _ hk => hk.2) (.int .i64 t222)) (fun _ h_ => h_.1))) hb); have n4_ := Aside0.mk (Kd.R_below (by (with_reducible repeat (first | apply Kd.R_alloc | apply Kd.R_drewN | apply Kd.R_drew)); exact (Kd.R_mono (Kd.R_far (p := ⟨gb224, 6, none⟩) (Kd.R_far (p := ⟨gb224, 5, none⟩) (Kd.R_far (p := ⟨gb224, 4, none⟩) (Kd.R_far (p := ⟨gb224, 3, none⟩) (Kd.R_far (p := ⟨gb224, 2, none⟩) (Kd.R_far (p := ⟨gb224, 1, none⟩) (Kd.R_far (p := ⟨gb224, 0, none⟩) (Kd.R_types HO216.out BK224.out (by decide)) (fun _ hk => hk.2) (.int .i64 t212)) (fun _ hk => hk.2) (.int .i64 t213)) (fun _ hk => hk.2) (.slice Ao50 t214.length co50)) (fun _ hk => hk.2) (.slice Ao51 t217.length co51)) (fun _ hk => hk.2) (.int .i64 t220)) (fun _ hk => hk.2) (.bool t221)) (fun _ hk => hk.2) (.int .i64 t222)) (fun _ h_ => h_.1))) hb); have n5_ := Aside0.mk (Kd.R_below (by (with_reducible repeat (first | apply Kd.R_alloc | apply Kd.R_drewN | apply Kd.R_drew)); exact (Kd.R_mono (Kd.R_far (p := ⟨gb224, 6, none⟩) (Kd.R_far (p := ⟨gb224, 5, none⟩) (Kd.R_far (p := ⟨gb224, 4, none⟩) (Kd.R_far (p := ⟨gb224, 3, none⟩) (Kd.R_far (p := ⟨gb224, 2, none⟩) (Kd.R_far (p := ⟨gb224, 1, none⟩) (Kd.R_far (p := ⟨gb224, 0, none⟩) (Kd.R_types HO219.out BK224.out (by decide)) (fun _ hk => hk.2) (.int .i64 t212)) (fun _ hk => hk.2) (.int .i64 t213)) (fun _ hk => hk.2) (.slice Ao50 t214.length co50)) (fun _ hk => hk.2) (.slice Ao51 t217.length co51)) (fun _ hk => hk.2) (.int .i64 t220)) (fun _ hk => hk.2) (.bool t221)) (fun _ hk => hk.2) (.int .i64 t222)) (fun _ h_ => h_.1))) hb); have n6_ := Aside0.mk (blk_below (g := gb193) (o := .cells #[.int .i64 t181, .int .i64 t182, .slice Ao10 t183.length co10, .slice Ao11 t186.length co11, .int .i64 t189, .bool t190, .int .i64 t191] 32 (0, 0)) (by (with_reducible repeat (first | refine blk_drewN ?_ _ | refine blk_drew ?_ | refine blk_alloc ?_ _)); refine blk_far ?_ NB193_224.out _; (with_reducible repeat (first | refine blk_drewN ?_ _ | refine blk_drew ?_ | refine blk_alloc ?_ _)); refine blk_far ?_ NB193_224.out _; (with_reducible repeat (first | refine blk_drewN ?_ _ | refine blk_drew ?_ | refine blk_alloc ?_ _)); refine blk_far ?_ NB193_224.out _; (with_reducible repeat (first | refine blk_drewN ?_ _ | refine blk_drew ?_ | refine blk_alloc ?_ _)); refine blk_far ?_ NB193_224.out _; (with_reducible repeat (first | refine blk_drewN ?_ _ | refine blk_drew ?_ | refine blk_alloc ?_ _)); refine blk_far ?_ NB193_224.out _; (with_reducible repeat (first | refine blk_drewN ?_ _ | refine blk_drew ?_ | refine blk_alloc ?_ _)); refine blk_far ?_ NB193_224.out _; (with_reducible repeat (first | refine blk_drewN ?_ _ | refine blk_drew ?_ | refine blk_alloc ?_ _)); refine blk_far ?_ NB193_224.out _; (with_reducible repeat (first | refine blk_drewN ?_ _ | refine blk_drew ?_ | refine blk_alloc ?_ _)); exact BK193.out) hb); have n7_ := Aside0.mk (blk_below (g := gb206) (o := .cells #[.int .i64 t194, .int .i64 t195, .slice Ao16 t196.length co16, .slice Ao17 t199.length co17, .int .i64 t202, .bool t203, .int .i64 t204] 32 (0, 0)) (by (with_reducible repeat (first | refine blk_drewN ?_ _ | refine blk_drew ?_ | refine blk_alloc ?_ _)); refine blk_far ?_ NB206_224.out _; (with_reducible repeat (first | refine blk_drewN ?_ _ | refine blk_drew ?_ | refine blk_alloc ?_ _)); refine blk_far ?_ NB206_224.out _; (with_reducible repeat (first | refine blk_drewN ?_ _ | refine blk_drew ?_ | refine blk_alloc ?_ _)); refine blk_far ?_ NB206_224.out _; (with_reducible repeat (first | refine blk_drewN ?_ _ | refine blk_drew ?_ | refine blk_alloc ?_ _)); refine blk_far ?_ NB206_224.out _; (with_reducible repeat (first | refine blk_drewN ?_ _ | refine blk_drew ?_ | refine blk_alloc ?_ _)); refine blk_far ?_ NB206_224.out _; (with_reducible repeat (first | refine blk_drewN ?_ _ | refine blk_drew ?_ | refine blk_alloc ?_ _)); refine blk_far ?_ NB206_224.out _; (with_reducible repeat (first | refine blk_drewN ?_ _ | refine blk_drew ?_ | refine blk_alloc ?_ _)); refine blk_far ?_ NB206_224.out _; (with_reducible repeat (first | refine blk_drewN ?_ _ | refine blk_drew ?_ | refine blk_alloc ?_ _)); exact BK206.out) hb); have n8_ := Aside0.mk (blk_below (g := gb224) (o := .cells #[.int .i64 t212, .int .i64 t213, .slice Ao50 t214.length co50, .slice Ao51 t217.length co51, .int .i64 t220, .bool t221, .int .i64 t222] 32 (0, 0)) (by (with_reducible repeat (first | refine blk_drewN ?_ _ | refine blk_drew ?_ | refine blk_alloc ?_ _)); refine blk_put (cs := #[.int .i64 t212, .int .i64 t213, .slice Ao50 t214.length co50, .slice Ao51 t217.length co51, .int .i64 t220, .bool t221, .int .i64 0]) ?_ 6 _ rfl; (with_reducible repeat (first | refine blk_drewN ?_ _ | refine blk_drew ?_ | refine blk_alloc ?_ _)); refine blk_put (cs := #[.int .i64 t212, .int .i64 t213, .slice Ao50 t214.length co50, .slice Ao51 t217.length co51, .int .i64 t220, .bool false, .int .i64 0]) ?_ 5 _ rfl; (with_reducible repeat (first | refine blk_drewN ?_ _ | refine blk_drew ?_ | refine blk_alloc ?_ _)); refine blk_put (cs := #[.int .i64 t212, .int .i64 t213, .slice Ao50 t214.length co50, .slice Ao51 t217.length co51, .int .i64 0, .bool false, .int .i64 0]) ?_ 4 _ rfl; (with_reducible repeat (first | refine blk_drewN ?_ _ | refine blk_drew ?_ | refine blk_alloc ?_ _)); refine blk_put (cs := #[.int .i64 t212, .int .i64 t213, .slice Ao50 t214.length co50, .slice none 0 0, .int .i64 0, .bool false, .int .i64 0]) ?_ 3 _ rfl; (with_reducible repeat (first | refine blk_drewN ?_ _ | refine blk_drew ?_ | refine blk_alloc ?_ _)); refine blk_put (cs := #[.int .i64 t212, .int .i64 t213, .slice none 0 0, .slice none 0 0, .int .i64 0, .bool false, .int .i64 0]) ?_ 2 _ rfl; (with_reducible repeat (first | refine blk_drewN ?_ _ | refine blk_drew ?_ | refine blk_alloc ?_ _)); refine blk_put (cs := #[.int .i64 t212, .int .i64 0, .slice none 0 0, .slice none 0 0, .int .i64 0, .bool false, .int .i64 0]) ?_ 1 _ rfl; (with_reducible repeat (first | refine blk_drewN ?_ _ | refine blk_drew ?_ | refine blk_alloc ?_ _)); refine blk_put (cs := #[.int .i64 0, .int .i64 0, .slice none 0 0, .slice none 0 0, .int .i64 0, .bool false, .int .i64 0]) ?_ 0 _ rfl; (with_reducible repeat (first | refine blk_drewN ?_ _ | refine blk_drew ?_ | refine blk_alloc ?_ _)); exact BK224.out) hb); have n9_ := Aside0.mk (below_step (by repeat (first | (with_reducible first | exact HB.out | apply below_alloc | apply pw_below_drewN | apply below_drew1 | refine below_set ?_ GE193.out | refine below_set ?_ GE206.out | refine below_set ?_ GE224.out) | exact HB.out)) hb); clear HO_194002; clear HO_194003; clear HO_207002; clear HO_207003; clear HO216; clear HO219; clear BK193; clear BK206; clear BK224; clear HB; have HO_194002 := n0_; have HO_194003 := n1_; have HO_207002 := n2_; have HO_207003 := n3_; have HO216 := n4_; have HO219 := n5_; have BK193 := n6_; have BK206 := n7_; have BK224 := n8_; have HB := n9_; clear n0_ n1_ n2_ n3_ n4_ n5_ n6_ n7_ n8_ n9_; (try clear hb); (try clear hb2); (try clear hk); (try clear hi)))
                go_meet
                case rel => exact ⟨_, ((t223 != t192)), (by first | rfl | (simp; done) | (simp [*]; done)), H', ⟨by have := HJ5.out; first | omega | exact Nat.le_refl _⟩, ⟨by (with_reducible repeat (first | apply Kd.R_alloc | apply Kd.R_drewN | apply Kd.R_drew)); exact Kd.R_mono HO_194002.out (fun _ hk => ⟨hk.1.1.1, ⟨hk.1.1.2.1, ⟨hk.1.1.2.2, ⟨hk.1.2, hk.2⟩⟩⟩⟩)⟩, ⟨by (with_reducible repeat (first | apply Kd.R_alloc | apply Kd.R_drewN | apply Kd.R_drew)); exact Kd.R_mono HO_194003.out (fun _ hk => ⟨hk.1.1.1, ⟨hk.1.1.2.1, ⟨hk.1.1.2.2, ⟨hk.1.2, hk.2⟩⟩⟩⟩)⟩, ⟨by (with_reducible repeat (first | apply Kd.R_alloc | apply Kd.R_drewN | apply Kd.R_drew)); exact Kd.R_mono HO_207002.out (fun _ hk => ⟨hk.1.1.1, ⟨hk.1.1.2.1, ⟨hk.1.1.2.2, ⟨hk.1.2, hk.2⟩⟩⟩⟩)⟩, ⟨by (with_reducible repeat (first | apply Kd.R_alloc | apply Kd.R_drewN | apply Kd.R_drew)); exact Kd.R_mono HO_207003.out (fun _ hk => ⟨hk.1.1.1, ⟨hk.1.1.2.1, ⟨hk.1.1.2.2, ⟨hk.1.2, hk.2⟩⟩⟩⟩)⟩, ⟨by (with_reducible repeat (first | apply Kd.R_alloc | apply Kd.R_drewN | apply Kd.R_drew)); exact Kd.R_mono HO216.out (fun _ hk => ⟨hk.1.1.1.2, ⟨hk.1.1.2, ⟨hk.1.2, ⟨hk.2, hk.1.1.1.1⟩⟩⟩⟩)⟩, ⟨by (with_reducible repeat (first | apply Kd.R_alloc | apply Kd.R_drewN | apply Kd.R_drew)); exact Kd.R_mono HO219.out (fun _ hk => ⟨hk.1.1.1.2, ⟨hk.1.1.2, ⟨hk.1.2, ⟨hk.2, hk.1.1.1.1⟩⟩⟩⟩)⟩, ⟨by (with_reducible repeat (first | refine blk_drewN ?_ _ | refine blk_drew ?_ | refine blk_alloc ?_ _)); exact BK193.out⟩, ⟨by (with_reducible repeat (first | refine blk_drewN ?_ _ | refine blk_drew ?_ | refine blk_alloc ?_ _)); exact BK206.out⟩, ⟨by (with_reducible repeat (first | refine blk_drewN ?_ _ | refine blk_drew ?_ | refine blk_alloc ?_ _)); exact BK224.out⟩, ⟨by repeat (first | (with_reducible first | exact HB.out | apply below_alloc | apply pw_below_drewN | apply below_drew1 | refine below_set ?_ GE193.out | refine below_set ?_ GE206.out | refine below_set ?_ GE224.out) | exact HB.out)⟩⟩
              · replace c53 := Bool.eq_false_iff.mpr c53
                subst c53
                have H1 : (laws_FnExactMakePuzzle.j1 kj5 t208 true t194 t195 t209 t210 t202 t203 t204) = some true := by rw [if_neg (show ¬ (false = true) by decide)] at H; exact H
                clear H
                have H := H1
                clear H1
                have H' := Aside0.mk H
                clear H
                have hnb60 := NB224_193.out
                have hnc60 := NB193_224.out
                have hnb61 := NB224_206.out
                have hnc61 := NB206_224.out
                have hcz62_0 : w46.cell? ⟨gb224, 0, none⟩ = some (.int .i64 0) := (blk_cell BK224.out 0).trans rfl
                have hcz62_1 : w46.cell? ⟨gb224, 1, none⟩ = some (.int .i64 0) := (blk_cell BK224.out 1).trans rfl
                have hcz62_2 : w46.cell? ⟨gb224, 2, none⟩ = some (.slice none 0 0) := (blk_cell BK224.out 2).trans rfl
                have hcz62_3 : w46.cell? ⟨gb224, 3, none⟩ = some (.slice none 0 0) := (blk_cell BK224.out 3).trans rfl
                have hcz62_4 : w46.cell? ⟨gb224, 4, none⟩ = some (.int .i64 0) := (blk_cell BK224.out 4).trans rfl
                have hcz62_5 : w46.cell? ⟨gb224, 5, none⟩ = some (.bool false) := (blk_cell BK224.out 5).trans rfl
                have hcz62_6 : w46.cell? ⟨gb224, 6, none⟩ = some (.int .i64 0) := (blk_cell BK224.out 6).trans rfl
                have hfz62_0 := blk_frozen BK224.out 0
                have hfz62_1 := blk_frozen BK224.out 1
                have hfz62_2 := blk_frozen BK224.out 2
                have hfz62_3 := blk_frozen BK224.out 3
                have hfz62_4 := blk_frozen BK224.out 4
                have hfz62_5 := blk_frozen BK224.out 5
                have hfz62_6 := blk_frozen BK224.out 6
                have hnb63 := NB193_206.out
                have hnc63 := NB206_193.out
                have hcz64_0 : w46.cell? ⟨gb193, 0, none⟩ = some (.int .i64 t181) := (blk_cell BK193.out 0).trans rfl
                have hcz64_1 : w46.cell? ⟨gb193, 1, none⟩ = some (.int .i64 t182) := (blk_cell BK193.out 1).trans rfl
                have hcz64_2 : w46.cell? ⟨gb193, 2, none⟩ = some (.slice Ao10 t183.length co10) := (blk_cell BK193.out 2).trans rfl
                have hcz64_3 : w46.cell? ⟨gb193, 3, none⟩ = some (.slice Ao11 t186.length co11) := (blk_cell BK193.out 3).trans rfl
                have hcz64_4 : w46.cell? ⟨gb193, 4, none⟩ = some (.int .i64 t189) := (blk_cell BK193.out 4).trans rfl
                have hcz64_5 : w46.cell? ⟨gb193, 5, none⟩ = some (.bool t190) := (blk_cell BK193.out 5).trans rfl
                have hcz64_6 : w46.cell? ⟨gb193, 6, none⟩ = some (.int .i64 t191) := (blk_cell BK193.out 6).trans rfl
                have hfz64_0 := blk_frozen BK193.out 0
                have hfz64_1 := blk_frozen BK193.out 1
                have hfz64_2 := blk_frozen BK193.out 2
                have hfz64_3 := blk_frozen BK193.out 3
                have hfz64_4 := blk_frozen BK193.out 4
                have hfz64_5 := blk_frozen BK193.out 5
                have hfz64_6 := blk_frozen BK193.out 6
                go_wp2_with (first | ((with_reducible refine gate_callee (f := 12) rfl ?_); refine goesL_ (some 58) rfl rfl Tryd.func12 (by kernel_rfl) rfl #[.agg #[.int .i64 t212, .int .i64 t213, .slice Ao50 t214.length co50, .slice Ao51 t217.length co51, .int .i64 t220, .bool t221, .int .i64 t222], .agg #[.int .i64 t181, .int .i64 t182, .slice Ao10 t183.length co10, .slice Ao11 t186.length co11, .int .i64 t189, .bool t190, .int .i64 t191]] rfl (by (try simp only [List.map_toArray, List.map_cons, List.map_nil]); first | done | rfl | (simp only [List.length_drop, List.length_take]; rfl)) ?_; (with_reducible refine (laws_eqPuzzle.calls kj5 t212 t213 _ _ t214 _ _ t217 t220 t221 t222 t181 t182 _ _ t183 _ _ t186 t189 t190 t191 false _ ?side1 ?side2 ?side3 ?side4 ?side5 ?side6 ?side7 ?side8 A52.out).mono ?_); (case side1 => refine (Kd.R_reads' (e := 3) (base := w.heap.size) (ok := fun k_ => ((((some k_ ≠ (.slice Ao51 t217.length co51 : Value).ownBlock ∧ some k_ ≠ (.slice Ao10 t183.length co10 : Value).ownBlock) ∧ some k_ ≠ (.slice Ao11 t186.length co11 : Value).ownBlock) ∧ some k_ ≠ (.slice Ao16 t196.length co16 : Value).ownBlock) ∧ some k_ ≠ (.slice Ao17 t199.length co17 : Value).ownBlock)) (n := t214.length) (c := co50) ?_).2.2; exact (by (with_reducible repeat (first | apply Kd.R_alloc | apply Kd.R_drewN | apply Kd.R_drew)); exact (Kd.R_mono (Kd.R_far (p := ⟨gb224, 6, none⟩) (Kd.R_far (p := ⟨gb224, 5, none⟩) (Kd.R_far (p := ⟨gb224, 4, none⟩) (Kd.R_far (p := ⟨gb224, 3, none⟩) (Kd.R_far (p := ⟨gb224, 2, none⟩) (Kd.R_far (p := ⟨gb224, 1, none⟩) (Kd.R_far (p := ⟨gb224, 0, none⟩) (Kd.R_types HO216.out BK224.out (by decide)) (fun _ hk => hk.2) (.int .i64 t212)) (fun _ hk => hk.2) (.int .i64 t213)) (fun _ hk => hk.2) (.slice Ao50 t214.length co50)) (fun _ hk => hk.2) (.slice Ao51 t217.length co51)) (fun _ hk => hk.2) (.int .i64 t220)) (fun _ hk => hk.2) (.bool t221)) (fun _ hk => hk.2) (.int .i64 t222)) (fun _ h_ => h_.1)))); (case side2 => exact (Kd.R_reads' HO216.out).2.1); (case side3 => refine (Kd.R_reads' (e := 3) (base := w.heap.size) (ok := fun k_ => ((((some k_ ≠ (.slice Ao50 t214.length co50 : Value).ownBlock ∧ some k_ ≠ (.slice Ao10 t183.length co10 : Value).ownBlock) ∧ some k_ ≠ (.slice Ao11 t186.length co11 : Value).ownBlock) ∧ some k_ ≠ (.slice Ao16 t196.length co16 : Value).ownBlock) ∧ some k_ ≠ (.slice Ao17 t199.length co17 : Value).ownBlock)) (n := t217.length) (c := co51) ?_).2.2; exact (by (with_reducible repeat (first | apply Kd.R_alloc | apply Kd.R_drewN | apply Kd.R_drew)); exact (Kd.R_mono (Kd.R_far (p := ⟨gb224, 6, none⟩) (Kd.R_far (p := ⟨gb224, 5, none⟩) (Kd.R_far (p := ⟨gb224, 4, none⟩) (Kd.R_far (p := ⟨gb224, 3, none⟩) (Kd.R_far (p := ⟨gb224, 2, none⟩) (Kd.R_far (p := ⟨gb224, 1, none⟩) (Kd.R_far (p := ⟨gb224, 0, none⟩) (Kd.R_types HO219.out BK224.out (by decide)) (fun _ hk => hk.2) (.int .i64 t212)) (fun _ hk => hk.2) (.int .i64 t213)) (fun _ hk => hk.2) (.slice Ao50 t214.length co50)) (fun _ hk => hk.2) (.slice Ao51 t217.length co51)) (fun _ hk => hk.2) (.int .i64 t220)) (fun _ hk => hk.2) (.bool t221)) (fun _ hk => hk.2) (.int .i64 t222)) (fun _ h_ => h_.1)))); (case side4 => exact (Kd.R_reads' HO219.out).2.1); (case side5 => refine (Kd.R_reads' (e := 3) (base := w.heap.size) (ok := fun k_ => (((some k_ ≠ (.slice Ao11 t186.length co11 : Value).ownBlock ∧ (some k_ ≠ (.slice Ao16 t196.length co16 : Value).ownBlock ∧ some k_ ≠ (.slice Ao17 t199.length co17 : Value).ownBlock)) ∧ some k_ ≠ (.slice Ao50 t214.length co50 : Value).ownBlock) ∧ some k_ ≠ (.slice Ao51 t217.length co51 : Value).ownBlock)) (n := t183.length) (c := co10) ?_).2.2; exact (by (with_reducible repeat (first | apply Kd.R_alloc | apply Kd.R_drewN | apply Kd.R_drew)); exact (Kd.R_mono (Kd.R_far (p := ⟨gb224, 6, none⟩) (Kd.R_far (p := ⟨gb224, 5, none⟩) (Kd.R_far (p := ⟨gb224, 4, none⟩) (Kd.R_far (p := ⟨gb224, 3, none⟩) (Kd.R_far (p := ⟨gb224, 2, none⟩) (Kd.R_far (p := ⟨gb224, 1, none⟩) (Kd.R_far (p := ⟨gb224, 0, none⟩) (Kd.R_types HO_194002.out BK224.out (by decide)) (fun _ hk => hk.2) (.int .i64 t212)) (fun _ hk => hk.2) (.int .i64 t213)) (fun _ hk => hk.2) (.slice Ao50 t214.length co50)) (fun _ hk => hk.2) (.slice Ao51 t217.length co51)) (fun _ hk => hk.2) (.int .i64 t220)) (fun _ hk => hk.2) (.bool t221)) (fun _ hk => hk.2) (.int .i64 t222)) (fun _ h_ => h_.1)))); (case side6 => exact (Kd.R_reads' HO_194002.out).2.1); (case side7 => refine (Kd.R_reads' (e := 3) (base := w.heap.size) (ok := fun k_ => (((some k_ ≠ (.slice Ao10 t183.length co10 : Value).ownBlock ∧ (some k_ ≠ (.slice Ao16 t196.length co16 : Value).ownBlock ∧ some k_ ≠ (.slice Ao17 t199.length co17 : Value).ownBlock)) ∧ some k_ ≠ (.slice Ao50 t214.length co50 : Value).ownBlock) ∧ some k_ ≠ (.slice Ao51 t217.length co51 : Value).ownBlock)) (n := t186.length) (c := co11) ?_).2.2; exact (by (with_reducible repeat (first | apply Kd.R_alloc | apply Kd.R_drewN | apply Kd.R_drew)); exact (Kd.R_mono (Kd.R_far (p := ⟨gb224, 6, none⟩) (Kd.R_far (p := ⟨gb224, 5, none⟩) (Kd.R_far (p := ⟨gb224, 4, none⟩) (Kd.R_far (p := ⟨gb224, 3, none⟩) (Kd.R_far (p := ⟨gb224, 2, none⟩) (Kd.R_far (p := ⟨gb224, 1, none⟩) (Kd.R_far (p := ⟨gb224, 0, none⟩) (Kd.R_types HO_194003.out BK224.out (by decide)) (fun _ hk => hk.2) (.int .i64 t212)) (fun _ hk => hk.2) (.int .i64 t213)) (fun _ hk => hk.2) (.slice Ao50 t214.length co50)) (fun _ hk => hk.2) (.slice Ao51 t217.length co51)) (fun _ hk => hk.2) (.int .i64 t220)) (fun _ hk => hk.2) (.bool t221)) (fun _ hk => hk.2) (.int .i64 t222)) (fun _ h_ => h_.1)))); (case side8 => exact (Kd.R_reads' HO_194003.out).2.1); rintro e w65 ⟨rfl, hb⟩; refine ⟨_, rfl, ?_⟩; have n0_ := Aside0.mk (Kd.R_below (by (with_reducible repeat (first | apply Kd.R_alloc | apply Kd.R_drewN | apply Kd.R_drew)); exact (Kd.R_mono (Kd.R_far (p := ⟨gb224, 6, none⟩) (Kd.R_far (p := ⟨gb224, 5, none⟩) (Kd.R_far (p := ⟨gb224, 4, none⟩) (Kd.R_far (p := ⟨gb224, 3, none⟩) (Kd.R_far (p := ⟨gb224, 2, none⟩) (Kd.R_far (p := ⟨gb224, 1, none⟩) (Kd.R_far (p := ⟨gb224, 0, none⟩) (Kd.R_types HO_194002.out BK224.out (by decide)) (fun _ hk => hk.2) (.int .i64 t212)) (fun _ hk => hk.2) (.int .i64 t213)) (fun _ hk => hk.2) (.slice Ao50 t214.length co50)) (fun _ hk => hk.2) (.slice Ao51 t217.length co51)) (fun _ hk => hk.2) (.int .i64 t220)) (fun _ hk => hk.2) (.bool t221)) (fun _ hk => hk.2) (.int .i64 t222)) (fun _ h_ => h_.1))) hb); have n1_ := Aside0.mk (Kd.R_below (by (with_reducible repeat (first | apply Kd.R_alloc | apply Kd.R_drewN | apply Kd.R_drew)); exact (Kd.R_mono (Kd.R_far (p := ⟨gb224, 6, none⟩) (Kd.R_far (p := ⟨gb224, 5, none⟩) (Kd.R_far (p := ⟨gb224, 4, none⟩) (Kd.R_far (p := ⟨gb224, 3, none⟩) (Kd.R_far (p := ⟨gb224, 2, none⟩) (Kd.R_far (p := ⟨gb224, 1, none⟩) (Kd.R_far (p := ⟨gb224, 0, none⟩) (Kd.R_types HO_194003.out BK224.out (by decide)) (fun _ hk => hk.2) (.int .i64 t212)) (fun _ hk => hk.2) (.int .i64 t213)) (fun _ hk => hk.2) (.slice Ao50 t214.length co50)) (fun _ hk => hk.2) (.slice Ao51 t217.length co51)) (fun _ hk => hk.2) (.int .i64 t220)) (fun _ hk => hk.2) (.bool t221)) (fun _ hk => hk.2) (.int .i64 t222)) (fun _ h_ => h_.1))) hb); have n2_ := Aside0.mk (Kd.R_below (by (with_reducible repeat (first | apply Kd.R_alloc | apply Kd.R_drewN | apply Kd.R_drew)); exact (Kd.R_mono (Kd.R_far (p := ⟨gb224, 6, none⟩) (Kd.R_far (p := ⟨gb224, 5, none⟩) (Kd.R_far (p := ⟨gb224, 4, none⟩) (Kd.R_far (p := ⟨gb224, 3, none⟩) (Kd.R_far (p := ⟨gb224, 2, none⟩) (Kd.R_far (p := ⟨gb224, 1, none⟩) (Kd.R_far (p := ⟨gb224, 0, none⟩) (Kd.R_types HO_207002.out BK224.out (by decide)) (fun _ hk => hk.2) (.int .i64 t212)) (fun _ hk => hk.2) (.int .i64 t213)) (fun _ hk => hk.2) (.slice Ao50 t214.length co50)) (fun _ hk => hk.2) (.slice Ao51 t217.length co51)) (fun _ hk => hk.2) (.int .i64 t220)) (fun _ hk => hk.2) (.bool t221)) (fun _ hk => hk.2) (.int .i64 t222)) (fun _ h_ => h_.1))) hb); have n3_ := Aside0.mk (Kd.R_below (by (with_reducible repeat (first | apply Kd.R_alloc | apply Kd.R_drewN | apply Kd.R_drew)); exact (Kd.R_mono (Kd.R_far (p := ⟨gb224, 6, none⟩) (Kd.R_far (p := ⟨gb224, 5, none⟩) (Kd.R_far (p := ⟨gb224, 4, none⟩) (Kd.R_far (p := ⟨gb224, 3, none⟩) (Kd.R_far (p := ⟨gb224, 2, none⟩) (Kd.R_far (p := ⟨gb224, 1, none⟩) (Kd.R_far (p := ⟨gb224, 0, none⟩) (Kd.R_types HO_207003.out BK224.out (by decide)) (fun _ hk => hk.2) (.int .i64 t212)) (fun _ hk => hk.2) (.int .i64 t213)) (fun _ hk => hk.2) (.slice Ao50 t214.length co50)) (fun _ hk => hk.2) (.slice Ao51 t217.length co51)) (fun _ hk => hk.2) (.int .i64 t220)) (fun _ hk => hk.2) (.bool t221)) (fun _ hk => hk.2) (.int .i64 t222)) (fun _ h_ => h_.1))) hb); have n4_ := Aside0.mk (Kd.R_below (by (with_reducible repeat (first | apply Kd.R_alloc | apply Kd.R_drewN | apply Kd.R_drew)); exact (Kd.R_mono (Kd.R_far (p := ⟨gb224, 6, none⟩) (Kd.R_far (p := ⟨gb224, 5, none⟩) (Kd.R_far (p := ⟨gb224, 4, none⟩) (Kd.R_far (p := ⟨gb224, 3, none⟩) (Kd.R_far (p := ⟨gb224, 2, none⟩) (Kd.R_far (p := ⟨gb224, 1, none⟩) (Kd.R_far (p := ⟨gb224, 0, none⟩) (Kd.R_types HO216.out BK224.out (by decide)) (fun _ hk => hk.2) (.int .i64 t212)) (fun _ hk => hk.2) (.int .i64 t213)) (fun _ hk => hk.2) (.slice Ao50 t214.length co50)) (fun _ hk => hk.2) (.slice Ao51 t217.length co51)) (fun _ hk => hk.2) (.int .i64 t220)) (fun _ hk => hk.2) (.bool t221)) (fun _ hk => hk.2) (.int .i64 t222)) (fun _ h_ => h_.1))) hb); have n5_ := Aside0.mk (Kd.R_below (by (with_reducible repeat (first | apply Kd.R_alloc | apply Kd.R_drewN | apply Kd.R_drew)); exact (Kd.R_mono (Kd.R_far (p := ⟨gb224, 6, none⟩) (Kd.R_far (p := ⟨gb224, 5, none⟩) (Kd.R_far (p := ⟨gb224, 4, none⟩) (Kd.R_far (p := ⟨gb224, 3, none⟩) (Kd.R_far (p := ⟨gb224, 2, none⟩) (Kd.R_far (p := ⟨gb224, 1, none⟩) (Kd.R_far (p := ⟨gb224, 0, none⟩) (Kd.R_types HO219.out BK224.out (by decide)) (fun _ hk => hk.2) (.int .i64 t212)) (fun _ hk => hk.2) (.int .i64 t213)) (fun _ hk => hk.2) (.slice Ao50 t214.length co50)) (fun _ hk => hk.2) (.slice Ao51 t217.length co51)) (fun _ hk => hk.2) (.int .i64 t220)) (fun _ hk => hk.2) (.bool t221)) (fun _ hk => hk.2) (.int .i64 t222)) (fun _ h_ => h_.1))) hb); have n6_ := Aside0.mk (blk_below (g := gb193) (o := .cells #[.int .i64 t181, .int .i64 t182, .slice Ao10 t183.length co10, .slice Ao11 t186.length co11, .int .i64 t189, .bool t190, .int .i64 t191] 32 (0, 0)) (by (with_reducible repeat (first | refine blk_drewN ?_ _ | refine blk_drew ?_ | refine blk_alloc ?_ _)); refine blk_far ?_ NB193_224.out _; (with_reducible repeat (first | refine blk_drewN ?_ _ | refine blk_drew ?_ | refine blk_alloc ?_ _)); refine blk_far ?_ NB193_224.out _; (with_reducible repeat (first | refine blk_drewN ?_ _ | refine blk_drew ?_ | refine blk_alloc ?_ _)); refine blk_far ?_ NB193_224.out _; (with_reducible repeat (first | refine blk_drewN ?_ _ | refine blk_drew ?_ | refine blk_alloc ?_ _)); refine blk_far ?_ NB193_224.out _; (with_reducible repeat (first | refine blk_drewN ?_ _ | refine blk_drew ?_ | refine blk_alloc ?_ _)); refine blk_far ?_ NB193_224.out _; (with_reducible repeat (first | refine blk_drewN ?_ _ | refine blk_drew ?_ | refine blk_alloc ?_ _)); refine blk_far ?_ NB193_224.out _; (with_reducible repeat (first | refine blk_drewN ?_ _ | refine blk_drew ?_ | refine blk_alloc ?_ _)); refine blk_far ?_ NB193_224.out _; (with_reducible repeat (first | refine blk_drewN ?_ _ | refine blk_drew ?_ | refine blk_alloc ?_ _)); exact BK193.out) hb); have n7_ := Aside0.mk (blk_below (g := gb206) (o := .cells #[.int .i64 t194, .int .i64 t195, .slice Ao16 t196.length co16, .slice Ao17 t199.length co17, .int .i64 t202, .bool t203, .int .i64 t204] 32 (0, 0)) (by (with_reducible repeat (first | refine blk_drewN ?_ _ | refine blk_drew ?_ | refine blk_alloc ?_ _)); refine blk_far ?_ NB206_224.out _; (with_reducible repeat (first | refine blk_drewN ?_ _ | refine blk_drew ?_ | refine blk_alloc ?_ _)); refine blk_far ?_ NB206_224.out _; (with_reducible repeat (first | refine blk_drewN ?_ _ | refine blk_drew ?_ | refine blk_alloc ?_ _)); refine blk_far ?_ NB206_224.out _; (with_reducible repeat (first | refine blk_drewN ?_ _ | refine blk_drew ?_ | refine blk_alloc ?_ _)); refine blk_far ?_ NB206_224.out _; (with_reducible repeat (first | refine blk_drewN ?_ _ | refine blk_drew ?_ | refine blk_alloc ?_ _)); refine blk_far ?_ NB206_224.out _; (with_reducible repeat (first | refine blk_drewN ?_ _ | refine blk_drew ?_ | refine blk_alloc ?_ _)); refine blk_far ?_ NB206_224.out _; (with_reducible repeat (first | refine blk_drewN ?_ _ | refine blk_drew ?_ | refine blk_alloc ?_ _)); refine blk_far ?_ NB206_224.out _; (with_reducible repeat (first | refine blk_drewN ?_ _ | refine blk_drew ?_ | refine blk_alloc ?_ _)); exact BK206.out) hb); have n8_ := Aside0.mk (blk_below (g := gb224) (o := .cells #[.int .i64 t212, .int .i64 t213, .slice Ao50 t214.length co50, .slice Ao51 t217.length co51, .int .i64 t220, .bool t221, .int .i64 t222] 32 (0, 0)) (by (with_reducible repeat (first | refine blk_drewN ?_ _ | refine blk_drew ?_ | refine blk_alloc ?_ _)); refine blk_put (cs := #[.int .i64 t212, .int .i64 t213, .slice Ao50 t214.length co50, .slice Ao51 t217.length co51, .int .i64 t220, .bool t221, .int .i64 0]) ?_ 6 _ rfl; (with_reducible repeat (first | refine blk_drewN ?_ _ | refine blk_drew ?_ | refine blk_alloc ?_ _)); refine blk_put (cs := #[.int .i64 t212, .int .i64 t213, .slice Ao50 t214.length co50, .slice Ao51 t217.length co51, .int .i64 t220, .bool false, .int .i64 0]) ?_ 5 _ rfl; (with_reducible repeat (first | refine blk_drewN ?_ _ | refine blk_drew ?_ | refine blk_alloc ?_ _)); refine blk_put (cs := #[.int .i64 t212, .int .i64 t213, .slice Ao50 t214.length co50, .slice Ao51 t217.length co51, .int .i64 0, .bool false, .int .i64 0]) ?_ 4 _ rfl; (with_reducible repeat (first | refine blk_drewN ?_ _ | refine blk_drew ?_ | refine blk_alloc ?_ _)); refine blk_put (cs := #[.int .i64 t212, .int .i64 t213, .slice Ao50 t214.length co50, .slice none 0 0, .int .i64 0, .bool false, .int .i64 0]) ?_ 3 _ rfl; (with_reducible repeat (first | refine blk_drewN ?_ _ | refine blk_drew ?_ | refine blk_alloc ?_ _)); refine blk_put (cs := #[.int .i64 t212, .int .i64 t213, .slice none 0 0, .slice none 0 0, .int .i64 0, .bool false, .int .i64 0]) ?_ 2 _ rfl; (with_reducible repeat (first | refine blk_drewN ?_ _ | refine blk_drew ?_ | refine blk_alloc ?_ _)); refine blk_put (cs := #[.int .i64 t212, .int .i64 0, .slice none 0 0, .slice none 0 0, .int .i64 0, .bool false, .int .i64 0]) ?_ 1 _ rfl; (with_reducible repeat (first | refine blk_drewN ?_ _ | refine blk_drew ?_ | refine blk_alloc ?_ _)); refine blk_put (cs := #[.int .i64 0, .int .i64 0, .slice none 0 0, .slice none 0 0, .int .i64 0, .bool false, .int .i64 0]) ?_ 0 _ rfl; (with_reducible repeat (first | refine blk_drewN ?_ _ | refine blk_drew ?_ | refine blk_alloc ?_ _)); exact BK224.out) hb); have n9_ := Aside0.mk (below_step (by repeat (first | (with_reducible first | exact HB.out | apply below_alloc | apply pw_below_drewN | apply below_drew1 | refine below_set ?_ GE193.out | refine below_set ?_ GE206.out | refine below_set ?_ GE224.out) | exact HB.out)) hb); clear HO_194002; clear HO_194003; clear HO_207002; clear HO_207003; clear HO216; clear HO219; clear BK193; clear BK206; clear BK224; clear HB; have HO_194002 := n0_; have HO_194003 := n1_; have HO_207002 := n2_; have HO_207003 := n3_; have HO216 := n4_; have HO219 := n5_; have BK193 := n6_; have BK206 := n7_; have BK224 := n8_; have HB := n9_; clear n0_ n1_ n2_ n3_ n4_ n5_ n6_ n7_ n8_ n9_; (try clear hb); (try clear hb2); (try clear hk); (try clear hi)))
                go_meet
                case rel => exact ⟨_, (true), (by first | rfl | (simp; done) | (simp [*]; done)), H', ⟨by have := HJ5.out; first | omega | exact Nat.le_refl _⟩, ⟨by (with_reducible repeat (first | apply Kd.R_alloc | apply Kd.R_drewN | apply Kd.R_drew)); exact Kd.R_mono HO_194002.out (fun _ hk => ⟨hk.1.1.1, ⟨hk.1.1.2.1, ⟨hk.1.1.2.2, ⟨hk.1.2, hk.2⟩⟩⟩⟩)⟩, ⟨by (with_reducible repeat (first | apply Kd.R_alloc | apply Kd.R_drewN | apply Kd.R_drew)); exact Kd.R_mono HO_194003.out (fun _ hk => ⟨hk.1.1.1, ⟨hk.1.1.2.1, ⟨hk.1.1.2.2, ⟨hk.1.2, hk.2⟩⟩⟩⟩)⟩, ⟨by (with_reducible repeat (first | apply Kd.R_alloc | apply Kd.R_drewN | apply Kd.R_drew)); exact Kd.R_mono HO_207002.out (fun _ hk => ⟨hk.1.1.1, ⟨hk.1.1.2.1, ⟨hk.1.1.2.2, ⟨hk.1.2, hk.2⟩⟩⟩⟩)⟩, ⟨by (with_reducible repeat (first | apply Kd.R_alloc | apply Kd.R_drewN | apply Kd.R_drew)); exact Kd.R_mono HO_207003.out (fun _ hk => ⟨hk.1.1.1, ⟨hk.1.1.2.1, ⟨hk.1.1.2.2, ⟨hk.1.2, hk.2⟩⟩⟩⟩)⟩, ⟨by (with_reducible repeat (first | apply Kd.R_alloc | apply Kd.R_drewN | apply Kd.R_drew)); exact Kd.R_mono HO216.out (fun _ hk => ⟨hk.1.1.1.2, ⟨hk.1.1.2, ⟨hk.1.2, ⟨hk.2, hk.1.1.1.1⟩⟩⟩⟩)⟩, ⟨by (with_reducible repeat (first | apply Kd.R_alloc | apply Kd.R_drewN | apply Kd.R_drew)); exact Kd.R_mono HO219.out (fun _ hk => ⟨hk.1.1.1.2, ⟨hk.1.1.2, ⟨hk.1.2, ⟨hk.2, hk.1.1.1.1⟩⟩⟩⟩)⟩, ⟨by (with_reducible repeat (first | refine blk_drewN ?_ _ | refine blk_drew ?_ | refine blk_alloc ?_ _)); exact BK193.out⟩, ⟨by (with_reducible repeat (first | refine blk_drewN ?_ _ | refine blk_drew ?_ | refine blk_alloc ?_ _)); exact BK206.out⟩, ⟨by (with_reducible repeat (first | refine blk_drewN ?_ _ | refine blk_drew ?_ | refine blk_alloc ?_ _)); exact BK224.out⟩, ⟨by repeat (first | (with_reducible first | exact HB.out | apply below_alloc | apply pw_below_drewN | apply below_drew1 | refine below_set ?_ GE193.out | refine below_set ?_ GE206.out | refine below_set ?_ GE224.out) | exact HB.out)⟩⟩
            case rest =>
              clear HC39
              try clear c1
              try clear c2
              try clear p2
              try clear c3
              try clear c4
              try clear c5
              try clear c6
              try clear c10
              try clear c11
              try clear c12
              try clear c13
              try clear c14
              try clear c19
              try clear c20
              try clear c24
              try clear c28
              try clear c31
              try clear c31b0
              try clear c32
              try clear c37
              try clear c37b0
              try clear c37b1
              try clear c40
              try clear c47
              try clear c48
              try clear c53
              try clear c54
              try clear c55
              try clear c57
              try clear c60
              try clear c61
              try clear c63
              try clear hcz15_0
              try clear hcz15_1
              try clear hcz15_2
              try clear hcz15_3
              try clear hcz15_4
              try clear hcz15_5
              try clear hcz15_6
              try clear hcz21_0
              try clear hcz21_1
              try clear hcz21_2
              try clear hcz21_3
              try clear hcz21_4
              try clear hcz21_5
              try clear hcz21_6
              try clear hcz22_0
              try clear hcz22_1
              try clear hcz22_2
              try clear hcz22_3
              try clear hcz22_4
              try clear hcz22_5
              try clear hcz22_6
              try clear hcz25_0
              try clear hcz25_1
              try clear hcz25_2
              try clear hcz25_3
              try clear hcz25_4
              try clear hcz25_5
              try clear hcz25_6
              try clear hcz26_0
              try clear hcz26_1
              try clear hcz26_2
              try clear hcz26_3
              try clear hcz26_4
              try clear hcz26_5
              try clear hcz26_6
              try clear hcz33_0
              try clear hcz33_1
              try clear hcz33_2
              try clear hcz33_3
              try clear hcz33_4
              try clear hcz33_5
              try clear hcz33_6
              try clear hcz35_0
              try clear hcz35_1
              try clear hcz35_2
              try clear hcz35_3
              try clear hcz35_4
              try clear hcz35_5
              try clear hcz35_6
              try clear hcz41_0
              try clear hcz41_1
              try clear hcz41_2
              try clear hcz41_3
              try clear hcz41_4
              try clear hcz41_5
              try clear hcz41_6
              try clear hcz43_0
              try clear hcz43_1
              try clear hcz43_2
              try clear hcz43_3
              try clear hcz43_4
              try clear hcz43_5
              try clear hcz43_6
              try clear hcz49_0
              try clear hcz49_1
              try clear hcz49_2
              try clear hcz49_3
              try clear hcz49_4
              try clear hcz49_5
              try clear hcz49_6
              try clear hcz56_0
              try clear hcz56_1
              try clear hcz56_2
              try clear hcz56_3
              try clear hcz56_4
              try clear hcz56_5
              try clear hcz56_6
              try clear hcz58_0
              try clear hcz58_1
              try clear hcz58_2
              try clear hcz58_3
              try clear hcz58_4
              try clear hcz58_5
              try clear hcz58_6
              try clear hcz62_0
              try clear hcz62_1
              try clear hcz62_2
              try clear hcz62_3
              try clear hcz62_4
              try clear hcz62_5
              try clear hcz62_6
              try clear hcz64_0
              try clear hcz64_1
              try clear hcz64_2
              try clear hcz64_3
              try clear hcz64_4
              try clear hcz64_5
              try clear hcz64_6
              try clear hcz9_0
              try clear hcz9_1
              try clear hcz9_2
              try clear hcz9_3
              try clear hcz9_4
              try clear hcz9_5
              try clear hcz9_6
              try clear hfz15_0
              try clear hfz15_1
              try clear hfz15_2
              try clear hfz15_3
              try clear hfz15_4
              try clear hfz15_5
              try clear hfz15_6
              try clear hfz21_0
              try clear hfz21_1
              try clear hfz21_2
              try clear hfz21_3
              try clear hfz21_4
              try clear hfz21_5
              try clear hfz21_6
              try clear hfz22_0
              try clear hfz22_1
              try clear hfz22_2
              try clear hfz22_3
              try clear hfz22_4
              try clear hfz22_5
              try clear hfz22_6
              try clear hfz25_0
              try clear hfz25_1
              try clear hfz25_2
              try clear hfz25_3
              try clear hfz25_4
              try clear hfz25_5
              try clear hfz25_6
              try clear hfz26_0
              try clear hfz26_1
              try clear hfz26_2
              try clear hfz26_3
              try clear hfz26_4
              try clear hfz26_5
              try clear hfz26_6
              try clear hfz33_0
              try clear hfz33_1
              try clear hfz33_2
              try clear hfz33_3
              try clear hfz33_4
              try clear hfz33_5
              try clear hfz33_6
              try clear hfz35_0
              try clear hfz35_1
              try clear hfz35_2
              try clear hfz35_3
              try clear hfz35_4
              try clear hfz35_5
              try clear hfz35_6
              try clear hfz41_0
              try clear hfz41_1
              try clear hfz41_2
              try clear hfz41_3
              try clear hfz41_4
              try clear hfz41_5
              try clear hfz41_6
              try clear hfz43_0
              try clear hfz43_1
              try clear hfz43_2
              try clear hfz43_3
              try clear hfz43_4
              try clear hfz43_5
              try clear hfz43_6
              try clear hfz49_0
              try clear hfz49_1
              try clear hfz49_2
              try clear hfz49_3
              try clear hfz49_4
              try clear hfz49_5
              try clear hfz49_6
              try clear hfz56_0
              try clear hfz56_1
              try clear hfz56_2
              try clear hfz56_3
              try clear hfz56_4
              try clear hfz56_5
              try clear hfz56_6
              try clear hfz58_0
              try clear hfz58_1
              try clear hfz58_2
              try clear hfz58_3
              try clear hfz58_4
              try clear hfz58_5
              try clear hfz58_6
              try clear hfz62_0
              try clear hfz62_1
              try clear hfz62_2
              try clear hfz62_3
              try clear hfz62_4
              try clear hfz62_5
              try clear hfz62_6
              try clear hfz64_0
              try clear hfz64_1
              try clear hfz64_2
              try clear hfz64_3
              try clear hfz64_4
              try clear hfz64_5
              try clear hfz64_6
              try clear hfz9_0
              try clear hfz9_1
              try clear hfz9_2
              try clear hfz9_3
              try clear hfz9_4
              try clear hfz9_5
              try clear hfz9_6
              try clear p2
              obtain ⟨kq, x64_38, rfl, HA, HJ38, HO_194002, HO_194003, HO_207002, HO_207003, HO_225002, HO_225003, BK193, BK206, BK224, HB⟩ := hcut
              have hl207002_38 := (Kd.R_reads' HO_207002.out).1
              rw [hl207002_38] at HO_207002
              (try simp only [hl207002_38])
              (try simp only [hl207002_38] at BK193)
              (try simp only [hl207002_38] at BK206)
              (try simp only [hl207002_38] at BK224)
              (try simp only [hl207002_38] at HO_194002)
              (try simp only [hl207002_38] at HO_194003)
              (try simp only [hl207002_38] at HO_207003)
              (try simp only [hl207002_38] at HO_225002)
              (try simp only [hl207002_38] at HO_225003)
              have hl207003_38 := (Kd.R_reads' HO_207003.out).1
              rw [hl207003_38] at HO_207003
              (try simp only [hl207003_38])
              (try simp only [hl207003_38] at BK193)
              (try simp only [hl207003_38] at BK206)
              (try simp only [hl207003_38] at BK224)
              (try simp only [hl207003_38] at HO_194002)
              (try simp only [hl207003_38] at HO_194003)
              (try simp only [hl207003_38] at HO_207002)
              (try simp only [hl207003_38] at HO_225002)
              (try simp only [hl207003_38] at HO_225003)
              cases kq with
              | zero => exact absurd HA.out (by simp [laws_FnExactMakePuzzle.j1])
              | succ kj38 =>
                have H := HA.out
                clear HA
                simp only [laws_FnExactMakePuzzle.j1] at H
                by_cases c66 : x64_38 = true
                · subst c66
                  have H1 : (some false) = some true := by rw [if_pos rfl] at H; exact H
                  clear H
                  have H := H1
                  clear H1
                  exact absurd (Option.some.inj H) (by decide)
                · replace c66 := Bool.eq_false_iff.mpr c66
                  subst c66
                  have H1 : ((laws_heldPuzzle.f kj38 t194 t195 t209 t210 t202 t203 t204 101).bind fun t226 => (if t226 < 0 then (some false) else (if t226 = t208 then (some true) else (some false)))) = some true := by rw [if_neg (show ¬ (false = true) by decide)] at H; exact H
                  clear H
                  have H := H1
                  clear H1
                  replace H := Option.bind_eq_some_iff.mp H
                  obtain ⟨t226, A670, H⟩ := H
                  replace H : (if t226 < 0 then (some false) else (if t226 = t208 then (some true) else (some false))) = some true := H
                  have A67 := Aside0.mk A670
                  clear A670
                  by_cases c68 : t226 < 0
                  · rw [if_pos c68] at H
                    have c68b0 : decide (t226 < 0) = true := decide_eq_true c68
                    clear c68
                    exact absurd (Option.some.inj H) (by decide)
                  · rw [if_neg c68] at H
                    have c68b0 : decide (t226 < 0) = false := decide_eq_false c68
                    clear c68
                    by_cases c73 : t226 = t208
                    · rw [if_pos c73] at H
                      have c73b0 : (t226 == t208) = true := beq_iff_eq.mpr c73
                      have c73b1 : (t226 != t208) = false := bne_eq_false_iff_eq.mpr c73
                      clear c73
                      clear H
                      have hnb74 := NB206_193.out
                      have hnc74 := NB193_206.out
                      have hnb75 := NB206_224.out
                      have hnc75 := NB224_206.out
                      have hcz76_0 : wc.cell? ⟨gb206, 0, none⟩ = some (.int .i64 t194) := (blk_cell BK206.out 0).trans rfl
                      have hcz76_1 : wc.cell? ⟨gb206, 1, none⟩ = some (.int .i64 t195) := (blk_cell BK206.out 1).trans rfl
                      have hcz76_2 : wc.cell? ⟨gb206, 2, none⟩ = some (.slice Ao16 t209.length co16) := (blk_cell BK206.out 2).trans rfl
                      have hcz76_3 : wc.cell? ⟨gb206, 3, none⟩ = some (.slice Ao17 t210.length co17) := (blk_cell BK206.out 3).trans rfl
                      have hcz76_4 : wc.cell? ⟨gb206, 4, none⟩ = some (.int .i64 t202) := (blk_cell BK206.out 4).trans rfl
                      have hcz76_5 : wc.cell? ⟨gb206, 5, none⟩ = some (.bool t203) := (blk_cell BK206.out 5).trans rfl
                      have hcz76_6 : wc.cell? ⟨gb206, 6, none⟩ = some (.int .i64 t204) := (blk_cell BK206.out 6).trans rfl
                      have hfz76_0 := blk_frozen BK206.out 0
                      have hfz76_1 := blk_frozen BK206.out 1
                      have hfz76_2 := blk_frozen BK206.out 2
                      have hfz76_3 := blk_frozen BK206.out 3
                      have hfz76_4 := blk_frozen BK206.out 4
                      have hfz76_5 := blk_frozen BK206.out 5
                      have hfz76_6 := blk_frozen BK206.out 6
                      go_wp2_with (first | ((with_reducible refine gate_callee (f := 14) rfl ?_); refine goesL_ (some 67) rfl rfl Tryd.func14 (by kernel_rfl) rfl #[.agg #[.int .i64 t194, .int .i64 t195, .slice Ao16 t209.length co16, .slice Ao17 t210.length co17, .int .i64 t202, .bool t203, .int .i64 t204], .int .i64 101] rfl (by (try simp only [List.map_toArray, List.map_cons, List.map_nil]); first | done | rfl | (simp only [List.length_drop, List.length_take]; rfl)) ?_; (with_reducible refine (laws_heldPuzzle.calls kj38 t194 t195 _ _ t209 _ _ t210 t202 t203 t204 101 t226 _ ?side1 ?side2 ?side3 ?side4 A67.out).mono ?_); (case side1 => repeat (first | exact (Kd.R_reads' HO_207002.out).2.2 | (with_reducible refine Kd.C_alloc ?_ _) | (with_reducible refine Kd.C_drewN ?_ _) | (with_reducible refine Kd.C_drew ?_))); (case side2 => exact (Kd.R_reads' HO_207002.out).2.1); (case side3 => repeat (first | exact (Kd.R_reads' HO_207003.out).2.2 | (with_reducible refine Kd.C_alloc ?_ _) | (with_reducible refine Kd.C_drewN ?_ _) | (with_reducible refine Kd.C_drew ?_))); (case side4 => exact (Kd.R_reads' HO_207003.out).2.1); rintro e w77 ⟨rfl, hb⟩; refine ⟨_, rfl, ?_⟩; have n0_ := Aside0.mk (Kd.R_below (by (with_reducible repeat (first | apply Kd.R_alloc | apply Kd.R_drewN | apply Kd.R_drew)); exact HO_194002.out) hb); have n1_ := Aside0.mk (Kd.R_below (by (with_reducible repeat (first | apply Kd.R_alloc | apply Kd.R_drewN | apply Kd.R_drew)); exact HO_194003.out) hb); have n2_ := Aside0.mk (Kd.R_below (by (with_reducible repeat (first | apply Kd.R_alloc | apply Kd.R_drewN | apply Kd.R_drew)); exact HO_207002.out) hb); have n3_ := Aside0.mk (Kd.R_below (by (with_reducible repeat (first | apply Kd.R_alloc | apply Kd.R_drewN | apply Kd.R_drew)); exact HO_207003.out) hb); have n4_ := Aside0.mk (Kd.R_below (by (with_reducible repeat (first | apply Kd.R_alloc | apply Kd.R_drewN | apply Kd.R_drew)); exact HO_225002.out) hb); have n5_ := Aside0.mk (Kd.R_below (by (with_reducible repeat (first | apply Kd.R_alloc | apply Kd.R_drewN | apply Kd.R_drew)); exact HO_225003.out) hb); have n6_ := Aside0.mk (blk_below (g := gb193) (o := .cells #[.int .i64 t181, .int .i64 t182, .slice Ao10 t183.length co10, .slice Ao11 t186.length co11, .int .i64 t189, .bool t190, .int .i64 t191] 32 (0, 0)) (by (with_reducible repeat (first | refine blk_drewN ?_ _ | refine blk_drew ?_ | refine blk_alloc ?_ _)); exact BK193.out) hb); have n7_ := Aside0.mk (blk_below (g := gb206) (o := .cells #[.int .i64 t194, .int .i64 t195, .slice Ao16 t209.length co16, .slice Ao17 t210.length co17, .int .i64 t202, .bool t203, .int .i64 t204] 32 (0, 0)) (by (with_reducible repeat (first | refine blk_drewN ?_ _ | refine blk_drew ?_ | refine blk_alloc ?_ _)); exact BK206.out) hb); have n8_ := Aside0.mk (blk_below (g := gb224) (o := .cells #[.int .i64 t212, .int .i64 t213, .slice Ao50 t214.length co50, .slice Ao51 t217.length co51, .int .i64 t220, .bool t221, .int .i64 t222] 32 (0, 0)) (by (with_reducible repeat (first | refine blk_drewN ?_ _ | refine blk_drew ?_ | refine blk_alloc ?_ _)); exact BK224.out) hb); have n9_ := Aside0.mk (below_step (by repeat (first | (with_reducible first | exact HB.out | apply below_alloc | apply pw_below_drewN | apply below_drew1 | refine below_set ?_ GE193.out | refine below_set ?_ GE206.out | refine below_set ?_ GE224.out) | exact HB.out)) hb); clear HO_194002; clear HO_194003; clear HO_207002; clear HO_207003; clear HO_225002; clear HO_225003; clear BK193; clear BK206; clear BK224; clear HB; have HO_194002 := n0_; have HO_194003 := n1_; have HO_207002 := n2_; have HO_207003 := n3_; have HO_225002 := n4_; have HO_225003 := n5_; have BK193 := n6_; have BK206 := n7_; have BK224 := n8_; have HB := n9_; clear n0_ n1_ n2_ n3_ n4_ n5_ n6_ n7_ n8_ n9_; (try clear hb); (try clear hb2); (try clear hk); (try clear hi)))
                      go_ret
                      exact ⟨by first | rfl | (simp [errW_none, errW_some] <;> rfl) | (simp [*, errW_none, errW_some] <;> rfl), by repeat (first | (with_reducible first | exact HB.out | apply below_alloc | apply pw_below_drewN | apply below_drew1 | refine below_set ?_ GE193.out | refine below_set ?_ GE206.out | refine below_set ?_ GE224.out) | exact HB.out)⟩
                    · rw [if_neg c73] at H
                      have c73b0 : (t226 == t208) = false := beq_eq_false_iff_ne.mpr c73
                      have c73b1 : (t226 != t208) = true := bne_iff_ne.mpr c73
                      exact absurd (Option.some.inj H) (by decide)
          · rw [if_neg c37] at H
            have c37b0 : (t211 == t208) = false := beq_eq_false_iff_ne.mpr c37
            have c37b1 : (t211 != t208) = true := bne_iff_ne.mpr c37
            exact absurd (Option.some.inj H) (by decide)

end Go.Proofs.YtkmebbadjejheaaDoor.B
