import Derived.Test.YtkmebbadjejheaaDoorBd
import Derived.Test.YtkmebbadjejheaaDoorBc1
import Derived.Test.YtkmebbadjejheaaDoorBc2
namespace Go.Proofs.YtkmebbadjejheaaDoor.B
open Go.RowKit Go.Proofs.YtkmebbadjejheaaDoorW.PrintWords Go.Proofs.YtkmebbadjejheaaDoorW.PrintLast Go.Proofs.YtkmebbadjejheaaDoorW.PrintMore
attribute [local go_sem] max2_int min2_int max_two min_two max_three min_three max_four min_four
set_option linter.unusedVariables false
set_option linter.unusedSimpArgs false

/-! ### spec_MakePuzzle: function 10 -/
set_option maxHeartbeats 8000000 in
set_option maxRecDepth 100000 in
theorem spec_MakePuzzle.calls (k : Nat) (a0 : Int) (a1 : Int) (a2 : Int) (r1 : Int) (r2 : Int) (r3 : List Int) (r4 : List Int) (r5 : Int) (r6 : Bool) (r7 : Int) (r8 : Bool) (w : World) (h : spec_MakePuzzle.f k a0 a1 a2 = some (r1, r2, r3, r4, r5, r6, r7, r8)) :
    Calls Tryd.prog 10 #[.int .i64 a0, .int .i64 a1, .int .i64 a2] w fun e w' => ∃ v2_ v3_ : Value, e = .returned (.tuple #[.agg #[.int .i64 r1, .int .i64 r2, v2_, v3_, .int .i64 r5, .bool r6, .int .i64 r7], .bool r8]) ∧ Kd.R (Kd.int .i64) 3 w' w.heap.size (fun k_ => some k_ ≠ (v3_ : Value).ownBlock) v2_ r3 ∧ Kd.R (Kd.int .i64) 3 w' w.heap.size (fun k_ => some k_ ≠ (v2_ : Value).ownBlock) v3_ r4 ∧ Below w.heap.size w w' := by
  have hu32 := Tryd.underlying32
  have HB := Aside0.mk (Below.refl w.heap.size w)
  have H : ((spec_l1In.f a0 1 3).bind fun t138 => (if t138 = true then ((spec_l1In.f a1 1 3).bind fun t139 => (if t139 = true then ((spec_l1In.f a2 0 9999).bind fun t140 => (spec_MakePuzzle.j0 k a0 a1 a2 (!t140))) else (spec_MakePuzzle.j0 k a0 a1 a2 true))) else (spec_MakePuzzle.j0 k a0 a1 a2 true))) = some (r1, r2, r3, r4, r5, r6, r7, r8) := h
  clear h
  have HC4 := Aside0.mk H
  clear H
  go_enter Tryd.func10, Tryd.ntmps10
  go_upto_region 1 with (first | ((with_reducible refine gate_dst (N := 6) rfl ?_); refine box_event ?hg (N := 6) ?hd (cs := #[.int .i64 0, .int .i64 0, .slice none 0 0, .slice none 0 0, .int .i64 0, .bool false, .int .i64 0]) (t := 32) ?hr ?_; (case hd => rfl); (case hg => rfl); (case hr => first | (go_simp; done) | (go_simp; rfl)); intro gb137 hg w5 hbox hb; have n0_ := Aside0.mk (below_step (by repeat (first | (with_reducible first | exact HB.out | apply below_alloc | apply pw_below_drewN | apply below_drew1) | exact HB.out)) hb); have n1_ := Aside0.mk (hbox); have n2_ := Aside0.mk ((by rw [hg]; exact (below_size (by repeat (first | (with_reducible first | exact HB.out | apply below_alloc | apply pw_below_drewN | apply below_drew1) | exact HB.out))) : w.heap.size ≤ gb137)); have n3_ := Aside0.mk ((by rw [hg]; exact (below_size (by repeat (first | (with_reducible first | exact HB.out | apply below_alloc | apply pw_below_drewN | apply below_drew1) | exact HB.out))) : w.heap.size ≤ gb137)); clear HB; have HB := n0_; have BK137 := n1_; have GW137 := n2_; have GE137 := n3_; clear n0_ n1_ n2_ n3_; clear hb hbox hg))
  (try simp only [Act.put, List.setIfInBounds_toArray, List.set_cons_zero, List.set_cons_succ])
  go_cut [25] (fun v25 wc => ∃ (kq : Nat) (x25_3 : Bool), v25 = .bool x25_3 ∧ Aside0 (spec_MakePuzzle.j0 kq a0 a1 a2 x25_3 = some (r1, r2, r3, r4, r5, r6, r7, r8)) ∧ Aside0 (kq ≤ k) ∧ Aside0 (wc.heap[gb137]? = some (.cells #[.int .i64 0, .int .i64 0, (.slice none 0 0), (.slice none 0 0), .int .i64 0, .bool false, .int .i64 0] 32 (0, 0))) ∧ Aside0 (Below w.heap.size w wc))
  case first =>
    have H := HC4.out
    clear HC4
    replace H := Option.bind_eq_some_iff.mp H
    obtain ⟨t138, A60, H⟩ := H
    replace H : (if t138 = true then ((spec_l1In.f a1 1 3).bind fun t139 => (if t139 = true then ((spec_l1In.f a2 0 9999).bind fun t140 => (spec_MakePuzzle.j0 k a0 a1 a2 (!t140))) else (spec_MakePuzzle.j0 k a0 a1 a2 true))) else (spec_MakePuzzle.j0 k a0 a1 a2 true)) = some (r1, r2, r3, r4, r5, r6, r7, r8) := H
    have A6 := Aside0.mk A60
    clear A60
    by_cases c7 : t138 = true
    · subst c7
      have H1 : ((spec_l1In.f a1 1 3).bind fun t139 => (if t139 = true then ((spec_l1In.f a2 0 9999).bind fun t140 => (spec_MakePuzzle.j0 k a0 a1 a2 (!t140))) else (spec_MakePuzzle.j0 k a0 a1 a2 true))) = some (r1, r2, r3, r4, r5, r6, r7, r8) := by rw [if_pos rfl] at H; exact H
      clear H
      have H := H1
      clear H1
      replace H := Option.bind_eq_some_iff.mp H
      obtain ⟨t139, A80, H⟩ := H
      replace H : (if t139 = true then ((spec_l1In.f a2 0 9999).bind fun t140 => (spec_MakePuzzle.j0 k a0 a1 a2 (!t140))) else (spec_MakePuzzle.j0 k a0 a1 a2 true)) = some (r1, r2, r3, r4, r5, r6, r7, r8) := H
      have A8 := Aside0.mk A80
      clear A80
      by_cases c9 : t139 = true
      · subst c9
        have H1 : ((spec_l1In.f a2 0 9999).bind fun t140 => (spec_MakePuzzle.j0 k a0 a1 a2 (!t140))) = some (r1, r2, r3, r4, r5, r6, r7, r8) := by rw [if_pos rfl] at H; exact H
        clear H
        have H := H1
        clear H1
        replace H := Option.bind_eq_some_iff.mp H
        obtain ⟨t140, A100, H⟩ := H
        replace H : (spec_MakePuzzle.j0 k a0 a1 a2 (!t140)) = some (r1, r2, r3, r4, r5, r6, r7, r8) := H
        have A10 := Aside0.mk A100
        clear A100
        have H' := Aside0.mk H
        clear H
        go_wp2_with (first | ((with_reducible refine gate_callee (f := 20) rfl ?_); refine goesL_ (some 14) rfl rfl Tryd.func20 (by kernel_rfl) rfl #[.int .i64 a0, .int .i64 1, .int .i64 3] rfl (by (try simp only [List.map_toArray, List.map_cons, List.map_nil]); first | done | rfl | (simp only [List.length_drop, List.length_take]; rfl)) ?_; (with_reducible refine (spec_l1In.calls a0 1 3 true _ A6.out).mono ?_); rintro e w' ⟨rfl, ⟨nd, rfl⟩⟩; refine ⟨_, rfl, ?_⟩) | (go_at_call 20; (with_reducible refine (spec_l1In.calls a1 1 3 true _ A8.out).mono ?_); rintro e w' ⟨rfl, ⟨nd, rfl⟩⟩) | (go_at_call 20; (with_reducible refine (spec_l1In.calls a2 0 9999 t140 _ A10.out).mono ?_); rintro e w' ⟨rfl, ⟨nd, rfl⟩⟩))
        go_meet
        case rel => exact ⟨_, (!t140), (by first | rfl | (simp; done) | (simp [*]; done)), H', ⟨by first | omega | exact Nat.le_refl _⟩, ⟨by (with_reducible repeat (first | refine blk_drewN ?_ _ | refine blk_drew ?_ | refine blk_alloc ?_ _)); exact BK137.out⟩, ⟨by repeat (first | (with_reducible first | exact HB.out | apply below_alloc | apply pw_below_drewN | apply below_drew1 | refine below_set ?_ GE137.out) | exact HB.out)⟩⟩
      · replace c9 := Bool.eq_false_iff.mpr c9
        subst c9
        have H1 : (spec_MakePuzzle.j0 k a0 a1 a2 true) = some (r1, r2, r3, r4, r5, r6, r7, r8) := by rw [if_neg (show ¬ (false = true) by decide)] at H; exact H
        clear H
        have H := H1
        clear H1
        have H' := Aside0.mk H
        clear H
        go_wp2_with (first | ((with_reducible refine gate_callee (f := 20) rfl ?_); refine goesL_ (some 14) rfl rfl Tryd.func20 (by kernel_rfl) rfl #[.int .i64 a0, .int .i64 1, .int .i64 3] rfl (by (try simp only [List.map_toArray, List.map_cons, List.map_nil]); first | done | rfl | (simp only [List.length_drop, List.length_take]; rfl)) ?_; (with_reducible refine (spec_l1In.calls a0 1 3 true _ A6.out).mono ?_); rintro e w' ⟨rfl, ⟨nd, rfl⟩⟩; refine ⟨_, rfl, ?_⟩) | (go_at_call 20; (with_reducible refine (spec_l1In.calls a1 1 3 false _ A8.out).mono ?_); rintro e w' ⟨rfl, ⟨nd, rfl⟩⟩))
        go_meet
        case rel => exact ⟨_, (true), (by first | rfl | (simp; done) | (simp [*]; done)), H', ⟨by first | omega | exact Nat.le_refl _⟩, ⟨by (with_reducible repeat (first | refine blk_drewN ?_ _ | refine blk_drew ?_ | refine blk_alloc ?_ _)); exact BK137.out⟩, ⟨by repeat (first | (with_reducible first | exact HB.out | apply below_alloc | apply pw_below_drewN | apply below_drew1 | refine below_set ?_ GE137.out) | exact HB.out)⟩⟩
    · replace c7 := Bool.eq_false_iff.mpr c7
      subst c7
      have H1 : (spec_MakePuzzle.j0 k a0 a1 a2 true) = some (r1, r2, r3, r4, r5, r6, r7, r8) := by rw [if_neg (show ¬ (false = true) by decide)] at H; exact H
      clear H
      have H := H1
      clear H1
      have H' := Aside0.mk H
      clear H
      go_wp2_with (first | ((with_reducible refine gate_callee (f := 20) rfl ?_); refine goesL_ (some 14) rfl rfl Tryd.func20 (by kernel_rfl) rfl #[.int .i64 a0, .int .i64 1, .int .i64 3] rfl (by (try simp only [List.map_toArray, List.map_cons, List.map_nil]); first | done | rfl | (simp only [List.length_drop, List.length_take]; rfl)) ?_; (with_reducible refine (spec_l1In.calls a0 1 3 false _ A6.out).mono ?_); rintro e w' ⟨rfl, ⟨nd, rfl⟩⟩; refine ⟨_, rfl, ?_⟩))
      go_meet
      case rel => exact ⟨_, (true), (by first | rfl | (simp; done) | (simp [*]; done)), H', ⟨by first | omega | exact Nat.le_refl _⟩, ⟨by (with_reducible repeat (first | refine blk_drewN ?_ _ | refine blk_drew ?_ | refine blk_alloc ?_ _)); exact BK137.out⟩, ⟨by repeat (first | (with_reducible first | exact HB.out | apply below_alloc | apply pw_below_drewN | apply below_drew1 | refine below_set ?_ GE137.out) | exact HB.out)⟩⟩
  case rest =>
    clear HC4
    try clear c1
    try clear c2
    try clear p2
    try clear c7
    try clear c9
    try clear c10
    obtain ⟨kq, x25_3, rfl, HA, HJ3, BK137, HB⟩ := hcut
    cases kq with
    | zero => exact absurd HA.out (by simp [spec_MakePuzzle.j0])
    | succ kj3 =>
      have H := HA.out
      clear HA
      simp only [spec_MakePuzzle.j0] at H
      by_cases c11 : x25_3 = true
      · subst c11
        have H1 : (some (0, 0, ([] : List Int), ([] : List Int), 0, false, 0, false)) = some (r1, r2, r3, r4, r5, r6, r7, r8) := by rw [if_pos rfl] at H; exact H
        clear H
        have H := H1
        clear H1
        simp only [Option.some.injEq, Prod.mk.injEq] at H
        obtain ⟨rfl, rfl, rfl, rfl, rfl, rfl, rfl, rfl⟩ := H
        have hcz12_0 : wc.cell? ⟨gb137, 0, none⟩ = some (.int .i64 0) := (blk_cell BK137.out 0).trans rfl
        have hcz12_1 : wc.cell? ⟨gb137, 1, none⟩ = some (.int .i64 0) := (blk_cell BK137.out 1).trans rfl
        have hcz12_2 : wc.cell? ⟨gb137, 2, none⟩ = some (.slice none 0 0) := (blk_cell BK137.out 2).trans rfl
        have hcz12_3 : wc.cell? ⟨gb137, 3, none⟩ = some (.slice none 0 0) := (blk_cell BK137.out 3).trans rfl
        have hcz12_4 : wc.cell? ⟨gb137, 4, none⟩ = some (.int .i64 0) := (blk_cell BK137.out 4).trans rfl
        have hcz12_5 : wc.cell? ⟨gb137, 5, none⟩ = some (.bool false) := (blk_cell BK137.out 5).trans rfl
        have hcz12_6 : wc.cell? ⟨gb137, 6, none⟩ = some (.int .i64 0) := (blk_cell BK137.out 6).trans rfl
        have hfz12_0 := blk_frozen BK137.out 0
        have hfz12_1 := blk_frozen BK137.out 1
        have hfz12_2 := blk_frozen BK137.out 2
        have hfz12_3 := blk_frozen BK137.out 3
        have hfz12_4 := blk_frozen BK137.out 4
        have hfz12_5 := blk_frozen BK137.out 5
        have hfz12_6 := blk_frozen BK137.out 6
        go_wp2
        refine bodyPost_ret (results_ct rfl _ _ gb137 32 #[.int .i64 0, .int .i64 0, .slice none 0 0, .slice none 0 0, .int .i64 0, .bool false, .int .i64 0] (0, 0) _ rfl (by (with_reducible repeat (first | refine blk_drewN ?_ _ | refine blk_drew ?_ | refine blk_alloc ?_ _)); refine blk_put (cs := #[.int .i64 0, .int .i64 0, .slice none 0 0, .slice none 0 0, .int .i64 0, .bool false, .int .i64 0]) ?_ 6 _ rfl; (with_reducible repeat (first | refine blk_drewN ?_ _ | refine blk_drew ?_ | refine blk_alloc ?_ _)); refine blk_put (cs := #[.int .i64 0, .int .i64 0, .slice none 0 0, .slice none 0 0, .int .i64 0, .bool false, .int .i64 0]) ?_ 5 _ rfl; (with_reducible repeat (first | refine blk_drewN ?_ _ | refine blk_drew ?_ | refine blk_alloc ?_ _)); refine blk_put (cs := #[.int .i64 0, .int .i64 0, .slice none 0 0, .slice none 0 0, .int .i64 0, .bool false, .int .i64 0]) ?_ 4 _ rfl; (with_reducible repeat (first | refine blk_drewN ?_ _ | refine blk_drew ?_ | refine blk_alloc ?_ _)); refine blk_put (cs := #[.int .i64 0, .int .i64 0, .slice none 0 0, .slice none 0 0, .int .i64 0, .bool false, .int .i64 0]) ?_ 3 _ rfl; (with_reducible repeat (first | refine blk_drewN ?_ _ | refine blk_drew ?_ | refine blk_alloc ?_ _)); refine blk_put (cs := #[.int .i64 0, .int .i64 0, .slice none 0 0, .slice none 0 0, .int .i64 0, .bool false, .int .i64 0]) ?_ 2 _ rfl; (with_reducible repeat (first | refine blk_drewN ?_ _ | refine blk_drew ?_ | refine blk_alloc ?_ _)); refine blk_put (cs := #[.int .i64 0, .int .i64 0, .slice none 0 0, .slice none 0 0, .int .i64 0, .bool false, .int .i64 0]) ?_ 1 _ rfl; (with_reducible repeat (first | refine blk_drewN ?_ _ | refine blk_drew ?_ | refine blk_alloc ?_ _)); refine blk_put (cs := #[.int .i64 0, .int .i64 0, .slice none 0 0, .slice none 0 0, .int .i64 0, .bool false, .int .i64 0]) ?_ 0 _ rfl; (with_reducible repeat (first | refine blk_drewN ?_ _ | refine blk_drew ?_ | refine blk_alloc ?_ _)); exact BK137.out) Tryd.underlying32 rfl (by kernel_rfl)) rfl ?_
        exact ⟨_, _, by first | rfl | (simp [errW_none, errW_some] <;> rfl) | (simp [*, errW_none, errW_some] <;> rfl), by first | exact Kd.R_nil _ _ _ _ _ | exact Kd.N_nil _ _ _ _ _ | exact Kd.V_nil _ _ _ _ _ | exact Kd.Q_nil _ _ _ _ _ | exact Kd.S_nil _ _ _ _ _, by first | exact Kd.R_nil _ _ _ _ _ | exact Kd.N_nil _ _ _ _ _ | exact Kd.V_nil _ _ _ _ _ | exact Kd.Q_nil _ _ _ _ _ | exact Kd.S_nil _ _ _ _ _, by repeat (first | (with_reducible first | exact HB.out | apply below_alloc | apply pw_below_drewN | apply below_drew1 | refine below_set ?_ GE137.out) | exact HB.out)⟩
      · replace c11 := Bool.eq_false_iff.mpr c11
        subst c11
        have H1 : ((spec_moBits.f kj3 a0 a1).bind fun t141 => (spec_MakePuzzle.l0 kj3 a0 a1 a2 0 t141 (t141.length : Int) 0)) = some (r1, r2, r3, r4, r5, r6, r7, r8) := by rw [if_neg (show ¬ (false = true) by decide)] at H; exact H
        clear H
        have H := H1
        clear H1
        replace H := Option.bind_eq_some_iff.mp H
        obtain ⟨t141, A130, H⟩ := H
        replace H : (spec_MakePuzzle.l0 kj3 a0 a1 a2 0 t141 (t141.length : Int) 0) = some (r1, r2, r3, r4, r5, r6, r7, r8) := H
        have A13 := Aside0.mk A130
        clear A130
        have H' := Aside0.mk H
        clear H
        go_wp2_with (first | ((with_reducible refine gate_callee (f := 21) rfl ?_); refine goesL_ (some 30) rfl rfl Tryd.func21 (by kernel_rfl) rfl #[.int .i64 a0, .int .i64 a1] rfl (by (try simp only [List.map_toArray, List.map_cons, List.map_nil]); first | done | rfl | (simp only [List.length_drop, List.length_take]; rfl)) ?_; (with_reducible refine (spec_moBits.calls kj3 a0 a1 t141 _ A13.out).mono ?_); rintro e w14 ⟨v142, rfl, ho0, hb⟩; refine ⟨_, rfl, ?_⟩; have n0_ := Aside0.mk (Kd.R_lower ho0 (below_size (by repeat (first | (with_reducible first | exact HB.out | apply below_alloc | apply pw_below_drewN | apply below_drew1 | refine below_set ?_ GE137.out) | exact HB.out)))); have n1_ := Aside0.mk (blk_below (g := gb137) (o := .cells #[.int .i64 0, .int .i64 0, .slice none 0 0, .slice none 0 0, .int .i64 0, .bool false, .int .i64 0] 32 (0, 0)) (by (with_reducible repeat (first | refine blk_drewN ?_ _ | refine blk_drew ?_ | refine blk_alloc ?_ _)); exact BK137.out) hb); have n2_ := Aside0.mk (below_step (by repeat (first | (with_reducible first | exact HB.out | apply below_alloc | apply pw_below_drewN | apply below_drew1 | refine below_set ?_ GE137.out) | exact HB.out)) hb); clear BK137; clear HB; have HO143 := n0_; have BK137 := n1_; have HB := n2_; clear n0_ n1_ n2_; (try clear hb); (try clear hb2); (try clear hk); (try clear hi); (try clear ho0); obtain ⟨Ao15, co15, eo15⟩ := Kd.R_slice HO143.out; subst eo15))
        go_loopg [8, 9, 32] kj3 (fun kq v8 v9 v32 w' => ∃ (x8_2 : Int) (x9_2 : Int) (x32_2 : Int), v8 = .int .i64 x8_2 ∧ v9 = .int .i64 x9_2 ∧ v32 = .int .i64 x32_2 ∧ Aside0 (spec_MakePuzzle.l0 kq a0 a1 x8_2 x9_2 t141 (t141.length : Int) x32_2 = some (r1, r2, r3, r4, r5, r6, r7, r8)) ∧ Aside0 (kq ≤ kj3) ∧ Aside0 (Kd.R (Kd.int .i64) 3 w' w.heap.size (fun _ => True) (.slice Ao15 t141.length co15) t141) ∧ Aside0 (w'.heap[gb137]? = some (.cells #[.int .i64 0, .int .i64 0, (.slice none 0 0), (.slice none 0 0), .int .i64 0, .bool false, .int .i64 0] 32 (0, 0))) ∧ Aside0 (Below w.heap.size w w'))
        case atStart => exact ⟨(a2), (0), (0), (by first | rfl | (simp; done) | (simp [*]; done)), (by first | rfl | (simp; done) | (simp [*]; done)), (by first | rfl | (simp; done) | (simp [*]; done)), H', ⟨Nat.le_refl _⟩, ⟨by (with_reducible repeat (first | apply Kd.R_alloc | apply Kd.R_drewN | apply Kd.R_drew)); exact HO143.out⟩, ⟨by (with_reducible repeat (first | refine blk_drewN ?_ _ | refine blk_drew ?_ | refine blk_alloc ?_ _)); exact BK137.out⟩, ⟨by repeat (first | (with_reducible first | exact HB.out | apply below_alloc | apply pw_below_drewN | apply below_drew1 | refine below_set ?_ GE137.out) | exact HB.out)⟩⟩
        case round =>
          clear H'
          try clear c1
          try clear c2
          try clear p2
          try clear c7
          try clear c9
          try clear c10
          try clear c11
          try clear hcz12_0
          try clear hcz12_1
          try clear hcz12_2
          try clear hcz12_3
          try clear hcz12_4
          try clear hcz12_5
          try clear hcz12_6
          try clear hfz12_0
          try clear hfz12_1
          try clear hfz12_2
          try clear hfz12_3
          try clear hfz12_4
          try clear hfz12_5
          try clear hfz12_6
          try clear p2
          obtain ⟨x8_2, x9_2, x32_2, rfl, rfl, rfl, HA, HK2, HO_30, BK137, HB⟩ := hrel
          cases gk with
          | zero => exact absurd HA.out (by simp [spec_MakePuzzle.l0])
          | succ k2 =>
            have H := HA.out
            clear HA
            simp only [spec_MakePuzzle.l0] at H
            by_cases c16 : x32_2 < (t141.length : Int)
            · rw [if_pos c16] at H
              have c16b0 : decide (x32_2 < (t141.length : Int)) = true := decide_eq_true c16
              clear c16
              by_cases c17 : 0 ≤ x32_2
              · rw [if_pos c17] at H
                have c17b0 : decide (0 ≤ x32_2) = true := decide_eq_true c17
                clear c17
                by_cases c18 : x32_2 < (t141.length : Int)
                · rw [if_pos c18] at H
                  have c18b0 : decide (x32_2 < (t141.length : Int)) = true := decide_eq_true c18
                  clear c18
                  by_cases c19 : (Int.tmod (Int.tmod (wrap64 ((wrap64 (97 * x8_2)) + 3001)) 16381) 5) = 0
                  · rw [if_pos c19] at H
                    have c19b0 : ((Int.tmod (Int.tmod (wrap64 ((wrap64 (97 * x8_2)) + 3001)) 16381) 5) == 0) = true := beq_iff_eq.mpr c19
                    have c19b1 : ((Int.tmod (Int.tmod (wrap64 ((wrap64 (97 * x8_2)) + 3001)) 16381) 5) != 0) = false := bne_eq_false_iff_eq.mpr c19
                    clear c19
                    have H' := Aside0.mk H
                    clear H
                    have p144 : 0 ≤ (x32_2 : Int) := of_decide_eq_true (by first | (with_reducible assumption) | assumption)
                    have q144 : x32_2 < (t141.length : Int) := of_decide_eq_true (by first | (with_reducible assumption) | assumption)
                    obtain ⟨ad144, e144, hx144_0⟩ := Kd.at_int (Kd.R_reads' HO_30.out).2.2 x32_2 p144 q144
                    cases e144
                    replace p144 := eq_true p144
                    replace q144 := eq_true q144
                    go_wp2
                    go_roundg k2
                    case measure => have := HJ3.out; have := HK2.out; omega
                    case rel => exact ⟨(Int.tmod (wrap64 ((wrap64 (97 * x8_2)) + 3001)) 16381), (x9_2), (wrap64 (x32_2 + 1)), (by first | rfl | (simp; done) | (simp [*]; done)), (by first | rfl | (simp; done) | (simp [*]; done)), (by first | rfl | (simp; done) | (simp [*]; done)), H', ⟨by have := HJ3.out; have := HK2.out; omega⟩, ⟨by (with_reducible repeat (first | apply Kd.R_alloc | apply Kd.R_drewN | apply Kd.R_drew)); exact HO_30.out⟩, ⟨by (with_reducible repeat (first | refine blk_drewN ?_ _ | refine blk_drew ?_ | refine blk_alloc ?_ _)); exact BK137.out⟩, ⟨by repeat (first | (with_reducible first | exact HB.out | apply below_alloc | apply pw_below_drewN | apply below_drew1 | refine below_set ?_ GE137.out) | exact HB.out)⟩⟩
                  · rw [if_neg c19] at H
                    have c19b0 : ((Int.tmod (Int.tmod (wrap64 ((wrap64 (97 * x8_2)) + 3001)) 16381) 5) == 0) = false := beq_eq_false_iff_ne.mpr c19
                    have c19b1 : ((Int.tmod (Int.tmod (wrap64 ((wrap64 (97 * x8_2)) + 3001)) 16381) 5) != 0) = true := bne_iff_ne.mpr c19
                    have H' := Aside0.mk H
                    clear H
                    have p144 : 0 ≤ (x32_2 : Int) := of_decide_eq_true (by first | (with_reducible assumption) | assumption)
                    have q144 : x32_2 < (t141.length : Int) := of_decide_eq_true (by first | (with_reducible assumption) | assumption)
                    obtain ⟨ad144, e144, hx144_0⟩ := Kd.at_int (Kd.R_reads' HO_30.out).2.2 x32_2 p144 q144
                    cases e144
                    replace p144 := eq_true p144
                    replace q144 := eq_true q144
                    go_wp2
                    go_roundg k2
                    case measure => have := HJ3.out; have := HK2.out; omega
                    case rel => exact ⟨(Int.tmod (wrap64 ((wrap64 (97 * x8_2)) + 3001)) 16381), (Go.bits .or .i64 x9_2 (rd t141 x32_2)), (wrap64 (x32_2 + 1)), (by first | rfl | (simp; done) | (simp [*]; done)), (by first | rfl | (simp; done) | (simp [*]; done)), (by first | rfl | (simp; done) | (simp [*]; done)), H', ⟨by have := HJ3.out; have := HK2.out; omega⟩, ⟨by (with_reducible repeat (first | apply Kd.R_alloc | apply Kd.R_drewN | apply Kd.R_drew)); exact HO_30.out⟩, ⟨by (with_reducible repeat (first | refine blk_drewN ?_ _ | refine blk_drew ?_ | refine blk_alloc ?_ _)); exact BK137.out⟩, ⟨by repeat (first | (with_reducible first | exact HB.out | apply below_alloc | apply pw_below_drewN | apply below_drew1 | refine below_set ?_ GE137.out) | exact HB.out)⟩⟩
                · rw [if_neg c18] at H
                  exact absurd H (by simp)
              · rw [if_neg c17] at H
                exact absurd H (by simp)
            · rw [if_neg c16] at H
              have c16b0 : decide (x32_2 < (t141.length : Int)) = false := decide_eq_false c16
              clear c16
              replace H := Option.bind_eq_some_iff.mp H
              obtain ⟨⟨t145, t146, t147, t150⟩, A200, H⟩ := H
              replace H : ((spec_moOnes.f k2 x9_2).bind fun t154 => ((spec_l1Least.f t154 (wrap64 ((Int.tmod (Int.tmod (wrap64 ((wrap64 (97 * x8_2)) + 3001)) 16381) 3) + 1))).bind fun t155 => (some (t145, t146, t147, t150, t155, false, Int.tmod (Int.tmod (wrap64 ((wrap64 (97 * (Int.tmod (wrap64 ((wrap64 (97 * x8_2)) + 3001)) 16381))) + 3001)) 16381) 4, true)))) = some (r1, r2, r3, r4, r5, r6, r7, r8) := H
              have A20 := Aside0.mk A200
              clear A200
              replace H := Option.bind_eq_some_iff.mp H
              obtain ⟨t154, A210, H⟩ := H
              replace H : ((spec_l1Least.f t154 (wrap64 ((Int.tmod (Int.tmod (wrap64 ((wrap64 (97 * x8_2)) + 3001)) 16381) 3) + 1))).bind fun t155 => (some (t145, t146, t147, t150, t155, false, Int.tmod (Int.tmod (wrap64 ((wrap64 (97 * (Int.tmod (wrap64 ((wrap64 (97 * x8_2)) + 3001)) 16381))) + 3001)) 16381) 4, true))) = some (r1, r2, r3, r4, r5, r6, r7, r8) := H
              have A21 := Aside0.mk A210
              clear A210
              replace H := Option.bind_eq_some_iff.mp H
              obtain ⟨t155, A220, H⟩ := H
              replace H : (some (t145, t146, t147, t150, t155, false, Int.tmod (Int.tmod (wrap64 ((wrap64 (97 * (Int.tmod (wrap64 ((wrap64 (97 * x8_2)) + 3001)) 16381))) + 3001)) 16381) 4, true)) = some (r1, r2, r3, r4, r5, r6, r7, r8) := H
              have A22 := Aside0.mk A220
              clear A220
              simp only [Option.some.injEq, Prod.mk.injEq] at H
              obtain ⟨rfl, rfl, rfl, rfl, rfl, rfl, rfl, rfl⟩ := H
              have HS := fun W => spec_sqFigure.calls k2 a0 a1 x9_2 t145 t146 t147 t150 W A20.out
              have HMO := fun W => spec_moOnes.calls k2 x9_2 t154 W A21.out
              have HLE := fun W => spec_l1Least.calls _ _ t155 W A22.out
              clear A20 A21 A22 HO_30
              have hlt1 := blk_lt BK137.out
              have HG := Aside0.mk GE137.out
              go_wp2_with fail
              refine (HS _).mono ?_
              rintro e w23 ⟨v148, v151, rfl, ho0, ho1, hb⟩
              obtain ⟨Ao25, co25, rfl⟩ := Kd.R_slice ho0
              obtain ⟨Ao24, co24, rfl⟩ := Kd.R_slice ho1
              have BK := Aside0.mk (blk_below (g := gb137) BK137.out hb)
              have HB2 := Aside0.mk (below_step HB.out hb)
              have hsz := hb.size
              have HR0 := Aside0.mk (Kd.R_lower (Kd.R_reok rfl ho0 (ok := fun q => (some q ≠ (Value.slice Ao24 t150.length co24).ownBlock ∧ q ≠ gb137) ∧ q ≠ w23.heap.size) (fun q hq => ⟨⟨ho0.1 q hq, by have := Kd.R_base ho0 q hq; omega⟩, by have := Kd.R_lt ho0 q hq; omega⟩)) (below_size HB.out))
              have HR1 := Aside0.mk (Kd.R_lower (Kd.R_reok rfl ho1 (ok := fun q => (some q ≠ (Value.slice Ao25 t147.length co25).ownBlock ∧ q ≠ gb137) ∧ q ≠ w23.heap.size) (fun q hq => ⟨⟨ho1.1 q hq, by have := Kd.R_base ho1 q hq; omega⟩, by have := Kd.R_lt ho1 q hq; omega⟩)) (below_size HB.out))
              have hne : gb137 ≠ w23.heap.size := by omega
              have hge : w.heap.size ≤ w23.heap.size := by have := HB.out.size; omega
              have HNE := Aside0.mk hne
              have HGE := Aside0.mk hge
              clear hb ho0 ho1 BK137 HB HS hsz hlt1 hne hge
              go_wp2_with fail
              have BN := Aside0.mk (show (w23.alloc (Obj.cells #[Value.int IntKind.i64 t145, Value.int IntKind.i64 t146, Value.slice Ao25 t147.length co25, Value.slice Ao24 t150.length co24, Value.int IntKind.i64 0, Value.bool false, Value.int IntKind.i64 0] 32)).heap[w23.heap.size]? = some (.cells #[Value.int IntKind.i64 t145, Value.int IntKind.i64 t146, Value.slice Ao25 t147.length co25, Value.slice Ao24 t150.length co24, Value.int IntKind.i64 0, Value.bool false, Value.int IntKind.i64 0] 32 (0, 0)) by show (w23.heap.push _)[w23.heap.size]? = _; simp)
              have BK2 := Aside0.mk (blk_alloc BK.out (Obj.cells #[Value.int IntKind.i64 t145, Value.int IntKind.i64 t146, Value.slice Ao25 t147.length co25, Value.slice Ao24 t150.length co24, Value.int IntKind.i64 0, Value.bool false, Value.int IntKind.i64 0] 32))
              have HR02 := Aside0.mk (Kd.R_alloc HR0.out (Obj.cells #[Value.int IntKind.i64 t145, Value.int IntKind.i64 t146, Value.slice Ao25 t147.length co25, Value.slice Ao24 t150.length co24, Value.int IntKind.i64 0, Value.bool false, Value.int IntKind.i64 0] 32))
              have HR12 := Aside0.mk (Kd.R_alloc HR1.out (Obj.cells #[Value.int IntKind.i64 t145, Value.int IntKind.i64 t146, Value.slice Ao25 t147.length co25, Value.slice Ao24 t150.length co24, Value.int IntKind.i64 0, Value.bool false, Value.int IntKind.i64 0] 32))
              have HB3 := Aside0.mk (below_alloc HB2.out (Obj.cells #[Value.int IntKind.i64 t145, Value.int IntKind.i64 t146, Value.slice Ao25 t147.length co25, Value.slice Ao24 t150.length co24, Value.int IntKind.i64 0, Value.bool false, Value.int IntKind.i64 0] 32))
              clear BK HR0 HR1 HB2
              generalize w23.alloc (Obj.cells #[Value.int IntKind.i64 t145, Value.int IntKind.i64 t146, Value.slice Ao25 t147.length co25, Value.slice Ao24 t150.length co24, Value.int IntKind.i64 0, Value.bool false, Value.int IntKind.i64 0] 32) = W3 at *
              generalize w23.heap.size = gN at *
              refine (HMO _).mono ?_
              rintro e w' ⟨rfl, ⟨nd, rfl⟩⟩
              clear HMO
              go_wp2_with fail
              refine (HLE _).mono ?_
              rintro e w' ⟨rfl, ⟨nd2, rfl⟩⟩
              clear HLE
              have BN2 := Aside0.mk (blk_drewN (blk_drewN BN.out nd) nd2)
              have BK3 := Aside0.mk (blk_drewN (blk_drewN BK2.out nd) nd2)
              have HR03 := Aside0.mk (Kd.R_drewN (Kd.R_drewN HR02.out nd) nd2)
              have HR13 := Aside0.mk (Kd.R_drewN (Kd.R_drewN HR12.out nd) nd2)
              have HB4 := Aside0.mk (pw_below_drewN (pw_below_drewN HB3.out nd) nd2)
              clear BN BK2 HR02 HR12 HB3
              generalize (W3.drewN nd).drewN nd2 = W5 at *
              have n4 : W5.cell? ⟨gN, 4, none⟩ = some (.int .i64 0) := (blk_cell BN2.out 4).trans rfl
              have n6 : W5.cell? ⟨gN, 6, none⟩ = some (.int .i64 0) := (blk_cell BN2.out 6).trans rfl
              have nf4 := blk_frozen BN2.out 4
              have nf6 := blk_frozen BN2.out 6
              go_upto_region 16 with (fail)
              clear n4 n6 nf4 nf6
              generalize hzz : (((wrap64 (wrap64 (97 * (wrap64 (wrap64 (97 * x8_2) + 3001)).tmod 16381) + 3001)).tmod 16381).tmod 4) = z4 at *
              have BN7 : Aside0 (((W5.setCell ⟨gN, 4, none⟩ (.int .i64 t155)).setCell ⟨gN, 6, none⟩ (.int .i64 z4)).heap[gN]? = some (.cells #[.int .i64 t145, .int .i64 t146, .slice Ao25 t147.length co25, .slice Ao24 t150.length co24, .int .i64 t155, .bool false, .int .i64 z4] 32 (0, 0))) := ⟨blk_put (cs := #[.int .i64 t145, .int .i64 t146, .slice Ao25 t147.length co25, .slice Ao24 t150.length co24, .int .i64 t155, .bool false, .int .i64 0]) (blk_put BN2.out 4 _ rfl) 6 _ rfl⟩
              have BK7 := Aside0.mk (blk_far (blk_far BK3.out (p := ⟨gN, 4, none⟩) HNE.out (.int .i64 t155)) (p := ⟨gN, 6, none⟩) HNE.out (.int .i64 z4))
              have HR07 := Aside0.mk (Kd.R_mono (Kd.R_far (p := ⟨gN, 6, none⟩) (Kd.R_far (p := ⟨gN, 4, none⟩) HR03.out (fun q hq => hq.2) (.int .i64 t155)) (fun q hq => hq.2) (.int .i64 z4)) (fun q hq => hq.1))
              have HR17 := Aside0.mk (Kd.R_mono (Kd.R_far (p := ⟨gN, 6, none⟩) (Kd.R_far (p := ⟨gN, 4, none⟩) HR13.out (fun q hq => hq.2) (.int .i64 t155)) (fun q hq => hq.2) (.int .i64 z4)) (fun q hq => hq.1))
              have HB7 := Aside0.mk (below_set (j := 6) (v := .int .i64 z4) (below_set (j := 4) (v := .int .i64 t155) HB4.out HGE.out) HGE.out)
              clear BN2 BK3 HR03 HR13 HB4
              generalize (W5.setCell ⟨gN, 4, none⟩ (.int .i64 t155)).setCell ⟨gN, 6, none⟩ (.int .i64 z4) = W7 at *
              have hl0 : W7.cell? ⟨gN, 0, none⟩ = some (.int .i64 t145) := (blk_cell BN7.out 0).trans rfl
              have hl1 : W7.cell? ⟨gN, 1, none⟩ = some (.int .i64 t146) := (blk_cell BN7.out 1).trans rfl
              have hl2 : W7.cell? ⟨gN, 2, none⟩ = some (.slice Ao25 t147.length co25) := (blk_cell BN7.out 2).trans rfl
              have hl3 : W7.cell? ⟨gN, 3, none⟩ = some (.slice Ao24 t150.length co24) := (blk_cell BN7.out 3).trans rfl
              have hl4 : W7.cell? ⟨gN, 4, none⟩ = some (.int .i64 t155) := (blk_cell BN7.out 4).trans rfl
              have hl5 : W7.cell? ⟨gN, 5, none⟩ = some (.bool false) := (blk_cell BN7.out 5).trans rfl
              have hl6 : W7.cell? ⟨gN, 6, none⟩ = some (.int .i64 z4) := (blk_cell BN7.out 6).trans rfl
              have hc0 : W7.cell? ⟨gb137, 0, none⟩ = some (.int .i64 0) := (blk_cell BK7.out 0).trans rfl
              have hc1 : W7.cell? ⟨gb137, 1, none⟩ = some (.int .i64 0) := (blk_cell BK7.out 1).trans rfl
              have hc2 : W7.cell? ⟨gb137, 2, none⟩ = some (.slice none 0 0) := (blk_cell BK7.out 2).trans rfl
              have hc3 : W7.cell? ⟨gb137, 3, none⟩ = some (.slice none 0 0) := (blk_cell BK7.out 3).trans rfl
              have hc4 : W7.cell? ⟨gb137, 4, none⟩ = some (.int .i64 0) := (blk_cell BK7.out 4).trans rfl
              have hc5 : W7.cell? ⟨gb137, 5, none⟩ = some (.bool false) := (blk_cell BK7.out 5).trans rfl
              have hc6 : W7.cell? ⟨gb137, 6, none⟩ = some (.int .i64 0) := (blk_cell BK7.out 6).trans rfl
              have hf0 := blk_frozen BK7.out 0
              have hf1 := blk_frozen BK7.out 1
              have hf2 := blk_frozen BK7.out 2
              have hf3 := blk_frozen BK7.out 3
              have hf4 := blk_frozen BK7.out 4
              have hf5 := blk_frozen BK7.out 5
              have hf6 := blk_frozen BK7.out 6
              go_wp2
              refine bodyPost_ret (results_ct rfl _ _ gb137 32 #[.int .i64 t145, .int .i64 t146, .slice Ao25 t147.length co25, .slice Ao24 t150.length co24, .int .i64 t155, .bool false, .int .i64 z4] (0, 0) _ rfl ?blk hu32 rfl (by kernel_rfl)) rfl ?_
              case blk => exact mk_put7 BK7.out
              exact ⟨_, _, by rw [hzz]; rfl, mk_away7 HR07.out, mk_away7 HR17.out, mk_below7 HB7.out HG.out⟩

/-! ### laws_eqIntS: function 33 -/
set_option maxHeartbeats 8000000 in
set_option maxRecDepth 100000 in
theorem laws_eqIntS.calls (k : Nat) (A0 : Option Addr) (c0 : Nat) (l0 : List Int) (A1 : Option Addr) (c1 : Nat) (l1 : List Int) (r : Bool) (w : World) (hr0 : Kd.C (Kd.int .i64) w A0 l0.length l0) (hc0 : l0.length ≤ c0) (hr1 : Kd.C (Kd.int .i64) w A1 l1.length l1) (hc1 : l1.length ≤ c1) (h : laws_eqIntS.f k l0 l1 = some r) :
    Calls Tryd.prog 33 #[.slice A0 l0.length c0, .slice A1 l1.length c1] w fun e w' => e = .returned (.bool r) ∧ Drawn0 w w' := by
  have HR0 := Aside0.mk hr0
  have HC0 := Aside0.mk hc0
  clear hr0 hc0
  have HR1 := Aside0.mk hr1
  have HC1 := Aside0.mk hc1
  clear hr1 hc1
  have H : (if (l0.length : Int) = (l1.length : Int) then (laws_eqIntS.l0 k l0 l1 0) else (some false)) = some r := h
  clear h
  by_cases c3 : (l0.length : Int) = (l1.length : Int)
  · rw [if_pos c3] at H
    have c3b0 : ((l0.length : Int) == (l1.length : Int)) = true := beq_iff_eq.mpr c3
    have c3b1 : ((l0.length : Int) != (l1.length : Int)) = false := bne_eq_false_iff_eq.mpr c3
    have c3b2 : (l0.length == l1.length) = true := by first | simpa using c3 | (simp at c3 ⊢; omega)
    clear c3
    have H' := Aside0.mk H
    clear H
    go_enter Tryd.func33, Tryd.ntmps33
    go_wp2
    repeat (go_quiet (fail); try go_wp2)
    go_loopg [5] k (fun kq v5 w' => ∃ (x5_1 : Int), v5 = .int .i64 x5_1 ∧ Aside0 (laws_eqIntS.l0 kq l0 l1 x5_1 = some r) ∧ Aside0 (kq ≤ k) ∧ Drawn0 w w')
    case atStart => exact ⟨(0), (by first | rfl | (simp; done) | (simp [*]; done)), H', ⟨Nat.le_refl _⟩, by repeat (first | exact Drawn0.refl _ | apply Drawn0.step)⟩
    case round =>
      clear H'
      try clear c1
      try clear p2
      try clear c3
      try clear c3b0
      try clear c3b1
      try clear c3b2
      obtain ⟨x5_1, rfl, HA, HK1, ⟨m1, rfl⟩⟩ := hrel
      cases gk with
      | zero => exact absurd HA.out (by simp [laws_eqIntS.l0])
      | succ k1 =>
        have H := HA.out
        clear HA
        simp only [laws_eqIntS.l0] at H
        by_cases c4 : x5_1 < (l0.length : Int)
        · rw [if_pos c4] at H
          have c4b0 : decide (x5_1 < (l0.length : Int)) = true := decide_eq_true c4
          clear c4
          by_cases c5 : 0 ≤ x5_1
          · rw [if_pos c5] at H
            have c5b0 : decide (0 ≤ x5_1) = true := decide_eq_true c5
            clear c5
            by_cases c6 : x5_1 < (l1.length : Int)
            · rw [if_pos c6] at H
              have c6b0 : decide (x5_1 < (l1.length : Int)) = true := decide_eq_true c6
              clear c6
              by_cases c7 : (rd l0 x5_1) = (rd l1 x5_1)
              · rw [if_pos c7] at H
                have c7b0 : ((rd l0 x5_1) == (rd l1 x5_1)) = true := beq_iff_eq.mpr c7
                have c7b1 : ((rd l0 x5_1) != (rd l1 x5_1)) = false := bne_eq_false_iff_eq.mpr c7
                clear c7
                have H' := Aside0.mk H
                clear H
                have p156 : 0 ≤ (x5_1 : Int) := of_decide_eq_true (by first | (with_reducible assumption) | assumption)
                have q156 : x5_1 < (l0.length : Int) := of_decide_eq_true (by first | (with_reducible assumption) | assumption)
                obtain ⟨ad156, e156, hx156_0⟩ := Kd.at_int HR0.out x5_1 p156 q156
                cases e156
                replace p156 := eq_true p156
                replace q156 := eq_true q156
                have p157 : 0 ≤ (x5_1 : Int) := of_decide_eq_true (by first | (with_reducible assumption) | assumption)
                have q157 : x5_1 < (l1.length : Int) := of_decide_eq_true (by first | (with_reducible assumption) | assumption)
                obtain ⟨ad157, e157, hx157_0⟩ := Kd.at_int HR1.out x5_1 p157 q157
                cases e157
                replace p157 := eq_true p157
                replace q157 := eq_true q157
                go_wp2
                repeat (go_quiet (fail); try go_wp2)
                go_roundg k1
                case measure => have := HK1.out; omega
                case rel => exact ⟨(wrap64 (x5_1 + 1)), (by first | rfl | (simp; done) | (simp [*]; done)), H', ⟨by have := HK1.out; omega⟩, by repeat (first | exact Drawn0.refl _ | apply Drawn0.step)⟩
              · rw [if_neg c7] at H
                have c7b0 : ((rd l0 x5_1) == (rd l1 x5_1)) = false := beq_eq_false_iff_ne.mpr c7
                have c7b1 : ((rd l0 x5_1) != (rd l1 x5_1)) = true := bne_iff_ne.mpr c7
                obtain rfl := Option.some.inj H
                have p156 : 0 ≤ (x5_1 : Int) := of_decide_eq_true (by first | (with_reducible assumption) | assumption)
                have q156 : x5_1 < (l0.length : Int) := of_decide_eq_true (by first | (with_reducible assumption) | assumption)
                obtain ⟨ad156, e156, hx156_0⟩ := Kd.at_int HR0.out x5_1 p156 q156
                cases e156
                replace p156 := eq_true p156
                replace q156 := eq_true q156
                have p157 : 0 ≤ (x5_1 : Int) := of_decide_eq_true (by first | (with_reducible assumption) | assumption)
                have q157 : x5_1 < (l1.length : Int) := of_decide_eq_true (by first | (with_reducible assumption) | assumption)
                obtain ⟨ad157, e157, hx157_0⟩ := Kd.at_int HR1.out x5_1 p157 q157
                cases e157
                replace p157 := eq_true p157
                replace q157 := eq_true q157
                go_wp2
                repeat (go_quiet (fail); try go_wp2)
                go_ret
                exact ⟨by first | rfl | (simp; done) | (simp [*]; done), by repeat (first | exact Drawn0.refl _ | apply Drawn0.step)⟩
            · rw [if_neg c6] at H
              exact absurd H (by simp)
          · rw [if_neg c5] at H
            exact absurd H (by simp)
        · rw [if_neg c4] at H
          have c4b0 : decide (x5_1 < (l0.length : Int)) = false := decide_eq_false c4
          clear c4
          obtain rfl := Option.some.inj H
          go_wp2
          repeat (go_quiet (fail); try go_wp2)
          go_ret
          exact ⟨by first | rfl | (simp; done) | (simp [*]; done), by repeat (first | exact Drawn0.refl _ | apply Drawn0.step)⟩
  · rw [if_neg c3] at H
    have c3b0 : ((l0.length : Int) == (l1.length : Int)) = false := beq_eq_false_iff_ne.mpr c3
    have c3b1 : ((l0.length : Int) != (l1.length : Int)) = true := bne_iff_ne.mpr c3
    have c3b2 : (l0.length == l1.length) = false := by first | simpa using c3 | (simp at c3 ⊢; omega)
    obtain rfl := Option.some.inj H
    go_enter Tryd.func33, Tryd.ntmps33
    go_wp2
    repeat (go_quiet (fail); try go_wp2)
    go_ret
    exact ⟨by first | rfl | (simp; done) | (simp [*]; done), by repeat (first | exact Drawn0.refl _ | apply Drawn0.step)⟩

end Go.Proofs.YtkmebbadjejheaaDoor.B
